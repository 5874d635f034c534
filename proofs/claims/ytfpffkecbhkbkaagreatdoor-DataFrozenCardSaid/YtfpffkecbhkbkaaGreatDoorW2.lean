import Derived.Test.YtfpffkecbhkbkaaGreatDoorW2p0
/- walks: what the code computes, function by function. -/
set_option linter.unusedSimpArgs false
set_option linter.unusedVariables false
namespace Go.Proofs.YtfpffkecbhkbkaaGreatDoor
open Go.Ow Go.RowKit Go.Proofs
set_option maxHeartbeats 8000000
theorem ZA7 (m:List Ptr)(N:Int)(V:1≤N∧N≤1099511627776∧m.length≤LIM)(H:Heaplet){v:Value}{r s:Nat}(hs:IsSlice H R_Ptr 5 v m)(F:H r 0=some v)(G:H s 0=some (.int .i64 N)):
  IterL Tryz.prog 180 #[.pointer (some ⟨r,0,none⟩),.pointer (some ⟨s,0,none⟩)] H (λW args (y:List Ptr)=>∃ao:Option Addr,args= #[.slice ao y.length y.length]∧IsSlice W R_Ptr 5 (.slice ao y.length y.length) y) (YJ N.toNat m.length m):=by
 intro E I X o Y hI;obtain⟨Z,hN2,J⟩:=V;unfold LIM at J;obtain⟨ao,cap,rfl⟩:=hs.val;show Does Tryz.prog 180 #[.func (.yield E) #[] #[],.pointer (some ⟨r,0,none⟩),.pointer (some ⟨s,0,none⟩)] o H _;refine Does.enter (vs:=[.func (.yield E) #[] #[],.pointer (some ⟨r,0,none⟩),.pointer (some ⟨s,0,none⟩)]) (l:=[(0,.func (.yield E) #[] #[]),(1,.pointer (some ⟨r,0,none⟩)),(2,.pointer (some ⟨s,0,none⟩))]) Tryz.func180 rfl rfl ⟨rfl,rfl,rfl,trivial⟩ (λw=>PF [] 6 ZP rfl ?_);refine J6 (ι:=Nat×Nat×List (List Ptr)×List Own×Heaplet) (λi=> [(0,.func (.yield E) #[] #[]),(1,.pointer (some ⟨r,0,none⟩)),(2,.pointer (some ⟨s,0,none⟩)),(4,.int .i64 ((i.1:Nat):Int))]) (λi=>i.2.2.2.1) (λi=>i.2.2.2.2)
  (λi=>i.1≤2199023255552∧m.length≤i.1+i.2.1∧i.2.2.1++YJ N.toNat i.2.1 (m.drop i.1)=YJ N.toNat m.length m∧I i.2.2.1 i.2.2.2.1 i.2.2.2.2∧Hle H i.2.2.2.2) (λi=>m.length+1-i.1) (0,m.length,[],o,H) (⟨by omega,by simp,by simp,hI,R7 _⟩) ⟨rfl,rfl,rfl,rfl,trivial⟩ rfl rfl ?_
 rintro⟨i,f,pre,o2,H2⟩ t;dsimp only at t⊢;obtain⟨hi2,hf,g,u,j⟩:=t;have k:=j _ _ _ F;have p:=j _ _ _ G;have q:=IsSlice.mono R_Ptr.mono j hs;refine Run.cl [] 4 ZP rfl (ZB rfl rfl (Kr S39 rfl k) (ZB rfl rfl (Y4 U39 rfl (IsSlice.long q)) (R8 [] 3 ZP rfl (G8 rfl (λc=> ?_) (λc=> ?_)))))
 ·
  have hlt:i<m.length:=by have:=Ta c;omega
  have K:m.drop i≠[]:=λh=>by have:=List.drop_eq_nil_iff.1 h;omega
  obtain⟨x,rfl⟩:∃x,f=x+1:=⟨f-1,by omega⟩;rw[Wq K,RB]at g;obtain⟨e,he⟩:∃e:Int,e=min N ((m.length:Int)-i):=⟨_,rfl⟩;have z:(m.drop i).take N.toNat=cut m (i:Int) ((i:Int)+e):=by
   unfold cut;rw[Tl];by_cases h:N≤(m.length:Int)-i
   ·
    rw[show((i:Int)+e).toNat-i=N.toNat by omega]
   ·
    rw[Td (by rw[TR];omega),Td (by rw[TR];omega)]
  refine Pc [] 5 ZP rfl ?_;obtain⟨v1,T,h1,h2,h3,L⟩:=PZ (m':=cut m (i:Int) (m.length:Int)) q rfl ⟨by omega,by omega,SE _⟩;have M:((cut m (i:Int) (m.length:Int)).length:Int)=(m.length:Int)-i:=V2 (by omega) (by omega) (SE _);refine ZLC (so:=[]) 7 rfl Mixed trivial (JA.val ⟨by kernel_rfl,by kernel_rfl⟩ (Zq _) (i:=0) rfl ⟨by kernel_rfl,by kernel_rfl,rfl⟩ trivial (YV (R7 _) trivial) (Kr S3 rfl p) rfl (JA.val ⟨by kernel_rfl,by kernel_rfl⟩ (Zq _) (i:=1) rfl ⟨by kernel_rfl,by kernel_rfl,rfl⟩ trivial (YV (R7 _) trivial) (Kr S39 rfl k) rfl (JA.val ⟨by kernel_rfl,by kernel_rfl⟩ (Zq _) (i:=2) rfl ⟨by kernel_rfl,by kernel_rfl,rfl⟩ trivial (YV (R7 _) trivial) (Y3 rfl) rfl (JA.val ⟨by kernel_rfl,by kernel_rfl⟩ (Zq _) (i:=3) rfl ⟨by kernel_rfl,by kernel_rfl,rfl⟩ trivial (YV (R7 _) trivial) (Xr (cap:=T) (a:=(i:Int)) (b:=(m.length:Int)) (c:=(T:Int)) (m:=m) (R:=R_Ptr) U39 S31 rfl ⟨_,rfl⟩ rfl (by obtain⟨ao,n,e,_⟩:=h1;exact⟨ao,n,e,rfl⟩) ⟨by omega,by omega,h2⟩ h3 (.inl rfl)) rfl (JA.val ⟨by kernel_rfl,by kernel_rfl⟩ (Zq _) (i:=4) rfl ⟨by kernel_rfl,by kernel_rfl,rfl⟩ trivial (YV (R7 _) trivial) (ZOL U39 rfl ⟨_,IsSlice.long L,M⟩) rfl (JA.val ⟨by kernel_rfl,by kernel_rfl⟩ (Zq _) (i:=5) rfl ⟨by kernel_rfl,by kernel_rfl,rfl⟩ trivial (YV (R7 _) trivial) (ZIL rfl rfl) rfl ?_))))));rw[←he];refine JA.val ⟨by kernel_rfl,by kernel_rfl⟩ (Zq _) (i:=6) rfl ⟨by kernel_rfl,by kernel_rfl,rfl⟩ trivial (YV (R7 _) trivial) (ZAW rfl) rfl (ZIQ (by kernel_rfl) (J4 ?_));have U:w64 ((i:Int)+e)=(i:Int)+e:=Zo (by omega) (by omega);obtain⟨v2,c2,O,g1,g2,P⟩:=Pb (m':=(m.drop i).take N.toNat) q z ⟨by omega,by omega,by omega⟩;subst g2;refine Run.cl [] 3 ZP rfl (ZB rfl rfl (Kr S39 rfl k) (PL [] 4 ZP rfl ?_));rw[U];refine PL [] 3 ZP rfl ?_;rw[U];refine ZB rfl rfl (Xr (cap:=c2) (a:=(i:Int)) (b:=(i:Int)+e) (c:=(i:Int)+e) (m:=m) (R:=R_Ptr) U39 S31 rfl ⟨_,rfl⟩ ⟨_,rfl⟩ ⟨_,rfl⟩ ⟨by omega,by omega,SE _⟩ g1 (.inr (λh=>by cases h))) (ZD7 (vs:=[_]) (mine:=[]) ((m.drop i).take N.toNat) Y rfl rfl u (⟨⟨O,rfl,P⟩,_,by rw[←g]⟩) rfl rfl (λA B d C=> ?_) (λA B d D=> ?_))
  ·
   refine Pe [] 9 ZP rfl (ZB rfl rfl (Kr S3 rfl (d _ _ _ p)) (PE [] 3 ZP rfl ?_));have Q:w64 ((i:Int)+N)=((i+N.toNat:Nat):Int):=(by rw[Zo (by omega) (by omega)];omega);refine JO (i:=(i,x+1,pre,o2,H2)) (i+N.toNat,x,pre++ [(m.drop i).take N.toNat],A,B) (by
    refine⟨?_,?_,?_,C,j.trans d⟩
    ·
     simp only;omega
    ·
     simp only;omega
    ·
     simp only[TN,List.singleton_append];exact g) (by simp only;omega) (by exact⟨rfl,rfl,rfl,by show some _=some _;rw[Q],trivial⟩) rfl rfl
  ·
   refine PU [] 7 ZP rfl (PC [] 2 ZP rfl (J3 (.inl rfl) rfl rfl ?_));exact⟨j.trans d,.inr ⟨_,⟨YJ N.toNat x (m.drop (i+N.toNat)),by rw[←g];simp⟩,D⟩⟩
 ·
  have S:m.length≤i:=by have:=of_decide_eq_false c;omega
  refine PM [] 4 ZP rfl (J3 (.inr rfl) rfl rfl (⟨j,.inl ⟨pre,?_,u⟩⟩));rw[←g,SA S,BQ,Tu]
theorem ZA6 (m:List Int)(N:Int)(V:1≤N∧N≤1099511627776∧m.length≤LIM)(H:Heaplet){v:Value}{r s:Nat}(hs:IsSlice H RInt 1 v m)(F:H r 0=some v)(G:H s 0=some (.int .i64 N)):
  IterL Tryz.prog 60 #[.pointer (some ⟨r,0,none⟩),.pointer (some ⟨s,0,none⟩)] H (λW args (y:List Int)=>∃ao:Option Addr,args= #[.slice ao y.length y.length]∧IsSlice W RInt 1 (.slice ao y.length y.length) y) (YJ N.toNat m.length m):=by
 intro E I X o Y hI;obtain⟨Z,hN2,J⟩:=V;unfold LIM at J;obtain⟨ao,cap,rfl⟩:=hs.val;show Does Tryz.prog 60 #[.func (.yield E) #[] #[],.pointer (some ⟨r,0,none⟩),.pointer (some ⟨s,0,none⟩)] o H _;refine Does.enter (vs:=[.func (.yield E) #[] #[],.pointer (some ⟨r,0,none⟩),.pointer (some ⟨s,0,none⟩)]) (l:=[(0,.func (.yield E) #[] #[]),(1,.pointer (some ⟨r,0,none⟩)),(2,.pointer (some ⟨s,0,none⟩))]) Tryz.func60 rfl rfl ⟨rfl,rfl,rfl,trivial⟩ (λw=>PF [] 6 ZP rfl ?_);refine J6 (ι:=Nat×Nat×List (List Int)×List Own×Heaplet) (λi=> [(0,.func (.yield E) #[] #[]),(1,.pointer (some ⟨r,0,none⟩)),(2,.pointer (some ⟨s,0,none⟩)),(4,.int .i64 ((i.1:Nat):Int))]) (λi=>i.2.2.2.1) (λi=>i.2.2.2.2)
  (λi=>i.1≤2199023255552∧m.length≤i.1+i.2.1∧i.2.2.1++YJ N.toNat i.2.1 (m.drop i.1)=YJ N.toNat m.length m∧I i.2.2.1 i.2.2.2.1 i.2.2.2.2∧Hle H i.2.2.2.2) (λi=>m.length+1-i.1) (0,m.length,[],o,H) (⟨by omega,by simp,by simp,hI,R7 _⟩) ⟨rfl,rfl,rfl,rfl,trivial⟩ rfl rfl ?_
 rintro⟨i,f,pre,o2,H2⟩ t;dsimp only at t⊢;obtain⟨hi2,hf,g,u,j⟩:=t;have k:=j _ _ _ F;have p:=j _ _ _ G;have q:=IsSlice.mono RInt.mono j hs;refine Run.cl [] 4 ZP rfl (ZB rfl rfl (Kr S32 rfl k) (ZB rfl rfl (Y4 U32 rfl (IsSlice.long q)) (R8 [] 3 ZP rfl (G8 rfl (λc=> ?_) (λc=> ?_)))))
 ·
  have hlt:i<m.length:=by have:=Ta c;omega
  have K:m.drop i≠[]:=λh=>by have:=List.drop_eq_nil_iff.1 h;omega
  obtain⟨x,rfl⟩:∃x,f=x+1:=⟨f-1,by omega⟩;rw[Wq K,RB]at g;obtain⟨e,he⟩:∃e:Int,e=min N ((m.length:Int)-i):=⟨_,rfl⟩;have z:(m.drop i).take N.toNat=cut m (i:Int) ((i:Int)+e):=by
   unfold cut;rw[Tl];by_cases h:N≤(m.length:Int)-i
   ·
    rw[show((i:Int)+e).toNat-i=N.toNat by omega]
   ·
    rw[Td (by rw[TR];omega),Td (by rw[TR];omega)]
  refine Pc [] 5 ZP rfl ?_;obtain⟨v1,T,h1,h2,h3,L⟩:=PZ (m':=cut m (i:Int) (m.length:Int)) q rfl ⟨by omega,by omega,SE _⟩;have M:((cut m (i:Int) (m.length:Int)).length:Int)=(m.length:Int)-i:=V2 (by omega) (by omega) (SE _);refine ZLC (so:=[]) 7 rfl Mixed trivial (JA.val ⟨by kernel_rfl,by kernel_rfl⟩ (Zq _) (i:=0) rfl ⟨by kernel_rfl,by kernel_rfl,rfl⟩ trivial (YV (R7 _) trivial) (Kr S3 rfl p) rfl (JA.val ⟨by kernel_rfl,by kernel_rfl⟩ (Zq _) (i:=1) rfl ⟨by kernel_rfl,by kernel_rfl,rfl⟩ trivial (YV (R7 _) trivial) (Kr S32 rfl k) rfl (JA.val ⟨by kernel_rfl,by kernel_rfl⟩ (Zq _) (i:=2) rfl ⟨by kernel_rfl,by kernel_rfl,rfl⟩ trivial (YV (R7 _) trivial) (Y3 rfl) rfl (JA.val ⟨by kernel_rfl,by kernel_rfl⟩ (Zq _) (i:=3) rfl ⟨by kernel_rfl,by kernel_rfl,rfl⟩ trivial (YV (R7 _) trivial) (Xr (cap:=T) (a:=(i:Int)) (b:=(m.length:Int)) (c:=(T:Int)) (m:=m) (R:=RInt) U32 S3 rfl ⟨_,rfl⟩ rfl (by obtain⟨ao,n,e,_⟩:=h1;exact⟨ao,n,e,rfl⟩) ⟨by omega,by omega,h2⟩ h3 (.inl rfl)) rfl (JA.val ⟨by kernel_rfl,by kernel_rfl⟩ (Zq _) (i:=4) rfl ⟨by kernel_rfl,by kernel_rfl,rfl⟩ trivial (YV (R7 _) trivial) (ZOL U32 rfl ⟨_,IsSlice.long L,M⟩) rfl (JA.val ⟨by kernel_rfl,by kernel_rfl⟩ (Zq _) (i:=5) rfl ⟨by kernel_rfl,by kernel_rfl,rfl⟩ trivial (YV (R7 _) trivial) (ZIL rfl rfl) rfl ?_))))));rw[←he];refine JA.val ⟨by kernel_rfl,by kernel_rfl⟩ (Zq _) (i:=6) rfl ⟨by kernel_rfl,by kernel_rfl,rfl⟩ trivial (YV (R7 _) trivial) (ZAW rfl) rfl (ZIQ (by kernel_rfl) (J4 ?_));have U:w64 ((i:Int)+e)=(i:Int)+e:=Zo (by omega) (by omega);obtain⟨v2,c2,O,g1,g2,P⟩:=Pb (m':=(m.drop i).take N.toNat) q z ⟨by omega,by omega,by omega⟩;subst g2;refine Run.cl [] 3 ZP rfl (ZB rfl rfl (Kr S32 rfl k) (PL [] 4 ZP rfl ?_));rw[U];refine PL [] 3 ZP rfl ?_;rw[U];refine ZB rfl rfl (Xr (cap:=c2) (a:=(i:Int)) (b:=(i:Int)+e) (c:=(i:Int)+e) (m:=m) (R:=RInt) U32 S3 rfl ⟨_,rfl⟩ ⟨_,rfl⟩ ⟨_,rfl⟩ ⟨by omega,by omega,SE _⟩ g1 (.inr (λh=>by cases h))) (ZD7 (vs:=[_]) (mine:=[]) ((m.drop i).take N.toNat) Y rfl rfl u (⟨⟨O,rfl,P⟩,_,by rw[←g]⟩) rfl rfl (λA B d C=> ?_) (λA B d D=> ?_))
  ·
   refine Pe [] 9 ZP rfl (ZB rfl rfl (Kr S3 rfl (d _ _ _ p)) (PE [] 3 ZP rfl ?_));have Q:w64 ((i:Int)+N)=((i+N.toNat:Nat):Int):=(by rw[Zo (by omega) (by omega)];omega);refine JO (i:=(i,x+1,pre,o2,H2)) (i+N.toNat,x,pre++ [(m.drop i).take N.toNat],A,B) (by
    refine⟨?_,?_,?_,C,j.trans d⟩
    ·
     simp only;omega
    ·
     simp only;omega
    ·
     simp only[TN,List.singleton_append];exact g) (by simp only;omega) (by exact⟨rfl,rfl,rfl,by show some _=some _;rw[Q],trivial⟩) rfl rfl
  ·
   refine PU [] 7 ZP rfl (PC [] 2 ZP rfl (J3 (.inl rfl) rfl rfl ?_));exact⟨j.trans d,.inr ⟨_,⟨YJ N.toNat x (m.drop (i+N.toNat)),by rw[←g];simp⟩,D⟩⟩
 ·
  have S:m.length≤i:=by have:=of_decide_eq_false c;omega
  refine PM [] 4 ZP rfl (J3 (.inr rfl) rfl rfl (⟨j,.inl ⟨pre,?_,u⟩⟩));rw[←g,SA S,BQ,Tu]
end Go.Proofs.YtfpffkecbhkbkaaGreatDoor
