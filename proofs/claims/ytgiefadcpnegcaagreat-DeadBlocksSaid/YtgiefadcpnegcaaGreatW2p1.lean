import Derived.Test.YtgiefadcpnegcaaGreatW2p0
/- walks: what the code computes, function by function. -/
set_option linter.unusedSimpArgs false
set_option linter.unusedVariables false
namespace Go.Proofs.YtgiefadcpnegcaaGreat
open Go.Ow Go.RowKit Go.Proofs
set_option maxHeartbeats 8000000
theorem slices_Clip_byte_ok{d}:Con Tryz.prog 121 true ([.sl false RU8 1 d]) (slices_Clip_byte d) (λr=> [.cl false RU8 1 r]):=by
 intro H q s v f r hx
 refine Does.enterC Tryz.func121 rfl rfl ?_
 intro w
 unfold slices_Clip_byte at hx
 refine Run.cl [] 9 ZB rfl (ZA rfl rfl (ZQ U26 rfl (IsSlice.long f)) (ZA rfl rfl (Zd rfl) (ZA rfl rfl (ZQ U26 rfl (IsSlice.long f)) ?_)))
 obtain⟨x,j,i,hx⟩:=slc_some hx
 obtain⟨y,k,z,h1v_6,h2v_6,p⟩:=IsSlice.cutc f j i
 refine ZA rfl rfl (R.slc (cap:=k) (a:=0) (b:=(d.length:Int)) (c:=(d.length:Int)) (m:=d) (R:=RU8) U26 S5 rfl rfl ⟨_,rfl⟩ ⟨_,rfl⟩ ⟨i.1,i.2.1,Int.le_refl _⟩ h1v_6 (.inr (λh=>by cases h))) ?_
 subst h2v_6
 refine Run.lnz_s [] 4 ZB rfl ?_
 exact ZI [] rfl hx rfl ⟨⟨⟨_,_,rfl⟩,p⟩,rfl⟩
theorem slices_Chunk_byte_ok (b:List UInt8)(a:Int)(H:Heaplet){ao:Option Addr}{n cap:Nat}(hs:IsSlice H RU8 1 (.slice ao n cap) b)(r:Unit)(hx:slices_Chunk_byte b a=some r):
  Does Tryz.prog 77 #[.slice ao n cap,.int .i64 a] [] H (λu K' H'=>∃b2 b3:Nat,u=.func (.func 101) #[] #[.pointer (some ⟨b2,0,none⟩),.pointer (some ⟨b3,0,none⟩)]∧K'= []∧H' b2 0=some (.slice ao n cap)∧H' b3 0=some (.int .i64 a)∧(1≤a∧a≤1099511627776∧b.length≤LIM)∧True):=by
 unfold slices_Chunk_byte at hx
 split at hx
 case isFalse=>cases hx
 rename_i hp
 refine Does.enter (vs:=[.slice ao n cap,.int .i64 a]) (l:=[(0,.slice ao n cap),(1,.int .i64 a)]) Tryz.func77 rfl rfl ⟨rfl,rfl,trivial⟩ (λw=>Run.cl [] 2 ZB rfl (ZY rfl rfl (λb2 hb2=>ZY rfl rfl (λb3 hb3=>Run.lc_s [0] 10 ZB rfl (JC.condB rfl (λc=> ?_) (λc=> ?_))))))
 ·
  exact absurd (of_decide_eq_true c) (by omega)
 refine Run.cnz_s [] 9 ZB rfl (JN.pubBox 0 rfl hb3 (λH1 hle1 hc1=>JN.forget 0 (JN.pubBox 0 rfl hb2 (λH2 hle2 hc2=>JN.forget 0 (JN.out1 (.inl rfl) rfl rfl rfl ?_)))))
 exact⟨_,_,rfl,rfl,hc2 0 _ rfl,hle2 _ _ _ (hc1 0 _ rfl),hp,trivial⟩
theorem slices_Chunk_byte_it (m:List UInt8)(N:Int)(hN:1≤N∧N≤1099511627776∧m.length≤LIM)(H:Heaplet){v:Value}{b2 b3:Nat}(hs:IsSlice H RU8 1 v m)(hb2:H b2 0=some v)(hb3:H b3 0=some (.int .i64 N)):
  IterL Tryz.prog 101 #[.pointer (some ⟨b2,0,none⟩),.pointer (some ⟨b3,0,none⟩)] H (λH' args (y:List UInt8)=>∃ao:Option Addr,args= #[.slice ao y.length y.length]∧IsSlice H' RU8 1 (.slice ao y.length y.length) y) (chunks N.toNat m.length m):=by
 intro lr I X o hY hI
 obtain⟨hN1,hN2,hml⟩:=hN
 unfold LIM at hml
 obtain⟨ao,cap,rfl⟩:=hs.val
 show Does Tryz.prog 101 #[.func (.yield lr) #[] #[],.pointer (some ⟨b2,0,none⟩),.pointer (some ⟨b3,0,none⟩)] o H _
 refine Does.enter (vs:=[.func (.yield lr) #[] #[],.pointer (some ⟨b2,0,none⟩),.pointer (some ⟨b3,0,none⟩)]) (l:=[(0,.func (.yield lr) #[] #[]),(1,.pointer (some ⟨b2,0,none⟩)),(2,.pointer (some ⟨b3,0,none⟩))]) Tryz.func101 rfl rfl ⟨rfl,rfl,rfl,trivial⟩ (λw=>Run.cc [] 6 ZB rfl ?_)
 refine JC.loop (ι:=Nat×Nat×List (List UInt8)×List Own×Heaplet) (λi=> [(0,.func (.yield lr) #[] #[]),(1,.pointer (some ⟨b2,0,none⟩)),(2,.pointer (some ⟨b3,0,none⟩)),(4,.int .i64 ((i.1:Nat):Int))]) (λi=>i.2.2.2.1) (λi=>i.2.2.2.2)
  (λi=>i.1≤2199023255552∧m.length≤i.1+i.2.1∧i.2.2.1++chunks N.toNat i.2.1 (m.drop i.1)=chunks N.toNat m.length m∧I i.2.2.1 i.2.2.2.1 i.2.2.2.2∧Hle H i.2.2.2.2) (λi=>m.length+1-i.1) (0,m.length,[],o,H) (⟨by omega,by simp,by simp,hI,Hle.refl _⟩) ⟨rfl,rfl,rfl,rfl,trivial⟩ rfl rfl ?_
 rintro⟨i,f,pre,o2,H2⟩ hI0
 dsimp only at hI0⊢
 obtain⟨hi2,hf,hpre,hI2,hle⟩:=hI0
 have hb2':=hle _ _ _ hb2
 have hb3':=hle _ _ _ hb3
 have hs2:=IsSlice.mono RU8.mono hle hs
 refine Run.cl [] 4 ZB rfl (ZA rfl rfl (R.ldH S26 rfl hb2') (ZA rfl rfl (ZQ U26 rfl (IsSlice.long hs2)) (Run.lcz_s [] 3 ZB rfl (JC.condB rfl (λc=> ?_) (λc=> ?_)))))
 ·
  have hlt:i<m.length:=by have:=of_decide_eq_true c;omega
  have hne:m.drop i≠[]:=λh=>by have:=List.drop_eq_nil_iff.1 h;omega
  obtain⟨f',rfl⟩:∃f',f=f'+1:=⟨f-1,by omega⟩
  rw[chunks_step hne,List.drop_drop]at hpre
  obtain⟨e,he⟩:∃e:Int,e=min N ((m.length:Int)-i):=⟨_,rfl⟩
  have hcut:(m.drop i).take N.toNat=cut m (i:Int) ((i:Int)+e):=by
   unfold cut
   rw[Int.toNat_natCast]
   by_cases h:N≤(m.length:Int)-i
   ·
    rw[show((i:Int)+e).toNat-i=N.toNat by omega]
   ·
    rw[List.take_of_length_le (by rw[List.length_drop];omega),List.take_of_length_le (by rw[List.length_drop];omega)]
  refine Run.cc_s [] 5 ZB rfl ?_
  obtain⟨v1,c1,h1,h2,h3,hs1⟩:=IsSlice.cutv (m':=cut m (i:Int) (m.length:Int)) hs2 rfl ⟨by omega,by omega,Int.le_refl _⟩
  have hl1:((cut m (i:Int) (m.length:Int)).length:Int)=(m.length:Int)-i:=cut_length (by omega) (by omega) (Int.le_refl _)
  refine JC.draw (so:=[]) 7 rfl Mixed trivial (JA.val ⟨by kernel_rfl,by kernel_rfl⟩ (ZG _) (i:=0) rfl ⟨by kernel_rfl,by kernel_rfl,rfl⟩ trivial (ZD (Hle.refl _) trivial) (R.ldH S3 rfl hb3') rfl (JA.val ⟨by kernel_rfl,by kernel_rfl⟩ (ZG _) (i:=1) rfl ⟨by kernel_rfl,by kernel_rfl,rfl⟩ trivial (ZD (Hle.refl _) trivial) (R.ldH S26 rfl hb2') rfl (JA.val ⟨by kernel_rfl,by kernel_rfl⟩ (ZG _) (i:=2) rfl ⟨by kernel_rfl,by kernel_rfl,rfl⟩ trivial (ZD (Hle.refl _) trivial) (Zd rfl) rfl (JA.val ⟨by kernel_rfl,by kernel_rfl⟩ (ZG _) (i:=3) rfl ⟨by kernel_rfl,by kernel_rfl,rfl⟩ trivial (ZD (Hle.refl _) trivial) (R.slc (cap:=c1) (a:=(i:Int)) (b:=(m.length:Int)) (c:=(c1:Int)) (m:=m) (R:=RU8) U26 S5 rfl ⟨_,rfl⟩ rfl (by obtain⟨ao,n,e,_⟩:=h1;exact⟨ao,n,e,rfl⟩) ⟨by omega,by omega,h2⟩ h3 (.inl rfl)) rfl (JA.val ⟨by kernel_rfl,by kernel_rfl⟩ (ZG _) (i:=4) rfl ⟨by kernel_rfl,by kernel_rfl,rfl⟩ trivial (ZD (Hle.refl _) trivial) (R.lenE U26 rfl ⟨_,IsSlice.long hs1,hl1⟩) rfl (JA.val ⟨by kernel_rfl,by kernel_rfl⟩ (ZG _) (i:=5) rfl ⟨by kernel_rfl,by kernel_rfl,rfl⟩ trivial (ZD (Hle.refl _) trivial) (R.min2 rfl rfl) rfl ?_))))))
  rw[←he]
  refine JA.val ⟨by kernel_rfl,by kernel_rfl⟩ (ZG _) (i:=6) rfl ⟨by kernel_rfl,by kernel_rfl,rfl⟩ trivial (ZD (Hle.refl _) trivial) (R.assign rfl) rfl (Zs (by kernel_rfl) (JN.next ?_))
  have hw:w64 ((i:Int)+e)=(i:Int)+e:=Zp (by omega) (by omega)
  obtain⟨v2,c2,ao2,g1,g2,hs3⟩:=IsSlice.cutc (m':=(m.drop i).take N.toNat) hs2 hcut ⟨by omega,by omega,by omega⟩
  subst g2
  refine Run.cl [] 3 ZB rfl (ZA rfl rfl (R.ldH S26 rfl hb2') (Run.llz [] 4 ZB rfl ?_))
  rw[hw]
  refine Run.llz [] 3 ZB rfl ?_
  rw[hw]
  refine ZA rfl rfl (R.slc (cap:=c2) (a:=(i:Int)) (b:=(i:Int)+e) (c:=(i:Int)+e) (m:=m) (R:=RU8) U26 S5 rfl ⟨_,rfl⟩ ⟨_,rfl⟩ ⟨_,rfl⟩ ⟨by omega,by omega,Int.le_refl _⟩ g1 (.inr (λh=>by cases h))) (JL.yield (vs:=[_]) (mine:=[]) ((m.drop i).take N.toNat) hY rfl rfl hI2 (⟨⟨ao2,rfl,hs3⟩,_,by rw[←hpre]⟩) rfl rfl (λo17 H17 hle17 hI17=> ?_) (λo17 H17 hle17 hX17=> ?_))
  ·
   refine Run.llz_sbs [] 9 ZB rfl (ZA rfl rfl (R.ldH S3 rfl (hle17 _ _ _ hb3')) (Run.lnz [] 3 ZB rfl ?_))
   have hw2:w64 ((i:Int)+N)=((i+N.toNat:Nat):Int):=by rw[Zp (by omega) (by omega)];omega
   refine JN.again (i:=(i,f'+1,pre,o2,H2)) (i+N.toNat,f',pre++ [(m.drop i).take N.toNat],o17,H17) (by
    refine⟨?_,?_,?_,hI17,hle.trans hle17⟩
    ·
     simp only;omega
    ·
     simp only;omega
    ·
     simp only[List.append_assoc,List.singleton_append];exact hpre) (by simp only;omega) (by exact⟨rfl,rfl,rfl,by show some _=some _;rw[hw2],trivial⟩) rfl rfl
  ·
   refine Run.lnz_sbk [] 7 ZB rfl (Run.nnz_kb [] 2 ZB rfl (JN.out0 (.inl rfl) rfl rfl ?_))
   exact⟨hle.trans hle17,.inr ⟨_,⟨chunks N.toNat f' (m.drop (i+N.toNat)),by rw[←hpre];simp⟩,hX17⟩⟩
 ·
  have hge:m.length≤i:=by have:=of_decide_eq_false c;omega
  refine Run.cnz_kkb [] 4 ZB rfl (JN.out0 (.inr rfl) rfl rfl (⟨hle,.inl ⟨pre,?_,hI2⟩⟩))
  rw[←hpre,List.drop_eq_nil_of_le hge,chunks_nil,List.append_nil]
theorem slices_Backward_byte_ok (a:List UInt8)(H:Heaplet){ao:Option Addr}{n cap:Nat}(hs:IsSlice H RU8 1 (.slice ao n cap) a)(r:Unit)(hx:slices_Backward_byte a=some r):
  Does Tryz.prog 125 #[.slice ao n cap] [] H (λu K' H'=>∃b:Nat,u=.func (.func 145) #[] #[.pointer (some ⟨b,0,none⟩)]∧K'= []∧H' b 0=some (.slice ao n cap)∧True):=by
 refine Does.enter (vs:=[.slice ao n cap]) (l:=[(0,.slice ao n cap)]) Tryz.func125 rfl rfl ⟨rfl,trivial⟩ (λw=>Run.cl [] 2 ZB rfl (ZY rfl rfl (λb1 hb1=>JL.assign rfl rfl (Run.ll_s [] 4 ZB rfl (JL.func (vf:=#[]) (vc:=#[_]) rfl rfl rfl (JL.assign rfl rfl (Run.lnz_s [] 3 ZB rfl (JN.pubBox 0 rfl hb1 (λH1 hle1 hc1=>JN.forget 0 ?_)))))))))
 have hc:=hc1 0 _ rfl
 refine JN.out1 (.inl rfl) rfl rfl rfl ?_
 exact⟨_,rfl,rfl,hc,trivial⟩
theorem slices_Backward_byte_it (m:List UInt8)(H:Heaplet){v:Value}{b:Nat}(hs:IsSlice H RU8 1 v m)(hb:H b 0=some v):
  IterL Tryz.prog 145 #[.pointer (some ⟨b,0,none⟩)] H (λ_ args (y:Nat×UInt8)=>args= #[.int .i64 ((y.1:Nat):Int),.int .u8 (y.2.toNat:Int)]) (bwd m m.length):=by
 intro lr I X o hY hI
 have hlen:=hs.len_le
 obtain⟨ao,cap,rfl⟩:=hs.val
 show Does Tryz.prog 145 #[.func (.yield lr) #[] #[],.pointer (some ⟨b,0,none⟩)] o H _
 refine Does.enter (vs:=[.func (.yield lr) #[] #[],.pointer (some ⟨b,0,none⟩)]) (l:=[(0,.func (.yield lr) #[] #[]),(1,.pointer (some ⟨b,0,none⟩))]) Tryz.func145 rfl rfl ⟨rfl,rfl,trivial⟩ (λw=>Run.cl [] 2 ZB rfl (JL.ldH S26 rfl hb rfl (JL.lenS U26 rfl hs rfl (JL.subI rfl rfl (wi64 (by omega) (by omega)) rfl (JL.assign rfl rfl ?_)))))
 refine Run.lc_s [] 3 ZB rfl (JC.loop (ι:=Nat×List (Nat×UInt8)×List Own×Heaplet) (λi=> [(0,.func (.yield lr) #[] #[]),(1,.pointer (some ⟨b,0,none⟩)),(3,.int .i64 ((i.1:Int)-1))]) (λi=>i.2.2.1) (λi=>i.2.2.2) (λi=>i.1≤m.length∧i.2.1++bwd m i.1=bwd m m.length∧I i.2.1 i.2.2.1 i.2.2.2∧Hle H i.2.2.2) (λi=>i.1) (m.length,[],o,H) (⟨Nat.le_refl _,rfl,hI,Hle.refl _⟩) ⟨rfl,rfl,rfl,trivial⟩ rfl rfl ?_)
 rintro⟨k,pre,o2,H2⟩ hI0
 dsimp only at hI0⊢
 obtain⟨hk,hpre,hI2,hle⟩:=hI0
 have hb2:=hle _ _ _ hb
 have hs2:=IsB.mono hle hs
 refine Run.cl [] 3 ZB rfl (JL.move rfl rfl (JL.geq rfl rfl rfl (Run.lcz_s [] 2 ZB rfl (JC.condP rfl (λc8=> ?_) (λc8=> ?_)))))
 ·
  refine Run.cl_s [] 6 ZB rfl (JL.move rfl rfl (JL.move rfl rfl (JL.ldH S26 rfl hb2 rfl (JL.move rfl rfl (JL.ixB (k:=k-1) U26 S5 rfl hs2 rfl (by omega) (by omega) rfl (λb15 o15 hc15=>JL.ldH S5 rfl hc15 rfl ?_))))))
  have e1:((k-1:Nat):Int)=(k:Int)-1:=by omega
  have e2:m.getD (k-1) 0=m[k-1]:=by rw[List.getD_eq_getElem?_getD,List.getElem?_eq_getElem (show k-1<m.length by omega),Option.getD_some]
  have e3:bwd m k=(k-1,m.getD (k-1) 0)::bwd m (k-1):=by rw[show k=(k-1)+1 by omega];rfl
  refine JL.yield (vs:=[_,_]) (mine:=[]) ((k-1,m.getD (k-1) 0)) hY rfl rfl hI2 (⟨by simp only[e1,e2],bwd m (k-1),by rw[←hpre,e3]⟩) rfl rfl (λo17 H17 hle17 hI17=> ?_) (λo17 H17 hle17 hX17=> ?_)
  ·
   refine JL.not rfl rfl (Run.llz_sbs [] 7 ZB rfl (JL.move rfl rfl (JL.subI rfl rfl (wi64 (by omega) (by omega)) rfl (JL.assign rfl rfl (ZN (JN.again (i:=(k,pre,o2,H2)) (k-1,pre++ [(k-1,m.getD (k-1) 0)],o17,H17) (by exact⟨by simp only;omega,by rw[←hpre,e3];simp,hI17,hle.trans hle17⟩) (by simp only;omega) (by exact⟨rfl,rfl,by show some _=some _;simp only[e1],trivial⟩) rfl rfl))))))
  ·
   refine JL.not rfl rfl (Run.lnz_sbk [] 6 ZB rfl (Run.nnz_kb [] 2 ZB rfl (JN.out0 (.inl rfl) rfl rfl ?_)))
   exact⟨hle.trans hle17,.inr ⟨_,⟨bwd m (k-1),by rw[←hpre,e3];simp⟩,hX17⟩⟩
 ·
  refine Run.cnz_kkb [] 4 ZB rfl (JN.out0 (.inr rfl) rfl rfl ?_)
  exact⟨hle,.inl ⟨pre,by rw[←hpre,show k=0 by omega];simp[bwd],hI2⟩⟩
theorem code_Get_ok{j f k}:Con Tryz.prog 102 false ([.sl false RU8 1 j,.i f,.i k]) (code_Get j f k) (λr=> [.i r.1,.i r.2]):=by
 intro H b9 c0 c1 p r hx
 refine Does.enterMC Tryz.func102 rfl rfl ?_
 intro w
 unfold code_Get at hx
 refine Run.cl [] 12 ZB rfl (ZK hx E91 rfl code_sized_ok rfl trivial ?_)
 intro c2 c3 hx
 refine Run.lcz_s [] 4 ZB rfl (ZV hx [0,1,2] [] rfl rfl (λq l0 o0 l o g=>l=(11,.bool q)::l0∧o=o0∧H=g) (λq c4 hx=> ?_) (λq c5 hx=> ?_))
 ·
  rintro _ _ _ ⟨rfl,rfl,rfl⟩
  refine JN.next (ZJ hx rfl (λa5 hx=> ?_) (λa5 hx=> ?_))
  ·
   refine Run.cnz_bk [] 9 ZB rfl ?_
   exact JN.conM (own2:=[]) [] [] ZM ⟨rfl,rfl,rfl,rfl⟩ rfl rfl hx rfl rfl
  ·
   refine Run.cl [] 6 ZB rfl (ZA rfl rfl (ZQ U26 rfl (IsSlice.long p)) (Run.lcz_s [] 4 ZB rfl (ZJ hx rfl (λa6 hx=> ?_) (λa6 hx=> ?_))))
   ·
    refine Run.cnz_bk [] 9 ZB rfl ?_
    exact JN.conM (own2:=[]) [] [] ZM ⟨rfl,rfl,rfl,rfl⟩ rfl rfl hx rfl rfl
   ·
    refine Run.cl_bs [] 5 ZB rfl (JL.alloc Z3 rfl (λz c6=>Run.ll_s [0] 11 ZB rfl ?_))
    obtain⟨a0,a7,s,hx⟩:=slc_some hx
    obtain⟨c7,a1,h1v_19,h2v_19,h3v_19,v⟩:=IsSlice.cutv p a7 s
    refine ZA rfl rfl (R.slc (cap:=a1) (a:=f) (b:=w64 (f+k)) (c:=(a1:Int)) (m:=j) (R:=RU8) U26 S5 rfl ⟨_,rfl⟩ ⟨_,rfl⟩ (by obtain⟨ao,n,e,_⟩:=h1v_19;exact⟨ao,n,e,rfl⟩) ⟨s.1,s.2.1,h2v_19⟩ h3v_19 (.inl rfl)) ?_
    obtain⟨c8,c9,rfl⟩:=IsSlice.val v
    obtain⟨d0,a8,hx⟩:=ZT hx
    refine ZX (vs:=[_]) (args:=[_]) (K:=[]) (rst:=[_]) E125 rfl rfl rfl ZM (slices_Backward_byte_ok a0 _ v _ a8) rfl (λd1 d2 a2 a9 b0 d3=> ?_)
    obtain⟨d4,rfl,rfl,b1,-⟩:=a9
    refine Run.lc_s [] 3 ZB rfl ?_
    obtain⟨b2,b3,hx⟩:=ZT hx
    refine JC.rangeL (RA:=λ_ args (y:Nat×UInt8)=>args= #[.int .i64 ((y.1:Nat):Int),.int .u8 (y.2.toNat:Int)]) rfl code_Get_r1 0 b2 b3 (λx o g=>∃d:Heaplet,o= [[(z,.cells #[.int .i64 x] 3 (0,0))]]∧d=g∧Hle a2 d) (λe c o g=>False) rfl E145 (slices_Backward_byte_it a0 _ (v.mono RU8.mono b0) b1) (λ_ _ _ h=>by rw[h];rfl) rfl ⟨a2,rfl,rfl,(Hle.refl _)⟩ ?_ ?_ ?_
    ·
     rintro d5 a3 x args o g d6 ⟨d,rfl,rfl,a4⟩ hA hx2
     clear hx;have hx:=hx2;clear hx2;unfold code_Get_r1 at hx
     subst hA
     refine⟨[(8,.pointer (some ⟨z,0,none⟩)),(10,.int .u8 (a3.2.toNat:Int))],λb4 b5=> ?_,λb4 b5=> ?_⟩
     ·
      refine Run.cnz [] 3 ZB rfl ?_
      exact JN.assigned ⟨rfl,rfl,trivial⟩
     ·
      refine Run.cl [0] 5 ZB rfl (ZA rfl rfl (R.cv_u8_i64 (a:=a3.2) U5 U3 rfl) (Run.lnz_b [0] 4 ZB rfl ?_))
      obtain rfl:=Option.some.inj hx
      exact JN.rN ⟨d,rfl,rfl,(a4)⟩
    ·
     rintro b6 x o g d7 htt ⟨d,rfl,rfl,a4⟩ hle2
     subst htt;simp only[Sum.elim_inl]at hx
     refine Run.nnz_bs [1] 10 ZB rfl ?_
     exact JN.conM (own2:=[_]) [b6] [] (ZO 0 rfl ZM) ⟨rfl,rfl,rfl,rfl⟩ rfl rfl hx rfl rfl
    ·
     rintro D c e o g hD htt hX;exact hX.elim
 ·
  refine ZJ hx rfl (λb7 hx=> ?_) (λb7 hx=> ?_)
  ·
   refine JC.skip ?_
   obtain rfl:=Option.some.inj hx
   exact ZE ⟨rfl,rfl,rfl⟩ rfl rfl rfl
  ·
   refine Run.ccz [] 7 ZB rfl (ZJ hx rfl (λb8 hx=> ?_) (λb8 hx=> ?_))
   ·
    refine JC.skip ?_
    obtain rfl:=Option.some.inj hx
    exact ZE ⟨rfl,rfl,rfl⟩ rfl rfl rfl
   ·
    refine Run.clz [] 3 ZB rfl (ZA rfl rfl (ZQ U26 rfl (IsSlice.long p)) (Run.lnz [] 3 ZB rfl ?_))
    obtain rfl:=Option.some.inj hx
    exact ZE ⟨rfl,rfl,rfl⟩ rfl rfl rfl
theorem mix_number_ok{a}:Con Tryz.prog 123 false ([.sl false RU8 1 a]) (mix_number a) (λr=> [.w32 r]):=by
 intro H c d f b r hx
 refine Does.enterC Tryz.func123 rfl rfl ?_
 intro w
 unfold mix_number at hx
 refine Run.cl [] 8 ZB rfl (JL.con hx E102 rfl code_Get_ok rfl ⟨b,trivial⟩ ?_)
 intro h i hx j k
 refine Run.ll_s [] 10 ZB rfl (ZA rfl rfl (R.cv_i64_u32 U3 U27 rfl) (Run.lnz_s [] 4 ZB rfl ?_))
 exact JN.con [] rfl hx rfl rfl
theorem math_bits_RotateLeft32_ok{d c}:Con Tryz.prog 153 true ([.w32 d,.i c]) (math_bits_RotateLeft32 d c) (λr=> [.w32 r]):=by
 intro H r hx
 refine Does.enterC Tryz.func153 rfl rfl ?_
 intro w
 unfold math_bits_RotateLeft32 at hx
 refine Run.cl [] 8 ZB rfl (ZA rfl rfl (R.cv_i64_u64 U3 U128 rfl) (ZA rfl rfl (R.and64 (a:=u64i c) (b:=(31:UInt64)) rfl rfl) (Run.ll_s [] 7 ZB rfl (ZA rfl rfl (R.shl32 (n:=(((u64i c)&&&(31:UInt64)).toNat:Int)) (a:=d) rfl rfl (Int.natCast_nonneg _)) (Run.llz [] 2 ZB rfl (ZA rfl rfl (R.sub64 (a:=(32:UInt64)) (b:=(u64i c)&&&(31:UInt64)) rfl rfl) (ZA rfl rfl (R.shr32 (n:=(((32:UInt64)-((u64i c)&&&(31:UInt64))).toNat:Int)) (a:=d) rfl rfl (Int.natCast_nonneg _)) (ZA rfl rfl (R.or32 (a:=sl32 d ((((u64i c)&&&(31:UInt64)).toNat:Int)).toNat) (b:=sr32 d ((((32:UInt64)-((u64i c)&&&(31:UInt64))).toNat:Int)).toNat) rfl rfl) (Run.lnz_s [] 4 ZB rfl ?_)))))))))
 exact ZI [] rfl hx rfl rfl
theorem mix_words_turned_1_ok (f:Int)(h:Int)(c:A4 UInt32)(H:Heaplet){d:Nat}(r:A4 UInt32)(hx:mix_words_turned_1 f h c=some r):
  Does Tryz.prog 152 #[.int .i64 f,.int .i64 h,.pointer (some ⟨d,0,none⟩)] [[(d,.cells #[.int .u32 (c.e0.toNat:Int),.int .u32 (c.e1.toNat:Int),.int .u32 (c.e2.toNat:Int),.int .u32 (c.e3.toNat:Int)] 141 (0,0))]] H (λu K' H'=>u=.tuple #[]∧K'= [[(d,.cells #[.int .u32 (r.e0.toNat:Int),.int .u32 (r.e1.toNat:Int),.int .u32 (r.e2.toNat:Int),.int .u32 (r.e3.toNat:Int)] 141 (0,0))]]∧H=H'∧True):=by
 refine Does.enterL (vs:=[.int .i64 f,.int .i64 h,.pointer (some ⟨d,0,none⟩)]) (l:=[(0,.int .i64 f),(1,.int .i64 h),(2,.pointer (some ⟨d,0,none⟩))]) Tryz.func152 rfl rfl ⟨rfl,rfl,rfl,trivial⟩ (λw hlt=> ?_)
 unfold mix_words_turned_1 at hx
 refine Run.cl [] 2 ZB rfl (ZA rfl rfl (R.ixA 0 U141 S27 rfl rfl rfl) (ZA rfl rfl (R.ldo 0 S27 rfl rfl rfl) (ZA rfl rfl (R.ixA 1 U141 S27 rfl rfl rfl) (ZA rfl rfl (R.ldo 0 S27 rfl rfl rfl) (ZA rfl rfl (R.add32 (a:=c.e0) (b:=c.e1) rfl rfl) (ZA rfl rfl (R.ixA 0 U141 S27 rfl rfl rfl) (Run.ll_s [0] 5 ZB rfl (ZA rfl rfl (R.ixA 3 U141 S27 rfl rfl rfl) (ZA rfl rfl (R.ldo 0 S27 rfl rfl rfl) (ZA rfl rfl (R.ixA 0 U141 S27 rfl rfl rfl) (ZA rfl rfl (R.ldo 0 S27 rfl rfl rfl) (ZA rfl rfl (R.xor32 (a:=c.e3) (b:=c.e0+c.e1) rfl rfl) (ZA rfl rfl (Zd rfl) (ZK hx E153 rfl math_bits_RotateLeft32_ok rfl trivial ?_))))))))))))))
 intro i j hx
 refine ZA rfl rfl (R.ixA 3 U141 S27 rfl rfl rfl) (Run.ll_s [0] 5 ZB rfl (ZA rfl rfl (R.ixA 2 U141 S27 rfl rfl rfl) (ZA rfl rfl (R.ldo 0 S27 rfl rfl rfl) (ZA rfl rfl (R.ixA 3 U141 S27 rfl rfl rfl) (ZA rfl rfl (R.ldo 0 S27 rfl rfl rfl) (ZA rfl rfl (R.add32 (a:=c.e2) (b:=i) rfl rfl) (ZA rfl rfl (R.ixA 2 U141 S27 rfl rfl rfl) (Run.llz_s [0] 4 ZB rfl (ZA rfl rfl (R.ixA 1 U141 S27 rfl rfl rfl) (ZA rfl rfl (R.ldo 0 S27 rfl rfl rfl) (ZA rfl rfl (R.ixA 2 U141 S27 rfl rfl rfl) (ZA rfl rfl (R.ldo 0 S27 rfl rfl rfl) (ZA rfl rfl (R.xor32 (a:=c.e1) (b:=c.e2+i) rfl rfl) (ZA rfl rfl (Zd rfl) (ZK hx E153 rfl math_bits_RotateLeft32_ok rfl trivial ?_)))))))))))))))
 intro k m hx
 refine ZA rfl rfl (R.ixA 1 U141 S27 rfl rfl rfl) (Run.lnz [0] 2 ZB rfl (Zj (vs:=[]) (K:=[_]) (rst:=[]) (.inr rfl) rfl rfl rfl (ZO 0 rfl ZM) ?_))
 obtain rfl:=Option.some.inj hx
 exact⟨rfl,rfl,rfl,trivial⟩
theorem mix_words_turned_ok{a}:Con Tryz.prog 144 true ([.st 4,.w32 a.e0,.w32 a.e1,.w32 a.e2,.w32 a.e3]) (mix_words_turned a) (λr=> [.st 4,.w32 r.e0,.w32 r.e1,.w32 r.e2,.w32 r.e3]):=by
 intro H r hx
 refine Does.enterC Tryz.func144 rfl rfl ?_
 intro w
 unfold mix_words_turned at hx
 refine Run.cl [] 2 ZB rfl (ZY rfl rfl (λi j=>JL.alloc Z141 rfl (λk m=>Run.ll_s [] 11 ZB rfl ?_)))
 obtain⟨b,c,hx⟩:=ZT hx
 refine ZX (vs:=[_,_]) (args:=[_,_,_]) (K:=[_]) (rst:=[_]) E152 rfl rfl rfl (ZO 1 rfl ZM) (mix_words_turned_1_ok 15 11 a _ _ c) rfl (λp q s d v x=> ?_)
 obtain⟨rfl,rfl,rfl,-⟩:=d
 refine Run.ll_s [] 5 ZB rfl ?_
 obtain⟨y,f,hx⟩:=ZT hx
 refine ZX (vs:=[_,_]) (args:=[_,_,_]) (K:=[_]) (rst:=[_]) E152 rfl rfl rfl (ZO 0 rfl ZM) (mix_words_turned_1_ok 9 6 b _ _ f) rfl (λz a0 a1 h a2 a3=> ?_)
 obtain⟨rfl,rfl,rfl,-⟩:=h
 refine Run.lnz_s [0,1] 9 ZB rfl ?_
 exact JN.conCQ [1] [] ZB rfl hx rfl rfl
theorem mix_words_often_ok{c f}:Con Tryz.prog 124 true ([.st 4,.w32 c.e0,.w32 c.e1,.w32 c.e2,.w32 c.e3,.i f]) (mix_words_often c f) (λr=> [.st 4,.w32 r.e0,.w32 r.e1,.w32 r.e2,.w32 r.e3]):=by
 intro H r hx
 refine Does.enterC Tryz.func124 rfl rfl ?_
 intro w
 unfold mix_words_often at hx
 refine Run.cl [] 2 ZB rfl (ZY rfl rfl (λh m=>JL.alloc Z141 rfl (λp q=>Run.lc_s [] 9 ZB rfl (ZV hx [2,4] [0] rfl rfl (λb l0 o0 l o g=>l=l0∧o= [(h,.cells #[.int .u32 (b.1.toNat:Int),.int .u32 (b.2.1.toNat:Int),.int .u32 (b.2.2.1.toNat:Int),.int .u32 (b.2.2.2.toNat:Int)] 141 (0,0))]::o0∧H=g) (λb s hx=> ?_) (λb v hx=> ?_)))))
 ·
  rintro _ _ _ ⟨rfl,rfl,rfl⟩
  refine Run.nnz_s [0,1] 8 ZB rfl ?_
  exact JN.conCQ [1] [] ZB rfl hx rfl rfl
 ·
  refine JC.block (ZS 1 rfl (ZZ [2,4,5] [1] rfl rfl (λl0 o0 a l o g=>l=(6,.int .i64 a.2.2.2.2)::l0∧o= [(h,.cells #[.int .u32 (a.1.toNat:Int),.int .u32 (a.2.1.toNat:Int),.int .u32 (a.2.2.1.toNat:Int),.int .u32 (a.2.2.2.1.toNat:Int)] 141 (0,0))]::o0∧H=g) hx ⟨rfl,rfl,rfl⟩ rfl ?_))
  ·
   rintro x a _ _ _ ⟨rfl,rfl,rfl⟩ y hx j
   unfold mix_words_often_l1 at hx
   refine Run.cc [] 6 ZB rfl (ZJ hx rfl (λk hx=> ?_) (λk hx=> ?_))
   ·
    refine Run.cl_s [0] 6 ZB rfl (ZK hx E144 rfl mix_words_turned_ok rfl trivial ?_)
    intro d z hx
    refine Run.lnz_bs [0] 8 ZB rfl ?_
    replace hx:=ZU j hx
    refine ZC 1 rfl (ZC 1 rfl ?_)
    exact ZE ⟨(d.e0,d.e1,d.e2,d.e3,w64 (a.2.2.2.2+1)),⟨rfl,rfl,rfl⟩,hx⟩ rfl rfl rfl
   ·
    refine Run.cnz_k [] 2 ZB rfl ?_
    obtain rfl:=ZP j hx
    refine Run.nnz_kb [] 2 ZB rfl (ZC 1 rfl (ZC 1 rfl ?_))
    exact ZE ⟨rfl,rfl,rfl⟩ rfl rfl rfl
theorem mix_four_ok{a1}:Con Tryz.prog 100 false ([.sl false RU8 1 a1]) (mix_four a1) (λr=> [.st 4,.w32 r.e0,.w32 r.e1,.w32 r.e2,.w32 r.e3]):=by
 intro H d5 d6 d7 c1 r hx
 refine Does.enterMC Tryz.func100 rfl rfl ?_
 intro w
 unfold mix_four at hx
 refine Run.cl [] 2 ZB rfl (JL.alloc Z141 rfl (λc2 j5=>Run.ll_s [] 4 ZB rfl (ZA rfl rfl (R.bldA (vs:=[(0,.int .u32 ((1:UInt32).toNat:Int)),(1,.int .u32 ((2:UInt32).toNat:Int)),(2,.int .u32 ((3:UInt32).toNat:Int)),(3,.int .u32 ((4:UInt32).toNat:Int))]) (cells:=#[.int .u32 ((1:UInt32).toNat:Int),.int .u32 ((2:UInt32).toNat:Int),.int .u32 ((3:UInt32).toNat:Int),.int .u32 ((4:UInt32).toNat:Int)]) Z141 B141 rfl rfl rfl rfl) (JL.alloc Z141 rfl (λa6 j6=>Run.ll_s [0] 6 ZB rfl ?_)))))
 obtain⟨j7,d8,hx⟩:=ZT hx
 refine ZX (vs:=[_]) (args:=[_]) (K:=[]) (rst:=[_,_]) E122 rfl rfl rfl ZM (slices_Clone_byte_ok a1 _ c1 _ d8) rfl (λj8 j9 k0 d9 k1 e4=> ?_)
 obtain⟨k2,k3,k4,k5,rfl,rfl,rfl,a7,e5,-⟩:=d9
 replace a7:=(RowOf.base (Zh (H2:=New H H) RU8.const a7) (λp hp=>(e4 p (Ze 0 rfl hp)).resolve_left (e5 p hp)))
 refine JL.pubN 0 RU8.mono rfl a7 (Nat.le_refl _) (λf k6 e6=>JL.forget 0 (ZK hx E121 rfl slices_Clip_byte_ok rfl ⟨(e6.old RU8.mono),trivial⟩ ?_))
 intro k7 k8 hx k9 l1 e7
 refine Zt (HF:=(New H f)) (R:=RU8) (ls:=[(1:UInt8)]) (vs:=[.int .u8 ((1:UInt8).toNat:Int)]) U26 I5 rfl rfl (⟨_,_,rfl,rfl,rfl,rfl⟩) RU8.one rfl rfl rfl (by simp[maxLen]) rfl (λl2 l3 c3=> ?_)
 obtain⟨l4,l5,rfl⟩:=RowOf.val c3
 obtain⟨e8,e9,f0,hx⟩:=Zc hx
 refine JL.appC (HF:=(New H f)) U26 I5 rfl RU8.one (Hle.refl _) e7 (λ_ _ h=>RU8.const _ _ _ _ h) rfl (SrcF.row 0 U26 rfl (Zh RU8.const c3)) (List.cons_ne_nil _ _) e9 f0 rfl rfl (λl6 f1 c4=> ?_)
 obtain⟨f2,f3,rfl⟩:=RowOf.val c4
 refine Run.lc_s [] 4 ZB rfl (ZV hx [0,2,3] [3,2] rfl rfl (λs l0 o0 l o g=>∃a8:Option Addr,∃a9:Nat,∃b0:Nat,∃b1:Own,l=(4,.slice a8 a9 b0)::l0∧o=b1::o0∧f=g∧RowOf (New H f) RU8 w.heap.size 5 1 (.slice a8 a9 b0) s b1) (λs l7 hx=> ?_) (λs l8 hx=> ?_))
 ·
  rintro _ _ _ ⟨a8,a9,b0,b1,rfl,rfl,rfl,f4⟩
  refine Run.nl_s [] 5 ZB rfl (JL.pubN 0 RU8.mono rfl f4 (Nat.le_refl _) (λl9 m0 c5=>JL.forget 0 ?_))
  obtain⟨m1,f5,hx⟩:=ZT hx
  refine ZX (vs:=[_,_]) (args:=[_,_]) (K:=[]) (rst:=[_,_]) E77 rfl rfl rfl ZM (slices_Chunk_byte_ok s 8 _ (c5.old RU8.mono) _ f5) rfl (λm2 m3 c6 f6 f7 m4=> ?_)
  obtain⟨m5,m6,rfl,rfl,f8,f9,g0,-⟩:=f6
  refine Run.lc_s [] 3 ZB rfl ?_
  obtain⟨g1,g2,hx⟩:=ZT hx
  refine ZS 1 rfl (JC.rangeL (RA:=λH' args (y:List UInt8)=>∃ao:Option Addr,args= #[.slice ao y.length y.length]∧IsSlice H' RU8 1 (.slice ao y.length y.length) y) rfl mix_four_r2 ((1:UInt32),(2:UInt32),(3:UInt32),(4:UInt32)) g1 g2 (λd o g=>∃v:Heaplet,o= [[(a6,.cells #[.int .u32 (d.1.toNat:Int),.int .u32 (d.2.1.toNat:Int),.int .u32 (d.2.2.1.toNat:Int),.int .u32 (d.2.2.2.toNat:Int)] 141 (0,0))],[(c2,.cells #[.int .u32 ((0:UInt32).toNat:Int),.int .u32 ((0:UInt32).toNat:Int),.int .u32 ((0:UInt32).toNat:Int),.int .u32 ((0:UInt32).toNat:Int)] 141 (0,0))]]∧v=g∧Hle c6 v) (λe c o g=>False) rfl E101 (slices_Chunk_byte_it s 8 g0 _ ((c5.mono RU8.mono (New.mono f7)).old RU8.mono) f8 f9) (λ_ _ _ h=>by obtain⟨_,h,_⟩:=h;rw[h];rfl) rfl ⟨c6,rfl,rfl,(Hle.refl _)⟩ ?_ ?_ ?_)
  ·
   rintro m7 x d args o g m8 ⟨v,rfl,rfl,b2⟩ hA hx2
   clear hx;have hx:=hx2;clear hx2;unfold mix_four_r2 at hx
   obtain⟨g3,rfl,c7⟩:=hA
   refine⟨[(0,.slice d5 d6 d7),(2,.pointer (some ⟨c2,0,none⟩)),(3,.pointer (some ⟨a6,0,none⟩)),(5,.slice g3 x.length x.length)],λg4 g5=> ?_,λg4 g5=> ?_⟩
   ·
    refine Run.cnz [] 3 ZB rfl ?_
    exact JN.assigned ⟨rfl,rfl,rfl,rfl,trivial⟩
   ·
    refine Run.cc [] 2 ZB rfl (ZV hx [0,2,3,5] [1] rfl rfl (λb3 l0 o0 l o g=>∃b4:Heaplet,l=l0∧o= [(a6,.cells #[.int .u32 (b3.toNat:Int),.int .u32 (d.2.1.toNat:Int),.int .u32 (d.2.2.1.toNat:Int),.int .u32 (d.2.2.2.toNat:Int)] 141 (0,0))]::o0∧b4=g∧Hle v b4) (λb3 m9 hx=> ?_) (λb3 n0 hx=> ?_))
    ·
     rintro _ _ _ ⟨b4,rfl,rfl,rfl,b5⟩
     refine Run.nc_s [] 2 ZB rfl (JC.draw (so:=[_]) 8 rfl Mixed ⟨⟨1,rfl⟩,trivial⟩ (JA.val ⟨by kernel_rfl,by kernel_rfl⟩ (ZG _) (i:=0) rfl ⟨by kernel_rfl,by kernel_rfl,rfl⟩ trivial (ZD (Hle.refl _) ⟨⟨1,rfl⟩,trivial⟩) (R.ixA 2 U141 S27 rfl rfl rfl) rfl (JA.val ⟨by kernel_rfl,by kernel_rfl⟩ (ZG _) (i:=2) rfl ⟨by kernel_rfl,by kernel_rfl,rfl⟩ trivial (ZD (Hle.refl _) ⟨⟨1,rfl⟩,trivial⟩) (Zd rfl) rfl ?_)))
     obtain⟨n1,g6,b6,hx⟩:=slc_some hx
     obtain⟨n2,c8,h1v_59,h2v_59,h3v_59,b7⟩:=IsSlice.cutv (c7.mono RU8.mono b5) g6 b6
     refine JA.val ⟨by kernel_rfl,by kernel_rfl⟩ (ZG _) (i:=3) rfl ⟨by kernel_rfl,by kernel_rfl,rfl⟩ trivial (ZD (Hle.refl _) ⟨⟨1,rfl⟩,trivial⟩) (R.slc (cap:=c8) (a:=4) (b:=(x.length:Int)) (c:=(c8:Int)) (m:=x) (R:=RU8) U26 S5 rfl ⟨_,rfl⟩ rfl (by obtain⟨ao,n,e,_⟩:=h1v_59;exact⟨ao,n,e,rfl⟩) ⟨b6.1,b6.2.1,h2v_59⟩ h3v_59 (.inl rfl)) rfl ?_
     obtain⟨n3,n4,rfl⟩:=IsSlice.val b7
     refine JA.two (i:=1) (j:=4) (by kernel_rfl) ?_ ?_
     ·
      refine JO.step rfl trivial rfl (λK hK=>Run.lnz [0] 2 ZB rfl (hK _ _ _ (ZD (Hle.refl _) ⟨⟨1,rfl⟩,trivial⟩) (JA.one (i:=4) (by kernel_rfl) (JO.step rfl trivial rfl (λK hK=> ?_)))))
      obtain⟨g7,g8,hx⟩:=ZT hx
      refine ZX (vs:=[_]) (args:=[_]) (K:=[]) (rst:=[_,_]) E123 rfl rfl rfl ZM (mix_number_ok.doesX rfl ⟨b7,trivial⟩ g8) rfl (λn5 n6 g9 h0 z n7=> ?_)
      obtain⟨rfl,rfl,-⟩:=h0
      refine ZN (hK _ _ _ (ZD z ⟨⟨1,rfl⟩,trivial⟩) (JA.val ⟨by kernel_rfl,by kernel_rfl⟩ (ZG _) (i:=5) rfl ⟨by kernel_rfl,by kernel_rfl,rfl⟩ trivial (ZD z ⟨⟨1,rfl⟩,trivial⟩) (R.xor32 (a:=d.2.2.1) (b:=g7) rfl rfl) rfl (JA.val ⟨by kernel_rfl,by kernel_rfl⟩ (ZG _) (i:=6) rfl ⟨by kernel_rfl,by kernel_rfl,rfl⟩ trivial (ZD z ⟨⟨1,rfl⟩,trivial⟩) (R.ixA 2 U141 S27 rfl rfl rfl) rfl (JA.one (i:=7) (by kernel_rfl) (JO.step rfl trivial rfl (λK hK=> ?_))))))
      refine Run.lnz [0] 2 ZB rfl (hK _ _ _ (ZD z ⟨⟨1,rfl⟩,trivial⟩) (Zs (by kernel_rfl) ?_))
      refine Run.nlz_s [0] 3 ZB rfl ?_
      obtain⟨n8,h1,hx⟩:=ZT hx
      refine ZX (vs:=[_,_]) (args:=[_,_]) (K:=[]) (rst:=[_,_]) E124 rfl rfl rfl ZM (mix_words_often_ok.doesX rfl trivial h1) rfl (λn9 o1 o2 h2 o3 o4=> ?_)
      obtain⟨rfl,rfl,rfl⟩:=h2
      refine Run.lnz_b [0] 3 ZB rfl ?_
      obtain rfl:=Option.some.inj hx
      refine ZC 1 rfl (ZC 1 rfl ?_)
      exact JN.rN ⟨g9,rfl,rfl,((b2.trans (b5.trans z)))⟩
     ·
      refine JO.step rfl trivial rfl (λK hK=> ?_)
      obtain⟨h3,h4,hx⟩:=ZT hx
      refine ZX (vs:=[_]) (args:=[_]) (K:=[]) (rst:=[_,_]) E123 rfl rfl rfl ZM (mix_number_ok.doesX rfl ⟨b7,trivial⟩ h4) rfl (λo5 o6 h5 h6 k o7=> ?_)
      obtain⟨rfl,rfl,-⟩:=h6
      refine ZN (hK _ _ _ (ZD k ⟨⟨1,rfl⟩,trivial⟩) (JA.one (i:=1) (by kernel_rfl) (JO.step rfl trivial rfl (λK hK=> ?_))))
      refine Run.lnz [0] 2 ZB rfl (hK _ _ _ (ZD k ⟨⟨1,rfl⟩,trivial⟩) (JA.val ⟨by kernel_rfl,by kernel_rfl⟩ (ZG _) (i:=5) rfl ⟨by kernel_rfl,by kernel_rfl,rfl⟩ trivial (ZD k ⟨⟨1,rfl⟩,trivial⟩) (R.xor32 (a:=d.2.2.1) (b:=h3) rfl rfl) rfl (JA.val ⟨by kernel_rfl,by kernel_rfl⟩ (ZG _) (i:=6) rfl ⟨by kernel_rfl,by kernel_rfl,rfl⟩ trivial (ZD k ⟨⟨1,rfl⟩,trivial⟩) (R.ixA 2 U141 S27 rfl rfl rfl) rfl (JA.one (i:=7) (by kernel_rfl) (JO.step rfl trivial rfl (λK hK=> ?_))))))
      refine Run.lnz [0] 2 ZB rfl (hK _ _ _ (ZD k ⟨⟨1,rfl⟩,trivial⟩) (Zs (by kernel_rfl) ?_))
      refine Run.nlz_s [0] 3 ZB rfl ?_
      obtain⟨o8,h7,hx⟩:=ZT hx
      refine ZX (vs:=[_,_]) (args:=[_,_]) (K:=[]) (rst:=[_,_]) E124 rfl rfl rfl ZM (mix_words_often_ok.doesX rfl trivial h7) rfl (λo9 p0 p1 h8 p2 p3=> ?_)
      obtain⟨rfl,rfl,rfl⟩:=h8
      refine Run.lnz_b [0] 3 ZB rfl ?_
      obtain rfl:=Option.some.inj hx
      refine ZC 1 rfl (ZC 1 rfl ?_)
      exact JN.rN ⟨h5,rfl,rfl,((b2.trans (b5.trans k)))⟩
    ·
     refine JC.draw (so:=[_]) 8 rfl Mixed ⟨⟨1,rfl⟩,trivial⟩ (JA.val ⟨by kernel_rfl,by kernel_rfl⟩ (ZG _) (i:=0) rfl ⟨by kernel_rfl,by kernel_rfl,rfl⟩ trivial (ZD (Hle.refl _) ⟨⟨1,rfl⟩,trivial⟩) (R.ixA 0 U141 S27 rfl rfl rfl) rfl (JA.val ⟨by kernel_rfl,by kernel_rfl⟩ (ZG _) (i:=2) rfl ⟨by kernel_rfl,by kernel_rfl,rfl⟩ trivial (ZD (Hle.refl _) ⟨⟨1,rfl⟩,trivial⟩) (Zd rfl) rfl ?_))
     obtain⟨p4,h9,b8,hx⟩:=slc_some hx
     obtain⟨p5,c9,h1v_48,h2v_48,h3v_48,b9⟩:=IsSlice.cutv c7 h9 b8
     refine JA.val ⟨by kernel_rfl,by kernel_rfl⟩ (ZG _) (i:=3) rfl ⟨by kernel_rfl,by kernel_rfl,rfl⟩ trivial (ZD (Hle.refl _) ⟨⟨1,rfl⟩,trivial⟩) (R.slc (cap:=c9) (a:=0) (b:=4) (c:=(c9:Int)) (m:=x) (R:=RU8) U26 S5 rfl rfl ⟨_,rfl⟩ (by obtain⟨ao,n,e,_⟩:=h1v_48;exact⟨ao,n,e,rfl⟩) ⟨b8.1,b8.2.1,h2v_48⟩ h3v_48 (.inl rfl)) rfl ?_
     obtain⟨p6,p7,rfl⟩:=IsSlice.val b9
     refine JA.two (i:=1) (j:=4) (by kernel_rfl) ?_ ?_
     ·
      refine JO.step rfl trivial rfl (λK hK=>Run.lnz [0] 2 ZB rfl (hK _ _ _ (ZD (Hle.refl _) ⟨⟨1,rfl⟩,trivial⟩) (JA.one (i:=4) (by kernel_rfl) (JO.step rfl trivial rfl (λK hK=> ?_)))))
      obtain⟨i0,i1,hx⟩:=ZT hx
      refine ZX (vs:=[_]) (args:=[_]) (K:=[]) (rst:=[_,_]) E123 rfl rfl rfl ZM (mix_number_ok.doesX rfl ⟨b9,trivial⟩ i1) rfl (λp8 p9 i2 i3 a0 q0=> ?_)
      obtain⟨rfl,rfl,-⟩:=i3
      refine ZN (hK _ _ _ (ZD a0 ⟨⟨1,rfl⟩,trivial⟩) (JA.val ⟨by kernel_rfl,by kernel_rfl⟩ (ZG _) (i:=5) rfl ⟨by kernel_rfl,by kernel_rfl,rfl⟩ trivial (ZD a0 ⟨⟨1,rfl⟩,trivial⟩) (R.xor32 (a:=d.1) (b:=i0) rfl rfl) rfl (JA.val ⟨by kernel_rfl,by kernel_rfl⟩ (ZG _) (i:=6) rfl ⟨by kernel_rfl,by kernel_rfl,rfl⟩ trivial (ZD a0 ⟨⟨1,rfl⟩,trivial⟩) (R.ixA 0 U141 S27 rfl rfl rfl) rfl (JA.one (i:=7) (by kernel_rfl) (JO.step rfl trivial rfl (λK hK=> ?_))))))
      refine Run.lnz [0] 2 ZB rfl (hK _ _ _ (ZD a0 ⟨⟨1,rfl⟩,trivial⟩) (Zs (by kernel_rfl) ?_))
      obtain rfl:=Option.some.inj hx
      refine ZC 1 rfl (ZC 1 rfl ?_)
      exact ZE ⟨i2,rfl,rfl,rfl,(a0)⟩ rfl rfl rfl
     ·
      refine JO.step rfl trivial rfl (λK hK=> ?_)
      obtain⟨i4,i5,hx⟩:=ZT hx
      refine ZX (vs:=[_]) (args:=[_]) (K:=[]) (rst:=[_,_]) E123 rfl rfl rfl ZM (mix_number_ok.doesX rfl ⟨b9,trivial⟩ i5) rfl (λq1 q2 i6 i7 q q3=> ?_)
      obtain⟨rfl,rfl,-⟩:=i7
      refine ZN (hK _ _ _ (ZD q ⟨⟨1,rfl⟩,trivial⟩) (JA.one (i:=1) (by kernel_rfl) (JO.step rfl trivial rfl (λK hK=> ?_))))
      refine Run.lnz [0] 2 ZB rfl (hK _ _ _ (ZD q ⟨⟨1,rfl⟩,trivial⟩) (JA.val ⟨by kernel_rfl,by kernel_rfl⟩ (ZG _) (i:=5) rfl ⟨by kernel_rfl,by kernel_rfl,rfl⟩ trivial (ZD q ⟨⟨1,rfl⟩,trivial⟩) (R.xor32 (a:=d.1) (b:=i4) rfl rfl) rfl (JA.val ⟨by kernel_rfl,by kernel_rfl⟩ (ZG _) (i:=6) rfl ⟨by kernel_rfl,by kernel_rfl,rfl⟩ trivial (ZD q ⟨⟨1,rfl⟩,trivial⟩) (R.ixA 0 U141 S27 rfl rfl rfl) rfl (JA.one (i:=7) (by kernel_rfl) (JO.step rfl trivial rfl (λK hK=> ?_))))))
      refine Run.lnz [0] 2 ZB rfl (hK _ _ _ (ZD q ⟨⟨1,rfl⟩,trivial⟩) (Zs (by kernel_rfl) ?_))
      obtain rfl:=Option.some.inj hx
      refine ZC 1 rfl (ZC 1 rfl ?_)
      exact ZE ⟨i6,rfl,rfl,rfl,(q)⟩ rfl rfl rfl
  ·
   rintro i8 d o g q4 htt ⟨v,rfl,rfl,b2⟩ hle2
   subst htt;simp only[Sum.elim_inl]at hx
   refine Run.nl_bs [] 4 ZB rfl (ZA rfl rfl (R.ixA 1 U141 S27 rfl rfl rfl) (Run.llz [1] 2 ZB rfl (ZA rfl rfl (ZQ U26 rfl (IsSlice.long c1)) (ZA rfl rfl (R.cv_i64_u32 U3 U27 rfl) (ZA rfl rfl (R.xor32 (a:=d.2.1) (b:=u32i (a1.length:Int)) rfl rfl) (ZA rfl rfl (R.ixA 1 U141 S27 rfl rfl rfl) (Run.ll_s [1,1] 6 ZB rfl (ZK hx E124 rfl mix_words_often_ok rfl trivial ?_))))))))
   intro q5 q6 hx
   refine Run.lnz_s [2] 4 ZB rfl ?_
   exact JN.conCM (own2:=[_,_]) [i8] [1] [] ZB (ZO 0 rfl ZM) ⟨rfl,rfl,rfl,rfl⟩ rfl rfl hx rfl rfl
  ·
   rintro D c e o g hD htt hX;exact hX.elim
 ·
  refine JC.block (JC.forget 1 (ZS 1 rfl (ZS 2 rfl (ZS 2 rfl (ZZ [0,2,3] [1,2] rfl rfl (λl0 o0 d0 l o g=>∃a2:Option Addr,∃a3:Nat,∃a4:Nat,∃a5:Own,l=(4,.slice a2 a3 a4)::l0∧o=a5::o0∧f=g∧RowOf (New H f) RU8 w.heap.size 5 1 (.slice a2 a3 a4) d0 a5) hx ⟨f2,e8.length,f3,f1,rfl,rfl,rfl,c4⟩ rfl ?_)))))
  ·
   rintro q7 d0 _ _ _ ⟨a2,a3,a4,a5,rfl,rfl,rfl,c0⟩ q8 hx d1
   unfold mix_four_l1 at hx
   refine Run.cl [] 4 ZB rfl (ZA rfl rfl (ZQ U26 rfl (RowOf.long c0)) (ZA rfl rfl (R.rem_i rfl rfl (by decide)) ?_))
   refine Run.lcz_s [] 3 ZB rfl (ZJ hx rfl (λi9 hx=> ?_) (λi9 hx=> ?_))
   ·
    refine Run.cl_s [] 5 ZB rfl (Zt (HF:=(New H f)) (R:=RU8) (ls:=[(0:UInt8)]) (vs:=[.int .u8 ((0:UInt8).toNat:Int)]) U26 I5 rfl rfl (⟨_,_,rfl,rfl,rfl,rfl⟩) RU8.one rfl rfl rfl (by simp[maxLen]) rfl (λq9 r0 d2=> ?_))
    obtain⟨r1,r2,rfl⟩:=RowOf.val d2
    obtain⟨d3,j0,j1,hx⟩:=Zc hx
    refine Zk (HF:=(New H f)) 1 U26 I5 rfl rfl c0 rfl (SrcF.row 0 U26 rfl d2) j0 j1 rfl (Nat.le_refl _) rfl (λr3 j2 d4=> ?_)
    obtain⟨j3,j4,rfl⟩:=RowOf.val d4
    refine Run.lnz_b [] 3 ZB rfl ?_
    replace hx:=ZU d1 hx
    refine JN.forget 0 (ZC 2 rfl (ZC 2 rfl (ZC 2 rfl ?_)))
    exact ZE ⟨d3,⟨j3,d3.length,j4,j2,rfl,rfl,rfl,d4⟩,hx⟩ rfl rfl rfl
   ·
    refine Run.cnz_k [] 2 ZB rfl ?_
    obtain rfl:=ZP d1 hx
    refine Run.nnz_kb [] 2 ZB rfl (ZC 2 rfl (ZC 2 rfl (ZC 2 rfl ?_)))
    exact ZE ⟨a2,a3,a4,a5,rfl,rfl,rfl,c0⟩ rfl rfl rfl
theorem mix_Sum_ok{a}:Con Tryz.prog 76 false ([.sl false RU8 1 a]) (mix_Sum a) (λr=> [.w32 r]):=by
 intro H c d f b r hx
 refine Does.enterC Tryz.func76 rfl rfl ?_
 intro w
 unfold mix_Sum at hx
 refine Run.cl [] 8 ZB rfl (JL.con hx E100 rfl mix_four_ok rfl ⟨b,trivial⟩ ?_)
 intro h i hx j k
 refine ZA rfl rfl (R.idxAk 0 U141 S27 rfl rfl rfl rfl rfl) (Run.lnz_s [] 4 ZB rfl ?_)
 exact JN.con [] rfl hx rfl rfl
theorem store_put_ok{b a a0}:Con Tryz.prog 68 false (sp_Store false b++sp_Ptr false a++ [.sl false RU8 1 a0]) (store_put b a a0) (λr=> [.st 5,.sl true (RSl RU8 1) 1 r.1.Disk.Blocks,.row true R_Write 78 2 r.1.Disk.Waits,.row true RU8 5 1 r.1.Space,.w32 r.1.Epoch,.w32 r.1.Count]++sp_Ptr true r.2.1++ [.i r.2.2]):=by
 intro H a9 b0 b1 b2 b3 b4 b5 b6 b7 b8 b9 c0 a1 a2 a3 a4 r hx
 refine Does.enterC Tryz.func68 rfl rfl ?_
 intro w
 unfold store_put at hx
 refine Run.cl [] 2 ZB rfl (ZY rfl rfl (λc1 c8=>ZY rfl rfl (λc c9=>JL.alloc Z29 rfl (λd d0=>JL.alloc Z32 rfl (λf d1=>Run.ll_s [3] 8 ZB rfl (ZK hx E92 rfl space_Take_ok rfl ⟨c0,trivial⟩ ?_))))))
 intro h d2 hx j k m a5 c2
 refine Run.lcz_s [2,3] 17 ZB rfl (ZJ hx rfl (λc3 hx=> ?_) (λc3 hx=> ?_))
 ·
  refine Run.cnz_k [2,1] 12 ZB rfl (ZL (ZL ?_))
  exact Zm [4,3] [0,0] ZB rfl hx rfl ⟨IsSlice.nil _ _ _,⟨0,ZF _ _ _ _ _⟩,⟨0,ZF _ _ _ _ _⟩,rfl⟩
 ·
  refine Run.cl_s [4,3] 10 ZB rfl (JL.con hx E93 rfl dev_Write_ok rfl ⟨b2,b6,a4,trivial⟩ ?_)
  intro a6 d3 hx d4 a7 p q s c4 v x y a8 c5
  refine Run.lcz_s [3] 14 ZB rfl (ZJ hx rfl (λc6 hx=> ?_) (λc6 hx=> ?_))
  ·
   refine Run.cnz_k [3,2] 12 ZB rfl (ZL (ZL ?_))
   exact Zm [5,4] [0,0] ZB rfl hx rfl ⟨IsSlice.nil _ _ _,⟨0,ZF _ _ _ _ _⟩,⟨0,ZF _ _ _ _ _⟩,rfl⟩
  ·
   refine Run.cc_s [] 3 ZB rfl (Zn (so:=[(_,[]),(_,[]),(_,[]),(_,[5,7]),(_,[]),(_,[])]) 8 rfl Mixed ⟨by kernel_rfl,by kernel_rfl⟩ (Zb [0,1,2,3,4,5] rfl) ?_)
   refine JB.run 5 [0,1,2,3,4] [4,4] ZB rfl ?_
   refine JB.one (i:=5) (by kernel_rfl) ?_
   refine JOB.step rfl trivial rfl (λK hK=>Run.lnz [3] 2 ZB rfl (hK _ _ _ (Hle.refl _) (Zu [false,false,false,true,false,false] [0,1,2,0,4,5] (by kernel_rfl) rfl) ?_))
   refine JB.val (i:=6) [] rfl (R.fa F29_3 rfl) ?_
   refine JB.one (i:=7) (by kernel_rfl) ?_
   refine JOB.step rfl trivial rfl (λK hK=>Run.lnz [3] 2 ZB rfl (hK _ _ _ (Hle.refl _) (Zu [false,false,false,true,false,false] [0,1,2,0,4,5] (by kernel_rfl) rfl) ?_))
   refine JB.doneN (by kernel_rfl) ?_
   refine JN.next (JC.tidy (l':=[(2,.slice a1 a2 a3),(4,.pointer (some ⟨c,0,none⟩)),(6,.pointer (some ⟨d,0,none⟩)),(7,.pointer (some ⟨f,0,none⟩)),(8,.int .i64 a6.2)]) (own':=[a8,a5,[(f,.cells #[.int .i64 0,.int .u32 ((0:UInt32).toNat:Int),.int .u32 ((0:UInt32).toNat:Int),.int .u32 ((0:UInt32).toNat:Int),.int .u32 ((0:UInt32).toNat:Int)] 32 (0,0))],[(d,.cells #[.slice p q s,.slice v x y,.slice j k m,.int .u32 (b.Epoch.toNat:Int),.int .u32 (b.Count.toNat:Int)] 29 (0,0))],[(c,.cells #[.int .i64 h.2.1,.int .u32 (a.Birth.toNat:Int),.int .u32 (a.Iv.toNat:Int),.int .u32 (a.Tag.toNat:Int),.int .u32 (a.Sum.toNat:Int)] 32 (0,0))],[(c1,.cells #[.slice a9 b0 b1,.slice b3 b4 b5,.slice b7 b8 b9,.int .u32 (b.Epoch.toNat:Int),.int .u32 (b.Count.toNat:Int)] 29 (0,0))]]) ⟨rfl,rfl,rfl,rfl,rfl,trivial⟩ rfl (JC.tidyP (l':=[(2,.slice a1 a2 a3),(4,.pointer (some ⟨c,0,none⟩)),(6,.pointer (some ⟨d,0,none⟩)),(7,.pointer (some ⟨f,0,none⟩)),(8,.int .i64 a6.2)]) (own':=[a8,a5,[(f,.cells #[.int .i64 0,.int .u32 ((0:UInt32).toNat:Int),.int .u32 ((0:UInt32).toNat:Int),.int .u32 ((0:UInt32).toNat:Int),.int .u32 ((0:UInt32).toNat:Int)] 32 (0,0))],[(d,.cells #[.slice p q s,.slice v x y,.slice j k m,.int .u32 (b.Epoch.toNat:Int),.int .u32 (b.Count.toNat:Int)] 29 (0,0))],[(c,.cells #[.int .i64 h.2.1,.int .u32 (a.Birth.toNat:Int),.int .u32 (a.Iv.toNat:Int),.int .u32 (a.Tag.toNat:Int),.int .u32 (a.Sum.toNat:Int)] 32 (0,0))]]) (rst:=[_]) ⟨rfl,rfl,rfl,rfl,rfl,trivial⟩ (ZO 0 rfl (ZO 0 rfl (ZO 0 rfl (ZO 0 rfl (ZO 0 rfl ZM))))) (Run.cl [] 3 ZB rfl (JL.con hx E76 rfl mix_Sum_ok rfl ⟨(a4.mono RU8.mono a7),trivial⟩ ?_))))
   intro c7 d5 hx d6 z
   refine Run.lc_s [4] 5 ZB rfl (Zn (so:=[(_,[]),(_,[]),(_,[3]),(_,[2]),(_,[])]) 5 rfl Mixed ⟨by kernel_rfl,by kernel_rfl⟩ (Zb [0,1,2,3,4] rfl) ?_)
   refine JB.val (i:=0) [2] rfl (R.ldoN 2 (vs:=[.slice p q s,.slice v x y,.slice j k m,.int .u32 (b.Epoch.toNat:Int),.int .u32 (b.Count.toNat:Int)]) S29 rfl rfl rfl rfl) ?_
   refine JB.val (i:=1) [] rfl (R.ldoN 2 (vs:=[.int .i64 h.2.1,.int .u32 (a.Birth.toNat:Int),.int .u32 (a.Iv.toNat:Int),.int .u32 (a.Tag.toNat:Int),.int .u32 (c7.toNat:Int)]) S32 rfl rfl rfl rfl) ?_
   refine JB.one (i:=2) (by kernel_rfl) ?_
   refine JOB.step rfl trivial rfl (λK hK=>Run.lnz [3] 2 ZB rfl (hK _ _ _ (Hle.refl _) (Zu [false,false,false,true,false] [0,1,2,0,4] (by kernel_rfl) rfl) ?_))
   refine JB.one (i:=3) (by kernel_rfl) ?_
   refine JOB.step rfl trivial rfl (λK hK=>Run.lnz [2] 2 ZB rfl (hK _ _ _ (Hle.refl _) (Zu [false,false,true,true,false] [0,1,0,0,4] (by kernel_rfl) rfl) ?_))
   refine JB.val (i:=4) [] rfl (R.assign rfl) ?_
   refine JB.doneN (by kernel_rfl) ?_
   refine Run.nnz_s [] 2 ZB rfl ?_
   exact Zm [3,2] [0,0] ZB rfl hx rfl ⟨(c4.mono (RSl.mono RU8.mono) (New.mono z)),⟨_,(c5.mono R_Write.mono (New.mono z))⟩,⟨_,(c2.mono RU8.mono (New.mono (a7.trans z)))⟩,rfl⟩
theorem store_Raw_ok{c d f h b}:Con Tryz.prog 44 false (sp_Store false c++ [.w32 d,.w32 f,.w32 h,.sl false RU8 1 b]) (store_Raw c d f h b) (λr=> [.st 5,.sl true (RSl RU8 1) 1 r.1.Disk.Blocks,.row true R_Write 78 2 r.1.Disk.Waits,.row true RU8 5 1 r.1.Space,.w32 r.1.Epoch,.w32 r.1.Count]++sp_Ptr true r.2.1++ [.i r.2.2]):=by
 intro H a3 a4 a5 j a6 a7 a8 k a9 b0 b1 m s v x p r hx
 refine Does.enterC Tryz.func44 rfl rfl ?_
 intro w
 unfold store_Raw at hx
 refine Run.cl [] 2 ZB rfl (ZY rfl rfl (λb2 b3=>JL.alloc Z29 rfl (λb4 b5=>JL.alloc Z32 rfl (λb6 b7=>Run.ll_s [2] 9 ZB rfl (Zt (HF:=H) (R:=(RSl RU8 1)) (ls:=[b]) (vs:=[.slice s v x]) U22 I26 rfl rfl (⟨_,_,rfl,rfl,⟨_,rfl,p⟩,rfl⟩) RSl.one rfl rfl rfl (by simp[maxLen]) rfl (λb8 b9 q=> ?_))))))
 obtain⟨c0,c1,rfl⟩:=RowOf.val q
 refine JL.conL hx E67 rfl store_asked_ok rfl (λc2 a y=>⟨(IsSlice.mono (RSl.mono RU8.mono) a j),(IsSlice.mono R_Write.mono a k),(IsSlice.mono RU8.mono a m),(Lent.row' 0 y (RSl.mono RU8.mono) a rfl q),trivial⟩) (λ_=>trivial) ?_
 intro c3 c4 hx
 refine Run.lcz_s [] 9 ZB rfl (ZJ hx rfl (λz hx=> ?_) (λz hx=> ?_))
 ·
  refine Run.cnz_k [] 2 ZB rfl (ZL (ZL ?_))
  exact Zm [4,3] [0,0] ZB rfl hx rfl ⟨IsSlice.nil _ _ _,⟨0,ZF _ _ _ _ _⟩,⟨0,ZF _ _ _ _ _⟩,rfl⟩
 ·
  refine Run.cl_s [3] 10 ZB rfl (JL.con hx E68 rfl store_put_ok rfl ⟨j,k,m,p,trivial⟩ ?_)
  intro c5 c6 hx c7 c8 c9 d0 d1 a0 d2 d3 d4 d5 a1 d6 d7 d8 d9 a2
  refine Run.lnz_s [4,3] 9 ZB rfl ?_
  exact Zm [4,3] [0,0] ZB rfl hx rfl ⟨a0,⟨_,a1⟩,⟨_,a2⟩,rfl⟩
theorem store_Lay_ok{a b c}:Con Tryz.prog 24 false (sp_Store false a++ [.w32 b,.sl false RU8 1 c]) (store_Lay a b c) (λr=> [.st 5,.sl true (RSl RU8 1) 1 r.1.Disk.Blocks,.row true R_Write 78 2 r.1.Disk.Waits,.row true RU8 5 1 r.1.Space,.w32 r.1.Epoch,.w32 r.1.Count]++sp_Ptr true r.2.1++ [.i r.2.2]):=by
 intro H q s v d x y z f a0 a1 a2 h a3 a4 a5 j r hx
 refine Does.enterC Tryz.func24 rfl rfl ?_
 intro w
 unfold store_Lay at hx
 refine Run.cl [] 2 ZB rfl (ZY rfl rfl (λa6 a7=>JL.alloc Z29 rfl (λa8 a9=>JL.alloc Z32 rfl (λb0 b1=>Run.ll_s [2] 8 ZB rfl (JL.con hx E44 rfl store_Raw_ok rfl ⟨d,f,h,j,trivial⟩ ?_)))))
 intro b2 b3 hx b4 b5 b6 b7 b8 k b9 c0 c1 c2 m c3 c4 c5 c6 p
 refine Run.lnz_s [3,2] 9 ZB rfl ?_
 exact Zm [3,2] [0,0] ZB rfl hx rfl ⟨k,⟨_,m⟩,⟨_,p⟩,rfl⟩
theorem dead_Lay_1_ok (b3:List Ptr)(b:Store)(v:UInt32)(a:Ptr)(x:Int)(b4:List Int)(H:Heaplet){y:Option Addr}{z:Nat}{a0:Nat}{c:Nat}{a1:Option Addr}{a2:Nat}{a3:Nat}{a4:Option Addr}{a5:Nat}{a6:Nat}{a7:Option Addr}{a8:Nat}{a9:Nat}{d:Nat}{f:Nat}{h:Nat}{i:Nat}{j:Option Addr}{k:Nat}{m:Nat}{q:Own}(d2:IsSlice H R_Ptr 5 (.slice y z a0) b3)(d3:IsSlice H (RSl RU8 1) 1 (.slice a1 a2 a3) b.Disk.Blocks)(d4:IsSlice H R_Write 2 (.slice a4 a5 a6) b.Disk.Waits)(d5:IsSlice H RU8 1 (.slice a7 a8 a9) b.Space)(b0:RowOf H RInt 0 3 1 (.slice j k m) b4 q)(r:Store×UInt32×Ptr×Int×List Int)(hx:dead_Lay_1 b3 b v a x b4=some r):
  Does Tryz.prog 22 #[.slice y z a0,.pointer (some ⟨c,0,none⟩),.pointer (some ⟨d,0,none⟩),.pointer (some ⟨f,0,none⟩),.pointer (some ⟨h,0,none⟩),.pointer (some ⟨i,0,none⟩)] [[(c,.cells #[.slice a1 a2 a3,.slice a4 a5 a6,.slice a7 a8 a9,.int .u32 (b.Epoch.toNat:Int),.int .u32 (b.Count.toNat:Int)] 29 (0,0))],[(d,.cells #[.int .u32 (v.toNat:Int)] 27 (0,0))],[(f,.cells #[.int .i64 a.At,.int .u32 (a.Birth.toNat:Int),.int .u32 (a.Iv.toNat:Int),.int .u32 (a.Tag.toNat:Int),.int .u32 (a.Sum.toNat:Int)] 32 (0,0))],[(h,.cells #[.int .i64 x] 36 (0,0))],[(i,.cells #[.slice j k m] 35 (0,0))],q] H (λu K' H'=>∃ao0:Option Addr,∃n0:Nat,∃cap0:Nat,∃ao1:Option Addr,∃n1:Nat,∃cap1:Nat,∃K1:Own,∃ao2:Option Addr,∃n2:Nat,∃cap2:Nat,∃K2:Own,∃ao3:Option Addr,∃n3:Nat,∃cap3:Nat,∃K3:Own,u=.tuple #[]∧K'= [[(c,.cells #[.slice ao0 n0 cap0,.slice ao1 n1 cap1,.slice ao2 n2 cap2,.int .u32 (r.1.Epoch.toNat:Int),.int .u32 (r.1.Count.toNat:Int)] 29 (0,0))],K1,K2,[(d,.cells #[.int .u32 (r.2.1.toNat:Int)] 27 (0,0))],[(f,.cells #[.int .i64 r.2.2.1.At,.int .u32 (r.2.2.1.Birth.toNat:Int),.int .u32 (r.2.2.1.Iv.toNat:Int),.int .u32 (r.2.2.1.Tag.toNat:Int),.int .u32 (r.2.2.1.Sum.toNat:Int)] 32 (0,0))],[(h,.cells #[.int .i64 r.2.2.2.1] 36 (0,0))],[(i,.cells #[.slice ao3 n3 cap3] 35 (0,0))],K3]∧IsSlice (New H H') (RSl RU8 1) 1 (.slice ao0 n0 cap0) r.1.Disk.Blocks∧RowOf (New H H') R_Write 0 78 2 (.slice ao1 n1 cap1) r.1.Disk.Waits K1∧(∀p∈K1,p.1∉ids (List.flatten [[(c,.cells #[.slice a1 a2 a3,.slice a4 a5 a6,.slice a7 a8 a9,.int .u32 (b.Epoch.toNat:Int),.int .u32 (b.Count.toNat:Int)] 29 (0,0))],[(d,.cells #[.int .u32 (v.toNat:Int)] 27 (0,0))],[(f,.cells #[.int .i64 a.At,.int .u32 (a.Birth.toNat:Int),.int .u32 (a.Iv.toNat:Int),.int .u32 (a.Tag.toNat:Int),.int .u32 (a.Sum.toNat:Int)] 32 (0,0))],[(h,.cells #[.int .i64 x] 36 (0,0))],[(i,.cells #[.slice j k m] 35 (0,0))],q]))∧RowOf (New H H') RU8 0 5 1 (.slice ao2 n2 cap2) r.1.Space K2∧(∀p∈K2,p.1∉ids (List.flatten [[(c,.cells #[.slice a1 a2 a3,.slice a4 a5 a6,.slice a7 a8 a9,.int .u32 (b.Epoch.toNat:Int),.int .u32 (b.Count.toNat:Int)] 29 (0,0))],[(d,.cells #[.int .u32 (v.toNat:Int)] 27 (0,0))],[(f,.cells #[.int .i64 a.At,.int .u32 (a.Birth.toNat:Int),.int .u32 (a.Iv.toNat:Int),.int .u32 (a.Tag.toNat:Int),.int .u32 (a.Sum.toNat:Int)] 32 (0,0))],[(h,.cells #[.int .i64 x] 36 (0,0))],[(i,.cells #[.slice j k m] 35 (0,0))],q]))∧RowOf (New H H') RInt 0 3 1 (.slice ao3 n3 cap3) r.2.2.2.2 K3∧True):=by
 refine Does.enterL (vs:=[.slice y z a0,.pointer (some ⟨c,0,none⟩),.pointer (some ⟨d,0,none⟩),.pointer (some ⟨f,0,none⟩),.pointer (some ⟨h,0,none⟩),.pointer (some ⟨i,0,none⟩)]) (l:=[(0,.slice y z a0),(1,.pointer (some ⟨c,0,none⟩)),(2,.pointer (some ⟨d,0,none⟩)),(3,.pointer (some ⟨f,0,none⟩)),(4,.pointer (some ⟨h,0,none⟩)),(5,.pointer (some ⟨i,0,none⟩))]) Tryz.func22 rfl rfl ⟨rfl,rfl,rfl,rfl,rfl,rfl,trivial⟩ (λw hlt=> ?_)
 replace b0:=Zh (H2:=New H H) RInt.const b0
 unfold dead_Lay_1 at hx
 refine Run.cl [] 3 ZB rfl (ZK hx E23 rfl ptr_Row_ok rfl ⟨d2,trivial⟩ ?_)
 intro e5 e6 hx e7 e8 e9 f0 d6
 refine Run.ll_s [1,2] 12 ZB rfl (JL.pubN 0 RU8.mono rfl d6 (Nat.le_refl _) (λf1 s d7=>JL.forget 0 (JL.con hx E24 rfl store_Lay_ok rfl ⟨(d3.mono (RSl.mono RU8.mono) s),(d4.mono R_Write.mono s),(d5.mono RU8.mono s),(d7.old RU8.mono),trivial⟩ ?_)))
 intro b5 f2 hx b6 b7 b8 b9 c0 c1 c2 c3 c4 c5 b1 c6 c7 c8 c9 b2
 refine Run.lcz_s [2,4,5,5] 15 ZB rfl (ZJ hx rfl (λd8 hx=> ?_) (λd8 hx=> ?_))
 ·
  refine Run.clz [6,4] 4 ZB rfl (Zt (HF:=(New H b6)) (R:=RInt) (ls:=[b5.2.1.At]) (vs:=[.int .i64 b5.2.1.At]) U35 I3 rfl rfl (⟨_,_,rfl,rfl,rfl,rfl⟩) RInt.one rfl rfl rfl (by simp[maxLen]) rfl (λf3 f4 d0=> ?_))
  obtain⟨f5,f6,rfl⟩:=RowOf.val d0
  obtain⟨d9,e0,e1,hx⟩:=Zc hx
  refine Zk (HF:=(New H b6)) 8 U35 I3 rfl rfl (b0.mono RInt.mono (New.mono (s.trans b7))) rfl (SrcF.row 0 U35 rfl d0) e0 e1 rfl (Nat.zero_le _) rfl (λf7 e2 d1=> ?_)
  obtain⟨e3,e4,rfl⟩:=RowOf.val d1
  refine Run.lnz [7] 2 ZB rfl (Zj (vs:=[]) (K:=[_,_,_,_,_,_,_,_]) (rst:=[_]) (.inr rfl) rfl rfl rfl (ZO 3 rfl (ZO 1 rfl (ZO 1 rfl (ZO 1 rfl (ZO 1 rfl (ZO 1 rfl (ZO 1 rfl (ZO 1 rfl ZM)))))))) ?_)
  obtain rfl:=Option.some.inj hx
  exact⟨b8,b9,c0,c2,c3,c4,c5,c6,c7,c8,c9,e3,d9.length,e4,e2,rfl,rfl,c1,(Zo (Nat.zero_le _) b1),(new_ids b1 hlt),(Zo (Nat.zero_le _) b2),(new_ids b2 hlt),(Zo (Nat.zero_le _) d1),trivial⟩
 ·
  refine JC.skip (Zj (vs:=[]) (K:=[_,_,_,_,_,_,_,_]) (rst:=[]) (.inr rfl) rfl rfl rfl (ZO 2 rfl (ZO 0 rfl (ZO 0 rfl (ZO 0 rfl (ZO 0 rfl (ZO 0 rfl (ZO 0 rfl (ZO 0 rfl ZM)))))))) ?_)
  obtain rfl:=Option.some.inj hx
  exact⟨b8,b9,c0,c2,c3,c4,c5,c6,c7,c8,c9,j,k,m,q,rfl,rfl,c1,(Zo (Nat.zero_le _) b1),(new_ids b1 hlt),(Zo (Nat.zero_le _) b2),(new_ids b2 hlt),(Zo (Nat.zero_le _) (b0.mono RInt.mono (New.mono (s.trans b7)))),trivial⟩
theorem dead_Lay_v2_ok{a3 z a4}:Con Tryz.prog 7 false (sp_Store false a3++ [.w32 z,.sl false R_Ptr 5 a4]) (dead_Lay_v2 a3 z a4) (λr=> [.st 5,.sl true (RSl RU8 1) 1 r.1.Disk.Blocks,.row true R_Write 78 2 r.1.Disk.Waits,.row true RU8 5 1 r.1.Space,.w32 r.1.Epoch,.w32 r.1.Count]++sp_Ptr true r.2.1++ [.row true RInt 3 1 r.2.2.1,.i r.2.2.2]):=by
 intro H g4 g5 g6 c7 g7 g8 g9 c8 h0 h1 h2 c9 n4 n5 n6 a5 r hx
 refine Does.enterMC Tryz.func7 rfl rfl ?_
 intro w
 unfold dead_Lay_v2 at hx
 refine Run.cl [] 2 ZB rfl (ZY rfl rfl (λd0 n7=>ZY rfl rfl (λf4 n8=>JL.alloc Z29 rfl (λd1 n9=>JL.alloc Z32 rfl (λa6 o0=>JL.alloc Z35 rfl (λa7 o1=>JL.alloc Z36 rfl (λa8 o2=>Run.ll_s [5] 6 ZB rfl (ZK hx E19 rfl store_Check_ok rfl ⟨c7,c8,c9,trivial⟩ ?_))))))))
 intro o3 o4 hx
 refine Run.llz [] 2 ZB rfl (Zi 16 hx rfl (λh3 hx=> ?_) (λh3 hx=> ?_))
 ·
  refine Run.lnz_sk [3,2,1,0] 19 ZB rfl (ZL (ZL (ZL ?_)))
  exact JN.conCM (own2:=[_,_,_,_,_,_,_,_,_]) [] [6,5,4,3] [0,0,0] ZB ZM ⟨rfl,rfl,rfl,rfl⟩ rfl rfl hx rfl ⟨IsSlice.nil _ _ _,⟨0,ZF _ _ _ _ _⟩,⟨0,ZF _ _ _ _ _⟩,⟨0,ZF _ _ _ _ _⟩,rfl⟩
 ·
  refine Run.llz [] 3 ZB rfl (ZK hx E20 rfl dead_Check_ok rfl ⟨a5,trivial⟩ ?_)
  intro o5 o6 hx
  refine Run.lcz_s [] 5 ZB rfl (ZJ hx rfl (λh4 hx=> ?_) (λh4 hx=> ?_))
  ·
   refine Run.cnz_k [3,2,1,0] 12 ZB rfl (ZL (ZL (ZL ?_)))
   exact JN.conCM (own2:=[_,_,_,_,_,_,_,_,_]) [] [6,5,4,3] [0,0,0] ZB ZM ⟨rfl,rfl,rfl,rfl⟩ rfl rfl hx rfl ⟨IsSlice.nil _ _ _,⟨0,ZF _ _ _ _ _⟩,⟨0,ZF _ _ _ _ _⟩,⟨0,ZF _ _ _ _ _⟩,rfl⟩
  ·
   refine Run.cl_s [4] 6 ZB rfl (ZA rfl rfl (R.lss32 (a:=z) (b:=(1:UInt32)) rfl rfl) (ZA rfl rfl (Zd rfl) (Zi 25 hx rfl (λh5 hx=> ?_) (λh5 hx=> ?_))))
   ·
    refine Run.lnz_sk [3,2,1,0] 18 ZB rfl (ZL (ZL (ZL ?_)))
    exact JN.conCM (own2:=[_,_,_,_,_,_,_,_,_]) [] [6,5,4,3] [0,0,0] ZB ZM ⟨rfl,rfl,rfl,rfl⟩ rfl rfl hx rfl ⟨IsSlice.nil _ _ _,⟨0,ZF _ _ _ _ _⟩,⟨0,ZF _ _ _ _ _⟩,⟨0,ZF _ _ _ _ _⟩,rfl⟩
   ·
    refine Run.llz [4] 3 ZB rfl (ZA rfl rfl (R.gtr32 (a:=z) (b:=(16777215:UInt32)) rfl rfl) (Run.lcz_s [] 3 ZB rfl (ZJ hx rfl (λh6 hx=> ?_) (λh6 hx=> ?_))))
    ·
     refine Run.cnz_k [3,2,1,0] 12 ZB rfl (ZL (ZL (ZL ?_)))
     exact JN.conCM (own2:=[_,_,_,_,_,_,_,_,_]) [] [6,5,4,3] [0,0,0] ZB ZM ⟨rfl,rfl,rfl,rfl⟩ rfl rfl hx rfl ⟨IsSlice.nil _ _ _,⟨0,ZF _ _ _ _ _⟩,⟨0,ZF _ _ _ _ _⟩,⟨0,ZF _ _ _ _ _⟩,rfl⟩
    ·
     refine Run.cl_s [] 6 ZB rfl (ZA rfl rfl (ZQ U30 rfl (IsSlice.long a5)) (Run.lcz_s [] 3 ZB rfl (ZJ hx rfl (λh7 hx=> ?_) (λh7 hx=> ?_))))
     ·
      refine Run.cl [5] 3 ZB rfl ?_
      obtain⟨o7,h8,hx⟩:=ZT hx
      refine ZX (vs:=[_]) (args:=[_]) (K:=[]) (rst:=[_,_,_,_,_,_]) E21 rfl rfl rfl ZM (store_Twin_ok a3 _ c7 c8 c9 _ h8) rfl (λo8 o9 h9 i0 p0 d2=> ?_)
      obtain⟨p1,p2,p3,p4,p5,p6,p7,p8,p9,q0,q1,q2,rfl,rfl,d3,i1,d4,i2,d5,i3,-⟩:=i0
      replace d3:=(Pcs.base d3 (λp hp=>(d2 p (Ze 0 rfl hp)).resolve_left (i1 p hp)))
      replace d4:=(RowOf.base (RowOf.mono R_Write.mono (New.call (Hle.refl _)) d4) (λp hp=>(d2 p (Ze 1 rfl hp)).resolve_left (i2 p hp)))
      replace d5:=(RowOf.base (Zh (H2:=New H h9) RU8.const d5) (λp hp=>(d2 p (Ze 2 rfl hp)).resolve_left (i3 p hp)))
      refine Run.lnz_sk [6,5,4,3] 9 ZB rfl (JN.pubPcs 0 rfl d3 (Nat.le_refl _) (λq3 f5 i4=>JN.forget 0 (ZL ?_)))
      exact JN.conCM (own2:=[_,_,_,_,_,_,_,_,_]) [] [6,5,4,3] [1,1,0] ZB ZM ⟨rfl,rfl,rfl,rfl⟩ rfl rfl hx rfl ⟨i4,⟨_,(d4.mono R_Write.mono (New.mono f5))⟩,⟨_,(d5.mono RU8.mono (New.mono f5))⟩,⟨0,ZF _ _ _ _ _⟩,rfl⟩
     ·
      refine Run.cl_s [] 5 ZB rfl (JL.alloc Z60 rfl (λf6 q4=>Run.ll_s [0] 5 ZB rfl (JL.alloc Z30 rfl (λf7 q5=>Run.ll_s [] 6 ZB rfl ?_))))
      obtain⟨q6,i5,hx⟩:=ZT hx
      refine ZX (vs:=[_,_]) (args:=[_,_]) (K:=[]) (rst:=[_,_,_,_,_,_,_,_]) E25 rfl rfl rfl ZM (slices_Chunk_Ptr_ok a4 16 _ a5 _ i5) rfl (λq7 q8 d6 i6 j q9=> ?_)
      obtain⟨r0,r1,rfl,rfl,i7,i8,i9,-⟩:=i6
      refine Run.lc_s [] 3 ZB rfl ?_
      obtain⟨j0,j1,hx⟩:=ZT hx
      refine JC.seg0 (JC.seg0 (ZS 3 rfl (ZS 7 rfl (ZS 2 rfl (ZS 4 rfl (ZS 8 rfl (ZS 6 rfl (ZS 6 rfl (ZS 7 rfl (ZS 8 rfl (ZS 9 rfl (JC.rangeL (RA:=λH' args (y:List Ptr)=>∃ao:Option Addr,args= #[.slice ao y.length y.length]∧IsSlice H' R_Ptr 5 (.slice ao y.length y.length) y) rfl dead_Lay_v2_r1 (a3,Ptr.mk 0 (0:UInt32) (0:UInt32) (0:UInt32) (0:UInt32),([]:List Int),0,z,([]:List Ptr)) j0 j1 (λd o g=>∃f:Heaplet,∃a9:Option Addr,∃b0:Nat,∃b1:Nat,∃b2:Option Addr,∃b3:Nat,∃b4:Nat,∃b5:Option Addr,∃b6:Nat,∃b7:Nat,∃b8:Option Addr,∃b9:Nat,∃c0:Nat,∃c1:Own,∃c2:Option Addr,∃c3:Nat,∃c4:Nat,∃c5:Own,o= [[(d0,.cells #[.slice a9 b0 b1,.slice b2 b3 b4,.slice b5 b6 b7,.int .u32 (d.1.Epoch.toNat:Int),.int .u32 (d.1.Count.toNat:Int)] 29 (0,0))],[(a6,.cells #[.int .i64 d.2.1.At,.int .u32 (d.2.1.Birth.toNat:Int),.int .u32 (d.2.1.Iv.toNat:Int),.int .u32 (d.2.1.Tag.toNat:Int),.int .u32 (d.2.1.Sum.toNat:Int)] 32 (0,0))],[(a7,.cells #[.slice b8 b9 c0] 35 (0,0))],c1,[(a8,.cells #[.int .i64 d.2.2.2.1] 36 (0,0))],[(f4,.cells #[.int .u32 (d.2.2.2.2.1.toNat:Int)] 27 (0,0))],[(f7,.cells #[.slice c2 c3 c4] 30 (0,0))],c5,[(d1,.cells #[.slice none 0 0,.slice none 0 0,.slice none 0 0,.int .u32 ((0:UInt32).toNat:Int),.int .u32 ((0:UInt32).toNat:Int)] 29 (0,0))],[(f6,.cells #[.func (.func 22) #[] #[.pointer (some ⟨d0,0,none⟩),.pointer (some ⟨f4,0,none⟩),.pointer (some ⟨a6,0,none⟩),.pointer (some ⟨a8,0,none⟩),.pointer (some ⟨a7,0,none⟩)]] 60 (0,0))]]∧f=g∧Hle d6 f∧IsSlice f (RSl RU8 1) 1 (.slice a9 b0 b1) d.1.Disk.Blocks∧IsSlice f R_Write 2 (.slice b2 b3 b4) d.1.Disk.Waits∧IsSlice f RU8 1 (.slice b5 b6 b7) d.1.Space∧RowOf (New H f) RInt 0 3 1 (.slice b8 b9 c0) d.2.2.1 c1∧RowOf (New H f) R_Ptr w.heap.size 32 5 (.slice c2 c3 c4) d.2.2.2.2.2 c5) (λe c o g=>(c=.ret∧∃t_38e0:Int,t_38e0=e∧∃d7:Heaplet,o= [[(a8,.cells #[.int .i64 t_38e0] 36 (0,0))],[(d1,.cells #[.slice none 0 0,.slice none 0 0,.slice none 0 0,.int .u32 ((0:UInt32).toNat:Int),.int .u32 ((0:UInt32).toNat:Int)] 29 (0,0))],[(a6,.cells #[.int .i64 0,.int .u32 ((0:UInt32).toNat:Int),.int .u32 ((0:UInt32).toNat:Int),.int .u32 ((0:UInt32).toNat:Int),.int .u32 ((0:UInt32).toNat:Int)] 32 (0,0))],[(a7,.cells #[.slice none 0 0] 35 (0,0))]]∧d7=g∧Hle d6 d7)) rfl E45 (slices_Chunk_Ptr_it a4 16 i9 _ (a5.mono R_Ptr.mono j) i7 i8) (λ_ _ _ h=>by obtain⟨_,h,_⟩:=h;rw[h];rfl) rfl ⟨d6,g4,g5,g6,g7,g8,g9,h0,h1,h2,none,0,0,[],none,0,0,[],rfl,rfl,(Hle.refl _),(c7.mono (RSl.mono RU8.mono) j),(c8.mono R_Write.mono j),(c9.mono RU8.mono j),(ZF _ _ _ _ _),(ZF _ _ _ _ _)⟩ ?_ ?_ ?_))))))))))))
      ·
       rintro r2 d8 d args o g r3 ⟨f,a9,b0,b1,b2,b3,b4,b5,b6,b7,b8,b9,c0,c1,c2,c3,c4,c5,rfl,rfl,k,d9,e0,e1,e2,e3⟩ hA hx2
       clear hx;have hx:=hx2;clear hx2;unfold dead_Lay_v2_r1 at hx
       obtain⟨j2,rfl,j3⟩:=hA
       refine⟨[(3,.pointer (some ⟨d0,0,none⟩)),(6,.pointer (some ⟨d1,0,none⟩)),(7,.pointer (some ⟨a6,0,none⟩)),(8,.pointer (some ⟨a7,0,none⟩)),(9,.pointer (some ⟨a8,0,none⟩)),(10,.pointer (some ⟨f6,0,none⟩)),(11,.pointer (some ⟨f7,0,none⟩)),(12,.slice j2 d8.length d8.length)],λj4 f8=> ?_,λj4 f8=> ?_⟩
       ·
        refine Run.cnz [] 3 ZB rfl ?_
        exact JN.assigned ⟨rfl,rfl,rfl,rfl,rfl,rfl,rfl,rfl,trivial⟩
       ·
        refine Run.cl [9] 6 ZB rfl ?_
        obtain⟨m,j5,hx⟩:=ZT hx
        refine ZX (vs:=[_]) (args:=[_,_,_,_,_,_]) (K:=[_,_,_,_,_,_]) (rst:=[_,_,_,_]) E22 rfl rfl rfl (ZO 0 rfl (ZO 4 rfl (ZO 0 rfl (ZO 2 rfl (ZO 0 rfl (ZO 0 rfl ZM)))))) (dead_Lay_1_ok d8 d.1 d.2.2.2.2.1 d.2.1 d.2.2.2.1 d.2.2.1 _ j3 d9 e0 e1 (Zo (Nat.zero_le _) (Zh RInt.const e2)) _ j5) rfl (λr4 r5 a0 j6 e4 f9=> ?_)
        obtain⟨j7,j8,j9,k0,k1,k2,r6,k3,k4,k5,r7,e5,e6,e7,g0,rfl,rfl,e8,e9,k6,f0,k7,q,-⟩:=j6
        replace e9:=(RowOf.base (RowOf.mono R_Write.mono (New.call (j.trans k)) e9) (λp hp=>(f9 p (Ze 1 rfl hp)).resolve_left (k6 p hp)))
        replace f0:=(RowOf.base (Zh (H2:=New H a0) RU8.const f0) (λp hp=>(f9 p (Ze 2 rfl hp)).resolve_left (k7 p hp)))
        replace q:=(Zh (H2:=New H a0) RInt.const q)
        replace e8:=IsSlice.mono (RSl.mono RU8.mono) (New.call (j.trans k)) e8
        refine Run.lcz_s [5] 8 ZB rfl (ZJ hx rfl (λk8 hx=> ?_) (λk8 hx=> ?_))
        ·
         refine JC.seq (Zn (so:=[(_,[]),(_,[]),(_,[]),(_,[]),(_,[4]),(_,[6]),(_,[5]),(_,[]),(_,[]),(_,[]),(_,[3]),(_,[])]) 7 rfl Mixed ⟨by kernel_rfl,by kernel_rfl⟩ (Zb [0,1,2,3,4,5,6,7,8,9,10,11] rfl) ?_)
         refine JB.run 2 [0,1] [] ZB rfl ?_
         refine JB.val (i:=2) [6] rfl (R.ldo 4 S36 rfl rfl rfl) ?_
         refine JB.one (i:=3) (by kernel_rfl) ?_
         refine JOB.step rfl trivial rfl (λK hK=>Run.lnz [10] 2 ZB rfl (hK _ _ _ (Hle.refl _) (Zu [false,false,false,false,false,false,false,false,false,false,true,false] [0,1,2,3,4,5,6,7,8,9,0,11] (by kernel_rfl) rfl) ?_))
         refine JB.one (i:=4) (by kernel_rfl) ?_
         refine JOB.step rfl trivial rfl (λK hK=>Run.lnz [4] 2 ZB rfl (hK _ _ _ (Hle.refl _) (Zu [false,false,false,false,true,false,false,false,false,false,true,false] [0,1,2,3,0,5,6,7,8,9,0,11] (by kernel_rfl) rfl) ?_))
         refine JB.one (i:=5) (by kernel_rfl) ?_
         refine JOB.step rfl trivial rfl (λK hK=>Run.lnz [6] 2 ZB rfl (hK _ _ _ (Hle.refl _) (Zu [false,false,false,false,true,false,true,false,false,false,true,false] [0,1,2,3,0,5,0,7,8,9,0,11] (by kernel_rfl) rfl) ?_))
         refine JB.one (i:=6) (by kernel_rfl) ?_
         refine JOB.step rfl trivial rfl (λK hK=>Run.lnz [5] 2 ZB rfl (hK _ _ _ (Hle.refl _) (Zu [false,false,false,false,true,true,true,false,false,false,true,false] [0,1,2,3,0,0,0,7,8,9,0,11] (by kernel_rfl) rfl) ?_))
         refine JB.doneN (by kernel_rfl) ?_
         refine Run.nnz_sk [] 3 ZB rfl (JN.blkR ?_)
         obtain rfl:=Option.some.inj hx
         refine JN.forget 11 (JN.forget 9 (JN.forget 8 (JN.forget 7 (JN.forget 3 (JN.forget 2 (JN.forget 1 (JN.forget 0 (ZC 2 rfl (ZC 1 rfl (ZC 3 rfl (ZC 3 rfl ?_)))))))))))
         exact JN.rR ⟨rfl,m.2.2.2.1,rfl,a0,rfl,rfl,((k.trans e4))⟩
        ·
         refine Run.clz_s [8,4] 5 ZB rfl (Zt (HF:=(New H a0)) (R:=R_Ptr) (ls:=[m.2.2.1]) (vs:=[.agg #[.int .i64 m.2.2.1.At,.int .u32 (m.2.2.1.Birth.toNat:Int),.int .u32 (m.2.2.1.Iv.toNat:Int),.int .u32 (m.2.2.1.Tag.toNat:Int),.int .u32 (m.2.2.1.Sum.toNat:Int)]]) U30 I32 rfl rfl (⟨_,_,rfl,rfl,rfl,rfl⟩) R_Ptr.one rfl rfl rfl (by simp[maxLen]) rfl (λr8 k9 v=> ?_))
         obtain⟨l0,l1,rfl⟩:=RowOf.val v
         obtain⟨l2,l3,l4,hx⟩:=Zc hx
         refine Zk (HF:=(New H a0)) 10 U30 I32 rfl rfl (e3.mono R_Ptr.mono (New.mono e4)) rfl (SrcF.row 0 U30 rfl v) l3 l4 rfl f8 rfl (λr9 l5 g1=> ?_)
         obtain⟨l6,l7,rfl⟩:=RowOf.val g1
         refine Run.lnz_b [9] 3 ZB rfl ?_
         obtain rfl:=Option.some.inj hx
         refine JN.pub 2 R_Write.mono rfl (e9.old R_Write.mono) (Nat.le_refl _) (λl8 a1 l9=>JN.forget 2 (JN.pubN 2 RU8.mono rfl (Zh (H2:=New f l8) RU8.const (f0.mono RU8.mono (New.mono a1))) (Nat.le_refl _) (λm0 a2 f1=> ?_)))
         replace f1:=IsSlice.mono RU8.mono (New.call (j.trans k)) f1
         refine JN.forget 2 (JN.forget 0 (ZC 9 rfl (ZC 9 rfl (ZC 9 rfl (ZC 9 rfl (ZC 5 rfl (ZC 7 rfl (ZC 9 rfl (ZC 9 rfl (ZC 9 rfl (ZC 9 rfl ?_)))))))))))
         exact JN.rN ⟨m0,j7,j8,j9,k0,k1,k2,k3,k4,k5,e5,e6,e7,g0,l6,l2.length,l7,l5,rfl,rfl,((k.trans (e4.trans (a1.trans a2)))),((e8.mono (RSl.mono RU8.mono) (New.mono (a1.trans a2))).old (RSl.mono RU8.mono)),(l9.mono R_Write.mono a2),(f1.old RU8.mono),(q.mono RInt.mono (New.mono (a1.trans a2))),(g1.mono R_Ptr.mono (New.mono (a1.trans a2)))⟩
      ·
       rintro c6 d o g m1 htt ⟨f,a9,b0,b1,b2,b3,b4,b5,b6,b7,b8,b9,c0,c1,c2,c3,c4,c5,rfl,rfl,k,d9,e0,e1,e2,e3⟩ hle2
       subst htt;simp only[Sum.elim_inl]at hx
       refine Run.nl_bs [10,7] 7 ZB rfl (JL.pubN 8 R_Ptr.mono rfl e3 (Nat.le_refl _) (λs0 x m2=>JL.forget 8 ?_))
       obtain⟨s,m3,hx⟩:=ZT hx
       refine ZX (vs:=[_]) (args:=[_,_,_,_,_,_]) (K:=[_,_,_,_,_,_]) (rst:=[_,_,_,_]) E22 rfl rfl rfl (ZO 1 rfl (ZO 5 rfl (ZO 1 rfl (ZO 3 rfl (ZO 1 rfl (ZO 1 rfl ZM)))))) (dead_Lay_1_ok d.2.2.2.2.2 d.1 d.2.2.2.2.1 d.2.1 d.2.2.2.1 d.2.2.1 _ (m2.old R_Ptr.mono) (d9.mono (RSl.mono RU8.mono) x) (e0.mono R_Write.mono x) (e1.mono RU8.mono x) (Zo (Nat.zero_le _) (Zh RInt.const (e2.mono RInt.mono (New.mono x)))) _ m3) rfl (λs1 s2 g2 m4 s3 g3=> ?_)
       obtain⟨m5,m6,m7,e5,e6,e7,g0,m8,m9,n0,s4,l0,s5,l1,k9,rfl,rfl,f2,q,n1,f3,n2,v,-⟩:=m4
       replace q:=(RowOf.base (RowOf.mono R_Write.mono (New.call (j.trans (k.trans x))) q) (λp hp=>(g3 p (Ze 1 rfl hp)).resolve_left (n1 p hp)))
       replace f3:=(RowOf.base (Zh (H2:=New H g2) RU8.const f3) (λp hp=>(g3 p (Ze 2 rfl hp)).resolve_left (n2 p hp)))
       replace v:=(Zh (H2:=New H g2) RInt.const v)
       replace f2:=IsSlice.mono (RSl.mono RU8.mono) (New.call (j.trans (k.trans x))) f2
       refine Run.lcz_s [5] 8 ZB rfl (ZJ hx rfl (λn3 hx=> ?_) (λn3 hx=> ?_))
       ·
        refine JC.seq (Zn (so:=[(_,[]),(_,[]),(_,[]),(_,[]),(_,[4]),(_,[6]),(_,[5]),(_,[]),(_,[]),(_,[]),(_,[3]),(_,[])]) 7 rfl Mixed ⟨by kernel_rfl,by kernel_rfl⟩ (Zb [0,1,2,3,4,5,6,7,8,9,10,11] rfl) ?_)
        refine JB.run 2 [0,1] [] ZB rfl ?_
        refine JB.val (i:=2) [6] rfl (R.ldo 4 S36 rfl rfl rfl) ?_
        refine JB.one (i:=3) (by kernel_rfl) ?_
        refine JOB.step rfl trivial rfl (λK hK=>Run.lnz [10] 2 ZB rfl (hK _ _ _ (Hle.refl _) (Zu [false,false,false,false,false,false,false,false,false,false,true,false] [0,1,2,3,4,5,6,7,8,9,0,11] (by kernel_rfl) rfl) ?_))
        refine JB.one (i:=4) (by kernel_rfl) ?_
        refine JOB.step rfl trivial rfl (λK hK=>Run.lnz [4] 2 ZB rfl (hK _ _ _ (Hle.refl _) (Zu [false,false,false,false,true,false,false,false,false,false,true,false] [0,1,2,3,0,5,6,7,8,9,0,11] (by kernel_rfl) rfl) ?_))
        refine JB.one (i:=5) (by kernel_rfl) ?_
        refine JOB.step rfl trivial rfl (λK hK=>Run.lnz [6] 2 ZB rfl (hK _ _ _ (Hle.refl _) (Zu [false,false,false,false,true,false,true,false,false,false,true,false] [0,1,2,3,0,5,0,7,8,9,0,11] (by kernel_rfl) rfl) ?_))
        refine JB.one (i:=6) (by kernel_rfl) ?_
        refine JOB.step rfl trivial rfl (λK hK=>Run.lnz [5] 2 ZB rfl (hK _ _ _ (Hle.refl _) (Zu [false,false,false,false,true,true,true,false,false,false,true,false] [0,1,2,3,0,0,0,7,8,9,0,11] (by kernel_rfl) rfl) ?_))
        refine JB.doneN (by kernel_rfl) ?_
        refine Run.nnz_sk [] 3 ZB rfl (ZL (ZL (ZL ?_)))
        exact JN.conCM (own2:=[_,_,_,_,_,_,_,_,_,_,_,_,_,_]) [c6] [12,7,9,8] [0,0,0] ZB (ZO 11 rfl ZM) ⟨rfl,rfl,rfl,rfl⟩ rfl rfl hx rfl ⟨IsSlice.nil _ _ _,⟨0,ZF _ _ _ _ _⟩,⟨0,ZF _ _ _ _ _⟩,⟨0,ZF _ _ _ _ _⟩,rfl⟩
       ·
        refine Run.cc_s [] 3 ZB rfl (Zn (so:=[(_,[]),(_,[]),(_,[]),(_,[]),(_,[4]),(_,[6]),(_,[5]),(_,[]),(_,[]),(_,[]),(_,[3]),(_,[])]) 7 rfl Mixed ⟨by kernel_rfl,by kernel_rfl⟩ (Zb [0,1,2,3,4,5,6,7,8,9,10,11] rfl) ?_)
        refine JB.val (i:=0) [] rfl (R.ldoN 0 (vs:=[.slice m5 m6 m7,.slice e5 e6 e7,.slice m8 m9 n0,.int .u32 (s.1.Epoch.toNat:Int),.int .u32 (s.1.Count.toNat:Int)]) S29 rfl rfl rfl rfl) ?_
        refine JB.val (i:=1) [4] rfl (R.ldoN 4 (vs:=[.int .i64 s.2.2.1.At,.int .u32 (s.2.2.1.Birth.toNat:Int),.int .u32 (s.2.2.1.Iv.toNat:Int),.int .u32 (s.2.2.1.Tag.toNat:Int),.int .u32 (s.2.2.1.Sum.toNat:Int)]) S32 rfl rfl rfl rfl) ?_
        refine JB.val (i:=2) [5] rfl (R.ldo 4 S35 rfl rfl rfl) ?_
        refine JB.one (i:=3) (by kernel_rfl) ?_
        refine JOB.step rfl trivial rfl (λK hK=>Run.lnz [10] 2 ZB rfl (hK _ _ _ (Hle.refl _) (Zu [false,false,false,false,false,false,false,false,false,false,true,false] [0,1,2,3,4,5,6,7,8,9,0,11] (by kernel_rfl) rfl) ?_))
        refine JB.one (i:=4) (by kernel_rfl) ?_
        refine JOB.step rfl trivial rfl (λK hK=>Run.lnz [4] 2 ZB rfl (hK _ _ _ (Hle.refl _) (Zu [false,false,false,false,true,false,false,false,false,false,true,false] [0,1,2,3,0,5,6,7,8,9,0,11] (by kernel_rfl) rfl) ?_))
        refine JB.one (i:=5) (by kernel_rfl) ?_
        refine JOB.step rfl trivial rfl (λK hK=>Run.lnz [6] 2 ZB rfl (hK _ _ _ (Hle.refl _) (Zu [false,false,false,false,true,false,true,false,false,false,true,false] [0,1,2,3,0,5,0,7,8,9,0,11] (by kernel_rfl) rfl) ?_))
        refine JB.one (i:=6) (by kernel_rfl) ?_
        refine JOB.step rfl trivial rfl (λK hK=>Run.lnz [5] 2 ZB rfl (hK _ _ _ (Hle.refl _) (Zu [false,false,false,false,true,true,true,false,false,false,true,false] [0,1,2,3,0,0,0,7,8,9,0,11] (by kernel_rfl) rfl) ?_))
        refine JB.doneN (by kernel_rfl) ?_
        refine Run.nnz_s [] 2 ZB rfl ?_
        exact JN.conCM (own2:=[_,_,_,_,_,_,_,_,_,_,_]) [c6] [9,4,6,5] [1,1,5] ZB (ZO 8 rfl ZM) ⟨rfl,rfl,rfl,rfl⟩ rfl rfl hx rfl ⟨f2,⟨_,q⟩,⟨_,f3⟩,⟨_,v⟩,rfl⟩
      ·
       rintro c6 c e o g m1 htt hX hle2
       rcases hX with⟨rfl,t_38e0,rfl,d7,rfl,rfl,s6⟩
       subst htt;simp only[Sum.elim_inl,Sum.elim_inr]at hx
       refine Run.cnz_bk [] 3 ZB rfl (ZL (ZL (ZL ?_)))
       exact JN.conCM (own2:=[_,_,_,_,_,_,_]) [c6] [4,5,6,3] [0,0,0] ZB (ZO 3 rfl ZM) ⟨rfl,rfl,rfl,rfl⟩ rfl rfl hx rfl ⟨IsSlice.nil _ _ _,⟨0,ZF _ _ _ _ _⟩,⟨0,ZF _ _ _ _ _⟩,⟨0,ZF _ _ _ _ _⟩,rfl⟩
theorem ref09_place_ok{c}:Con Tryz.prog 69 true ([.i c]) (ref09_place c) (λr=> [.b r]):=by
 intro H r hx
 refine Does.enterC Tryz.func69 rfl rfl ?_
 intro w
 unfold ref09_place at hx
 refine Run.cc [] 6 ZB rfl (ZV hx [] [] rfl rfl (λa l0 o0 l o g=>l=(2,.bool a)::l0∧o=o0∧H=g) (λa f hx=> ?_) (λa h hx=> ?_))
 ·
  rintro _ _ _ ⟨rfl,rfl,rfl⟩
  refine Run.nnz_s [] 2 ZB rfl ?_
  exact ZI [] rfl hx rfl rfl
 ·
  refine Run.clz [] 4 ZB rfl (Zi 5 hx rfl (λd hx=> ?_) (λd hx=> ?_))
  ·
   refine Run.lnz [] 7 ZB rfl ?_
   obtain rfl:=Option.some.inj hx
   exact ZE ⟨rfl,rfl,rfl⟩ rfl rfl rfl
  ·
   refine Run.lnz [] 5 ZB rfl ?_
   obtain rfl:=Option.some.inj hx
   exact ZE ⟨rfl,rfl,rfl⟩ rfl rfl rfl
theorem ref09_May_ok{s}:Con Tryz.prog 46 true (sp_Disk false s) (ref09_May s) (λr=> [.b r]):=by
 intro H b8 b9 c0 f c1 c2 c3 c r hx
 refine Does.enterC Tryz.func46 rfl rfl ?_
 intro w
 unfold ref09_May at hx
 refine Run.cl [] 2 ZB rfl (ZY rfl rfl (λc4 c5=>Run.lc_s [] 14 ZB rfl (ZV hx [1] [0] rfl rfl (λk l0 o0 l o g=>l=(3,.int .i64 k)::l0∧o=o0∧H=g) (λk c6 hx=> ?_) (λk c7 hx=> ?_))))
 ·
  rintro _ _ _ ⟨rfl,rfl,rfl⟩
  refine Run.nc_s [] 7 ZB rfl (ZV hx [1] [0] rfl rfl (λm l0 o0 l o g=>l=(3,.int .i64 m)::l0∧o=o0∧H=g) (λm c8 hx=> ?_) (λm c9 hx=> ?_))
  ·
   rintro _ _ _ ⟨rfl,rfl,rfl⟩
   refine Run.nc_s [] 2 ZB rfl (ZV hx [] [] rfl rfl (λp l0 o0 l o g=>l=(2,.bool p)::l0∧o=o0∧H=g) (λp d0 hx=> ?_) (λp d1 hx=> ?_))
   ·
    rintro _ _ _ ⟨rfl,rfl,rfl⟩
    refine Run.nnz_s [] 2 ZB rfl ?_
    exact ZI [] rfl hx rfl rfl
   ·
    refine Run.clz [] 4 ZB rfl (Zi 59 hx rfl (λy hx=> ?_) (λy hx=> ?_))
    ·
     refine Run.llz [0] 5 ZB rfl (ZA rfl rfl (ZQ U22 rfl (IsSlice.long f)) (Run.llz [] 4 ZB rfl (Zi 65 hx rfl (λz hx=> ?_) (λz hx=> ?_))))
     ·
      refine Run.llz [0] 5 ZB rfl (ZA rfl rfl (ZQ U23 rfl (IsSlice.long c)) (Run.lnz [] 5 ZB rfl ?_))
      obtain rfl:=Option.some.inj hx
      refine JN.forget 0 ?_
      exact ZE ⟨rfl,rfl,rfl⟩ rfl rfl rfl
     ·
      refine Run.lnz [] 7 ZB rfl ?_
      obtain rfl:=Option.some.inj hx
      refine JN.forget 0 ?_
      exact ZE ⟨rfl,rfl,rfl⟩ rfl rfl rfl
    ·
     refine Run.lnz [] 13 ZB rfl ?_
     obtain rfl:=Option.some.inj hx
     refine JN.forget 0 ?_
     exact ZE ⟨rfl,rfl,rfl⟩ rfl rfl rfl
  ·
   refine JC.block (ZZ [1] [0] rfl rfl (λl0 o0 a l o g=>l=(3,.int .i64 a.1)::(5,.int .i64 ((a.2:Nat):Int))::l0∧o=o0∧H=g) hx ⟨rfl,rfl,rfl⟩ rfl ?_)
   ·
    rintro d2 a _ _ _ ⟨rfl,rfl,rfl⟩ d3 hx h
    unfold ref09_May_l2 at hx
    refine Run.cl [0] 6 ZB rfl (ZA rfl rfl (ZQ U23 rfl (IsSlice.long c)) (Run.llz [] 2 ZB rfl (Zi 31 hx rfl (λi hx=> ?_) (λi hx=> ?_))))
    ·
     refine Run.lcz_s [] 7 ZB rfl (ZJ hx rfl (λa0 hx=> ?_) (λa0 hx=> ?_))
     ·
      refine Run.cl_s [0] 9 ZB rfl ?_
      obtain⟨d4,a1,hx⟩:=ZR hx
      obtain⟨d5,d6,d7,a2,a3,d8,a4⟩:=IsSlice.elem c a1
      obtain⟨d9,rfl,v⟩:=a3
      obtain⟨e0,e1,rfl⟩:=IsSlice.val v
      refine ZA rfl rfl (R.ix U23 S78 rfl rfl a2) (ZA rfl rfl (R.fa F78_1 rfl) (ZA rfl rfl (R.ldH S26 rfl (a4 1 _ rfl)) (ZA rfl rfl (ZQ U26 rfl (IsSlice.long v)) (Run.llz [] 2 ZB rfl (Zi 45 hx rfl (λa5 hx=> ?_) (λa5 hx=> ?_))))))
      ·
       refine Run.llz_sbs [] 21 ZB rfl (ZA rfl rfl (Zr rfl rfl (of_decide_eq_true i) (IsSlice.lenI c)) (Run.lnz [] 2 ZB rfl ?_))
       replace hx:=ZU h hx
       exact ZE ⟨(w64 (a.1+1),a.2+1),⟨rfl,rfl,rfl⟩,hx⟩ rfl rfl rfl
      ·
       refine Run.llz [0] 7 ZB rfl ?_
       obtain⟨e2,a6,hx⟩:=ZR hx
       obtain⟨e3,e4,e5,a7,a8,e6,a9⟩:=IsSlice.elem c a6
       obtain⟨e7,rfl,b0⟩:=a8
       obtain⟨e8,e9,rfl⟩:=IsSlice.val b0
       refine ZA rfl rfl (R.ix U23 S78 rfl rfl a7) (Run.llz [] 3 ZB rfl (ZA rfl rfl (R.ldH S3 rfl (a9 0 _ rfl)) (JL.gYes rfl rfl rfl (ZK hx E69 rfl ref09_place_ok rfl trivial ?_))))
       intro f0 f1 hx
       refine Run.lcz_s [] 5 ZB rfl (ZJ hx rfl (λb1 hx=> ?_) (λb1 hx=> ?_))
       ·
        refine Run.clz_bs [] 9 ZB rfl (ZA rfl rfl (Zr rfl rfl (of_decide_eq_true i) (IsSlice.lenI c)) (Run.lnz [] 2 ZB rfl ?_))
        replace hx:=ZU h hx
        exact ZE ⟨(w64 (a.1+1),a.2+1),⟨rfl,rfl,rfl⟩,hx⟩ rfl rfl rfl
       ·
        refine Run.clz_bs [] 5 ZB rfl (ZA rfl rfl (Zr rfl rfl (of_decide_eq_true i) (IsSlice.lenI c)) (Run.lnz [] 2 ZB rfl ?_))
        replace hx:=ZU h hx
        exact ZE ⟨(a.1,a.2+1),⟨rfl,rfl,rfl⟩,hx⟩ rfl rfl rfl
     ·
      refine Run.cnz_k [] 2 ZB rfl ?_
      obtain rfl:=ZP h hx
      refine Run.nnz_kb [] 2 ZB rfl ?_
      exact ZE ⟨rfl,rfl,rfl⟩ rfl rfl rfl
    ·
     refine Run.lnz_sk [] 8 ZB rfl ?_
     obtain rfl:=ZP h hx
     refine Run.nnz_kb [] 2 ZB rfl ?_
     exact ZE ⟨rfl,rfl,rfl⟩ rfl rfl rfl
 ·
  refine JC.block (ZZ [1] [0] rfl rfl (λl0 o0 d l o g=>l=(3,.int .i64 d.1)::(4,.int .i64 ((d.2:Nat):Int))::l0∧o=o0∧H=g) hx ⟨rfl,rfl,rfl⟩ rfl ?_)
  ·
   rintro f2 d _ _ _ ⟨rfl,rfl,rfl⟩ f3 hx j
   unfold ref09_May_l1 at hx
   refine Run.cl [0] 6 ZB rfl (ZA rfl rfl (ZQ U22 rfl (IsSlice.long f)) (Run.llz [] 2 ZB rfl (Zi 11 hx rfl (λq hx=> ?_) (λq hx=> ?_))))
   ·
    refine Run.lcz_s [] 7 ZB rfl (ZJ hx rfl (λb2 hx=> ?_) (λb2 hx=> ?_))
    ·
     refine Run.cl_s [0] 9 ZB rfl ?_
     obtain⟨f4,b3,hx⟩:=ZR hx
     obtain⟨f5,f6,f7,b4,b5,f8,b6⟩:=IsSlice.elem f b3
     obtain⟨f9,rfl,x⟩:=b5
     obtain⟨g0,g1,rfl⟩:=IsSlice.val x
     refine ZA rfl rfl (R.ix U22 S26 rfl rfl b4) (ZA rfl rfl (R.ldH S26 rfl (b6 0 _ rfl)) (ZA rfl rfl (ZQ U26 rfl (IsSlice.long x)) (Run.lcz_s [] 3 ZB rfl (ZJ hx rfl (λb7 hx=> ?_) (λb7 hx=> ?_)))))
     ·
      refine Run.clz_bs [] 9 ZB rfl (ZA rfl rfl (Zr rfl rfl (of_decide_eq_true q) (IsSlice.lenI f)) (Run.lnz [] 2 ZB rfl ?_))
      replace hx:=ZU j hx
      exact ZE ⟨(w64 (d.1+1),d.2+1),⟨rfl,rfl,rfl⟩,hx⟩ rfl rfl rfl
     ·
      refine Run.clz_bs [] 5 ZB rfl (ZA rfl rfl (Zr rfl rfl (of_decide_eq_true q) (IsSlice.lenI f)) (Run.lnz [] 2 ZB rfl ?_))
      replace hx:=ZU j hx
      exact ZE ⟨(d.1,d.2+1),⟨rfl,rfl,rfl⟩,hx⟩ rfl rfl rfl
    ·
     refine Run.cnz_k [] 2 ZB rfl ?_
     obtain rfl:=ZP j hx
     refine Run.nnz_kb [] 2 ZB rfl ?_
     exact ZE ⟨rfl,rfl,rfl⟩ rfl rfl rfl
   ·
    refine Run.lnz_sk [] 8 ZB rfl ?_
    obtain rfl:=ZP j hx
    refine Run.nnz_kb [] 2 ZB rfl ?_
    exact ZE ⟨rfl,rfl,rfl⟩ rfl rfl rfl
theorem ref12_May_ok{j}:Con Tryz.prog 47 true ([.sl false RU8 1 j]) (ref12_May j) (λr=> [.b r]):=by
 intro H a7 a8 a9 f r hx
 refine Does.enterC Tryz.func47 rfl rfl ?_
 intro w
 unfold ref12_May at hx
 refine Run.cl [] 9 ZB rfl (ZA rfl rfl (ZQ U26 rfl (IsSlice.long f)) (Run.lcz_s [] 3 ZB rfl (ZJ hx rfl (λp hx=> ?_) (λp hx=> ?_))))
 ·
  refine Run.cnz_k [] 7 ZB rfl ?_
  exact ZI [] rfl hx rfl rfl
 ·
  refine Run.cc_s [] 8 ZB rfl (ZV hx [] [] rfl rfl (λh l0 o0 l o g=>∃k:Unit,l=l0∧o=o0∧H=g∧h=.inl k) (λh b0 hx=> ?_) (λh m hx=> ?_))
  ·
   rintro _ _ _ ⟨k,rfl,rfl,rfl,rfl⟩
   simp only[Sum.elim_inl]at hx
   refine Run.nnz_s [] 7 ZB rfl ?_
   exact ZI [] rfl hx rfl rfl
  ·
   refine JC.block (ZZ [0] [] rfl rfl (λl0 o0 d l o g=>l=(3,.int .i64 ((d:Nat):Int))::l0∧o=o0∧H=g) hx ⟨rfl,rfl,rfl⟩ rfl ?_)
   ·
    rintro b1 d _ _ _ ⟨rfl,rfl,rfl⟩ b2 hx c
    unfold ref12_May_l1 at hx
    refine Run.cc [] 7 ZB rfl (ZJ hx rfl (λi hx=> ?_) (λi hx=> ?_))
    ·
     refine Run.cl_s [] 8 ZB rfl ?_
     obtain⟨q,s,hx⟩:=ZR hx
     obtain⟨b3,b4,b5,v,x,b6,y⟩:=IsSlice.elem f s
     obtain rfl:=x
     refine ZA rfl rfl (R.ix U26 S5 rfl rfl v) (ZA rfl rfl (R.ldH S5 rfl (y 0 _ rfl)) (ZA rfl rfl (R.gtr8 (a:=q) (b:=(2:UInt8)) rfl rfl) (ZA rfl rfl (Zd rfl) (Zi 16 hx rfl (λz hx=> ?_) (λz hx=> ?_)))))
     ·
      refine Run.lnz_sbk [] 21 ZB rfl ?_
      obtain rfl:=ZP c hx
      refine Run.nnz_kb [] 2 ZB rfl ?_
      clear hx;have hx:=m
      simp only[Sum.elim_inl,Sum.elim_inr]at hx
      refine Run.nnz_kk [] 2 ZB rfl ?_
      exact ZI [] rfl hx rfl rfl
     ·
      refine Run.llz [] 6 ZB rfl (Zi 19 hx rfl (λa0 hx=> ?_) (λa0 hx=> ?_))
      ·
       refine Run.llz [] 5 ZB rfl ?_
       obtain⟨a1,a2,hx⟩:=ZR hx
       obtain⟨b7,b8,b9,a3,a4,c0,a5⟩:=IsSlice.elem f a2
       obtain rfl:=a4
       refine ZA rfl rfl (R.ix U26 S5 rfl rfl a3) (JL.gYes rfl rfl rfl (ZA rfl rfl (R.ldH S5 rfl (a5 0 _ rfl)) (JL.gYes rfl rfl rfl (ZA rfl rfl (R.neq8 (a:=a1) (b:=(1:UInt8)) rfl rfl) (Run.lcz_s [] 5 ZB rfl (ZJ hx rfl (λa6 hx=> ?_) (λa6 hx=> ?_)))))))
       ·
        refine Run.cnz_bk [] 8 ZB rfl ?_
        obtain rfl:=ZP c hx
        refine Run.nnz_kb [] 2 ZB rfl ?_
        clear hx;have hx:=m
        simp only[Sum.elim_inl,Sum.elim_inr]at hx
        refine Run.nnz_kk [] 2 ZB rfl ?_
        exact ZI [] rfl hx rfl rfl
       ·
        refine Run.clz_bs [] 5 ZB rfl (ZA rfl rfl (Zr rfl rfl (of_decide_eq_true i) (by decide)) ?_)
        refine Run.lnz [] 2 ZB rfl ?_
        replace hx:=ZU c hx
        exact ZE ⟨d+1,⟨rfl,rfl,rfl⟩,hx⟩ rfl rfl rfl
      ·
       refine Run.llz_sbs [] 16 ZB rfl (ZA rfl rfl (Zr rfl rfl (of_decide_eq_true i) (by decide)) ?_)
       refine Run.lnz [] 2 ZB rfl ?_
       replace hx:=ZU c hx
       exact ZE ⟨d+1,⟨rfl,rfl,rfl⟩,hx⟩ rfl rfl rfl
    ·
     refine Run.cnz_k [] 2 ZB rfl ?_
     obtain rfl:=ZP c hx
     refine Run.nnz_kb [] 2 ZB rfl ?_
     exact ZE ⟨(),rfl,rfl,rfl,rfl⟩ rfl rfl rfl
theorem ref13_May_ok{c}:Con Tryz.prog 26 true (sp_Store false c) (ref13_May c) (λr=> [.b r]):=by
 intro H q s v f x y z h a0 a1 a2 i r hx
 refine Does.enterC Tryz.func26 rfl rfl ?_
 intro w
 unfold ref13_May at hx
 refine Run.cl [] 2 ZB rfl (ZY rfl rfl (λa3 a4=>Run.lc_s [] 4 ZB rfl (ZV hx [] [] rfl rfl (λd l0 o0 l o g=>l=(2,.bool d)::l0∧o=o0∧H=g) (λd a5 hx=> ?_) (λd a6 hx=> ?_))))
 ·
  rintro _ _ _ ⟨rfl,rfl,rfl⟩
  refine Run.nnz_s [] 2 ZB rfl ?_
  exact ZI [] rfl hx rfl rfl
 ·
  refine Run.clz [0] 3 ZB rfl (ZK hx E46 rfl ref09_May_ok rfl ⟨f,h,trivial⟩ ?_)
  intro a7 a8 hx
  refine ZA rfl rfl (Zd rfl) (Zi 6 hx rfl (λj hx=> ?_) (λj hx=> ?_))
  ·
   refine Run.llz [0] 5 ZB rfl (ZK hx E47 rfl ref12_May_ok rfl ⟨i,trivial⟩ ?_)
   intro a9 b0 hx
   refine Run.llz [] 2 ZB rfl (Zi 11 hx rfl (λk hx=> ?_) (λk hx=> ?_))
   ·
    refine Run.llz [0] 5 ZB rfl (ZA rfl rfl (R.geq32 (a:=c.Epoch) (b:=(1:UInt32)) rfl rfl) (Run.llz [] 2 ZB rfl (Zi 16 hx rfl (λm hx=> ?_) (λm hx=> ?_))))
    ·
     refine Run.llz [0] 5 ZB rfl (ZA rfl rfl (R.leq32 (a:=c.Epoch) (b:=(65535:UInt32)) rfl rfl) (Run.llz [] 2 ZB rfl (Zi 21 hx rfl (λp hx=> ?_) (λp hx=> ?_))))
     ·
      refine Run.llz [0] 5 ZB rfl (ZA rfl rfl (R.leq32 (a:=c.Count) (b:=(65535:UInt32)) rfl rfl) (Run.lnz [] 3 ZB rfl ?_))
      obtain rfl:=Option.some.inj hx
      refine JN.forget 0 ?_
      exact ZE ⟨rfl,rfl,rfl⟩ rfl rfl rfl
     ·
      refine Run.lnz [] 6 ZB rfl ?_
      obtain rfl:=Option.some.inj hx
      refine JN.forget 0 ?_
      exact ZE ⟨rfl,rfl,rfl⟩ rfl rfl rfl
    ·
     refine Run.lnz [] 11 ZB rfl ?_
     obtain rfl:=Option.some.inj hx
     refine JN.forget 0 ?_
     exact ZE ⟨rfl,rfl,rfl⟩ rfl rfl rfl
   ·
    refine Run.lnz [] 16 ZB rfl ?_
    obtain rfl:=Option.some.inj hx
    refine JN.forget 0 ?_
    exact ZE ⟨rfl,rfl,rfl⟩ rfl rfl rfl
  ·
   refine Run.lnz [] 21 ZB rfl ?_
   obtain rfl:=Option.some.inj hx
   refine JN.forget 0 ?_
   exact ZE ⟨rfl,rfl,rfl⟩ rfl rfl rfl
theorem ref10_None_ok{c}:Con Tryz.prog 56 true (sp_Ptr false c) (ref10_None c) (λr=> [.b r]):=by
 intro H r hx
 refine Does.enterC Tryz.func56 rfl rfl ?_
 intro w
 unfold ref10_None at hx
 refine Run.cl [] 2 ZB rfl (ZY rfl rfl (λd f=>Run.ll_s [0] 7 ZB rfl (ZA rfl rfl (R.eqlAgg QU32 QP32 QG32 QF32 rfl rfl (EqF.i (by decide) S3 U3 rfl rfl (EqF.u32 (a:=c.Birth) (b:=(0:UInt32)) (by decide) S27 U27 rfl rfl (EqF.u32 (a:=c.Iv) (b:=(0:UInt32)) (by decide) S27 U27 rfl rfl (EqF.u32 (a:=c.Tag) (b:=(0:UInt32)) (by decide) S27 U27 rfl rfl (EqF.u32 (a:=c.Sum) (b:=(0:UInt32)) (by decide) S27 U27 rfl rfl EqF.nil)))))) ?_)))
 refine Run.lnz_s [] 4 ZB rfl ?_
 exact ZI [] rfl hx rfl rfl
theorem ref10_May_ok{c}:Con Tryz.prog 33 true (sp_Ptr false c) (ref10_May c) (λr=> [.b r]):=by
 intro H r hx
 refine Does.enterC Tryz.func33 rfl rfl ?_
 intro w
 unfold ref10_May at hx
 refine Run.cl [] 2 ZB rfl (ZY rfl rfl (λk m=>Run.lc_s [] 4 ZB rfl (ZV hx [] [] rfl rfl (λd l0 o0 l o g=>l=(2,.bool d)::l0∧o=o0∧H=g) (λd p hx=> ?_) (λd q hx=> ?_))))
 ·
  rintro _ _ _ ⟨rfl,rfl,rfl⟩
  refine Run.nnz_s [] 2 ZB rfl ?_
  exact ZI [] rfl hx rfl rfl
 ·
  refine Run.clz [0] 2 ZB rfl (ZK hx E56 rfl ref10_None_ok rfl trivial ?_)
  intro s v hx
  refine ZA rfl rfl (Zd rfl) (Zi 5 hx rfl (λf hx=> ?_) (λf hx=> ?_))
  ·
   refine Run.lnz [] 21 ZB rfl ?_
   obtain rfl:=Option.some.inj hx
   refine JN.forget 0 ?_
   exact ZE ⟨rfl,rfl,rfl⟩ rfl rfl rfl
  ·
   refine Run.llz [0] 8 ZB rfl (Zi 9 hx rfl (λh hx=> ?_) (λh hx=> ?_))
   ·
    refine Run.llz [0] 10 ZB rfl (Zi 14 hx rfl (λi hx=> ?_) (λi hx=> ?_))
    ·
     refine Run.llz [0] 5 ZB rfl (ZA rfl rfl (R.geq32 (a:=c.Birth) (b:=(1:UInt32)) rfl rfl) (Run.llz [] 4 ZB rfl (Zi 19 hx rfl (λj hx=> ?_) (λj hx=> ?_))))
     ·
      refine Run.llz [0] 5 ZB rfl (ZA rfl rfl (R.leq32 (a:=c.Birth) (b:=(16777215:UInt32)) rfl rfl) (Run.lnz [] 5 ZB rfl ?_))
      obtain rfl:=Option.some.inj hx
      refine JN.forget 0 ?_
      exact ZE ⟨rfl,rfl,rfl⟩ rfl rfl rfl
     ·
      refine Run.lnz [] 8 ZB rfl ?_
      obtain rfl:=Option.some.inj hx
      refine JN.forget 0 ?_
      exact ZE ⟨rfl,rfl,rfl⟩ rfl rfl rfl
    ·
     refine Run.lnz [] 15 ZB rfl ?_
     obtain rfl:=Option.some.inj hx
     refine JN.forget 0 ?_
     exact ZE ⟨rfl,rfl,rfl⟩ rfl rfl rfl
   ·
    refine Run.lnz [] 22 ZB rfl ?_
    obtain rfl:=Option.some.inj hx
    refine JN.forget 0 ?_
    exact ZE ⟨rfl,rfl,rfl⟩ rfl rfl rfl
theorem ref16_one_ok{c}:Con Tryz.prog 48 true (sp_Ptr false c) (ref16_one c) (λr=> [.b r]):=by
 intro H r hx
 refine Does.enterC Tryz.func48 rfl rfl ?_
 intro w
 unfold ref16_one at hx
 refine Run.cl [] 2 ZB rfl (ZY rfl rfl (λf h=>Run.lc_s [] 4 ZB rfl (ZV hx [] [] rfl rfl (λa l0 o0 l o g=>l=(2,.bool a)::l0∧o=o0∧H=g) (λa i hx=> ?_) (λa j hx=> ?_))))
 ·
  rintro _ _ _ ⟨rfl,rfl,rfl⟩
  refine Run.nnz_s [] 2 ZB rfl ?_
  exact ZI [] rfl hx rfl rfl
 ·
  refine Run.clz [0] 2 ZB rfl (ZK hx E33 rfl ref10_May_ok rfl trivial ?_)
  intro k m hx
  refine ZA rfl rfl (Zd rfl) (Zi 5 hx rfl (λd hx=> ?_) (λd hx=> ?_))
  ·
   refine Run.llz [0] 3 ZB rfl (ZK hx E56 rfl ref10_None_ok rfl trivial ?_)
   intro p q hx
   refine Run.lnz [] 5 ZB rfl ?_
   obtain rfl:=Option.some.inj hx
   refine JN.forget 0 ?_
   exact ZE ⟨rfl,rfl,rfl⟩ rfl rfl rfl
  ·
   refine Run.lnz [] 6 ZB rfl ?_
   obtain rfl:=Option.some.inj hx
   refine JN.forget 0 ?_
   exact ZE ⟨rfl,rfl,rfl⟩ rfl rfl rfl
theorem ref16_May_ok{j}:Con Tryz.prog 27 true ([.sl false R_Ptr 5 j]) (ref16_May j) (λr=> [.b r]):=by
 intro H a9 b0 b1 a r hx
 refine Does.enterC Tryz.func27 rfl rfl ?_
 intro w
 unfold ref16_May at hx
 refine Run.cl [] 9 ZB rfl (ZA rfl rfl (ZQ U30 rfl (IsSlice.long a)) (Run.lcz_s [] 3 ZB rfl (ZJ hx rfl (λp hx=> ?_) (λp hx=> ?_))))
 ·
  refine Run.cnz_k [] 7 ZB rfl ?_
  exact ZI [] rfl hx rfl rfl
 ·
  refine Run.cc_s [] 8 ZB rfl (ZV hx [] [] rfl rfl (λf l0 o0 l o g=>∃k:Unit,l=l0∧o=o0∧H=g∧f=.inl k) (λf b2 hx=> ?_) (λf m hx=> ?_))
  ·
   rintro _ _ _ ⟨k,rfl,rfl,rfl,rfl⟩
   simp only[Sum.elim_inl]at hx
   refine Run.nnz_s [] 7 ZB rfl ?_
   exact ZI [] rfl hx rfl rfl
  ·
   refine JC.block (ZZ [0] [] rfl rfl (λl0 o0 d l o g=>l=(3,.int .i64 ((d:Nat):Int))::l0∧o=o0∧H=g) hx ⟨rfl,rfl,rfl⟩ rfl ?_)
   ·
    rintro b3 d _ _ _ ⟨rfl,rfl,rfl⟩ b4 hx c
    unfold ref16_May_l1 at hx
    refine Run.cl [] 5 ZB rfl (ZA rfl rfl (ZQ U30 rfl (IsSlice.long a)) (Run.lcz_s [] 3 ZB rfl (ZJ hx rfl (λh hx=> ?_) (λh hx=> ?_))))
    ·
     refine Run.cc_s [] 5 ZB rfl (Zn (so:=[]) 24 rfl Mixed ⟨by kernel_rfl,by kernel_rfl⟩ (Zb [] rfl) ?_)
     refine JB.run 2 [0,1] [] ZB rfl ?_
     obtain⟨b5,q,hx⟩:=ZR hx
     obtain⟨b6,b7,b8,s,v,b9,x⟩:=IsSlice.elem a q
     obtain rfl:=v
     refine JB.val (i:=2) [] rfl (R.ix U30 S32 rfl rfl s) ?_
     refine JB.val (i:=3) [] rfl (R.ldHF 0 S32 rfl x rfl rfl) ?_
     refine JB.one (i:=4) (by kernel_rfl) ?_
     refine JOB.step rfl trivial rfl (λK hK=>ZK hx E48 rfl ref16_one_ok rfl trivial ?_)
     intro c0 c1 hx
     refine ZN (hK _ _ _ (Hle.refl _) (Zb [] rfl) ?_)
     refine JB.run 2 [5,6] [] ZB rfl ?_
     refine JB.gX 19 hx rfl (λy hx=> ?_) (λy hx=> ?_)
     ·
      refine JB.run 17 [7,8,9,10,11,12,13,14,15,16,17,18,19,20,21,22,23] [] ZB rfl ?_
      refine JB.doneN (by kernel_rfl) ?_
      refine Run.nnz_sbk [] 10 ZB rfl ?_
      obtain rfl:=ZP c hx
      refine Run.nnz_kb [] 2 ZB rfl ?_
      clear hx;have hx:=m
      simp only[Sum.elim_inl,Sum.elim_inr]at hx
      refine Run.nnz_kk [] 2 ZB rfl ?_
      exact ZI [] rfl hx rfl rfl
     ·
      refine JB.run 3 [7,8,9] [] ZB rfl ?_
      refine JB.gX 22 hx rfl (λz hx=> ?_) (λz hx=> ?_)
      ·
       refine JB.run 2 [10,11] [] ZB rfl ?_
       obtain⟨c2,a0,hx⟩:=ZR hx
       obtain⟨c3,c4,c5,a1,a2,c6,a3⟩:=IsSlice.elem a a0
       obtain rfl:=a2
       refine JB.val (i:=12) [] rfl (R.ix U30 S32 rfl rfl a1) ?_
       refine JB.val (i:=13) [] rfl (R.fa F32_0 rfl) ?_
       refine JB.val (i:=14) [] rfl (R.ldH S3 rfl (a3 0 _ rfl)) ?_
       refine JB.run 3 [15,16,17] [] ZB rfl ?_
       obtain⟨c7,a4,hx⟩:=ZR hx
       obtain⟨c8,c9,d0,a5,a6,d1,a7⟩:=IsSlice.elem a a4
       obtain rfl:=a6
       refine JB.val (i:=18) [] rfl (R.ix U30 S32 rfl rfl a5) ?_
       refine JB.val (i:=19) [] rfl (R.fa F32_0 rfl) ?_
       refine JB.val (i:=20) [] rfl (R.ldH S3 rfl (a7 0 _ rfl)) ?_
       refine JB.run 3 [21,22,23] [] ZB rfl ?_
       refine JB.doneN (by kernel_rfl) ?_
       refine JN.next (ZJ hx rfl (λa8 hx=> ?_) (λa8 hx=> ?_))
       ·
        refine Run.cnz_bk [] 8 ZB rfl ?_
        obtain rfl:=ZP c hx
        refine Run.nnz_kb [] 2 ZB rfl ?_
        clear hx;have hx:=m
        simp only[Sum.elim_inl,Sum.elim_inr]at hx
        refine Run.nnz_kk [] 2 ZB rfl ?_
        exact ZI [] rfl hx rfl rfl
       ·
        refine Run.clz_bs [] 5 ZB rfl (ZA rfl rfl (Zr rfl rfl (of_decide_eq_true h) (IsSlice.lenI a)) (Run.lnz [] 2 ZB rfl ?_))
        replace hx:=ZU c hx
        exact ZE ⟨d+1,⟨rfl,rfl,rfl⟩,hx⟩ rfl rfl rfl
      ·
       refine JB.run 14 [10,11,12,13,14,15,16,17,18,19,20,21,22,23] [] ZB rfl ?_
       refine JB.doneN (by kernel_rfl) ?_
       refine Run.nlz_sbs [] 7 ZB rfl (ZA rfl rfl (Zr rfl rfl (of_decide_eq_true h) (IsSlice.lenI a)) (Run.lnz [] 2 ZB rfl ?_))
       replace hx:=ZU c hx
       exact ZE ⟨d+1,⟨rfl,rfl,rfl⟩,hx⟩ rfl rfl rfl
    ·
     refine Run.cnz_k [] 2 ZB rfl ?_
     obtain rfl:=ZP c hx
     refine Run.nnz_kb [] 2 ZB rfl ?_
     exact ZE ⟨(),rfl,rfl,rfl,rfl⟩ rfl rfl rfl
theorem ref10_Number_ok{v x}:Con Tryz.prog 95 true ([.w32 v,.i x]) (ref10_Number v x) (λr=> [.row true RU8 5 1 r]):=by
 intro H r hx
 refine Does.enterC Tryz.func95 rfl rfl ?_
 intro w
 unfold ref10_Number at hx
 refine Run.cc [] 16 ZB rfl (ZV hx [] [] rfl rfl (λk l0 o0 l o g=>∃m:Option Addr,∃p:Nat,∃q:Nat,∃s:Own,l=(5,.slice m p q)::l0∧o=s::o0∧H=g∧RowOf (New H H) RU8 w.heap.size 5 1 (.slice m p q) k s) (λk b0 hx=> ?_) (λk b1 hx=> ?_))
 ·
  rintro _ _ _ ⟨m,p,q,s,rfl,rfl,rfl,a3⟩
  refine Run.nnz_s [] 8 ZB rfl ?_
  exact ZI [0] rfl hx rfl ⟨⟨_,a3⟩,rfl⟩
 ·
  refine JC.block (JC.seg0 (ZZ [1] [] rfl rfl (λl0 o0 c l o g=>∃d:Option Addr,∃f:Nat,∃h:Nat,∃j:Own,l=(0,.int .u32 (c.1.toNat:Int))::(5,.slice d f h)::(6,.int .i64 c.2.2)::l0∧o=j::o0∧H=g∧RowOf (New H H) RU8 w.heap.size 5 1 (.slice d f h) c.2.1 j) hx ⟨none,0,0,[],rfl,rfl,rfl,(ZF _ _ _ _ _)⟩ rfl ?_))
  ·
   rintro b2 c _ _ _ ⟨d,f,h,j,rfl,rfl,rfl,y⟩ b3 hx z
   unfold ref10_Number_l1 at hx
   refine Run.cc [] 8 ZB rfl (ZJ hx rfl (λa4 hx=> ?_) (λa4 hx=> ?_))
   ·
    refine Run.cl_s [] 8 ZB rfl (ZA rfl rfl (R.rem32 (a:=c.1) (b:=(256:UInt32)) rfl rfl (by decide)) (ZA rfl rfl (R.cv_u32_u8 (a:=c.1%(256:UInt32)) U27 U5 rfl) (Zt (HF:=(New H H)) (R:=RU8) (ls:=[(c.1%(256:UInt32)).toUInt8]) (vs:=[.int .u8 (((c.1%(256:UInt32)).toUInt8).toNat:Int)]) U26 I5 rfl rfl (⟨_,_,rfl,rfl,rfl,rfl⟩) RU8.one rfl rfl rfl (by simp[maxLen]) rfl (λb4 b5 a0=> ?_))))
    obtain⟨b6,b7,rfl⟩:=RowOf.val a0
    obtain⟨a1,a5,a6,hx⟩:=Zc hx
    refine Zk (HF:=(New H H)) 1 U26 I5 rfl rfl y rfl (SrcF.row 0 U26 rfl a0) a5 a6 rfl (Nat.le_refl _) rfl (λb8 a7 a2=> ?_)
    obtain⟨a8,a9,rfl⟩:=RowOf.val a2
    refine Run.llz_s [] 5 ZB rfl (ZA rfl rfl (R.quo32 (a:=c.1) (b:=(256:UInt32)) rfl rfl (by decide)) ?_)
    refine Run.lnz_bs [] 9 ZB rfl ?_
    replace hx:=ZU z hx
    refine JN.forget 0 ?_
    exact ZE ⟨(c.1/(256:UInt32),a1,w64 (c.2.2+1)),⟨a8,a1.length,a9,a7,rfl,rfl,rfl,a2⟩,hx⟩ rfl rfl rfl
   ·
    refine Run.cnz_k [] 2 ZB rfl ?_
    obtain rfl:=ZP z hx
    refine Run.nnz_kb [] 2 ZB rfl ?_
    exact ZE ⟨d,f,h,j,rfl,rfl,rfl,y⟩ rfl rfl rfl
theorem ref10_Bytes_ok{a}:Con Tryz.prog 74 true (sp_Ptr false a) (ref10_Bytes a) (λr=> [.row true RU8 5 1 r]):=by
 intro H r hx
 refine Does.enterC Tryz.func74 rfl rfl ?_
 intro w
 unfold ref10_Bytes at hx
 refine Run.cl [] 2 ZB rfl (ZY rfl rfl (λc3 c4=>Run.lc_s [] 4 ZB rfl (ZV hx [1] [0] rfl rfl (λd l0 o0 l o g=>∃f:Option Addr,∃h:Nat,∃k:Nat,∃m:Own,l=(3,.slice f h k)::l0∧o=m::o0∧H=g∧RowOf (New H H) RU8 w.heap.size 5 1 (.slice f h k) d m) (λd c5 hx=> ?_) (λd c6 hx=> ?_))))
 ·
  rintro _ _ _ ⟨f,h,k,m,rfl,rfl,rfl,a4⟩
  refine Run.nl_s [1] 6 ZB rfl (ZK hx E95 rfl ref10_Number_ok rfl trivial ?_)
  intro c7 c8 hx c9 d0 d1 d2 a5
  obtain⟨d3,a6,a7,hx⟩:=Zc hx
  refine Zk (HF:=(New H H)) 1 U26 I5 rfl rfl a4 rfl (SrcF.row 0 U26 rfl a5) a6 a7 rfl (Nat.le_refl _) rfl (λd4 d5 x=> ?_)
  obtain⟨d6,d7,rfl⟩:=RowOf.val x
  refine Run.ll_s [2] 8 ZB rfl (ZK hx E95 rfl ref10_Number_ok rfl trivial ?_)
  intro d8 d9 hx e0 e1 e2 e3 a8
  obtain⟨e4,a9,b0,hx⟩:=Zc hx
  refine Zk (HF:=(New H H)) 2 U26 I5 rfl rfl x rfl (SrcF.row 0 U26 rfl a8) a9 b0 rfl (Nat.le_refl _) rfl (λe5 e6 y=> ?_)
  obtain⟨e7,e8,rfl⟩:=RowOf.val y
  refine Run.ll_s [3] 8 ZB rfl (ZK hx E95 rfl ref10_Number_ok rfl trivial ?_)
  intro e9 f0 hx f1 f2 f3 f4 b1
  obtain⟨f5,b2,b3,hx⟩:=Zc hx
  refine Zk (HF:=(New H H)) 3 U26 I5 rfl rfl y rfl (SrcF.row 0 U26 rfl b1) b2 b3 rfl (Nat.le_refl _) rfl (λf6 f7 z=> ?_)
  obtain⟨f8,f9,rfl⟩:=RowOf.val z
  refine Run.lnz_s [] 4 ZB rfl ?_
  exact ZI [3] rfl hx rfl ⟨⟨_,z⟩,rfl⟩
 ·
  refine Zn (so:=[(_,[])]) 9 rfl Mixed ⟨by kernel_rfl,by kernel_rfl⟩ (Zb [0] rfl) ?_
  refine JB.run 2 [0,1] [0] ZB rfl ?_
  refine JB.val (i:=2) [] rfl (R.cv_i64_u8 U3 U5 rfl) ?_
  refine JB.run 2 [4,5] [0] ZB rfl ?_
  obtain⟨g0,a0,hx⟩:=ZT hx
  obtain⟨a1,a2,a3,hx⟩:=Zc hx
  refine JB.two (i:=3) (j:=6) (by kernel_rfl) ?_ ?_
  ·
   refine JOB.step rfl trivial rfl (λK hK=>Zt (HF:=(New H H)) (R:=RU8) (ls:=[u8i a.At]) (vs:=[.int .u8 ((u8i a.At).toNat:Int)]) U26 I5 rfl rfl (⟨_,_,rfl,rfl,rfl,rfl⟩) RU8.one rfl rfl rfl (by simp[maxLen]) rfl (λb4 b5 b=> ?_))
   obtain⟨b6,b7,rfl⟩:=RowOf.val b
   refine ZN (hK _ _ _ (Hle.refl _) (Zb [1] rfl) ?_)
   refine JB.one (i:=6) (by kernel_rfl) ?_
   refine JOB.step rfl trivial rfl (λK hK=>JL.conQ' a0 E95 rfl ref10_Number_ok rfl trivial ?_)
   intro b8 b9 c0 c1 p
   refine ZN (hK _ _ _ (Hle.refl _) (Zb [2] rfl) ?_)
   refine JB.one (i:=7) (by kernel_rfl) ?_
   refine JOB.step rfl trivial rfl (λK hK=>Zk (HF:=(New H H)) 1 U26 I5 rfl rfl b rfl (SrcF.row 0 U26 rfl p) a2 a3 rfl (Nat.le_refl _) rfl (λc2 q c=> ?_))
   obtain⟨s,v,rfl⟩:=RowOf.val c
   refine ZN (hK _ _ _ (Hle.refl _) (Zb [2] rfl) ?_)
   refine JB.val (i:=8) [] rfl (R.assign rfl) ?_
   refine JB.doneN (by kernel_rfl) ?_
   obtain rfl:=Option.some.inj hx
   refine JN.forget 0 (ZC 1 rfl (ZC 1 rfl ?_))
   exact ZE ⟨s,a1.length,v,q,rfl,rfl,rfl,c⟩ rfl rfl rfl
  ·
   refine JOB.step rfl trivial rfl (λK hK=>JL.conQ' a0 E95 rfl ref10_Number_ok rfl trivial ?_)
   intro b8 b9 c0 c1 p
   refine ZN (hK _ _ _ (Hle.refl _) (Zb [1] rfl) ?_)
   refine JB.one (i:=3) (by kernel_rfl) ?_
   refine JOB.step rfl trivial rfl (λK hK=>Zt (HF:=(New H H)) (R:=RU8) (ls:=[u8i a.At]) (vs:=[.int .u8 ((u8i a.At).toNat:Int)]) U26 I5 rfl rfl (⟨_,_,rfl,rfl,rfl,rfl⟩) RU8.one rfl rfl rfl (by simp[maxLen]) rfl (λb4 b5 b=> ?_))
   obtain⟨b6,b7,rfl⟩:=RowOf.val b
   refine ZN (hK _ _ _ (Hle.refl _) (Zb [2] rfl) ?_)
   refine JB.one (i:=7) (by kernel_rfl) ?_
   refine JOB.step rfl trivial rfl (λK hK=>Zk (HF:=(New H H)) 0 U26 I5 rfl rfl b rfl (SrcF.row 1 U26 rfl p) a2 a3 rfl (Nat.le_refl _) rfl (λc2 q c=> ?_))
   obtain⟨s,v,rfl⟩:=RowOf.val c
   refine ZN (hK _ _ _ (Hle.refl _) (Zb [2] rfl) ?_)
   refine JB.val (i:=8) [] rfl (R.assign rfl) ?_
   refine JB.doneN (by kernel_rfl) ?_
   obtain rfl:=Option.some.inj hx
   refine JN.forget 1 (ZC 1 rfl (ZC 1 rfl ?_))
   exact ZE ⟨s,a1.length,v,q,rfl,rfl,rfl,c⟩ rfl rfl rfl
theorem ref10_Packed_ok{q}:Con Tryz.prog 50 true ([.sl false R_Ptr 5 q]) (ref10_Packed q) (λr=> [.row true RU8 5 1 r]):=by
 intro H c1 c2 c3 s r hx
 refine Does.enterC Tryz.func50 rfl rfl ?_
 intro w
 unfold ref10_Packed at hx
 refine Run.cl [] 7 ZB rfl (JL.mkS (HF:=New H H) (N:=256) U26 I5 rfl rfl (by decide) rfl (λc4 a3 v a4=> ?_))
 obtain⟨a5,a6,rfl⟩:=RowOf.val v
 refine Run.lc_s [] 9 ZB rfl (ZV hx [] [] rfl rfl (λp l0 o0 l o g=>∃h:Option Addr,∃i:Nat,∃j:Nat,∃k:Own,l=(3,.slice h i j)::l0∧o=k::o0∧H=g∧RowOf (New H H) RU8 w.heap.size 5 1 (.slice h i j) p k∧Spare (.slice h i j) k 256) (λp c5 hx=> ?_) (λp c6 hx=> ?_))
 ·
  rintro _ _ _ ⟨h,i,j,k,rfl,rfl,rfl,a7,c7⟩
  refine Run.nnz_s [] 8 ZB rfl ?_
  exact ZI [0] rfl hx rfl ⟨⟨_,a7⟩,rfl⟩
 ·
  refine JC.block (ZZ [0] [] rfl rfl (λl0 o0 m l o g=>∃b:Option Addr,∃c:Nat,∃d:Nat,∃f:Own,l=(3,.slice b c d)::(4,.int .i64 ((m.2:Nat):Int))::l0∧o=f::o0∧H=g∧RowOf (New H H) RU8 w.heap.size 5 1 (.slice b c d) m.1 f∧Spare (.slice b c d) f 256) hx ⟨a5,([]:List UInt8).length,a6,a3,rfl,rfl,rfl,v,a4⟩ rfl ?_)
  ·
   rintro c8 m _ _ _ ⟨b,c,d,f,rfl,rfl,rfl,x,y⟩ c9 hx z
   unfold ref10_Packed_l1 at hx
   refine Run.cc [] 7 ZB rfl (ZJ hx rfl (λa0 hx=> ?_) (λa0 hx=> ?_))
   ·
    refine Run.cl_s [] 7 ZB rfl (JL.alloc Z32 rfl (λa8 d0=>Run.ll_s [0] 8 ZB rfl (ZA rfl rfl (ZQ U30 rfl (IsSlice.long s)) (Run.lcz_s [] 3 ZB rfl (ZV hx [0,3,4,5] [1] rfl rfl (λa l0 o0 l o g=>l=l0∧o= [(a8,.cells #[.int .i64 a.At,.int .u32 (a.Birth.toNat:Int),.int .u32 (a.Iv.toNat:Int),.int .u32 (a.Tag.toNat:Int),.int .u32 (a.Sum.toNat:Int)] 32 (0,0))]::o0∧H=g) (λa d1 hx=> ?_) (λa d2 hx=> ?_))))))
    ·
     rintro _ _ _ ⟨rfl,rfl,rfl⟩
     refine Run.nlz_s [0] 4 ZB rfl (ZK hx E74 rfl ref10_Bytes_ok rfl trivial ?_)
     intro d3 d4 hx d5 d6 d7 d8 a9
     obtain⟨a1,b0,b1,hx⟩:=appN_some hx
     refine JL.appS (HF:=(New H H)) 2 U26 I5 rfl rfl x y rfl (SrcF.row 0 U26 rfl a9) b0 b1 rfl (λd9 b2 a2 b3=> ?_)
     obtain⟨b4,b5,rfl⟩:=RowOf.val a2
     refine Run.llz_bs [] 6 ZB rfl (ZA rfl rfl (Zr rfl rfl (of_decide_eq_true a0) (by decide)) ?_)
     refine Run.lnz [] 2 ZB rfl ?_
     replace hx:=ZU z hx
     refine JN.forget 1 (JN.forget 0 ?_)
     exact ZE ⟨(a1,m.2+1),⟨b4,a1.length,b5,b2,rfl,rfl,rfl,a2,b3⟩,hx⟩ rfl rfl rfl
    ·
     refine ZJ hx rfl (λb6 hx=> ?_) (λb6 hx=> ?_)
     ·
      refine Run.clz [] 3 ZB rfl ?_
      obtain⟨e0,b7,hx⟩:=ZR hx
      obtain⟨e1,e2,e3,b8,b9,e4,c0⟩:=IsSlice.elem s b7
      obtain rfl:=b9
      refine ZA rfl rfl (R.ix U30 S32 rfl rfl b8) (ZA rfl rfl (R.ldHF 0 S32 rfl c0 rfl rfl) (Run.lnz [0] 2 ZB rfl ?_))
      obtain rfl:=Option.some.inj hx
      refine ZC 1 rfl (ZC 1 rfl ?_)
      exact ZE ⟨rfl,rfl,rfl⟩ rfl rfl rfl
     ·
      refine JC.skip ?_
      obtain rfl:=Option.some.inj hx
      refine ZC 1 rfl (ZC 1 rfl ?_)
      exact ZE ⟨rfl,rfl,rfl⟩ rfl rfl rfl
   ·
    refine Run.cnz_k [] 2 ZB rfl ?_
    obtain rfl:=ZP z hx
    refine Run.nnz_kb [] 2 ZB rfl ?_
    exact ZE ⟨b,c,d,f,rfl,rfl,rfl,x,y⟩ rfl rfl rfl
theorem ref12_All_ok{y}:Con Tryz.prog 70 true ([.sl false RU8 1 y]) (ref12_All y) (λr=> [.row true RInt 3 1 r]):=by
 intro H b5 b6 b7 a2 r hx
 refine Does.enterC Tryz.func70 rfl rfl ?_
 intro w
 unfold ref12_All at hx
 refine Run.cc [] 16 ZB rfl (ZV hx [] [] rfl rfl (λj l0 o0 l o g=>∃k:Option Addr,∃m:Nat,∃p:Nat,∃q:Own,l=(3,.slice k m p)::l0∧o=q::o0∧H=g∧RowOf (New H H) RInt w.heap.size 3 1 (.slice k m p) j q) (λj b8 hx=> ?_) (λj b9 hx=> ?_))
 ·
  rintro _ _ _ ⟨k,m,p,q,rfl,rfl,rfl,a3⟩
  refine Run.nnz_s [] 8 ZB rfl ?_
  exact ZI [0] rfl hx rfl ⟨⟨_,a3⟩,rfl⟩
 ·
  refine JC.block (JC.seg0 (ZZ [0] [] rfl rfl (λl0 o0 c l o g=>∃d:Option Addr,∃f:Nat,∃h:Nat,∃i:Own,l=(3,.slice d f h)::(4,.int .i64 ((c.2:Nat):Int))::l0∧o=i::o0∧H=g∧RowOf (New H H) RInt w.heap.size 3 1 (.slice d f h) c.1 i) hx ⟨none,0,0,[],rfl,rfl,rfl,(ZF _ _ _ _ _)⟩ rfl ?_))
  ·
   rintro c0 c _ _ _ ⟨d,f,h,i,rfl,rfl,rfl,s⟩ c1 hx v
   unfold ref12_All_l1 at hx
   refine Run.cc [] 7 ZB rfl (ZJ hx rfl (λx hx=> ?_) (λx hx=> ?_))
   ·
    refine Run.cl_s [] 8 ZB rfl ?_
    obtain⟨a4,a5,hx⟩:=ZR hx
    obtain⟨c2,c3,c4,a6,a7,c5,a8⟩:=IsSlice.elem a2 a5
    obtain rfl:=a7
    refine ZA rfl rfl (R.ix U26 S5 rfl rfl a6) (ZA rfl rfl (R.ldH S5 rfl (a8 0 _ rfl)) (ZA rfl rfl (R.eql8 (a:=a4) (b:=(0:UInt8)) rfl rfl) (Run.lcz_s [] 2 ZB rfl (ZJ hx rfl (λa9 hx=> ?_) (λa9 hx=> ?_)))))
    ·
     refine Run.clz [] 3 ZB rfl (Zt (HF:=(New H H)) (R:=RInt) (ls:=[((c.2:Nat):Int)]) (vs:=[.int .i64 ((c.2:Nat):Int)]) U35 I3 rfl rfl (⟨_,_,rfl,rfl,rfl,rfl⟩) RInt.one rfl rfl rfl (by simp[maxLen]) rfl (λc6 c7 z=> ?_))
     obtain⟨c8,c9,rfl⟩:=RowOf.val z
     obtain⟨a0,b0,b1,hx⟩:=Zc hx
     refine Zk (HF:=(New H H)) 1 U35 I3 rfl rfl s rfl (SrcF.row 0 U35 rfl z) b0 b1 rfl (Nat.le_refl _) rfl (λd0 b2 a1=> ?_)
     obtain⟨b3,b4,rfl⟩:=RowOf.val a1
     refine Run.llz_bs [] 6 ZB rfl (ZA rfl rfl (Zr rfl rfl (of_decide_eq_true x) (by decide)) ?_)
     refine Run.lnz [] 2 ZB rfl ?_
     replace hx:=ZU v hx
     refine JN.forget 0 ?_
     exact ZE ⟨(a0,c.2+1),⟨b3,a0.length,b4,b2,rfl,rfl,rfl,a1⟩,hx⟩ rfl rfl rfl
    ·
     refine Run.clz_bs [] 5 ZB rfl (ZA rfl rfl (Zr rfl rfl (of_decide_eq_true x) (by decide)) ?_)
     refine Run.lnz [] 2 ZB rfl ?_
     replace hx:=ZU v hx
     exact ZE ⟨(c.1,c.2+1),⟨d,f,h,i,rfl,rfl,rfl,s⟩,hx⟩ rfl rfl rfl
   ·
    refine Run.cnz_k [] 2 ZB rfl ?_
    obtain rfl:=ZP v hx
    refine Run.nnz_kb [] 2 ZB rfl ?_
    exact ZE ⟨d,f,h,i,rfl,rfl,rfl,s⟩ rfl rfl rfl
theorem ref12_With_ok{d a b}:Con Tryz.prog 71 true ([.sl false RU8 1 d,.i a,.w8 b]) (ref12_With d a b) (λr=> [.row true RU8 5 1 r]):=by
 intro H v x z h r hx
 refine Does.enterC Tryz.func71 rfl rfl ?_
 intro w
 unfold ref12_With at hx
 refine Run.cl [] 8 ZB rfl (JL.seg0 ?_)
 obtain⟨a0,j,m,hx⟩:=Zc hx
 refine Zk (HF:=(New H H)) 0 U26 I5 rfl rfl (ZF _ RU8 _ _ _) rfl (SrcF.sliceC RU8.const RU8.one U26 h) j m rfl (Nat.le_refl _) rfl (λa1 a2 c=> ?_)
 obtain⟨a3,a4,rfl⟩:=RowOf.val c
 refine Run.ll_s [] 8 ZB rfl ?_
 obtain⟨p,hx⟩:=chk_some hx
 obtain⟨a5,a6,f⟩:=RowOf.place c p
 refine ZA rfl rfl (R.ix U26 S5 rfl rfl f) ?_
 obtain⟨a7,q,a8,hx⟩:=setI_some hx
 refine JL.stE 0 (k:=a) (y:=b) S5 rfl c rfl f rfl rfl (rfl) RU8.one q (λa9 s b0=>Run.lnz_s [] 9 ZB rfl ?_)
 exact ZI [0] rfl hx rfl ⟨⟨_,s⟩,rfl⟩
theorem ref09_With_ok{h a j}:Con Tryz.prog 72 false (sp_Disk false h++ [.i a,.sl false RU8 1 j]) (ref09_With h a j) (λr=> [.st 2,.row true (RSl RU8 1) 26 1 r.Blocks,.row true R_Write 78 2 r.Waits]):=by
 intro H a7 a8 a9 s b0 b1 b2 v b3 b4 b5 x r hx
 refine Does.enterC Tryz.func72 rfl rfl ?_
 intro w
 unfold ref09_With at hx
 refine Run.cl [] 2 ZB rfl (ZY rfl rfl (λb6 b7=>JL.alloc Z25 rfl (λb8 b9=>Run.ll_s [1] 5 ZB rfl (JL.con hx E18 rfl ref09_Twin_ok rfl ⟨s,v,trivial⟩ ?_))))
 intro c0 c1 hx y z c2 c3 c4 c5 a0 c6 c7 c8 c9 a1
 refine JL.alloc Z25 rfl (λd0 d1=>Run.lc_s [0] 4 ZB rfl (Zn (so:=[(_,[7,9]),(_,[]),(_,[7]),(_,[]),(_,[])]) 10 rfl Mixed ⟨by kernel_rfl,by kernel_rfl⟩ (Zb [0,1,2,3,4] rfl) ?_))
 refine JB.val (i:=0) [] rfl (R.fa F25_1 rfl) ?_
 refine JB.val (i:=1) [7,8,9] rfl (R.ldo 0 S23 rfl rfl rfl) ?_
 refine JB.run 2 [2,3] [] ZB rfl ?_
 refine JB.one (i:=4) (by kernel_rfl) ?_
 refine JOB.step rfl trivial rfl (λK hK=>JL.seg0 ?_)
 obtain⟨c,a2,a3,hx⟩:=Zc hx
 refine Zk (HF:=(New H y)) 0 U26 I5 rfl rfl (ZF _ RU8 _ _ _) rfl (SrcF.sliceC RU8.const RU8.one U26 (x.mono RU8.mono z)) a2 a3 rfl (Nat.le_refl _) rfl (λd2 d3 k=> ?_)
 obtain⟨d,f,rfl⟩:=RowOf.val k
 refine ZN (hK _ _ _ (Hle.refl _) (Zb [1,2,3,4,5] rfl) ?_)
 refine JB.val (i:=5) [] rfl (R.bldP (vs:=[(0,.int .i64 a),(1,.slice d c.length f)]) (cs:=[.int .i64 a,.slice d c.length f]) Z78 B78 rfl rfl rfl) ?_
 refine JB.one (i:=6) (by kernel_rfl) ?_
 refine JOB.step rfl trivial rfl (λK hK=>JL.pubN 0 RU8.mono rfl k (Nat.le_refl _) (λm b a4=>JL.forget 0 (Zt (HF:=(New H m)) (R:=R_Write) (ls:=[Write.mk a c]) (vs:=[.agg #[.int .i64 a,.slice d c.length f]]) U23 I78 rfl rfl (⟨_,_,rfl,rfl,⟨_,rfl,a4⟩,rfl⟩) R_Write.one rfl rfl rfl (by simp[maxLen]) rfl (λd4 d5 p=> ?_))))
 obtain⟨d6,d7,rfl⟩:=RowOf.val p
 refine ZN (hK _ _ _ b (Zb [1,2,3,4,5] rfl) ?_)
 refine JB.one (i:=7) (by kernel_rfl) ?_
 refine JOB.step rfl trivial rfl (λK hK=> ?_)
 obtain⟨d8,a5,a6,hx⟩:=Zc hx
 refine Zk (HF:=(New H m)) 3 U23 I78 rfl rfl (a1.mono R_Write.mono (New.mono b)) rfl (SrcF.row 0 U23 rfl p) a5 a6 rfl (Nat.le_refl _) rfl (λd9 e0 q=> ?_)
 obtain⟨e1,e2,rfl⟩:=RowOf.val q
 refine ZN (hK _ _ _ b (Zu [true,false,true,false,false] [0,2,0,4,5] (by kernel_rfl) rfl) ?_)
 refine JB.val (i:=8) [] rfl (R.fa F25_1 rfl) ?_
 refine JB.one (i:=9) (by kernel_rfl) ?_
 refine JOB.step rfl trivial rfl (λK hK=>Run.lnz [1] 2 ZB rfl (hK _ _ _ b (Zu [true,false,true,false,false] [0,2,0,4,5] (by kernel_rfl) rfl) ?_))
 refine JB.doneN (by kernel_rfl) ?_
 refine Run.nnz_s [1,4] 8 ZB rfl ?_
 exact Zm [4] [2,2] ZB rfl hx rfl ⟨⟨_,(a0.mono (RSl.mono RU8.mono) (New.mono b))⟩,⟨_,q⟩,rfl⟩
theorem ref02_byteAt_ok{c d}:Con Tryz.prog 141 true ([.sl false RU8 1 c,.i d]) (ref02_byteAt c d) (λr=> [.w32 r]):=by
 intro H s v x b r hx
 refine Does.enterC Tryz.func141 rfl rfl ?_
 intro w
 unfold ref02_byteAt at hx
 refine Run.cl [] 10 ZB rfl (ZA rfl rfl (ZQ U26 rfl (IsSlice.long b)) (Run.lcz_s [] 3 ZB rfl (ZJ hx rfl (λf hx=> ?_) (λf hx=> ?_))))
 ·
  refine Run.cl [] 4 ZB rfl ?_
  obtain⟨h,j,hx⟩:=ZR hx
  obtain⟨y,z,a0,k,m,a1,p⟩:=IsSlice.elem b j
  obtain rfl:=m
  refine ZA rfl rfl (R.ix U26 S5 rfl rfl k) (ZA rfl rfl (R.ldH S5 rfl (p 0 _ rfl)) (ZA rfl rfl (R.cv_u8_u32 (a:=h) U5 U27 rfl) (Run.lnz_sk [] 5 ZB rfl ?_)))
  exact ZI [] rfl hx rfl rfl
 ·
  refine Run.cl_s [] 7 ZB rfl (ZA rfl rfl (ZQ U26 rfl (IsSlice.long b)) (Run.lcz_s [] 3 ZB rfl (ZJ hx rfl (λq hx=> ?_) (λq hx=> ?_))))
  ·
   refine Run.cnz_k [] 7 ZB rfl ?_
   exact ZI [] rfl hx rfl rfl
  ·
   refine Run.cnz_s [] 8 ZB rfl ?_
   exact ZI [] rfl hx rfl rfl
theorem ref02_word_ok{j k}:Con Tryz.prog 117 true ([.sl false RU8 1 j,.i k]) (ref02_word j k) (λr=> [.w32 r]):=by
 intro H p q s c r hx
 refine Does.enterC Tryz.func117 rfl rfl ?_
 intro w
 unfold ref02_word at hx
 refine Run.cl [] 9 ZB rfl (ZK hx E141 rfl ref02_byteAt_ok rfl ⟨c,trivial⟩ ?_)
 intro f v hx
 refine Run.llz [] 3 ZB rfl (ZK hx E141 rfl ref02_byteAt_ok rfl ⟨c,trivial⟩ ?_)
 intro d x hx
 refine ZA rfl rfl (R.mul32 (a:=(256:UInt32)) (b:=d) rfl rfl) (ZA rfl rfl (R.add32 (a:=f) (b:=(256:UInt32)*d) rfl rfl) (Run.llz [] 3 ZB rfl (ZK hx E141 rfl ref02_byteAt_ok rfl ⟨c,trivial⟩ ?_)))
 intro h y hx
 refine ZA rfl rfl (R.mul32 (a:=(65536:UInt32)) (b:=h) rfl rfl) (ZA rfl rfl (R.add32 (a:=f+((256:UInt32)*d)) (b:=(65536:UInt32)*h) rfl rfl) (Run.llz [] 3 ZB rfl (ZK hx E141 rfl ref02_byteAt_ok rfl ⟨c,trivial⟩ ?_)))
 intro m z hx
 refine ZA rfl rfl (R.mul32 (a:=(16777216:UInt32)) (b:=m) rfl rfl) (ZA rfl rfl (R.add32 (a:=(f+((256:UInt32)*d))+((65536:UInt32)*h)) (b:=(16777216:UInt32)*m) rfl rfl) (Run.lnz_s [] 4 ZB rfl ?_))
 exact ZI [] rfl hx rfl rfl
theorem ref02_plus_ok{b c}:Con Tryz.prog 142 true ([.w32 b,.w32 c]) (ref02_plus b c) (λr=> [.w32 r]):=by
 intro H r hx
 refine Does.enterC Tryz.func142 rfl rfl ?_
 intro w
 unfold ref02_plus at hx
 refine Run.cl [] 8 ZB rfl (ZA rfl rfl (R.cv_u32_i64 (a:=b) U27 U3 rfl) (ZA rfl rfl (Zd rfl) (ZA rfl rfl (R.cv_u32_i64 (a:=c) U27 U3 rfl) (ZA rfl rfl (R.add_i rfl rfl) (ZA rfl rfl (R.rem_i rfl rfl (by decide)) (ZA rfl rfl (R.cv_i64_u32 U3 U27 rfl) ?_))))))
 refine Run.lnz_s [] 4 ZB rfl ?_
 exact ZI [] rfl hx rfl rfl
theorem ref02_left_ok{c f}:Con Tryz.prog 143 true ([.w32 c,.i f]) (ref02_left c f) (λr=> [.w32 r]):=by
 intro H r hx
 refine Does.enterC Tryz.func143 rfl rfl ?_
 intro w
 unfold ref02_left at hx
 refine Run.cl [] 8 ZB rfl (ZA rfl rfl (R.cv_u32_i64 (a:=c) U27 U3 rfl) (Run.lc_s [] 9 ZB rfl (ZV hx [] [] rfl rfl (λd l0 o0 l o g=>l=(5,.int .i64 d)::l0∧o=o0∧H=g) (λd k hx=> ?_) (λd m hx=> ?_))))
 ·
  rintro _ _ _ ⟨rfl,rfl,rfl⟩
  refine Run.nl_s [] 4 ZB rfl (ZA rfl rfl (R.cv_i64_u32 U3 U27 rfl) (Run.lnz_s [] 4 ZB rfl ?_))
  exact ZI [] rfl hx rfl rfl
 ·
  refine JC.block (ZZ [1] [] rfl rfl (λl0 o0 b l o g=>l=(5,.int .i64 b.1)::(6,.int .i64 b.2)::l0∧o=o0∧H=g) hx ⟨rfl,rfl,rfl⟩ rfl ?_)
  ·
   rintro p b _ _ _ ⟨rfl,rfl,rfl⟩ q hx h
   unfold ref02_left_l1 at hx
   refine Run.cc [] 8 ZB rfl (ZJ hx rfl (λj hx=> ?_) (λj hx=> ?_))
   ·
    refine Run.cl_s [] 7 ZB rfl (ZA rfl rfl (R.rem_i rfl rfl (by decide)) ?_)
    refine Run.llz [] 2 ZB rfl (ZA rfl rfl (R.quo_i rfl rfl (by decide)) ?_)
    refine Run.lnz_bs [] 10 ZB rfl ?_
    replace hx:=ZU h hx
    exact ZE ⟨(w64 (((w64 (b.1*2)).tmod 4294967296)+(w64 ((w64 (b.1*2)).tdiv 4294967296))),w64 (b.2+1)),⟨rfl,rfl,rfl⟩,hx⟩ rfl rfl rfl
   ·
    refine Run.cnz_k [] 2 ZB rfl ?_
    obtain rfl:=ZP h hx
    refine Run.nnz_kb [] 2 ZB rfl ?_
    exact ZE ⟨rfl,rfl,rfl⟩ rfl rfl rfl
theorem ref02_Turn_ok{c}:Con Tryz.prog 118 true ([.st 4,.w32 c.e0,.w32 c.e1,.w32 c.e2,.w32 c.e3]) (ref02_Turn c) (λr=> [.st 4,.w32 r.e0,.w32 r.e1,.w32 r.e2,.w32 r.e3]):=by
 intro H r hx
 refine Does.enterC Tryz.func118 rfl rfl ?_
 intro w
 unfold ref02_Turn at hx
 refine Run.cl [] 2 ZB rfl (ZY rfl rfl (λp v=>JL.alloc Z135 rfl (λf x=>Run.ll_s [] 4 ZB rfl (ZA rfl rfl (R.ixA 0 U135 S27 rfl rfl rfl) (Run.ll_s [1] 6 ZB rfl (ZA rfl rfl (R.ixA 1 U135 S27 rfl rfl rfl) (Run.ll_s [1] 6 ZB rfl (ZA rfl rfl (R.ixA 2 U135 S27 rfl rfl rfl) (Run.ll_s [1] 6 ZB rfl (ZA rfl rfl (R.ixA 3 U135 S27 rfl rfl rfl) (Run.ll_s [1] 8 ZB rfl (ZK hx E142 rfl ref02_plus_ok rfl trivial ?_))))))))))))
 intro q y hx
 refine Run.ll_s [] 7 ZB rfl (ZA rfl rfl (R.xor32 (a:=c.e3) (b:=q) rfl rfl) (ZK hx E143 rfl ref02_left_ok rfl trivial ?_))
 intro s z hx
 refine Run.ll_s [] 7 ZB rfl (ZK hx E142 rfl ref02_plus_ok rfl trivial ?_)
 intro i a0 hx
 refine Run.ll_s [] 7 ZB rfl (ZA rfl rfl (R.xor32 (a:=c.e1) (b:=i) rfl rfl) (ZK hx E143 rfl ref02_left_ok rfl trivial ?_))
 intro j a1 hx
 refine Run.ll_s [] 7 ZB rfl (ZK hx E142 rfl ref02_plus_ok rfl trivial ?_)
 intro d a2 hx
 refine Run.ll_s [] 7 ZB rfl (ZA rfl rfl (R.xor32 (a:=s) (b:=d) rfl rfl) (ZK hx E143 rfl ref02_left_ok rfl trivial ?_))
 intro h a3 hx
 refine Run.lcz_s [] 3 ZB rfl (JC.tidy (l':=[(2,.pointer (some ⟨f,0,none⟩)),(3,.int .u32 (d.toNat:Int)),(4,.int .u32 (j.toNat:Int)),(5,.int .u32 (i.toNat:Int)),(6,.int .u32 (h.toNat:Int))]) (own':=[[(f,.cells #[.int .u32 ((0:UInt32).toNat:Int),.int .u32 ((0:UInt32).toNat:Int),.int .u32 ((0:UInt32).toNat:Int),.int .u32 ((0:UInt32).toNat:Int)] 135 (0,0))],[(p,.cells #[.int .u32 (c.e0.toNat:Int),.int .u32 (c.e1.toNat:Int),.int .u32 (c.e2.toNat:Int),.int .u32 (c.e3.toNat:Int)] 135 (0,0))]]) ⟨rfl,rfl,rfl,rfl,rfl,trivial⟩ rfl (JC.tidyP (l':=[(2,.pointer (some ⟨f,0,none⟩)),(3,.int .u32 (d.toNat:Int)),(4,.int .u32 (j.toNat:Int)),(5,.int .u32 (i.toNat:Int)),(6,.int .u32 (h.toNat:Int))]) (own':=[[(f,.cells #[.int .u32 ((0:UInt32).toNat:Int),.int .u32 ((0:UInt32).toNat:Int),.int .u32 ((0:UInt32).toNat:Int),.int .u32 ((0:UInt32).toNat:Int)] 135 (0,0))]]) (rst:=[_]) ⟨rfl,rfl,rfl,rfl,rfl,trivial⟩ (ZO 0 rfl ZM) (Run.cl [] 4 ZB rfl (ZK hx E142 rfl ref02_plus_ok rfl trivial ?_))))
 intro k a4 hx
 refine Run.ll_s [] 7 ZB rfl (ZA rfl rfl (R.xor32 (a:=j) (b:=k) rfl rfl) (ZK hx E143 rfl ref02_left_ok rfl trivial ?_))
 intro m a5 hx
 refine Run.ll_s [] 9 ZB rfl (ZA rfl rfl (R.bldA (vs:=[(0,.int .u32 (d.toNat:Int)),(1,.int .u32 (m.toNat:Int)),(2,.int .u32 (k.toNat:Int)),(3,.int .u32 (h.toNat:Int))]) (cells:=#[.int .u32 (d.toNat:Int),.int .u32 (m.toNat:Int),.int .u32 (k.toNat:Int),.int .u32 (h.toNat:Int)]) Z135 B135 rfl rfl rfl rfl) (Run.lnz_s [0] 4 ZB rfl ?_))
 exact JN.conCQ [0] [] ZB rfl hx rfl rfl
theorem ref02_Four_ok{p}:Con Tryz.prog 94 true ([.sl false RU8 1 p]) (ref02_Four p) (λr=> [.st 4,.w32 r.e0,.w32 r.e1,.w32 r.e2,.w32 r.e3]):=by
 intro H a1 a2 a3 f r hx
 refine Does.enterC Tryz.func94 rfl rfl ?_
 intro w
 unfold ref02_Four at hx
 refine Run.cl [] 2 ZB rfl (JL.alloc Z135 rfl (λa4 a5=>Run.ll_s [] 4 ZB rfl (ZA rfl rfl (R.bldA (vs:=[(0,.int .u32 ((1:UInt32).toNat:Int)),(1,.int .u32 ((2:UInt32).toNat:Int)),(2,.int .u32 ((3:UInt32).toNat:Int)),(3,.int .u32 ((4:UInt32).toNat:Int))]) (cells:=#[.int .u32 ((1:UInt32).toNat:Int),.int .u32 ((2:UInt32).toNat:Int),.int .u32 ((3:UInt32).toNat:Int),.int .u32 ((4:UInt32).toNat:Int)]) Z135 B135 rfl rfl rfl rfl) (JL.alloc Z135 rfl (λh a6=>Run.lc_s [0] 9 ZB rfl (ZV hx [0,2,3] [1] rfl rfl (λd l0 o0 l o g=>l=l0∧o= [(h,.cells #[.int .u32 (d.1.toNat:Int),.int .u32 (d.2.1.toNat:Int),.int .u32 (d.2.2.1.toNat:Int),.int .u32 (d.2.2.2.toNat:Int)] 135 (0,0))]::o0∧H=g) (λd a7 hx=> ?_) (λd a8 hx=> ?_)))))))
 ·
  rintro _ _ _ ⟨rfl,rfl,rfl⟩
  refine Run.nl_s [] 3 ZB rfl (ZA rfl rfl (R.ixA 1 U135 S27 rfl rfl rfl) (Run.llz [0] 2 ZB rfl (ZA rfl rfl (ZQ U26 rfl (IsSlice.long f)) (ZA rfl rfl (R.cv_i64_u32 U3 U27 rfl) (ZA rfl rfl (R.xor32 (a:=d.2.1) (b:=u32i (p.length:Int)) rfl rfl) (ZA rfl rfl (R.ixA 1 U135 S27 rfl rfl rfl) (Run.ll_s [0,0] 6 ZB rfl (ZK hx E118 rfl ref02_Turn_ok rfl trivial ?_))))))))
  intro a9 b0 hx
  refine ZK hx E118 rfl ref02_Turn_ok rfl trivial ?_
  intro b1 b2 hx
  refine ZK hx E118 rfl ref02_Turn_ok rfl trivial ?_
  intro b3 b4 hx
  refine ZK hx E118 rfl ref02_Turn_ok rfl trivial ?_
  intro b5 b6 hx
  refine Run.ll_s [0,0] 6 ZB rfl (ZK hx E118 rfl ref02_Turn_ok rfl trivial ?_)
  intro b7 b8 hx
  refine ZK hx E118 rfl ref02_Turn_ok rfl trivial ?_
  intro b9 c0 hx
  refine ZK hx E118 rfl ref02_Turn_ok rfl trivial ?_
  intro c1 c2 hx
  refine ZK hx E118 rfl ref02_Turn_ok rfl trivial ?_
  intro c3 c4 hx
  refine Run.lnz_s [1] 4 ZB rfl ?_
  exact JN.conCQ [1] [] ZB rfl hx rfl rfl
 ·
  refine JC.block (ZS 1 rfl (ZS 1 rfl (ZZ [0,2,3] [1] rfl rfl (λl0 o0 c l o g=>l=(4,.int .i64 c.2.2.2.2)::l0∧o= [(h,.cells #[.int .u32 (c.1.toNat:Int),.int .u32 (c.2.1.toNat:Int),.int .u32 (c.2.2.1.toNat:Int),.int .u32 (c.2.2.2.1.toNat:Int)] 135 (0,0))]::o0∧H=g) hx ⟨rfl,rfl,rfl⟩ rfl ?_)))
  ·
   rintro c5 c _ _ _ ⟨rfl,rfl,rfl⟩ c6 hx s
   unfold ref02_Four_l1 at hx
   refine Run.cl [] 5 ZB rfl (ZA rfl rfl (ZQ U26 rfl (IsSlice.long f)) (Run.lcz_s [] 3 ZB rfl (ZJ hx rfl (λv hx=> ?_) (λv hx=> ?_))))
   ·
    refine Run.cc_s [] 5 ZB rfl (ZV hx [0,2,3,4] [1] rfl rfl (λk l0 o0 l o g=>l=l0∧o= [(h,.cells #[.int .u32 (k.toNat:Int),.int .u32 (c.2.1.toNat:Int),.int .u32 (c.2.2.1.toNat:Int),.int .u32 (c.2.2.2.1.toNat:Int)] 135 (0,0))]::o0∧H=g) (λk c7 hx=> ?_) (λk c8 hx=> ?_))
    ·
     rintro _ _ _ ⟨rfl,rfl,rfl⟩
     refine Run.nc_s [] 2 ZB rfl (ZV hx [0,2,3,4] [1] rfl rfl (λq l0 o0 l o g=>l=l0∧o= [(h,.cells #[.int .u32 (k.toNat:Int),.int .u32 (c.2.1.toNat:Int),.int .u32 (q.toNat:Int),.int .u32 (c.2.2.2.1.toNat:Int)] 135 (0,0))]::o0∧H=g) (λq c9 hx=> ?_) (λq d0 hx=> ?_))
     ·
      rintro _ _ _ ⟨rfl,rfl,rfl⟩
      refine Run.nlz_s [0] 3 ZB rfl (ZK hx E118 rfl ref02_Turn_ok rfl trivial ?_)
      intro d1 d2 hx
      refine ZK hx E118 rfl ref02_Turn_ok rfl trivial ?_
      intro d3 d4 hx
      refine ZK hx E118 rfl ref02_Turn_ok rfl trivial ?_
      intro d5 d6 hx
      refine ZK hx E118 rfl ref02_Turn_ok rfl trivial ?_
      intro m d7 hx
      refine Run.lnz_bs [0] 9 ZB rfl ?_
      replace hx:=ZU s hx
      refine ZC 1 rfl (ZC 1 rfl ?_)
      exact ZE ⟨(m.e0,m.e1,m.e2,m.e3,w64 (c.2.2.2.2+8)),⟨rfl,rfl,rfl⟩,hx⟩ rfl rfl rfl
     ·
      refine JC.draw (so:=[_]) 9 rfl Mixed ⟨⟨1,rfl⟩,trivial⟩ (JA.val ⟨by kernel_rfl,by kernel_rfl⟩ (ZG _) (i:=0) rfl ⟨by kernel_rfl,by kernel_rfl,rfl⟩ trivial (ZD (Hle.refl _) ⟨⟨1,rfl⟩,trivial⟩) (R.ixA 2 U135 S27 rfl rfl rfl) rfl (JA.val ⟨by kernel_rfl,by kernel_rfl⟩ (ZG _) (i:=2) rfl ⟨by kernel_rfl,by kernel_rfl,rfl⟩ trivial (ZD (Hle.refl _) ⟨⟨1,rfl⟩,trivial⟩) (Zd rfl) rfl (JA.val ⟨by kernel_rfl,by kernel_rfl⟩ (ZG _) (i:=3) rfl ⟨by kernel_rfl,by kernel_rfl,rfl⟩ trivial (ZD (Hle.refl _) ⟨⟨1,rfl⟩,trivial⟩) (Zd rfl) rfl (JA.val ⟨by kernel_rfl,by kernel_rfl⟩ (ZG _) (i:=4) rfl ⟨by kernel_rfl,by kernel_rfl,rfl⟩ trivial (ZD (Hle.refl _) ⟨⟨1,rfl⟩,trivial⟩) (R.add_i rfl rfl) rfl (JA.two (i:=1) (j:=5) (by kernel_rfl) ?_ ?_)))))
      ·
       refine JO.step rfl trivial rfl (λK hK=>Run.lnz [0] 2 ZB rfl (hK _ _ _ (ZD (Hle.refl _) ⟨⟨1,rfl⟩,trivial⟩) (JA.one (i:=5) (by kernel_rfl) (JO.step rfl trivial rfl (λK hK=> ?_)))))
       refine ZK hx E117 rfl ref02_word_ok rfl ⟨f,trivial⟩ ?_
       intro x d8 hx
       refine ZN (hK _ _ _ (ZD (Hle.refl _) ⟨⟨1,rfl⟩,trivial⟩) (JA.val ⟨by kernel_rfl,by kernel_rfl⟩ (ZG _) (i:=6) rfl ⟨by kernel_rfl,by kernel_rfl,rfl⟩ trivial (ZD (Hle.refl _) ⟨⟨1,rfl⟩,trivial⟩) (R.xor32 (a:=c.2.2.1) (b:=x) rfl rfl) rfl (JA.val ⟨by kernel_rfl,by kernel_rfl⟩ (ZG _) (i:=7) rfl ⟨by kernel_rfl,by kernel_rfl,rfl⟩ trivial (ZD (Hle.refl _) ⟨⟨1,rfl⟩,trivial⟩) (R.ixA 2 U135 S27 rfl rfl rfl) rfl (JA.one (i:=8) (by kernel_rfl) (JO.step rfl trivial rfl (λK hK=> ?_))))))
       refine Run.lnz [0] 2 ZB rfl (hK _ _ _ (ZD (Hle.refl _) ⟨⟨1,rfl⟩,trivial⟩) (Zs (by kernel_rfl) ?_))
       obtain rfl:=Option.some.inj hx
       refine ZC 1 rfl (ZC 1 rfl ?_)
       exact ZE ⟨rfl,rfl,rfl⟩ rfl rfl rfl
      ·
       refine JO.step rfl trivial rfl (λK hK=>ZK hx E117 rfl ref02_word_ok rfl ⟨f,trivial⟩ ?_)
       intro y d9 hx
       refine ZN (hK _ _ _ (ZD (Hle.refl _) ⟨⟨1,rfl⟩,trivial⟩) (JA.one (i:=1) (by kernel_rfl) (JO.step rfl trivial rfl (λK hK=> ?_))))
       refine Run.lnz [0] 2 ZB rfl (hK _ _ _ (ZD (Hle.refl _) ⟨⟨1,rfl⟩,trivial⟩) (JA.val ⟨by kernel_rfl,by kernel_rfl⟩ (ZG _) (i:=6) rfl ⟨by kernel_rfl,by kernel_rfl,rfl⟩ trivial (ZD (Hle.refl _) ⟨⟨1,rfl⟩,trivial⟩) (R.xor32 (a:=c.2.2.1) (b:=y) rfl rfl) rfl (JA.val ⟨by kernel_rfl,by kernel_rfl⟩ (ZG _) (i:=7) rfl ⟨by kernel_rfl,by kernel_rfl,rfl⟩ trivial (ZD (Hle.refl _) ⟨⟨1,rfl⟩,trivial⟩) (R.ixA 2 U135 S27 rfl rfl rfl) rfl (JA.one (i:=8) (by kernel_rfl) (JO.step rfl trivial rfl (λK hK=> ?_))))))
       refine Run.lnz [0] 2 ZB rfl (hK _ _ _ (ZD (Hle.refl _) ⟨⟨1,rfl⟩,trivial⟩) (Zs (by kernel_rfl) ?_))
       obtain rfl:=Option.some.inj hx
       refine ZC 1 rfl (ZC 1 rfl ?_)
       exact ZE ⟨rfl,rfl,rfl⟩ rfl rfl rfl
    ·
     refine JC.draw (so:=[_]) 8 rfl Mixed ⟨⟨1,rfl⟩,trivial⟩ (JA.val ⟨by kernel_rfl,by kernel_rfl⟩ (ZG _) (i:=0) rfl ⟨by kernel_rfl,by kernel_rfl,rfl⟩ trivial (ZD (Hle.refl _) ⟨⟨1,rfl⟩,trivial⟩) (R.ixA 0 U135 S27 rfl rfl rfl) rfl (JA.val ⟨by kernel_rfl,by kernel_rfl⟩ (ZG _) (i:=2) rfl ⟨by kernel_rfl,by kernel_rfl,rfl⟩ trivial (ZD (Hle.refl _) ⟨⟨1,rfl⟩,trivial⟩) (Zd rfl) rfl (JA.val ⟨by kernel_rfl,by kernel_rfl⟩ (ZG _) (i:=3) rfl ⟨by kernel_rfl,by kernel_rfl,rfl⟩ trivial (ZD (Hle.refl _) ⟨⟨1,rfl⟩,trivial⟩) (Zd rfl) rfl (JA.two (i:=1) (j:=4) (by kernel_rfl) ?_ ?_))))
     ·
      refine JO.step rfl trivial rfl (λK hK=>Run.lnz [0] 2 ZB rfl (hK _ _ _ (ZD (Hle.refl _) ⟨⟨1,rfl⟩,trivial⟩) (JA.one (i:=4) (by kernel_rfl) (JO.step rfl trivial rfl (λK hK=> ?_)))))
      refine ZK hx E117 rfl ref02_word_ok rfl ⟨f,trivial⟩ ?_
      intro z e4 hx
      refine ZN (hK _ _ _ (ZD (Hle.refl _) ⟨⟨1,rfl⟩,trivial⟩) (JA.val ⟨by kernel_rfl,by kernel_rfl⟩ (ZG _) (i:=5) rfl ⟨by kernel_rfl,by kernel_rfl,rfl⟩ trivial (ZD (Hle.refl _) ⟨⟨1,rfl⟩,trivial⟩) (R.xor32 (a:=c.1) (b:=z) rfl rfl) rfl (JA.val ⟨by kernel_rfl,by kernel_rfl⟩ (ZG _) (i:=6) rfl ⟨by kernel_rfl,by kernel_rfl,rfl⟩ trivial (ZD (Hle.refl _) ⟨⟨1,rfl⟩,trivial⟩) (R.ixA 0 U135 S27 rfl rfl rfl) rfl (JA.one (i:=7) (by kernel_rfl) (JO.step rfl trivial rfl (λK hK=> ?_))))))
      refine Run.lnz [0] 2 ZB rfl (hK _ _ _ (ZD (Hle.refl _) ⟨⟨1,rfl⟩,trivial⟩) (Zs (by kernel_rfl) ?_))
      obtain rfl:=Option.some.inj hx
      refine ZC 1 rfl (ZC 1 rfl ?_)
      exact ZE ⟨rfl,rfl,rfl⟩ rfl rfl rfl
     ·
      refine JO.step rfl trivial rfl (λK hK=>ZK hx E117 rfl ref02_word_ok rfl ⟨f,trivial⟩ ?_)
      intro a0 e5 hx
      refine ZN (hK _ _ _ (ZD (Hle.refl _) ⟨⟨1,rfl⟩,trivial⟩) (JA.one (i:=1) (by kernel_rfl) (JO.step rfl trivial rfl (λK hK=> ?_))))
      refine Run.lnz [0] 2 ZB rfl (hK _ _ _ (ZD (Hle.refl _) ⟨⟨1,rfl⟩,trivial⟩) (JA.val ⟨by kernel_rfl,by kernel_rfl⟩ (ZG _) (i:=5) rfl ⟨by kernel_rfl,by kernel_rfl,rfl⟩ trivial (ZD (Hle.refl _) ⟨⟨1,rfl⟩,trivial⟩) (R.xor32 (a:=c.1) (b:=a0) rfl rfl) rfl (JA.val ⟨by kernel_rfl,by kernel_rfl⟩ (ZG _) (i:=6) rfl ⟨by kernel_rfl,by kernel_rfl,rfl⟩ trivial (ZD (Hle.refl _) ⟨⟨1,rfl⟩,trivial⟩) (R.ixA 0 U135 S27 rfl rfl rfl) rfl (JA.one (i:=7) (by kernel_rfl) (JO.step rfl trivial rfl (λK hK=> ?_))))))
      refine Run.lnz [0] 2 ZB rfl (hK _ _ _ (ZD (Hle.refl _) ⟨⟨1,rfl⟩,trivial⟩) (Zs (by kernel_rfl) ?_))
      obtain rfl:=Option.some.inj hx
      refine ZC 1 rfl (ZC 1 rfl ?_)
      exact ZE ⟨rfl,rfl,rfl⟩ rfl rfl rfl
   ·
    refine Run.cnz_k [] 2 ZB rfl ?_
    obtain rfl:=ZP s hx
    refine Run.nnz_kb [] 2 ZB rfl (ZC 1 rfl (ZC 1 rfl ?_))
    exact ZE ⟨rfl,rfl,rfl⟩ rfl rfl rfl
theorem ref02_Sum_ok{a}:Con Tryz.prog 73 true ([.sl false RU8 1 a]) (ref02_Sum a) (λr=> [.w32 r]):=by
 intro H c d f b r hx
 refine Does.enterC Tryz.func73 rfl rfl ?_
 intro w
 unfold ref02_Sum at hx
 refine Run.cl [] 8 ZB rfl (ZK hx E94 rfl ref02_Four_ok rfl ⟨b,trivial⟩ ?_)
 intro h i hx
 refine ZA rfl rfl (R.idxAk 0 U135 S27 rfl rfl rfl rfl rfl) (Run.lnz_s [] 4 ZB rfl ?_)
 exact ZI [] rfl hx rfl rfl
theorem ref13_Put_ok{j c d f k}:Con Tryz.prog 49 false (sp_Store false j++ [.w32 c,.w32 d,.w32 f,.sl false RU8 1 k]) (ref13_Put j c d f k) (λr=> [.st 5,.row true (RSl RU8 1) 26 1 r.1.Disk.Blocks,.row true R_Write 78 2 r.1.Disk.Waits,.row true RU8 5 1 r.1.Space,.w32 r.1.Epoch,.w32 r.1.Count]++sp_Ptr true r.2.1++ [.b r.2.2]):=by
 intro H z a0 a1 a2 a3 a4 a5 m d0 d1 d2 p d3 d4 d5 q r hx
 refine Does.enterC Tryz.func49 rfl rfl ?_
 intro w
 unfold ref13_Put at hx
 refine Run.cl [] 2 ZB rfl (ZY rfl rfl (λd6 d7=>JL.alloc Z29 rfl (λd8 d9=>JL.alloc Z32 rfl (λe0 e1=>Run.ll_s [2] 7 ZB rfl (ZK hx E70 rfl ref12_All_ok rfl ⟨p,trivial⟩ ?_)))))
 intro e2 e3 hx e4 e5 e6 e7 h
 refine Run.ll_s [] 7 ZB rfl (ZA rfl rfl (ZQ U35 rfl (RowOf.long h)) (Run.llz [] 2 ZB rfl (Zi 20 hx rfl (λa6 hx=> ?_) (λa6 hx=> ?_))))
 ·
  refine Run.lnz_sk [2,1] 20 ZB rfl (ZL (ZL (ZL ?_)))
  exact Zm [5,4] [0,0,0] ZB rfl hx rfl ⟨⟨0,ZF _ _ _ _ _⟩,⟨0,ZF _ _ _ _ _⟩,⟨0,ZF _ _ _ _ _⟩,rfl⟩
 ·
  refine Run.llz [3] 7 ZB rfl (ZA rfl rfl (ZQ U23 rfl (IsSlice.long m)) (Run.lcz_s [] 5 ZB rfl (ZJ hx rfl (λa7 hx=> ?_) (λa7 hx=> ?_))))
  ·
   refine Run.cnz_k [2,1] 11 ZB rfl (ZL (ZL (ZL ?_)))
   exact Zm [5,4] [0,0,0] ZB rfl hx rfl ⟨⟨0,ZF _ _ _ _ _⟩,⟨0,ZF _ _ _ _ _⟩,⟨0,ZF _ _ _ _ _⟩,rfl⟩
  ·
   refine Run.cc_s [] 3 ZB rfl (Zn (so:=[(_,[]),(_,[]),(_,[]),(_,[7])]) 8 rfl Mixed ⟨by kernel_rfl,by kernel_rfl⟩ (Zb [0,1,2,3] rfl) ?_)
   refine JB.val (i:=0) [] rfl (R.fa F29_1 rfl) ?_
   refine JB.val (i:=1) [5,6,7] rfl (R.ldo 3 S26 rfl rfl rfl) ?_
   refine JB.val (i:=2) [] rfl (Zd rfl) ?_
   obtain⟨e8,a8,hx⟩:=ZR hx
   obtain⟨s,e9,f0,v,a9,b0,b1,f1,b2⟩:=RowOf.elem h a8
   subst a9
   obtain rfl:=b1
   refine JB.val (i:=3) [] rfl (R.ix U35 S3 rfl rfl b0) ?_
   refine JB.val (i:=4) [] rfl (R.ldo 0 S3 rfl rfl (b2 0 _ rfl)) ?_
   refine JB.one (i:=5) (by kernel_rfl) ?_
   refine JOB.step rfl trivial rfl (λK hK=>ZK hx E71 rfl ref12_With_ok rfl ⟨p,trivial⟩ ?_)
   intro f2 f3 hx f4 f5 f6 f7 b3
   refine ZN (hK _ _ _ (Hle.refl _) (Zb [1,2,3,4] rfl) ?_)
   refine JB.val (i:=6) [] rfl (R.fa F29_1 rfl) ?_
   refine JB.one (i:=7) (by kernel_rfl) ?_
   refine JOB.step rfl trivial rfl (λK hK=>Run.lnz [4] 2 ZB rfl (hK _ _ _ (Hle.refl _) (Zu [false,false,false,true] [1,2,3,0] (by kernel_rfl) rfl) ?_))
   refine JB.doneN (by kernel_rfl) ?_
   refine Run.nc_s [] 2 ZB rfl (Zn (so:=[(_,[]),(_,[]),(_,[]),(_,[]),(_,[8])]) 9 rfl Mixed ⟨by kernel_rfl,by kernel_rfl⟩ (Zb [0,1,2,3,4] rfl) ?_)
   refine JB.val (i:=0) [] rfl (R.fa F29_0 rfl) ?_
   refine JB.val (i:=1) [6,7,8] rfl (R.ldoN 4 (vs:=[.slice z a0 a1,.slice a3 a4 a5]) S25 rfl rfl rfl rfl) ?_
   refine JB.val (i:=2) [] rfl (Zd rfl) ?_
   obtain⟨f8,b4,hx⟩:=ZR hx
   obtain⟨b5,f9,g0,b6,b7,b8,b9,g1,c0⟩:=RowOf.elem h b4
   obtain⟨rfl,rfl⟩:s=b5∧v=b6:=by simpa using b7
   obtain rfl:=b9
   refine JB.val (i:=3) [] rfl (R.ix U35 S3 rfl rfl b8) ?_
   refine JB.val (i:=4) [] rfl (R.ldo 1 S3 rfl rfl (c0 0 _ rfl)) ?_
   refine JB.val (i:=5) [] rfl (Zd rfl) ?_
   refine JB.one (i:=6) (by kernel_rfl) ?_
   refine JOB.step rfl trivial rfl (λK hK=>JL.con hx E72 rfl ref09_With_ok rfl ⟨a2,m,q,trivial⟩ ?_)
   intro g2 g3 hx g4 a g5 g6 g7 g8 c1 g9 h0 h1 h2 c2
   refine ZN (hK _ _ _ a (Zb [2,3,4,5,6] rfl) ?_)
   refine JB.val (i:=7) [] rfl (R.fa F29_0 rfl) ?_
   refine JB.one (i:=8) (by kernel_rfl) ?_
   refine JOB.step rfl trivial rfl (λK hK=>Run.lnz [6] 2 ZB rfl (hK _ _ _ a (Zu [false,false,false,false,true] [2,3,4,5,0] (by kernel_rfl) rfl) ?_))
   refine JB.doneN (by kernel_rfl) ?_
   refine Run.nc_s [] 2 ZB rfl (Zn (so:=[(_,[]),(_,[]),(_,[]),(_,[]),(_,[11]),(_,[10]),(_,[])]) 13 rfl Mixed ⟨by kernel_rfl,by kernel_rfl⟩ (Zb [0,1,2,3,4,5,6] rfl) ?_)
   refine JB.run 2 [0,1] [4] ZB rfl ?_
   obtain⟨x,c3,hx⟩:=ZR hx
   obtain⟨c4,h3,h4,c5,c6,c7,c8,h5,c9⟩:=RowOf.elem (h.mono RInt.mono (New.mono a)) c3
   obtain⟨rfl,rfl⟩:s=c4∧v=c5:=by simpa using c6
   obtain rfl:=c8
   refine JB.val (i:=2) [] rfl (R.ix U35 S3 rfl rfl c7) ?_
   refine JB.val (i:=3) [] rfl (R.ldo 3 S3 rfl rfl (c9 0 _ rfl)) ?_
   refine JB.run 4 [4,5,6,7] [] ZB rfl ?_
   refine JB.one (i:=8) (by kernel_rfl) ?_
   refine JOB.step rfl trivial rfl (λK hK=>ZK hx E73 rfl ref02_Sum_ok rfl ⟨(q.mono RU8.mono a),trivial⟩ ?_)
   intro y h6 hx
   refine ZN (hK _ _ _ (Hle.refl _) (Zb [0,1,2,3,4,5,6] rfl) ?_)
   refine JB.val (i:=9) [] rfl (R.bldP (vs:=[(0,.int .i64 x),(1,.int .u32 (c.toNat:Int)),(2,.int .u32 (d.toNat:Int)),(3,.int .u32 (f.toNat:Int)),(4,.int .u32 (y.toNat:Int))]) (cs:=[.int .i64 x,.int .u32 (c.toNat:Int),.int .u32 (d.toNat:Int),.int .u32 (f.toNat:Int),.int .u32 (y.toNat:Int)]) Z32 B32 rfl rfl rfl) ?_
   refine JB.one (i:=10) (by kernel_rfl) ?_
   refine JOB.step rfl trivial rfl (λK hK=>Run.lnz [5] 2 ZB rfl (hK _ _ _ (Hle.refl _) (Zu [false,false,false,false,false,true,false] [0,1,2,3,4,0,6] (by kernel_rfl) rfl) ?_))
   refine JB.one (i:=11) (by kernel_rfl) ?_
   refine JOB.step rfl trivial rfl (λK hK=>Run.lnz [4] 2 ZB rfl (hK _ _ _ (Hle.refl _) (Zu [false,false,false,false,true,true,false] [0,1,2,3,0,0,6] (by kernel_rfl) rfl) ?_))
   refine JB.val (i:=12) [] rfl (R.assign rfl) ?_
   refine JB.doneN (by kernel_rfl) ?_
   refine Run.nnz_s [] 2 ZB rfl ?_
   exact Zm [5,4] [0,0,0] ZB rfl hx rfl ⟨⟨_,c1⟩,⟨_,c2⟩,⟨_,(b3.mono RU8.mono (New.mono a))⟩,rfl⟩
end Go.Proofs.YtgiefadcpnegcaaGreat
