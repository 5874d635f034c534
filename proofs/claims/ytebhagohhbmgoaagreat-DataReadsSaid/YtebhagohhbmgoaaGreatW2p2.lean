import Derived.Test.YtebhagohhbmgoaaGreatW2p1
/- walks: what the code computes, function by function. -/
set_option linter.unusedSimpArgs false
set_option linter.unusedVariables false
namespace Go.Proofs.YtebhagohhbmgoaaGreat
open Go.Ow Go.RowKit Go.Proofs
set_option maxHeartbeats 8000000
theorem dev_Read_ok{d b3}:Con Tryz.prog 43 false (sp_Disk false d++ [.i b3]) (dev_Read d b3) (λr=> [.sl true RU8 1 r.1,.i r.2]):=by
 intro H e0 e1 e2 k e3 e4 e5 m r hx
 refine Does.enterC Tryz.func43 rfl rfl ?_
 intro w
 unfold dev_Read at hx
 refine Run.cl [] 2 ZB rfl (ZV rfl rfl (λe6 e7=>Run.lc_s [] 5 ZB rfl (ZO hx [1] [] rfl rfl (λf l0 o0 l o g=>∃h:Heaplet,∃q:Nat,∃s:Option Addr,∃v:Nat,∃x:Nat,∃y:Option Addr,∃z:Nat,∃a0:Nat,∃a1:Own,l=(6,.pointer (some ⟨q,0,none⟩))::(7,.int .i64 f.2.2)::l0∧o= [(q,.cells #[.slice s v x,.slice y z a0] 25 (0,0))]::a1::o0∧h=g∧Hle H h∧w.heap.size≤q∧IsSlice (New H h) (RSl RU8 1) 1 (.slice s v x) f.1∧RowOf (New H h) R_Write w.heap.size 96 2 (.slice y z a0) f.2.1 a1) (λf e8 hx=> ?_) (λf e9 hx=> ?_))))
 ·
  rintro _ _ _ ⟨h,q,s,v,x,y,z,a0,a1,rfl,rfl,rfl,f0,f1,b8,f2⟩
  refine Run.nc_s [] 8 ZB rfl (ZG hx rfl (λb9 hx=> ?_) (λb9 hx=> ?_))
  ·
   refine Run.cnz_k [] 9 ZB rfl ?_
   exact Zj [] rfl hx rfl ⟨IsSlice.nil _ _ _,rfl⟩
  ·
   refine Run.cl_s [0] 7 ZB rfl ?_
   obtain⟨f3,c0,hx⟩:=ZJ hx
   obtain⟨f4,f5,f6,c1,c2,f7,c3⟩:=IsSlice.elem b8 c0
   obtain⟨f8,rfl,b4⟩:=c2
   obtain⟨f9,g0,rfl⟩:=IsSlice.val b4
   refine ZA rfl rfl (Zd U22 S26 rfl rfl c1) (ZA rfl rfl (ZY S26 rfl ((λj u e=>New.le _ _ _ _ _ (c3 j u e)) 0 _ rfl)) (Run.lnz_s [] 5 ZB rfl ?_))
   exact Zj [] rfl hx rfl ⟨b4,rfl⟩
 ·
  refine JC.draw (so:=[]) 11 rfl Mixed trivial (JA.val ⟨by kernel_rfl,by kernel_rfl⟩ (ZK _) (i:=1) rfl ⟨by kernel_rfl,by kernel_rfl,rfl⟩ trivial (ZL (Hle.refl _) trivial) (ZW rfl) rfl (JA.val ⟨by kernel_rfl,by kernel_rfl⟩ (ZK _) (i:=3) rfl ⟨by kernel_rfl,by kernel_rfl,rfl⟩ trivial (ZL (Hle.refl _) trivial) (R.func (vf:=[]) (vc:=[_]) rfl rfl) rfl (JAA.start [⟨8,6,25,.agg #[.slice none 0 0,.slice none 0 0]⟩] rfl ?_)))
  obtain⟨b5,b6,hx⟩:=ZU hx
  obtain⟨g1,b7,hx⟩:=ZU hx
  refine JAA.two (i:=0) (j:=2) ⟨⟨_,_,_,rfl,Z25,rfl⟩,trivial⟩ (Hle.refl _) trivial rfl (by kernel_rfl) ?_ ?_
  ·
   refine JOA.step rfl trivial rfl (λg2 g3 K hK=>Run.lnz [0] 2 ZB rfl (hK (by repeat constructor) (by repeat constructor) (ZL (Hle.refl _) trivial) (JAA.one (i:=2) ⟨⟨_,_,_,rfl,Z25,rfl⟩,trivial⟩ (Hle.refl _) trivial rfl (by kernel_rfl) (JOA.step rfl trivial rfl (λg4 g5 K hK=> ?_)))))
   refine JL.conQ' b6 E99 rfl dev_place_ok rfl trivial (JL.nil (hK (by repeat constructor) (by repeat constructor) (ZL (Hle.refl _) trivial) (JAA.one (i:=4) ⟨⟨_,_,_,rfl,Z25,rfl⟩,trivial⟩ (Hle.refl _) trivial rfl (by kernel_rfl) (JOA.step rfl trivial rfl (λg6 c4 K hK=>Zg (vs:=[_,_,_]) (args:=[_,_,_]) (K:=[_]) (rst:=c4) E98 rfl rfl rfl (Ze 0 rfl ZT) (dev_guarded_v2_ok d b5 d _ k m k m _ b7) rfl (λc5 c6 a2 a3 a a4=> ?_))))))
   obtain⟨c7,c8,c9,d0,d1,d2,a5,a6,a7,a8,a9,b0,b1,rfl,rfl,d3,d4,b,c,b2,-⟩:=a3
   replace c:=(RowOf.base (RowOf.mono R_Write.mono (New.call (Hle.refl _)) c) (λp hp=>(a4 p (mem_seg 1 rfl hp)).resolve_left (b2 p hp)))
   replace b:=IsSlice.mono (RSl.mono RU8.mono) (New.call (Hle.refl _)) b
   refine JL.nil (hK (by repeat constructor) (by repeat constructor) (ZL a trivial) (JAA.val ⟨by kernel_rfl,by kernel_rfl⟩ (ZK _) (i:=5) rfl (by kernel_rfl) rfl trivial a trivial (ZW rfl) rfl (JAA.val ⟨by kernel_rfl,by kernel_rfl⟩ (ZK _) (i:=6) rfl (by kernel_rfl) rfl trivial a trivial (R.extract rfl rfl) rfl (JAA.val ⟨by kernel_rfl,by kernel_rfl⟩ (ZK _) (i:=7) rfl (by kernel_rfl) rfl trivial a trivial (R.extract rfl rfl) rfl (JAA.all ⟨⟨_,_,_,rfl,Z25,rfl⟩,trivial⟩ a trivial rfl (by kernel_rfl) (λd5 d6=>JA.one (i:=9) (by kernel_rfl) (JO.step rfl trivial rfl (λK hK=> ?_))))))))
   refine Run.lnz [2] 2 ZB rfl (hK _ _ _ (ZL a trivial) (JA.val ⟨by kernel_rfl,by kernel_rfl⟩ (ZK _) (i:=10) rfl ⟨by kernel_rfl,by kernel_rfl,rfl⟩ trivial (ZL a trivial) (R.assign rfl) rfl (JA.doneN (by kernel_rfl) ?_)))
   obtain rfl:=Option.some.inj hx
   refine JN.forget 0 (ZE 1 rfl ?_)
   exact ZC ⟨a2,d5,a5,a6,a7,a8,a9,b0,b1,rfl,rfl,rfl,(a),d6,b,c⟩ rfl rfl rfl
  ·
   refine JOA.step rfl trivial rfl (λg7 g8 K hK=>JL.conQ' b6 E99 rfl dev_place_ok rfl trivial (JL.nil (hK (by repeat constructor) (by repeat constructor) (ZL (Hle.refl _) trivial) (JAA.one (i:=0) ⟨⟨_,_,_,rfl,Z25,rfl⟩,trivial⟩ (Hle.refl _) trivial rfl (by kernel_rfl) (JOA.step rfl trivial rfl (λg9 h0 K hK=> ?_))))))
   refine Run.lnz [0] 2 ZB rfl (hK (by repeat constructor) (by repeat constructor) (ZL (Hle.refl _) trivial) (JAA.one (i:=4) ⟨⟨_,_,_,rfl,Z25,rfl⟩,trivial⟩ (Hle.refl _) trivial rfl (by kernel_rfl) (JOA.step rfl trivial rfl (λh1 d7 K hK=>Zg (vs:=[_,_,_]) (args:=[_,_,_]) (K:=[_]) (rst:=d7) E98 rfl rfl rfl (Ze 0 rfl ZT) (dev_guarded_v2_ok d b5 d _ k m k m _ b7) rfl (λc5 c6 a2 a3 a a4=> ?_)))))
   obtain⟨c7,c8,c9,d0,d1,d2,a5,a6,a7,a8,a9,b0,b1,rfl,rfl,d3,d4,b,c,b2,-⟩:=a3
   replace c:=(RowOf.base (RowOf.mono R_Write.mono (New.call (Hle.refl _)) c) (λp hp=>(a4 p (mem_seg 1 rfl hp)).resolve_left (b2 p hp)))
   replace b:=IsSlice.mono (RSl.mono RU8.mono) (New.call (Hle.refl _)) b
   refine JL.nil (hK (by repeat constructor) (by repeat constructor) (ZL a trivial) (JAA.val ⟨by kernel_rfl,by kernel_rfl⟩ (ZK _) (i:=5) rfl (by kernel_rfl) rfl trivial a trivial (ZW rfl) rfl (JAA.val ⟨by kernel_rfl,by kernel_rfl⟩ (ZK _) (i:=6) rfl (by kernel_rfl) rfl trivial a trivial (R.extract rfl rfl) rfl (JAA.val ⟨by kernel_rfl,by kernel_rfl⟩ (ZK _) (i:=7) rfl (by kernel_rfl) rfl trivial a trivial (R.extract rfl rfl) rfl (JAA.all ⟨⟨_,_,_,rfl,Z25,rfl⟩,trivial⟩ a trivial rfl (by kernel_rfl) (λd8 d9=>JA.one (i:=9) (by kernel_rfl) (JO.step rfl trivial rfl (λK hK=> ?_))))))))
   refine Run.lnz [2] 2 ZB rfl (hK _ _ _ (ZL a trivial) (JA.val ⟨by kernel_rfl,by kernel_rfl⟩ (ZK _) (i:=10) rfl ⟨by kernel_rfl,by kernel_rfl,rfl⟩ trivial (ZL a trivial) (R.assign rfl) rfl (JA.doneN (by kernel_rfl) ?_)))
   obtain rfl:=Option.some.inj hx
   refine JN.forget 0 (ZE 1 rfl ?_)
   exact ZC ⟨a2,d8,a5,a6,a7,a8,a9,b0,b1,rfl,rfl,rfl,(a),d9,b,c⟩ rfl rfl rfl
theorem slices_Clone_byte_ok (b:List UInt8)(H:Heaplet){ao:Option Addr}{n cap:Nat}(hs:IsSlice H RU8 1 (.slice ao n cap) b)(r:List UInt8)(hx:slices_Clone_byte b=some r):
  Does Tryz.prog 163 #[.slice ao n cap] [] H (λu K' H'=>∃ao0:Option Addr,∃n0:Nat,∃cap0:Nat,∃K0:Own,u=.slice ao0 n0 cap0∧K'= [K0]∧H=H'∧RowOf (New H H') RU8 0 5 1 (.slice ao0 n0 cap0) r K0∧(∀p∈K0,p.1∉ids (List.flatten []))∧True):=by
 rw[slices_Clone_byte.eq_1]at hx
 obtain⟨q,hq,hl,hx⟩:=Zb hx
 obtain rfl:=Option.some.inj hx
 refine Does.enter (vs:=[.slice ao n cap]) (l:=[(0,.slice ao n cap)]) Tryz.func163 rfl rfl ⟨rfl,trivial⟩ (λw=>Run.cl [] 9 ZB rfl (ZA rfl rfl (R.eqlNil U26 rfl rfl) (Run.lcz_s [] 2 ZB rfl ?_)))
 cases ao with
 |none=>
  have hp:=hs.none_nil
  subst hp
  simp only[List.append_nil]at hq
  subst hq
  refine Run.cnz_k [] 8 ZB rfl (ZZ (Zm (vs:=[.slice none 0 0]) (K:=[_]) (rst:=[]) (.inl rfl) rfl rfl (Zs rfl rfl) (Ze 0 rfl ZT) ?_))
  exact⟨none,0,0,[],rfl,rfl,rfl,RowOf.nil _ _ _ _ _,(λp hp=>by cases hp),trivial⟩
 |some a=>
  refine Run.cl_s [] 5 ZB rfl (Zx (HF:=New H H) (R:=RU8) (ls:=[]) (vs:=[]) U26 I5 rfl rfl rfl RU8.one rfl rfl rfl (by simp[maxLen]) rfl (λv1 K1 h1=> ?_))
  obtain⟨ao1,cap1,rfl⟩:=RowOf.val h1
  refine ZA rfl rfl (ZW rfl) (Zl (HF:=New H H) 0 U26 I5 rfl rfl h1 rfl (SrcF.sliceC RU8.const RU8.one U26 hs) hq hl rfl (Nat.le_refl _) rfl (λv2 K2 h2=> ?_))
  obtain⟨ao2,cap2,rfl⟩:=RowOf.val h2
  refine Run.lnz_s [] 4 ZB rfl (Zm (vs:=[.slice ao2 _ cap2]) (K:=[_]) (rst:=[]) (.inl rfl) rfl rfl (Zs rfl rfl) (Ze 0 rfl ZT) ?_)
  exact⟨_,_,_,_,rfl,rfl,rfl,RowOf.weak (Nat.zero_le _) h2,(λp hp hm=>by cases hm),trivial⟩
theorem slices_Clip_byte_ok{d}:Con Tryz.prog 162 true ([.sl false RU8 1 d]) (slices_Clip_byte d) (λr=> [.cl false RU8 1 r]):=by
 intro H q s v f r hx
 refine Does.enterC Tryz.func162 rfl rfl ?_
 intro w
 unfold slices_Clip_byte at hx
 refine Run.cl [] 9 ZB rfl (ZA rfl rfl (ZM U26 rfl (IsSlice.long f)) (ZA rfl rfl (ZW rfl) (ZA rfl rfl (ZM U26 rfl (IsSlice.long f)) ?_)))
 obtain⟨x,j,i,hx⟩:=slc_some hx
 obtain⟨y,k,z,h1v_6,h2v_6,p⟩:=IsSlice.cutc f j i
 refine ZA rfl rfl (R.slc (cap:=k) (a:=0) (b:=(d.length:Int)) (c:=(d.length:Int)) (m:=d) (R:=RU8) U26 S5 rfl rfl ⟨_,rfl⟩ ⟨_,rfl⟩ ⟨i.1,i.2.1,Int.le_refl _⟩ h1v_6 (.inr (λh=>by cases h))) ?_
 subst h2v_6
 refine Run.lnz_s [] 4 ZB rfl ?_
 exact ZD [] rfl hx rfl ⟨⟨⟨_,_,rfl⟩,p⟩,rfl⟩
theorem slices_Chunk_byte_ok (b:List UInt8)(a:Int)(H:Heaplet){ao:Option Addr}{n cap:Nat}(hs:IsSlice H RU8 1 (.slice ao n cap) b)(r:Unit)(hx:slices_Chunk_byte b a=some r):
  Does Tryz.prog 144 #[.slice ao n cap,.int .i64 a] [] H (λu K' H'=>∃b2 b3:Nat,u=.func (.func 200) #[] #[.pointer (some ⟨b2,0,none⟩),.pointer (some ⟨b3,0,none⟩)]∧K'= []∧H' b2 0=some (.slice ao n cap)∧H' b3 0=some (.int .i64 a)∧(1≤a∧a≤1099511627776∧b.length≤LIM)∧True):=by
 unfold slices_Chunk_byte at hx
 split at hx
 case isFalse=>cases hx
 rename_i hp
 refine Does.enter (vs:=[.slice ao n cap,.int .i64 a]) (l:=[(0,.slice ao n cap),(1,.int .i64 a)]) Tryz.func144 rfl rfl ⟨rfl,rfl,trivial⟩ (λw=>Run.cl [] 2 ZB rfl (ZV rfl rfl (λb2 hb2=>ZV rfl rfl (λb3 hb3=>Run.lc_s [0] 10 ZB rfl (JC.condB rfl (λc=> ?_) (λc=> ?_))))))
 ·
  exact absurd (of_decide_eq_true c) (by omega)
 refine Run.cnz_s [] 9 ZB rfl (JN.pubBox 0 rfl hb3 (λH1 hle1 hc1=>JN.forget 0 (JN.pubBox 0 rfl hb2 (λH2 hle2 hc2=>JN.forget 0 (JN.out1 (.inl rfl) rfl rfl rfl ?_)))))
 exact⟨_,_,rfl,rfl,hc2 0 _ rfl,hle2 _ _ _ (hc1 0 _ rfl),hp,trivial⟩
theorem slices_Chunk_byte_it (m:List UInt8)(N:Int)(hN:1≤N∧N≤1099511627776∧m.length≤LIM)(H:Heaplet){v:Value}{b2 b3:Nat}(hs:IsSlice H RU8 1 v m)(hb2:H b2 0=some v)(hb3:H b3 0=some (.int .i64 N)):
  IterL Tryz.prog 200 #[.pointer (some ⟨b2,0,none⟩),.pointer (some ⟨b3,0,none⟩)] H (λH' args (y:List UInt8)=>∃ao:Option Addr,args= #[.slice ao y.length y.length]∧IsSlice H' RU8 1 (.slice ao y.length y.length) y) (chunks N.toNat m.length m):=by
 intro lr I X o hY hI
 obtain⟨hN1,hN2,hml⟩:=hN
 unfold LIM at hml
 obtain⟨ao,cap,rfl⟩:=hs.val
 show Does Tryz.prog 200 #[.func (.yield lr) #[] #[],.pointer (some ⟨b2,0,none⟩),.pointer (some ⟨b3,0,none⟩)] o H _
 refine Does.enter (vs:=[.func (.yield lr) #[] #[],.pointer (some ⟨b2,0,none⟩),.pointer (some ⟨b3,0,none⟩)]) (l:=[(0,.func (.yield lr) #[] #[]),(1,.pointer (some ⟨b2,0,none⟩)),(2,.pointer (some ⟨b3,0,none⟩))]) Tryz.func200 rfl rfl ⟨rfl,rfl,rfl,trivial⟩ (λw=>Run.cc [] 6 ZB rfl ?_)
 refine JC.loop (ι:=Nat×Nat×List (List UInt8)×List Own×Heaplet) (λi=> [(0,.func (.yield lr) #[] #[]),(1,.pointer (some ⟨b2,0,none⟩)),(2,.pointer (some ⟨b3,0,none⟩)),(4,.int .i64 ((i.1:Nat):Int))]) (λi=>i.2.2.2.1) (λi=>i.2.2.2.2)
  (λi=>i.1≤2199023255552∧m.length≤i.1+i.2.1∧i.2.2.1++chunks N.toNat i.2.1 (m.drop i.1)=chunks N.toNat m.length m∧I i.2.2.1 i.2.2.2.1 i.2.2.2.2∧Hle H i.2.2.2.2) (λi=>m.length+1-i.1) (0,m.length,[],o,H) (⟨by omega,by simp,by simp,hI,Hle.refl _⟩) ⟨rfl,rfl,rfl,rfl,trivial⟩ rfl rfl ?_
 rintro⟨i,f,pre,o2,H2⟩ hI0
 dsimp only at hI0⊢
 obtain⟨hi2,hf,hpre,hI2,hle⟩:=hI0
 have hb2':=hle _ _ _ hb2
 have hb3':=hle _ _ _ hb3
 have hs2:=IsSlice.mono RU8.mono hle hs
 refine Run.cl [] 4 ZB rfl (ZA rfl rfl (ZY S26 rfl hb2') (ZA rfl rfl (ZM U26 rfl (IsSlice.long hs2)) (Run.lcz_s [] 3 ZB rfl (JC.condB rfl (λc=> ?_) (λc=> ?_)))))
 ·
  have hlt:i<m.length:=by have:=of_decide_eq_true c;omega
  have hne:m.drop i≠[]:=λh=>by have:=List.drop_eq_nil_iff.1 h;omega
  obtain⟨f',rfl⟩:∃f',f=f'+1:=⟨f-1,by omega⟩
  rw[chunks_step hne,List.drop_drop]at hpre
  obtain⟨e,he⟩:∃e:Int,e=min N ((m.length:Int)-i):=⟨_,rfl⟩
  have hcut:(m.drop i).take N.toNat=cut m (i:Int) ((i:Int)+e):=by
   unfold cut
   rw[Int.toNat_natCast]
   by_cases h:N≤(m.length:Int)-i
   ·
    rw[show((i:Int)+e).toNat-i=N.toNat by omega]
   ·
    rw[List.take_of_length_le (by rw[List.length_drop];omega),List.take_of_length_le (by rw[List.length_drop];omega)]
  refine Run.cc_s [] 5 ZB rfl ?_
  obtain⟨v1,c1,h1,h2,h3,hs1⟩:=IsSlice.cutv (m':=cut m (i:Int) (m.length:Int)) hs2 rfl ⟨by omega,by omega,Int.le_refl _⟩
  have hl1:((cut m (i:Int) (m.length:Int)).length:Int)=(m.length:Int)-i:=cut_length (by omega) (by omega) (Int.le_refl _)
  refine JC.draw (so:=[]) 7 rfl Mixed trivial (JA.val ⟨by kernel_rfl,by kernel_rfl⟩ (ZK _) (i:=0) rfl ⟨by kernel_rfl,by kernel_rfl,rfl⟩ trivial (ZL (Hle.refl _) trivial) (ZY S3 rfl hb3') rfl (JA.val ⟨by kernel_rfl,by kernel_rfl⟩ (ZK _) (i:=1) rfl ⟨by kernel_rfl,by kernel_rfl,rfl⟩ trivial (ZL (Hle.refl _) trivial) (ZY S26 rfl hb2') rfl (JA.val ⟨by kernel_rfl,by kernel_rfl⟩ (ZK _) (i:=2) rfl ⟨by kernel_rfl,by kernel_rfl,rfl⟩ trivial (ZL (Hle.refl _) trivial) (ZW rfl) rfl (JA.val ⟨by kernel_rfl,by kernel_rfl⟩ (ZK _) (i:=3) rfl ⟨by kernel_rfl,by kernel_rfl,rfl⟩ trivial (ZL (Hle.refl _) trivial) (R.slc (cap:=c1) (a:=(i:Int)) (b:=(m.length:Int)) (c:=(c1:Int)) (m:=m) (R:=RU8) U26 S5 rfl ⟨_,rfl⟩ rfl (by obtain⟨ao,n,e,_⟩:=h1;exact⟨ao,n,e,rfl⟩) ⟨by omega,by omega,h2⟩ h3 (.inl rfl)) rfl (JA.val ⟨by kernel_rfl,by kernel_rfl⟩ (ZK _) (i:=4) rfl ⟨by kernel_rfl,by kernel_rfl,rfl⟩ trivial (ZL (Hle.refl _) trivial) (R.lenE U26 rfl ⟨_,IsSlice.long hs1,hl1⟩) rfl (JA.val ⟨by kernel_rfl,by kernel_rfl⟩ (ZK _) (i:=5) rfl ⟨by kernel_rfl,by kernel_rfl,rfl⟩ trivial (ZL (Hle.refl _) trivial) (R.min2 rfl rfl) rfl ?_))))))
  rw[←he]
  refine JA.val ⟨by kernel_rfl,by kernel_rfl⟩ (ZK _) (i:=6) rfl ⟨by kernel_rfl,by kernel_rfl,rfl⟩ trivial (ZL (Hle.refl _) trivial) (R.assign rfl) rfl (JA.doneN (by kernel_rfl) (Zw ?_))
  have hw:w64 ((i:Int)+e)=(i:Int)+e:=Za (by omega) (by omega)
  obtain⟨v2,c2,ao2,g1,g2,hs3⟩:=IsSlice.cutc (m':=(m.drop i).take N.toNat) hs2 hcut ⟨by omega,by omega,by omega⟩
  subst g2
  refine Run.cl [] 3 ZB rfl (ZA rfl rfl (ZY S26 rfl hb2') (Run.llz [] 4 ZB rfl ?_))
  rw[hw]
  refine Run.llz [] 3 ZB rfl ?_
  rw[hw]
  refine ZA rfl rfl (R.slc (cap:=c2) (a:=(i:Int)) (b:=(i:Int)+e) (c:=(i:Int)+e) (m:=m) (R:=RU8) U26 S5 rfl ⟨_,rfl⟩ ⟨_,rfl⟩ ⟨_,rfl⟩ ⟨by omega,by omega,Int.le_refl _⟩ g1 (.inr (λh=>by cases h))) (JL.yield (vs:=[_]) (mine:=[]) ((m.drop i).take N.toNat) hY rfl rfl hI2 (⟨⟨ao2,rfl,hs3⟩,_,by rw[←hpre]⟩) rfl rfl (λo17 H17 hle17 hI17=> ?_) (λo17 H17 hle17 hX17=> ?_))
  ·
   refine Run.llz_sbs [] 9 ZB rfl (ZA rfl rfl (ZY S3 rfl (hle17 _ _ _ hb3')) (Run.lnz [] 3 ZB rfl ?_))
   have hw2:w64 ((i:Int)+N)=((i+N.toNat:Nat):Int):=by rw[Za (by omega) (by omega)];omega
   refine JN.again (i:=(i,f'+1,pre,o2,H2)) (i+N.toNat,f',pre++ [(m.drop i).take N.toNat],o17,H17) (by
    refine⟨?_,?_,?_,hI17,hle.trans hle17⟩
    ·
     simp only;omega
    ·
     simp only;omega
    ·
     simp only[List.append_assoc,List.singleton_append];exact hpre) (by simp only;omega) (by exact⟨rfl,rfl,rfl,by show some _=some _;rw[hw2],trivial⟩) rfl rfl
  ·
   refine Run.lnz_sbk [] 7 ZB rfl (Run.nnz_kb [] 2 ZB rfl (JN.out0 (.inl rfl) rfl rfl ?_))
   exact⟨hle.trans hle17,.inr ⟨_,⟨chunks N.toNat f' (m.drop (i+N.toNat)),by rw[←hpre];simp⟩,hX17⟩⟩
 ·
  have hge:m.length≤i:=by have:=of_decide_eq_false c;omega
  refine Run.cnz_kkb [] 4 ZB rfl (JN.out0 (.inr rfl) rfl rfl (⟨hle,.inl ⟨pre,?_,hI2⟩⟩))
  rw[←hpre,List.drop_eq_nil_of_le hge,chunks_nil,List.append_nil]
theorem code_sized_ok{c}:Con Tryz.prog 202 true ([.i c]) (code_sized c) (λr=> [.b r]):=by
 intro H r hx
 refine Does.enterC Tryz.func202 rfl rfl ?_
 intro w
 unfold code_sized at hx
 refine Run.cc [] 6 ZB rfl (ZO hx [] [] rfl rfl (λa l0 o0 l o g=>l=(2,.bool a)::l0∧o=o0∧H=g) (λa f hx=> ?_) (λa h hx=> ?_))
 ·
  rintro _ _ _ ⟨rfl,rfl,rfl⟩
  refine Run.nnz_s [] 2 ZB rfl ?_
  exact ZD [] rfl hx rfl rfl
 ·
  refine Run.clz [] 4 ZB rfl (ZQ 5 hx rfl (λd hx=> ?_) (λd hx=> ?_))
  ·
   refine Run.lnz [] 7 ZB rfl ?_
   obtain rfl:=Option.some.inj hx
   exact ZC ⟨rfl,rfl,rfl⟩ rfl rfl rfl
  ·
   refine Run.lnz [] 5 ZB rfl ?_
   obtain rfl:=Option.some.inj hx
   exact ZC ⟨rfl,rfl,rfl⟩ rfl rfl rfl
theorem slices_Backward_byte_ok (a:List UInt8)(H:Heaplet){ao:Option Addr}{n cap:Nat}(hs:IsSlice H RU8 1 (.slice ao n cap) a)(r:Unit)(hx:slices_Backward_byte a=some r):
  Does Tryz.prog 203 #[.slice ao n cap] [] H (λu K' H'=>∃b:Nat,u=.func (.func 239) #[] #[.pointer (some ⟨b,0,none⟩)]∧K'= []∧H' b 0=some (.slice ao n cap)∧True):=by
 refine Does.enter (vs:=[.slice ao n cap]) (l:=[(0,.slice ao n cap)]) Tryz.func203 rfl rfl ⟨rfl,trivial⟩ (λw=>Run.cl [] 2 ZB rfl (ZV rfl rfl (λb1 hb1=>JL.assign rfl rfl (Run.ll_s [] 4 ZB rfl (JL.func (vf:=#[]) (vc:=#[_]) rfl rfl rfl (JL.assign rfl rfl (Run.lnz_s [] 3 ZB rfl (JN.pubBox 0 rfl hb1 (λH1 hle1 hc1=>JN.forget 0 ?_)))))))))
 have hc:=hc1 0 _ rfl
 refine JN.out1 (.inl rfl) rfl rfl rfl ?_
 exact⟨_,rfl,rfl,hc,trivial⟩
theorem slices_Backward_byte_it (m:List UInt8)(H:Heaplet){v:Value}{b:Nat}(hs:IsSlice H RU8 1 v m)(hb:H b 0=some v):
  IterL Tryz.prog 239 #[.pointer (some ⟨b,0,none⟩)] H (λ_ args (y:Nat×UInt8)=>args= #[.int .i64 ((y.1:Nat):Int),.int .u8 (y.2.toNat:Int)]) (bwd m m.length):=by
 intro lr I X o hY hI
 have hlen:=hs.len_le
 obtain⟨ao,cap,rfl⟩:=hs.val
 show Does Tryz.prog 239 #[.func (.yield lr) #[] #[],.pointer (some ⟨b,0,none⟩)] o H _
 refine Does.enter (vs:=[.func (.yield lr) #[] #[],.pointer (some ⟨b,0,none⟩)]) (l:=[(0,.func (.yield lr) #[] #[]),(1,.pointer (some ⟨b,0,none⟩))]) Tryz.func239 rfl rfl ⟨rfl,rfl,trivial⟩ (λw=>Run.cl [] 2 ZB rfl (JL.ldH S26 rfl hb rfl (JL.lenS U26 rfl hs rfl (JL.subI rfl rfl (wi64 (by omega) (by omega)) rfl (JL.assign rfl rfl ?_)))))
 refine Run.lc_s [] 3 ZB rfl (JC.loop (ι:=Nat×List (Nat×UInt8)×List Own×Heaplet) (λi=> [(0,.func (.yield lr) #[] #[]),(1,.pointer (some ⟨b,0,none⟩)),(3,.int .i64 ((i.1:Int)-1))]) (λi=>i.2.2.1) (λi=>i.2.2.2) (λi=>i.1≤m.length∧i.2.1++bwd m i.1=bwd m m.length∧I i.2.1 i.2.2.1 i.2.2.2∧Hle H i.2.2.2) (λi=>i.1) (m.length,[],o,H) (⟨Nat.le_refl _,rfl,hI,Hle.refl _⟩) ⟨rfl,rfl,rfl,trivial⟩ rfl rfl ?_)
 rintro⟨k,pre,o2,H2⟩ hI0
 dsimp only at hI0⊢
 obtain⟨hk,hpre,hI2,hle⟩:=hI0
 have hb2:=hle _ _ _ hb
 have hs2:=IsB.mono hle hs
 refine Run.cl [] 3 ZB rfl (JL.move rfl rfl (JL.geq rfl rfl rfl (Run.lcz_s [] 2 ZB rfl (JC.condP rfl (λc8=> ?_) (λc8=> ?_)))))
 ·
  refine Run.cl_s [] 6 ZB rfl (JL.move rfl rfl (JL.move rfl rfl (JL.ldH S26 rfl hb2 rfl (JL.move rfl rfl (JL.ixB (k:=k-1) U26 S5 rfl hs2 rfl (by omega) (by omega) rfl (λb15 o15 hc15=>JL.ldH S5 rfl hc15 rfl ?_))))))
  have e1:((k-1:Nat):Int)=(k:Int)-1:=by omega
  have e2:m.getD (k-1) 0=m[k-1]:=by rw[List.getD_eq_getElem?_getD,List.getElem?_eq_getElem (show k-1<m.length by omega),Option.getD_some]
  have e3:bwd m k=(k-1,m.getD (k-1) 0)::bwd m (k-1):=by rw[show k=(k-1)+1 by omega];rfl
  refine JL.yield (vs:=[_,_]) (mine:=[]) ((k-1,m.getD (k-1) 0)) hY rfl rfl hI2 (⟨by simp only[e1,e2],bwd m (k-1),by rw[←hpre,e3]⟩) rfl rfl (λo17 H17 hle17 hI17=> ?_) (λo17 H17 hle17 hX17=> ?_)
  ·
   refine JL.not rfl rfl (Run.llz_sbs [] 7 ZB rfl (JL.move rfl rfl (JL.subI rfl rfl (wi64 (by omega) (by omega)) rfl (JL.assign rfl rfl (JL.nil (JN.again (i:=(k,pre,o2,H2)) (k-1,pre++ [(k-1,m.getD (k-1) 0)],o17,H17) (by exact⟨by simp only;omega,by rw[←hpre,e3];simp,hI17,hle.trans hle17⟩) (by simp only;omega) (by exact⟨rfl,rfl,by show some _=some _;simp only[e1],trivial⟩) rfl rfl))))))
  ·
   refine JL.not rfl rfl (Run.lnz_sbk [] 6 ZB rfl (Run.nnz_kb [] 2 ZB rfl (JN.out0 (.inl rfl) rfl rfl ?_)))
   exact⟨hle.trans hle17,.inr ⟨_,⟨bwd m (k-1),by rw[←hpre,e3];simp⟩,hX17⟩⟩
 ·
  refine Run.cnz_kkb [] 4 ZB rfl (JN.out0 (.inr rfl) rfl rfl ?_)
  exact⟨hle,.inl ⟨pre,by rw[←hpre,show k=0 by omega];simp[bwd],hI2⟩⟩
theorem code_Get_ok{j f k}:Con Tryz.prog 146 false ([.sl false RU8 1 j,.i f,.i k]) (code_Get j f k) (λr=> [.i r.1,.i r.2]):=by
 intro H b9 c0 c1 p r hx
 refine Does.enterMC Tryz.func146 rfl rfl ?_
 intro w
 unfold code_Get at hx
 refine Run.cl [] 12 ZB rfl (ZI hx E202 rfl code_sized_ok rfl trivial ?_)
 intro c2 c3 hx
 refine Run.lcz_s [] 4 ZB rfl (ZO hx [0,1,2] [] rfl rfl (λq l0 o0 l o g=>l=(11,.bool q)::l0∧o=o0∧H=g) (λq c4 hx=> ?_) (λq c5 hx=> ?_))
 ·
  rintro _ _ _ ⟨rfl,rfl,rfl⟩
  refine Zw (ZG hx rfl (λa5 hx=> ?_) (λa5 hx=> ?_))
  ·
   refine Run.cnz_bk [] 9 ZB rfl ?_
   exact JN.conM (own2:=[]) [] [] ZT ⟨rfl,rfl,rfl,rfl⟩ rfl rfl hx rfl rfl
  ·
   refine Run.cl [] 6 ZB rfl (ZA rfl rfl (ZM U26 rfl (IsSlice.long p)) (Run.lcz_s [] 4 ZB rfl (ZG hx rfl (λa6 hx=> ?_) (λa6 hx=> ?_))))
   ·
    refine Run.cnz_bk [] 9 ZB rfl ?_
    exact JN.conM (own2:=[]) [] [] ZT ⟨rfl,rfl,rfl,rfl⟩ rfl rfl hx rfl rfl
   ·
    refine Run.cl_bs [] 5 ZB rfl (JL.alloc Z3 rfl (λz c6=>Run.ll_s [0] 11 ZB rfl ?_))
    obtain⟨a0,a7,s,hx⟩:=slc_some hx
    obtain⟨c7,a1,h1v_19,h2v_19,h3v_19,v⟩:=IsSlice.cutv p a7 s
    refine ZA rfl rfl (R.slc (cap:=a1) (a:=f) (b:=w64 (f+k)) (c:=(a1:Int)) (m:=j) (R:=RU8) U26 S5 rfl ⟨_,rfl⟩ ⟨_,rfl⟩ (by obtain⟨ao,n,e,_⟩:=h1v_19;exact⟨ao,n,e,rfl⟩) ⟨s.1,s.2.1,h2v_19⟩ h3v_19 (.inl rfl)) ?_
    obtain⟨c8,c9,rfl⟩:=IsSlice.val v
    obtain⟨d0,a8,hx⟩:=ZU hx
    refine Zg (vs:=[_]) (args:=[_]) (K:=[]) (rst:=[_]) E203 rfl rfl rfl ZT (slices_Backward_byte_ok a0 _ v _ a8) rfl (λd1 d2 a2 a9 b0 d3=> ?_)
    obtain⟨d4,rfl,rfl,b1,-⟩:=a9
    refine Run.lc_s [] 3 ZB rfl ?_
    obtain⟨b2,b3,hx⟩:=ZU hx
    refine JC.rangeL (RA:=λ_ args (y:Nat×UInt8)=>args= #[.int .i64 ((y.1:Nat):Int),.int .u8 (y.2.toNat:Int)]) rfl code_Get_r1 0 b2 b3 (λx o g=>∃d:Heaplet,o= [[(z,.cells #[.int .i64 x] 3 (0,0))]]∧d=g∧Hle a2 d) (λe c o g=>False) rfl E239 (slices_Backward_byte_it a0 _ (v.mono RU8.mono b0) b1) (λ_ _ _ h=>by rw[h];rfl) rfl ⟨a2,rfl,rfl,(Hle.refl _)⟩ ?_ ?_ ?_
    ·
     rintro d5 a3 x args o g d6 ⟨d,rfl,rfl,a4⟩ hA hx2
     clear hx;have hx:=hx2;clear hx2;unfold code_Get_r1 at hx
     subst hA
     refine⟨[(8,.pointer (some ⟨z,0,none⟩)),(10,.int .u8 (a3.2.toNat:Int))],λb4 b5=> ?_,λb4 b5=> ?_⟩
     ·
      refine Run.cnz [] 3 ZB rfl ?_
      exact JN.assigned ⟨rfl,rfl,trivial⟩
     ·
      refine Run.cl [0] 5 ZB rfl (ZA rfl rfl (R.cv_u8_i64 (a:=a3.2) U5 U3 rfl) (Run.lnz_b [0] 4 ZB rfl ?_))
      obtain rfl:=Option.some.inj hx
      exact JN.rN ⟨d,rfl,rfl,(a4)⟩
    ·
     rintro b6 x o g d7 htt ⟨d,rfl,rfl,a4⟩ hle2
     subst htt;simp only[Sum.elim_inl]at hx
     refine Run.nnz_bs [1] 10 ZB rfl ?_
     exact JN.conM (own2:=[_]) [b6] [] (Ze 0 rfl ZT) ⟨rfl,rfl,rfl,rfl⟩ rfl rfl hx rfl rfl
    ·
     rintro D c e o g hD htt hX;exact hX.elim
 ·
  refine ZG hx rfl (λb7 hx=> ?_) (λb7 hx=> ?_)
  ·
   refine JC.skip ?_
   obtain rfl:=Option.some.inj hx
   exact ZC ⟨rfl,rfl,rfl⟩ rfl rfl rfl
  ·
   refine Run.ccz [] 7 ZB rfl (ZG hx rfl (λb8 hx=> ?_) (λb8 hx=> ?_))
   ·
    refine JC.skip ?_
    obtain rfl:=Option.some.inj hx
    exact ZC ⟨rfl,rfl,rfl⟩ rfl rfl rfl
   ·
    refine Run.clz [] 3 ZB rfl (ZA rfl rfl (ZM U26 rfl (IsSlice.long p)) (Run.lnz [] 3 ZB rfl ?_))
    obtain rfl:=Option.some.inj hx
    exact ZC ⟨rfl,rfl,rfl⟩ rfl rfl rfl
theorem mix_number_ok{a}:Con Tryz.prog 164 false ([.sl false RU8 1 a]) (mix_number a) (λr=> [.w32 r]):=by
 intro H c d f b r hx
 refine Does.enterC Tryz.func164 rfl rfl ?_
 intro w
 unfold mix_number at hx
 refine Run.cl [] 8 ZB rfl (Zv hx E146 rfl code_Get_ok rfl ⟨b,trivial⟩ ?_)
 intro h i hx j k
 refine Run.ll_s [] 10 ZB rfl (ZA rfl rfl (R.cv_i64_u32 U3 U27 rfl) (Run.lnz_s [] 4 ZB rfl ?_))
 exact Zj [] rfl hx rfl rfl
theorem math_bits_RotateLeft32_ok{d c}:Con Tryz.prog 256 true ([.w32 d,.i c]) (math_bits_RotateLeft32 d c) (λr=> [.w32 r]):=by
 intro H r hx
 refine Does.enterC Tryz.func256 rfl rfl ?_
 intro w
 unfold math_bits_RotateLeft32 at hx
 refine Run.cl [] 8 ZB rfl (ZA rfl rfl (R.cv_i64_u64 U3 U214 rfl) (ZA rfl rfl (R.and64 (a:=u64i c) (b:=(31:UInt64)) rfl rfl) (Run.ll_s [] 7 ZB rfl (ZA rfl rfl (R.shl32 (n:=(((u64i c)&&&(31:UInt64)).toNat:Int)) (a:=d) rfl rfl (Int.natCast_nonneg _)) (Run.llz [] 2 ZB rfl (ZA rfl rfl (R.sub64 (a:=(32:UInt64)) (b:=(u64i c)&&&(31:UInt64)) rfl rfl) (ZA rfl rfl (R.shr32 (n:=(((32:UInt64)-((u64i c)&&&(31:UInt64))).toNat:Int)) (a:=d) rfl rfl (Int.natCast_nonneg _)) (ZA rfl rfl (R.or32 (a:=sl32 d ((((u64i c)&&&(31:UInt64)).toNat:Int)).toNat) (b:=sr32 d ((((32:UInt64)-((u64i c)&&&(31:UInt64))).toNat:Int)).toNat) rfl rfl) (Run.lnz_s [] 4 ZB rfl ?_)))))))))
 exact ZD [] rfl hx rfl rfl
theorem mix_words_turned_1_ok (f:Int)(h:Int)(c:A4 UInt32)(H:Heaplet){d:Nat}(r:A4 UInt32)(hx:mix_words_turned_1 f h c=some r):
  Does Tryz.prog 255 #[.int .i64 f,.int .i64 h,.pointer (some ⟨d,0,none⟩)] [[(d,.cells #[.int .u32 (c.e0.toNat:Int),.int .u32 (c.e1.toNat:Int),.int .u32 (c.e2.toNat:Int),.int .u32 (c.e3.toNat:Int)] 157 (0,0))]] H (λu K' H'=>u=.tuple #[]∧K'= [[(d,.cells #[.int .u32 (r.e0.toNat:Int),.int .u32 (r.e1.toNat:Int),.int .u32 (r.e2.toNat:Int),.int .u32 (r.e3.toNat:Int)] 157 (0,0))]]∧H=H'∧True):=by
 refine Does.enterL (vs:=[.int .i64 f,.int .i64 h,.pointer (some ⟨d,0,none⟩)]) (l:=[(0,.int .i64 f),(1,.int .i64 h),(2,.pointer (some ⟨d,0,none⟩))]) Tryz.func255 rfl rfl ⟨rfl,rfl,rfl,trivial⟩ (λw hlt=> ?_)
 unfold mix_words_turned_1 at hx
 refine Run.cl [] 2 ZB rfl (ZA rfl rfl (R.ixA 0 U157 S27 rfl rfl rfl) (ZA rfl rfl (R.ldo 0 S27 rfl rfl rfl) (ZA rfl rfl (R.ixA 1 U157 S27 rfl rfl rfl) (ZA rfl rfl (R.ldo 0 S27 rfl rfl rfl) (ZA rfl rfl (R.add32 (a:=c.e0) (b:=c.e1) rfl rfl) (ZA rfl rfl (R.ixA 0 U157 S27 rfl rfl rfl) (Run.ll_s [0] 5 ZB rfl (ZA rfl rfl (R.ixA 3 U157 S27 rfl rfl rfl) (ZA rfl rfl (R.ldo 0 S27 rfl rfl rfl) (ZA rfl rfl (R.ixA 0 U157 S27 rfl rfl rfl) (ZA rfl rfl (R.ldo 0 S27 rfl rfl rfl) (ZA rfl rfl (R.xor32 (a:=c.e3) (b:=c.e0+c.e1) rfl rfl) (ZA rfl rfl (ZW rfl) (ZI hx E256 rfl math_bits_RotateLeft32_ok rfl trivial ?_))))))))))))))
 intro i j hx
 refine ZA rfl rfl (R.ixA 3 U157 S27 rfl rfl rfl) (Run.ll_s [0] 5 ZB rfl (ZA rfl rfl (R.ixA 2 U157 S27 rfl rfl rfl) (ZA rfl rfl (R.ldo 0 S27 rfl rfl rfl) (ZA rfl rfl (R.ixA 3 U157 S27 rfl rfl rfl) (ZA rfl rfl (R.ldo 0 S27 rfl rfl rfl) (ZA rfl rfl (R.add32 (a:=c.e2) (b:=i) rfl rfl) (ZA rfl rfl (R.ixA 2 U157 S27 rfl rfl rfl) (Run.llz_s [0] 4 ZB rfl (ZA rfl rfl (R.ixA 1 U157 S27 rfl rfl rfl) (ZA rfl rfl (R.ldo 0 S27 rfl rfl rfl) (ZA rfl rfl (R.ixA 2 U157 S27 rfl rfl rfl) (ZA rfl rfl (R.ldo 0 S27 rfl rfl rfl) (ZA rfl rfl (R.xor32 (a:=c.e1) (b:=c.e2+i) rfl rfl) (ZA rfl rfl (ZW rfl) (ZI hx E256 rfl math_bits_RotateLeft32_ok rfl trivial ?_)))))))))))))))
 intro k m hx
 refine ZA rfl rfl (R.ixA 1 U157 S27 rfl rfl rfl) (Run.lnz [0] 2 ZB rfl (Zm (vs:=[]) (K:=[_]) (rst:=[]) (.inr rfl) rfl rfl rfl (Ze 0 rfl ZT) ?_))
 obtain rfl:=Option.some.inj hx
 exact⟨rfl,rfl,rfl,trivial⟩
theorem mix_words_turned_ok{a}:Con Tryz.prog 218 true ([.st 4,.w32 a.e0,.w32 a.e1,.w32 a.e2,.w32 a.e3]) (mix_words_turned a) (λr=> [.st 4,.w32 r.e0,.w32 r.e1,.w32 r.e2,.w32 r.e3]):=by
 intro H r hx
 refine Does.enterC Tryz.func218 rfl rfl ?_
 intro w
 unfold mix_words_turned at hx
 refine Run.cl [] 2 ZB rfl (ZV rfl rfl (λi j=>JL.alloc Z157 rfl (λk m=>Run.ll_s [] 11 ZB rfl ?_)))
 obtain⟨b,c,hx⟩:=ZU hx
 refine Zg (vs:=[_,_]) (args:=[_,_,_]) (K:=[_]) (rst:=[_]) E255 rfl rfl rfl (Ze 1 rfl ZT) (mix_words_turned_1_ok 15 11 a _ _ c) rfl (λp q s d v x=> ?_)
 obtain⟨rfl,rfl,rfl,-⟩:=d
 refine Run.ll_s [] 5 ZB rfl ?_
 obtain⟨y,f,hx⟩:=ZU hx
 refine Zg (vs:=[_,_]) (args:=[_,_,_]) (K:=[_]) (rst:=[_]) E255 rfl rfl rfl (Ze 0 rfl ZT) (mix_words_turned_1_ok 9 6 b _ _ f) rfl (λz a0 a1 h a2 a3=> ?_)
 obtain⟨rfl,rfl,rfl,-⟩:=h
 refine Run.lnz_s [0,1] 9 ZB rfl ?_
 exact JN.conCQ [1] [] ZB rfl hx rfl rfl
theorem mix_words_often_ok{c f}:Con Tryz.prog 165 true ([.st 4,.w32 c.e0,.w32 c.e1,.w32 c.e2,.w32 c.e3,.i f]) (mix_words_often c f) (λr=> [.st 4,.w32 r.e0,.w32 r.e1,.w32 r.e2,.w32 r.e3]):=by
 intro H r hx
 refine Does.enterC Tryz.func165 rfl rfl ?_
 intro w
 unfold mix_words_often at hx
 refine Run.cl [] 2 ZB rfl (ZV rfl rfl (λh m=>JL.alloc Z157 rfl (λp q=>Run.lc_s [] 9 ZB rfl (ZO hx [2,4] [0] rfl rfl (λb l0 o0 l o g=>l=l0∧o= [(h,.cells #[.int .u32 (b.1.toNat:Int),.int .u32 (b.2.1.toNat:Int),.int .u32 (b.2.2.1.toNat:Int),.int .u32 (b.2.2.2.toNat:Int)] 157 (0,0))]::o0∧H=g) (λb s hx=> ?_) (λb v hx=> ?_)))))
 ·
  rintro _ _ _ ⟨rfl,rfl,rfl⟩
  refine Run.nnz_s [0,1] 8 ZB rfl ?_
  exact JN.conCQ [1] [] ZB rfl hx rfl rfl
 ·
  refine JC.block (ZR 1 rfl (ZS [2,4,5] [1] rfl rfl (λl0 o0 a l o g=>l=(6,.int .i64 a.2.2.2.2)::l0∧o= [(h,.cells #[.int .u32 (a.1.toNat:Int),.int .u32 (a.2.1.toNat:Int),.int .u32 (a.2.2.1.toNat:Int),.int .u32 (a.2.2.2.1.toNat:Int)] 157 (0,0))]::o0∧H=g) hx ⟨rfl,rfl,rfl⟩ rfl ?_))
  ·
   rintro x a _ _ _ ⟨rfl,rfl,rfl⟩ y hx j
   unfold mix_words_often_l1 at hx
   refine Run.cc [] 6 ZB rfl (ZG hx rfl (λk hx=> ?_) (λk hx=> ?_))
   ·
    refine Run.cl_s [0] 6 ZB rfl (ZI hx E218 rfl mix_words_turned_ok rfl trivial ?_)
    intro d z hx
    refine Run.lnz_bs [0] 8 ZB rfl ?_
    replace hx:=ZP j hx
    refine ZE 1 rfl (ZE 1 rfl ?_)
    exact ZC ⟨(d.e0,d.e1,d.e2,d.e3,w64 (a.2.2.2.2+1)),⟨rfl,rfl,rfl⟩,hx⟩ rfl rfl rfl
   ·
    refine Run.cnz_k [] 2 ZB rfl ?_
    obtain rfl:=ZH j hx
    refine Run.nnz_kb [] 2 ZB rfl (ZE 1 rfl (ZE 1 rfl ?_))
    exact ZC ⟨rfl,rfl,rfl⟩ rfl rfl rfl
theorem mix_four_ok{a1}:Con Tryz.prog 103 false ([.sl false RU8 1 a1]) (mix_four a1) (λr=> [.st 4,.w32 r.e0,.w32 r.e1,.w32 r.e2,.w32 r.e3]):=by
 intro H d5 d6 d7 c1 r hx
 refine Does.enterMC Tryz.func103 rfl rfl ?_
 intro w
 unfold mix_four at hx
 refine Run.cl [] 2 ZB rfl (JL.alloc Z157 rfl (λc2 j5=>Run.ll_s [] 4 ZB rfl (ZA rfl rfl (R.bldA (vs:=[(0,.int .u32 ((1:UInt32).toNat:Int)),(1,.int .u32 ((2:UInt32).toNat:Int)),(2,.int .u32 ((3:UInt32).toNat:Int)),(3,.int .u32 ((4:UInt32).toNat:Int))]) (cells:=#[.int .u32 ((1:UInt32).toNat:Int),.int .u32 ((2:UInt32).toNat:Int),.int .u32 ((3:UInt32).toNat:Int),.int .u32 ((4:UInt32).toNat:Int)]) Z157 B157 rfl rfl rfl rfl) (JL.alloc Z157 rfl (λa6 j6=>Run.ll_s [0] 6 ZB rfl ?_)))))
 obtain⟨j7,d8,hx⟩:=ZU hx
 refine Zg (vs:=[_]) (args:=[_]) (K:=[]) (rst:=[_,_]) E163 rfl rfl rfl ZT (slices_Clone_byte_ok a1 _ c1 _ d8) rfl (λj8 j9 k0 d9 k1 e4=> ?_)
 obtain⟨k2,k3,k4,k5,rfl,rfl,rfl,a7,e5,-⟩:=d9
 replace a7:=(RowOf.base (RowOf.const (H2:=New H H) RU8.const a7) (λp hp=>(e4 p (mem_seg 0 rfl hp)).resolve_left (e5 p hp)))
 refine JL.pubN 0 RU8.mono rfl a7 (Nat.le_refl _) (λf k6 e6=>JL.forget 0 (ZI hx E162 rfl slices_Clip_byte_ok rfl ⟨(e6.old RU8.mono),trivial⟩ ?_))
 intro k7 k8 hx k9 l1 e7
 refine Zx (HF:=(New H f)) (R:=RU8) (ls:=[(1:UInt8)]) (vs:=[.int .u8 ((1:UInt8).toNat:Int)]) U26 I5 rfl rfl (⟨_,_,rfl,rfl,rfl,rfl⟩) RU8.one rfl rfl rfl (by simp[maxLen]) rfl (λl2 l3 c3=> ?_)
 obtain⟨l4,l5,rfl⟩:=RowOf.val c3
 obtain⟨e8,e9,f0,hx⟩:=Zb hx
 refine JL.appC (HF:=(New H f)) U26 I5 rfl RU8.one (Hle.refl _) e7 (λ_ _ h=>RU8.const _ _ _ _ h) rfl (SrcF.row 0 U26 rfl (RowOf.const RU8.const c3)) (List.cons_ne_nil _ _) e9 f0 rfl rfl (λl6 f1 c4=> ?_)
 obtain⟨f2,f3,rfl⟩:=RowOf.val c4
 refine Run.lc_s [] 4 ZB rfl (ZO hx [0,2,3] [3,2] rfl rfl (λs l0 o0 l o g=>∃a8:Option Addr,∃a9:Nat,∃b0:Nat,∃b1:Own,l=(4,.slice a8 a9 b0)::l0∧o=b1::o0∧f=g∧RowOf (New H f) RU8 w.heap.size 5 1 (.slice a8 a9 b0) s b1) (λs l7 hx=> ?_) (λs l8 hx=> ?_))
 ·
  rintro _ _ _ ⟨a8,a9,b0,b1,rfl,rfl,rfl,f4⟩
  refine Run.nl_s [] 5 ZB rfl (JL.pubN 0 RU8.mono rfl f4 (Nat.le_refl _) (λl9 m0 c5=>JL.forget 0 ?_))
  obtain⟨m1,f5,hx⟩:=ZU hx
  refine Zg (vs:=[_,_]) (args:=[_,_]) (K:=[]) (rst:=[_,_]) E144 rfl rfl rfl ZT (slices_Chunk_byte_ok s 8 _ (c5.old RU8.mono) _ f5) rfl (λm2 m3 c6 f6 f7 m4=> ?_)
  obtain⟨m5,m6,rfl,rfl,f8,f9,g0,-⟩:=f6
  refine Run.lc_s [] 3 ZB rfl ?_
  obtain⟨g1,g2,hx⟩:=ZU hx
  refine ZR 1 rfl (JC.rangeL (RA:=λH' args (y:List UInt8)=>∃ao:Option Addr,args= #[.slice ao y.length y.length]∧IsSlice H' RU8 1 (.slice ao y.length y.length) y) rfl mix_four_r2 ((1:UInt32),(2:UInt32),(3:UInt32),(4:UInt32)) g1 g2 (λd o g=>∃v:Heaplet,o= [[(a6,.cells #[.int .u32 (d.1.toNat:Int),.int .u32 (d.2.1.toNat:Int),.int .u32 (d.2.2.1.toNat:Int),.int .u32 (d.2.2.2.toNat:Int)] 157 (0,0))],[(c2,.cells #[.int .u32 ((0:UInt32).toNat:Int),.int .u32 ((0:UInt32).toNat:Int),.int .u32 ((0:UInt32).toNat:Int),.int .u32 ((0:UInt32).toNat:Int)] 157 (0,0))]]∧v=g∧Hle c6 v) (λe c o g=>False) rfl E200 (slices_Chunk_byte_it s 8 g0 _ ((c5.mono RU8.mono (New.mono f7)).old RU8.mono) f8 f9) (λ_ _ _ h=>by obtain⟨_,h,_⟩:=h;rw[h];rfl) rfl ⟨c6,rfl,rfl,(Hle.refl _)⟩ ?_ ?_ ?_)
  ·
   rintro m7 x d args o g m8 ⟨v,rfl,rfl,b2⟩ hA hx2
   clear hx;have hx:=hx2;clear hx2;unfold mix_four_r2 at hx
   obtain⟨g3,rfl,c7⟩:=hA
   refine⟨[(0,.slice d5 d6 d7),(2,.pointer (some ⟨c2,0,none⟩)),(3,.pointer (some ⟨a6,0,none⟩)),(5,.slice g3 x.length x.length)],λg4 g5=> ?_,λg4 g5=> ?_⟩
   ·
    refine Run.cnz [] 3 ZB rfl ?_
    exact JN.assigned ⟨rfl,rfl,rfl,rfl,trivial⟩
   ·
    refine Run.cc [] 2 ZB rfl (ZO hx [0,2,3,5] [1] rfl rfl (λb3 l0 o0 l o g=>∃b4:Heaplet,l=l0∧o= [(a6,.cells #[.int .u32 (b3.toNat:Int),.int .u32 (d.2.1.toNat:Int),.int .u32 (d.2.2.1.toNat:Int),.int .u32 (d.2.2.2.toNat:Int)] 157 (0,0))]::o0∧b4=g∧Hle v b4) (λb3 m9 hx=> ?_) (λb3 n0 hx=> ?_))
    ·
     rintro _ _ _ ⟨b4,rfl,rfl,rfl,b5⟩
     refine Run.nc_s [] 2 ZB rfl (JC.draw (so:=[_]) 8 rfl Mixed ⟨⟨1,rfl⟩,trivial⟩ (JA.val ⟨by kernel_rfl,by kernel_rfl⟩ (ZK _) (i:=0) rfl ⟨by kernel_rfl,by kernel_rfl,rfl⟩ trivial (ZL (Hle.refl _) ⟨⟨1,rfl⟩,trivial⟩) (R.ixA 2 U157 S27 rfl rfl rfl) rfl (JA.val ⟨by kernel_rfl,by kernel_rfl⟩ (ZK _) (i:=2) rfl ⟨by kernel_rfl,by kernel_rfl,rfl⟩ trivial (ZL (Hle.refl _) ⟨⟨1,rfl⟩,trivial⟩) (ZW rfl) rfl ?_)))
     obtain⟨n1,g6,b6,hx⟩:=slc_some hx
     obtain⟨n2,c8,h1v_59,h2v_59,h3v_59,b7⟩:=IsSlice.cutv (c7.mono RU8.mono b5) g6 b6
     refine JA.val ⟨by kernel_rfl,by kernel_rfl⟩ (ZK _) (i:=3) rfl ⟨by kernel_rfl,by kernel_rfl,rfl⟩ trivial (ZL (Hle.refl _) ⟨⟨1,rfl⟩,trivial⟩) (R.slc (cap:=c8) (a:=4) (b:=(x.length:Int)) (c:=(c8:Int)) (m:=x) (R:=RU8) U26 S5 rfl ⟨_,rfl⟩ rfl (by obtain⟨ao,n,e,_⟩:=h1v_59;exact⟨ao,n,e,rfl⟩) ⟨b6.1,b6.2.1,h2v_59⟩ h3v_59 (.inl rfl)) rfl ?_
     obtain⟨n3,n4,rfl⟩:=IsSlice.val b7
     refine JA.two (i:=1) (j:=4) (by kernel_rfl) ?_ ?_
     ·
      refine JO.step rfl trivial rfl (λK hK=>Run.lnz [0] 2 ZB rfl (hK _ _ _ (ZL (Hle.refl _) ⟨⟨1,rfl⟩,trivial⟩) (JA.one (i:=4) (by kernel_rfl) (JO.step rfl trivial rfl (λK hK=> ?_)))))
      obtain⟨g7,g8,hx⟩:=ZU hx
      refine Zg (vs:=[_]) (args:=[_]) (K:=[]) (rst:=[_,_]) E164 rfl rfl rfl ZT (mix_number_ok.doesX rfl ⟨b7,trivial⟩ g8) rfl (λn5 n6 g9 h0 z n7=> ?_)
      obtain⟨rfl,rfl,-⟩:=h0
      refine JL.nil (hK _ _ _ (ZL z ⟨⟨1,rfl⟩,trivial⟩) (JA.val ⟨by kernel_rfl,by kernel_rfl⟩ (ZK _) (i:=5) rfl ⟨by kernel_rfl,by kernel_rfl,rfl⟩ trivial (ZL z ⟨⟨1,rfl⟩,trivial⟩) (R.xor32 (a:=d.2.2.1) (b:=g7) rfl rfl) rfl (JA.val ⟨by kernel_rfl,by kernel_rfl⟩ (ZK _) (i:=6) rfl ⟨by kernel_rfl,by kernel_rfl,rfl⟩ trivial (ZL z ⟨⟨1,rfl⟩,trivial⟩) (R.ixA 2 U157 S27 rfl rfl rfl) rfl (JA.one (i:=7) (by kernel_rfl) (JO.step rfl trivial rfl (λK hK=> ?_))))))
      refine Run.lnz [0] 2 ZB rfl (hK _ _ _ (ZL z ⟨⟨1,rfl⟩,trivial⟩) (JA.doneN (by kernel_rfl) ?_))
      refine Run.nlz_s [0] 3 ZB rfl ?_
      obtain⟨n8,h1,hx⟩:=ZU hx
      refine Zg (vs:=[_,_]) (args:=[_,_]) (K:=[]) (rst:=[_,_]) E165 rfl rfl rfl ZT (mix_words_often_ok.doesX rfl trivial h1) rfl (λn9 o1 o2 h2 o3 o4=> ?_)
      obtain⟨rfl,rfl,rfl⟩:=h2
      refine Run.lnz_b [0] 3 ZB rfl ?_
      obtain rfl:=Option.some.inj hx
      refine ZE 1 rfl (ZE 1 rfl ?_)
      exact JN.rN ⟨g9,rfl,rfl,((b2.trans (b5.trans z)))⟩
     ·
      refine JO.step rfl trivial rfl (λK hK=> ?_)
      obtain⟨h3,h4,hx⟩:=ZU hx
      refine Zg (vs:=[_]) (args:=[_]) (K:=[]) (rst:=[_,_]) E164 rfl rfl rfl ZT (mix_number_ok.doesX rfl ⟨b7,trivial⟩ h4) rfl (λo5 o6 h5 h6 k o7=> ?_)
      obtain⟨rfl,rfl,-⟩:=h6
      refine JL.nil (hK _ _ _ (ZL k ⟨⟨1,rfl⟩,trivial⟩) (JA.one (i:=1) (by kernel_rfl) (JO.step rfl trivial rfl (λK hK=> ?_))))
      refine Run.lnz [0] 2 ZB rfl (hK _ _ _ (ZL k ⟨⟨1,rfl⟩,trivial⟩) (JA.val ⟨by kernel_rfl,by kernel_rfl⟩ (ZK _) (i:=5) rfl ⟨by kernel_rfl,by kernel_rfl,rfl⟩ trivial (ZL k ⟨⟨1,rfl⟩,trivial⟩) (R.xor32 (a:=d.2.2.1) (b:=h3) rfl rfl) rfl (JA.val ⟨by kernel_rfl,by kernel_rfl⟩ (ZK _) (i:=6) rfl ⟨by kernel_rfl,by kernel_rfl,rfl⟩ trivial (ZL k ⟨⟨1,rfl⟩,trivial⟩) (R.ixA 2 U157 S27 rfl rfl rfl) rfl (JA.one (i:=7) (by kernel_rfl) (JO.step rfl trivial rfl (λK hK=> ?_))))))
      refine Run.lnz [0] 2 ZB rfl (hK _ _ _ (ZL k ⟨⟨1,rfl⟩,trivial⟩) (JA.doneN (by kernel_rfl) ?_))
      refine Run.nlz_s [0] 3 ZB rfl ?_
      obtain⟨o8,h7,hx⟩:=ZU hx
      refine Zg (vs:=[_,_]) (args:=[_,_]) (K:=[]) (rst:=[_,_]) E165 rfl rfl rfl ZT (mix_words_often_ok.doesX rfl trivial h7) rfl (λo9 p0 p1 h8 p2 p3=> ?_)
      obtain⟨rfl,rfl,rfl⟩:=h8
      refine Run.lnz_b [0] 3 ZB rfl ?_
      obtain rfl:=Option.some.inj hx
      refine ZE 1 rfl (ZE 1 rfl ?_)
      exact JN.rN ⟨h5,rfl,rfl,((b2.trans (b5.trans k)))⟩
    ·
     refine JC.draw (so:=[_]) 8 rfl Mixed ⟨⟨1,rfl⟩,trivial⟩ (JA.val ⟨by kernel_rfl,by kernel_rfl⟩ (ZK _) (i:=0) rfl ⟨by kernel_rfl,by kernel_rfl,rfl⟩ trivial (ZL (Hle.refl _) ⟨⟨1,rfl⟩,trivial⟩) (R.ixA 0 U157 S27 rfl rfl rfl) rfl (JA.val ⟨by kernel_rfl,by kernel_rfl⟩ (ZK _) (i:=2) rfl ⟨by kernel_rfl,by kernel_rfl,rfl⟩ trivial (ZL (Hle.refl _) ⟨⟨1,rfl⟩,trivial⟩) (ZW rfl) rfl ?_))
     obtain⟨p4,h9,b8,hx⟩:=slc_some hx
     obtain⟨p5,c9,h1v_48,h2v_48,h3v_48,b9⟩:=IsSlice.cutv c7 h9 b8
     refine JA.val ⟨by kernel_rfl,by kernel_rfl⟩ (ZK _) (i:=3) rfl ⟨by kernel_rfl,by kernel_rfl,rfl⟩ trivial (ZL (Hle.refl _) ⟨⟨1,rfl⟩,trivial⟩) (R.slc (cap:=c9) (a:=0) (b:=4) (c:=(c9:Int)) (m:=x) (R:=RU8) U26 S5 rfl rfl ⟨_,rfl⟩ (by obtain⟨ao,n,e,_⟩:=h1v_48;exact⟨ao,n,e,rfl⟩) ⟨b8.1,b8.2.1,h2v_48⟩ h3v_48 (.inl rfl)) rfl ?_
     obtain⟨p6,p7,rfl⟩:=IsSlice.val b9
     refine JA.two (i:=1) (j:=4) (by kernel_rfl) ?_ ?_
     ·
      refine JO.step rfl trivial rfl (λK hK=>Run.lnz [0] 2 ZB rfl (hK _ _ _ (ZL (Hle.refl _) ⟨⟨1,rfl⟩,trivial⟩) (JA.one (i:=4) (by kernel_rfl) (JO.step rfl trivial rfl (λK hK=> ?_)))))
      obtain⟨i0,i1,hx⟩:=ZU hx
      refine Zg (vs:=[_]) (args:=[_]) (K:=[]) (rst:=[_,_]) E164 rfl rfl rfl ZT (mix_number_ok.doesX rfl ⟨b9,trivial⟩ i1) rfl (λp8 p9 i2 i3 a0 q0=> ?_)
      obtain⟨rfl,rfl,-⟩:=i3
      refine JL.nil (hK _ _ _ (ZL a0 ⟨⟨1,rfl⟩,trivial⟩) (JA.val ⟨by kernel_rfl,by kernel_rfl⟩ (ZK _) (i:=5) rfl ⟨by kernel_rfl,by kernel_rfl,rfl⟩ trivial (ZL a0 ⟨⟨1,rfl⟩,trivial⟩) (R.xor32 (a:=d.1) (b:=i0) rfl rfl) rfl (JA.val ⟨by kernel_rfl,by kernel_rfl⟩ (ZK _) (i:=6) rfl ⟨by kernel_rfl,by kernel_rfl,rfl⟩ trivial (ZL a0 ⟨⟨1,rfl⟩,trivial⟩) (R.ixA 0 U157 S27 rfl rfl rfl) rfl (JA.one (i:=7) (by kernel_rfl) (JO.step rfl trivial rfl (λK hK=> ?_))))))
      refine Run.lnz [0] 2 ZB rfl (hK _ _ _ (ZL a0 ⟨⟨1,rfl⟩,trivial⟩) (JA.doneN (by kernel_rfl) ?_))
      obtain rfl:=Option.some.inj hx
      refine ZE 1 rfl (ZE 1 rfl ?_)
      exact ZC ⟨i2,rfl,rfl,rfl,(a0)⟩ rfl rfl rfl
     ·
      refine JO.step rfl trivial rfl (λK hK=> ?_)
      obtain⟨i4,i5,hx⟩:=ZU hx
      refine Zg (vs:=[_]) (args:=[_]) (K:=[]) (rst:=[_,_]) E164 rfl rfl rfl ZT (mix_number_ok.doesX rfl ⟨b9,trivial⟩ i5) rfl (λq1 q2 i6 i7 q q3=> ?_)
      obtain⟨rfl,rfl,-⟩:=i7
      refine JL.nil (hK _ _ _ (ZL q ⟨⟨1,rfl⟩,trivial⟩) (JA.one (i:=1) (by kernel_rfl) (JO.step rfl trivial rfl (λK hK=> ?_))))
      refine Run.lnz [0] 2 ZB rfl (hK _ _ _ (ZL q ⟨⟨1,rfl⟩,trivial⟩) (JA.val ⟨by kernel_rfl,by kernel_rfl⟩ (ZK _) (i:=5) rfl ⟨by kernel_rfl,by kernel_rfl,rfl⟩ trivial (ZL q ⟨⟨1,rfl⟩,trivial⟩) (R.xor32 (a:=d.1) (b:=i4) rfl rfl) rfl (JA.val ⟨by kernel_rfl,by kernel_rfl⟩ (ZK _) (i:=6) rfl ⟨by kernel_rfl,by kernel_rfl,rfl⟩ trivial (ZL q ⟨⟨1,rfl⟩,trivial⟩) (R.ixA 0 U157 S27 rfl rfl rfl) rfl (JA.one (i:=7) (by kernel_rfl) (JO.step rfl trivial rfl (λK hK=> ?_))))))
      refine Run.lnz [0] 2 ZB rfl (hK _ _ _ (ZL q ⟨⟨1,rfl⟩,trivial⟩) (JA.doneN (by kernel_rfl) ?_))
      obtain rfl:=Option.some.inj hx
      refine ZE 1 rfl (ZE 1 rfl ?_)
      exact ZC ⟨i6,rfl,rfl,rfl,(q)⟩ rfl rfl rfl
  ·
   rintro i8 d o g q4 htt ⟨v,rfl,rfl,b2⟩ hle2
   subst htt;simp only[Sum.elim_inl]at hx
   refine Run.nl_bs [] 4 ZB rfl (ZA rfl rfl (R.ixA 1 U157 S27 rfl rfl rfl) (Run.llz [1] 2 ZB rfl (ZA rfl rfl (ZM U26 rfl (IsSlice.long c1)) (ZA rfl rfl (R.cv_i64_u32 U3 U27 rfl) (ZA rfl rfl (R.xor32 (a:=d.2.1) (b:=u32i (a1.length:Int)) rfl rfl) (ZA rfl rfl (R.ixA 1 U157 S27 rfl rfl rfl) (Run.ll_s [1,1] 6 ZB rfl (ZI hx E165 rfl mix_words_often_ok rfl trivial ?_))))))))
   intro q5 q6 hx
   refine Run.lnz_s [2] 4 ZB rfl ?_
   exact JN.conCM (own2:=[_,_]) [i8] [1] [] ZB (Ze 0 rfl ZT) ⟨rfl,rfl,rfl,rfl⟩ rfl rfl hx rfl rfl
  ·
   rintro D c e o g hD htt hX;exact hX.elim
 ·
  refine JC.block (JC.forget 1 (ZR 1 rfl (ZR 2 rfl (ZR 2 rfl (ZS [0,2,3] [1,2] rfl rfl (λl0 o0 d0 l o g=>∃a2:Option Addr,∃a3:Nat,∃a4:Nat,∃a5:Own,l=(4,.slice a2 a3 a4)::l0∧o=a5::o0∧f=g∧RowOf (New H f) RU8 w.heap.size 5 1 (.slice a2 a3 a4) d0 a5) hx ⟨f2,e8.length,f3,f1,rfl,rfl,rfl,c4⟩ rfl ?_)))))
  ·
   rintro q7 d0 _ _ _ ⟨a2,a3,a4,a5,rfl,rfl,rfl,c0⟩ q8 hx d1
   unfold mix_four_l1 at hx
   refine Run.cl [] 4 ZB rfl (ZA rfl rfl (ZM U26 rfl (RowOf.long c0)) (ZA rfl rfl (R.rem_i rfl rfl (by decide)) ?_))
   refine Run.lcz_s [] 3 ZB rfl (ZG hx rfl (λi9 hx=> ?_) (λi9 hx=> ?_))
   ·
    refine Run.cl_s [] 5 ZB rfl (Zx (HF:=(New H f)) (R:=RU8) (ls:=[(0:UInt8)]) (vs:=[.int .u8 ((0:UInt8).toNat:Int)]) U26 I5 rfl rfl (⟨_,_,rfl,rfl,rfl,rfl⟩) RU8.one rfl rfl rfl (by simp[maxLen]) rfl (λq9 r0 d2=> ?_))
    obtain⟨r1,r2,rfl⟩:=RowOf.val d2
    obtain⟨d3,j0,j1,hx⟩:=Zb hx
    refine Zl (HF:=(New H f)) 1 U26 I5 rfl rfl c0 rfl (SrcF.row 0 U26 rfl d2) j0 j1 rfl (Nat.le_refl _) rfl (λr3 j2 d4=> ?_)
    obtain⟨j3,j4,rfl⟩:=RowOf.val d4
    refine Run.lnz_b [] 3 ZB rfl ?_
    replace hx:=ZP d1 hx
    refine JN.forget 0 (ZE 2 rfl (ZE 2 rfl (ZE 2 rfl ?_)))
    exact ZC ⟨d3,⟨j3,d3.length,j4,j2,rfl,rfl,rfl,d4⟩,hx⟩ rfl rfl rfl
   ·
    refine Run.cnz_k [] 2 ZB rfl ?_
    obtain rfl:=ZH d1 hx
    refine Run.nnz_kb [] 2 ZB rfl (ZE 2 rfl (ZE 2 rfl (ZE 2 rfl ?_)))
    exact ZC ⟨a2,a3,a4,a5,rfl,rfl,rfl,c0⟩ rfl rfl rfl
theorem mix_Sum_ok{a}:Con Tryz.prog 44 false ([.sl false RU8 1 a]) (mix_Sum a) (λr=> [.w32 r]):=by
 intro H c d f b r hx
 refine Does.enterC Tryz.func44 rfl rfl ?_
 intro w
 unfold mix_Sum at hx
 refine Run.cl [] 8 ZB rfl (Zv hx E103 rfl mix_four_ok rfl ⟨b,trivial⟩ ?_)
 intro h i hx j k
 refine ZA rfl rfl (R.idxAk 0 U157 S27 rfl rfl rfl rfl rfl) (Run.lnz_s [] 4 ZB rfl ?_)
 exact Zj [] rfl hx rfl rfl
theorem store_Look_ok{q c}:Con Tryz.prog 9 false (sp_Store false q++sp_Ptr false c) (store_Look q c) (λr=> [.sl true RU8 1 r.1,.i r.2]):=by
 intro H b0 b1 b2 s b3 b4 b5 v b6 b7 b8 a2 r hx
 refine Does.enterC Tryz.func9 rfl rfl ?_
 intro w
 unfold store_Look at hx
 refine Run.cl [] 2 ZB rfl (ZV rfl rfl (λb9 c0=>ZV rfl rfl (λc1 c2=>Run.ll_s [1] 8 ZB rfl (ZI hx E16 rfl store_Check_ok rfl ⟨s,v,a2,trivial⟩ ?_))))
 intro c3 c4 hx
 refine Run.llz [] 2 ZB rfl (ZQ 11 hx rfl (λa3 hx=> ?_) (λa3 hx=> ?_))
 ·
  refine Run.lnz_sk [] 15 ZB rfl ?_
  exact Zj [] rfl hx rfl ⟨IsSlice.nil _ _ _,rfl⟩
 ·
  refine Run.llz [0] 3 ZB rfl (ZI hx E42 rfl ptr_Check_ok rfl trivial ?_)
  intro c5 c6 hx
  refine Run.lcz_s [] 5 ZB rfl (ZG hx rfl (λa4 hx=> ?_) (λa4 hx=> ?_))
  ·
   refine Run.cnz_k [] 8 ZB rfl ?_
   exact Zj [] rfl hx rfl ⟨IsSlice.nil _ _ _,rfl⟩
  ·
   refine Run.cl_s [0] 7 ZB rfl (ZA rfl rfl (R.eqlAgg QU31 QP31 QG31 QF31 rfl rfl (EqF.i (by decide) S3 U3 rfl rfl (EqF.u32 (a:=c.Birth) (b:=(0:UInt32)) (by decide) S27 U27 rfl rfl (EqF.u32 (a:=c.Iv) (b:=(0:UInt32)) (by decide) S27 U27 rfl rfl (EqF.u32 (a:=c.Tag) (b:=(0:UInt32)) (by decide) S27 U27 rfl rfl (EqF.u32 (a:=c.Sum) (b:=(0:UInt32)) (by decide) S27 U27 rfl rfl EqF.nil)))))) ?_)
   refine Run.lcz_s [] 2 ZB rfl (ZG hx rfl (λa5 hx=> ?_) (λa5 hx=> ?_))
   ·
    refine Run.cnz_k [] 8 ZB rfl ?_
    exact Zj [] rfl hx rfl ⟨IsSlice.nil _ _ _,rfl⟩
   ·
    refine Run.cl_s [1,0] 8 ZB rfl (Zv hx E43 rfl dev_Read_ok rfl ⟨s,v,trivial⟩ ?_)
    intro c7 c8 hx x c9 y z a0 j
    refine Run.lc_s [] 8 ZB rfl (ZO hx [] [] rfl rfl (λd l0 o0 l o g=>∃f:Heaplet,∃k:Option Addr,∃m:Nat,∃p:Nat,l=(6,.slice k m p)::(7,.int .i64 d.2)::l0∧o=o0∧f=g∧Hle x f∧IsSlice (New H f) RU8 1 (.slice k m p) d.1) (λd d0 hx=> ?_) (λd d1 hx=> ?_))
    ·
     rintro _ _ _ ⟨f,k,m,p,rfl,rfl,rfl,d2,a6⟩
     refine Run.nnz_s [] 10 ZB rfl ?_
     exact Zj [] rfl hx rfl ⟨a6,rfl⟩
    ·
     refine JC.seq (Zh (so:=[(_,[]),(_,[])]) 9 rfl Mixed ⟨by kernel_rfl,by kernel_rfl⟩ (ZX [0,1] rfl) ?_)
     refine JB.run 3 [0,1,2] [] ZB rfl ?_
     refine JB.gX 29 hx rfl (λa7 hx=> ?_) (λa7 hx=> ?_)
     ·
      refine JB.run 3 [3,5,6] [0] ZB rfl ?_
      refine JB.one (i:=4) (by kernel_rfl) ?_
      refine JOB.step rfl ⟨_,_,rfl,rfl,rfl⟩ rfl (λK hK=>Zv hx E44 rfl mix_Sum_ok rfl ⟨(j.old RU8.mono),trivial⟩ ?_)
      intro a8 d3 hx a1 h
      refine JL.nil (hK _ _ _ h (ZX [0,1] rfl) ?_)
      refine JB.val (i:=7) [] rfl (R.neq32 (a:=a8) (b:=c.Sum) rfl rfl) ?_
      refine JB.val (i:=8) [] rfl (R.pickT rfl rfl) ?_
      refine JB.doneN (by kernel_rfl) ?_
      refine Zw (ZG hx rfl (λa9 hx=> ?_) (λa9 hx=> ?_))
      ·
       refine Run.cnz [] 4 ZB rfl ?_
       obtain rfl:=Option.some.inj hx
       refine JN.forget 1 (JN.forget 0 ?_)
       exact ZC ⟨a1,none,0,0,rfl,rfl,rfl,(h),(IsSlice.nil _ _ _)⟩ rfl rfl rfl
      ·
       refine JC.skip ?_
       obtain rfl:=Option.some.inj hx
       refine JN.forget 1 (JN.forget 0 ?_)
       exact ZC ⟨a1,y,z,a0,rfl,rfl,rfl,(h),(j.mono RU8.mono (New.mono h))⟩ rfl rfl rfl
     ·
      refine JB.run 6 [3,4,5,6,7,8] [] ZB rfl ?_
      refine JB.doneN (by kernel_rfl) ?_
      refine Run.nnz_s [] 3 ZB rfl ?_
      obtain rfl:=Option.some.inj hx
      refine JN.forget 1 (JN.forget 0 ?_)
      exact ZC ⟨x,y,z,a0,rfl,rfl,rfl,(Hle.refl _),j⟩ rfl rfl rfl
theorem ptr_sizes_ok:Con Tryz.prog 201 true ([]) (ptr_sizes) (λr=> [.st 5,.i r.e0,.i r.e1,.i r.e2,.i r.e3,.i r.e4]):=by
 intro H r hx
 refine Does.enterC Tryz.func201 rfl rfl ?_
 intro w
 unfold ptr_sizes at hx
 refine Run.cl [] 2 ZB rfl (JL.alloc Z248 rfl (λa b=>Run.ll_s [] 4 ZB rfl (ZA rfl rfl (R.bldA (vs:=[(0,.int .i64 1),(1,.int .i64 3),(2,.int .i64 4),(3,.int .i64 4),(4,.int .i64 4)]) (cells:=#[.int .i64 1,.int .i64 3,.int .i64 4,.int .i64 4,.int .i64 4]) Z248 B248 rfl rfl rfl rfl) (Run.lnz_s [0] 4 ZB rfl ?_))))
 exact JN.conCQ [0] [] ZB rfl hx rfl rfl
theorem ptr_Read_ok{k}:Con Tryz.prog 145 false ([.sl false RU8 1 k]) (ptr_Read k) (λr=>sp_Ptr true r.1++ [.i r.2]):=by
 intro H a6 a7 a8 m r hx
 refine Does.enterC Tryz.func145 rfl rfl ?_
 intro w
 unfold ptr_Read at hx
 refine Run.cl [] 2 ZB rfl (JL.alloc Z31 rfl (λa9 b0=>Run.ll_s [] 7 ZB rfl (ZA rfl rfl (ZM U26 rfl (IsSlice.long m)) (Run.lcz_s [] 3 ZB rfl (ZG hx rfl (λv hx=> ?_) (λv hx=> ?_))))))
 ·
  refine Run.cnz_k [0] 9 ZB rfl ?_
  exact Zo [0] [] ZB rfl hx rfl rfl
 ·
  refine Run.cl_s [] 4 ZB rfl (JL.alloc Z248 rfl (λp b1=>Run.ll_s [] 10 ZB rfl (ZI hx E201 rfl ptr_sizes_ok rfl trivial ?_)))
  intro x b2 hx
  refine Run.lcz_s [] 3 ZB rfl (ZO hx [2,4] [1] rfl rfl (λd l0 o0 l o g=>∃h:Heaplet,l=l0∧o= [(p,.cells #[.int .i64 d.1,.int .i64 d.2.1,.int .i64 d.2.2.1,.int .i64 d.2.2.2.1,.int .i64 d.2.2.2.2] 248 (0,0))]::o0∧h=g∧Hle H h) (λd b3 hx=> ?_) (λd b4 hx=> ?_))
  ·
   rintro _ _ _ ⟨h,rfl,rfl,rfl,b5⟩
   refine Run.nl_s [] 3 ZB rfl (ZA rfl rfl (R.ixA 0 U248 S3 rfl rfl rfl) (ZA rfl rfl (R.ldo 0 S3 rfl rfl rfl) (ZA rfl rfl (R.ixA 1 U248 S3 rfl rfl rfl) (ZA rfl rfl (R.ldo 0 S3 rfl rfl rfl) (ZA rfl rfl (R.cv_i64_u32 U3 U27 rfl) (ZA rfl rfl (R.ixA 2 U248 S3 rfl rfl rfl) (ZA rfl rfl (R.ldo 0 S3 rfl rfl rfl) (ZA rfl rfl (R.cv_i64_u32 U3 U27 rfl) (ZA rfl rfl (R.ixA 3 U248 S3 rfl rfl rfl) (ZA rfl rfl (R.ldo 0 S3 rfl rfl rfl) (ZA rfl rfl (R.cv_i64_u32 U3 U27 rfl) (ZA rfl rfl (R.ixA 4 U248 S3 rfl rfl rfl) (ZA rfl rfl (R.ldo 0 S3 rfl rfl rfl) (ZA rfl rfl (R.cv_i64_u32 U3 U27 rfl) (Run.ll_s [1,1] 8 ZB rfl (ZI hx E42 rfl ptr_Check_ok rfl trivial ?_))))))))))))))))
   intro b6 b7 hx
   refine Run.lcz_s [] 9 ZB rfl (ZG hx rfl (λy hx=> ?_) (λy hx=> ?_))
   ·
    refine Run.cnz_k [1] 10 ZB rfl ?_
    exact Zo [1] [] ZB rfl hx rfl rfl
   ·
    refine Run.cnz_s [1,1] 10 ZB rfl ?_
    exact Zo [1] [] ZB rfl hx rfl rfl
  ·
   refine JC.block (ZR 1 rfl (ZR 1 rfl (ZS [0,2,4,13] [1] rfl rfl (λl0 o0 b l o g=>∃f:Heaplet,l=(5,.int .i64 b.2.2.2.2.2.1)::(14,.int .i64 ((b.2.2.2.2.2.2:Nat):Int))::l0∧o= [(p,.cells #[.int .i64 b.1,.int .i64 b.2.1,.int .i64 b.2.2.1,.int .i64 b.2.2.2.1,.int .i64 b.2.2.2.2.1] 248 (0,0))]::o0∧f=g∧Hle H f) hx ⟨H,rfl,rfl,rfl,(Hle.refl _)⟩ rfl ?_)))
   ·
    rintro b8 b _ _ _ ⟨f,rfl,rfl,rfl,j⟩ b9 hx q
    unfold ptr_Read_l1 at hx
    refine Run.cc [] 6 ZB rfl (ZG hx rfl (λs hx=> ?_) (λs hx=> ?_))
    ·
     refine Run.cl_s [] 7 ZB rfl ?_
     obtain⟨z,a0,hx⟩:=ZJ hx
     refine ZA rfl rfl (R.idxA (enc:=(λa:Int=>Value.int .i64 a)) (L:=x.l) U248 S3 rfl rfl rfl rfl rfl a0) (Run.ll_s [] 10 ZB rfl (Zv hx E146 rfl code_Get_ok rfl ⟨(m.mono RU8.mono j),trivial⟩ ?_))
     intro c0 c1 hx a1 a2
     refine Run.llz [] 3 ZB rfl ?_
     obtain⟨a3,hx⟩:=chk_some hx
     refine ZA rfl rfl (R.ixAs U248 S3 rfl rfl a3) ?_
     obtain⟨c,a4,a5,hx⟩:=A5.setI_some hx
     refine JL.stA 0 (enc:=(λa:Int=>Value.int .i64 a)) (L:=(A5.mk b.1 b.2.1 b.2.2.1 b.2.2.2.1 b.2.2.2.2.1).l) (L':=c.l) (cur':=#[.int .i64 c.e0,.int .i64 c.e1,.int .i64 c.e2,.int .i64 c.e3,.int .i64 c.e4]) S3 rfl rfl rfl rfl rfl rfl rfl a4 a5.2 rfl (Run.llz_sbs [] 11 ZB rfl (ZA rfl rfl (Zi rfl rfl (of_decide_eq_true s) (by decide)) ?_))
     refine Run.lnz [] 2 ZB rfl ?_
     replace hx:=ZP q hx
     refine ZE 1 rfl (ZE 1 rfl ?_)
     exact ZC ⟨(c.e0,c.e1,c.e2,c.e3,c.e4,w64 (b.2.2.2.2.2.1+z),b.2.2.2.2.2.2+1),⟨a1,rfl,rfl,rfl,((j.trans a2))⟩,hx⟩ rfl rfl rfl
    ·
     refine Run.cnz_k [] 2 ZB rfl ?_
     obtain rfl:=ZH q hx
     refine Run.nnz_kb [] 2 ZB rfl (ZE 1 rfl (ZE 1 rfl ?_))
     exact ZC ⟨f,rfl,rfl,rfl,(j)⟩ rfl rfl rfl
theorem ptr_Rows_ok{d}:Con Tryz.prog 89 false ([.sl false RU8 1 d]) (ptr_Rows d) (λr=> [.row true R_Ptr 31 5 r.1,.i r.2]):=by
 intro H d1 d2 d3 q r hx
 refine Does.enterMC Tryz.func89 rfl rfl ?_
 intro w
 unfold ptr_Rows at hx
 refine Run.cl [] 2 ZB rfl (JL.alloc Z97 rfl (λs d4=>JL.alloc Z34 rfl (λv d5=>Run.ll_s [] 6 ZB rfl (ZA rfl rfl (ZM U26 rfl (IsSlice.long q)) (Run.lcz_s [] 3 ZB rfl (ZG hx rfl (λa9 hx=> ?_) (λa9 hx=> ?_)))))))
 ·
  refine Run.cnz_k [1,0] 8 ZB rfl (ZZ ?_)
  exact JN.conCM (own2:=[_,_,_]) [] [2,1] [0] ZB ZT ⟨rfl,rfl,rfl,rfl⟩ rfl rfl hx rfl ⟨⟨0,RowOf.nil _ _ _ _ _⟩,rfl⟩
 ·
  refine Run.cl_s [] 6 ZB rfl ?_
  obtain⟨d6,b0,hx⟩:=ZU hx
  refine Zg (vs:=[_,_]) (args:=[_,_]) (K:=[]) (rst:=[_,_]) E144 rfl rfl rfl ZT (slices_Chunk_byte_ok d 16 _ q _ b0) rfl (λd7 d8 x b1 b2 d9=> ?_)
  obtain⟨e0,e1,rfl,rfl,b3,b4,b5,-⟩:=b1
  refine Run.lc_s [] 3 ZB rfl ?_
  obtain⟨b6,b7,hx⟩:=ZU hx
  refine JC.seg0 (ZR 1 rfl (ZR 1 rfl (ZR 2 rfl (JC.rangeL (RA:=λH' args (y:List UInt8)=>∃ao:Option Addr,args= #[.slice ao y.length y.length]∧IsSlice H' RU8 1 (.slice ao y.length y.length) y) rfl ptr_Rows_r1 ([]:List Ptr) b6 b7 (λz o g=>∃b:Heaplet,∃f:Option Addr,∃j:Nat,∃k:Nat,∃m:Own,o= [[(s,.cells #[.slice f j k] 97 (0,0))],m,[(v,.cells #[.int .i64 0] 34 (0,0))]]∧b=g∧Hle x b∧RowOf (New H b) R_Ptr w.heap.size 31 5 (.slice f j k) z m) (λe c o g=>(c=.ret∧∃t_10e0:Int,t_10e0=e∧∃a0:Heaplet,o= [[(v,.cells #[.int .i64 t_10e0] 34 (0,0))],[(s,.cells #[.slice none 0 0] 97 (0,0))]]∧a0=g∧Hle x a0)) rfl E200 (slices_Chunk_byte_it d 16 b5 _ (q.mono RU8.mono b2) b3 b4) (λ_ _ _ h=>by obtain⟨_,h,_⟩:=h;rw[h];rfl) rfl ⟨x,none,0,0,[],rfl,rfl,(Hle.refl _),(RowOf.nil _ _ _ _ _)⟩ ?_ ?_ ?_))))
  ·
   rintro e2 a5 z args o g e3 ⟨b,f,j,k,m,rfl,rfl,a1,a2⟩ hA hx2
   clear hx;have hx:=hx2;clear hx2;unfold ptr_Rows_r1 at hx
   obtain⟨b8,rfl,b9⟩:=hA
   refine⟨[(2,.pointer (some ⟨s,0,none⟩)),(3,.pointer (some ⟨v,0,none⟩)),(4,.slice b8 a5.length a5.length)],λc0 a6=> ?_,λc0 a6=> ?_⟩
   ·
    refine Run.cnz [] 3 ZB rfl ?_
    exact JN.assigned ⟨rfl,rfl,rfl,trivial⟩
   ·
    refine Run.cl [] 4 ZB rfl ?_
    obtain⟨a,c1,hx⟩:=ZU hx
    refine Zg (vs:=[_]) (args:=[_]) (K:=[]) (rst:=[_,_,_]) E145 rfl rfl rfl ZT (ptr_Read_ok.doesX rfl ⟨b9,trivial⟩ c1) rfl (λe4 e5 p c2 a3 e6=> ?_)
    obtain⟨rfl,rfl,-⟩:=c2
    refine Run.llz [] 3 ZB rfl (JL.alloc Z31 rfl (λe7 e8=>Run.lc_s [0] 11 ZB rfl (ZG hx rfl (λc3 hx=> ?_) (λc3 hx=> ?_))))
    ·
     refine Run.cnz_kb [1,3] 10 ZB rfl ?_
     obtain rfl:=Option.some.inj hx
     refine JN.forget 2 (JN.forget 0 (ZE 1 rfl ?_))
     exact JN.rR ⟨rfl,a.2,rfl,p,rfl,rfl,((a1.trans a3))⟩
    ·
     refine Run.clz_s [1,0] 5 ZB rfl (Zx (HF:=(New H p)) (R:=R_Ptr) (ls:=[a.1]) (vs:=[.agg #[.int .i64 a.1.At,.int .u32 (a.1.Birth.toNat:Int),.int .u32 (a.1.Iv.toNat:Int),.int .u32 (a.1.Tag.toNat:Int),.int .u32 (a.1.Sum.toNat:Int)]]) U97 I31 rfl rfl (⟨_,_,rfl,rfl,rfl,rfl⟩) R_Ptr.one rfl rfl rfl (by simp[maxLen]) rfl (λe9 f0 a7=> ?_))
     obtain⟨f1,f2,rfl⟩:=RowOf.val a7
     obtain⟨c4,c5,c6,hx⟩:=Zb hx
     refine Zl (HF:=(New H p)) 3 U97 I31 rfl rfl (a2.mono R_Ptr.mono (New.mono a3)) rfl (SrcF.row 0 U97 rfl a7) c5 c6 rfl a6 rfl (λf3 c7 a8=> ?_)
     obtain⟨c8,c9,rfl⟩:=RowOf.val a8
     refine Run.lnz_b [2] 3 ZB rfl ?_
     obtain rfl:=Option.some.inj hx
     refine JN.forget 1 (JN.forget 0 (ZE 2 rfl (ZE 2 rfl (ZE 2 rfl ?_))))
     exact JN.rN ⟨p,c8,c4.length,c9,c7,rfl,rfl,((a1.trans a3)),a8⟩
  ·
   rintro a4 z o g d0 htt ⟨b,f,j,k,m,rfl,rfl,a1,a2⟩ hle2
   subst htt;simp only[Sum.elim_inl]at hx
   refine Run.nnz_bs [1,1,3] 10 ZB rfl ?_
   exact JN.conCM (own2:=[_,_,_]) [a4] [0,2] [1] ZB (Ze 0 rfl ZT) ⟨rfl,rfl,rfl,rfl⟩ rfl rfl hx rfl ⟨⟨_,a2⟩,rfl⟩
  ·
   rintro a4 c e o g d0 htt hX hle2
   rcases hX with⟨rfl,t_10e0,rfl,a0,rfl,rfl,f4⟩
   subst htt;simp only[Sum.elim_inl,Sum.elim_inr]at hx
   refine Run.cnz_bk [] 3 ZB rfl (ZZ ?_)
   exact JN.conCM (own2:=[_,_,_]) [a4] [2,1] [0] ZB (Ze 1 rfl ZT) ⟨rfl,rfl,rfl,rfl⟩ rfl rfl hx rfl ⟨⟨0,RowOf.nil _ _ _ _ _⟩,rfl⟩
theorem set_Ptrs_ok{d c}:Con Tryz.prog 185 false (sp_Store false d++sp_Ptr false c) (set_Ptrs d c) (λr=> [.row true R_Ptr 31 5 r.1,.i r.2]):=by
 intro H a2 a3 a4 f a5 a6 a7 h a8 a9 b0 j r hx
 refine Does.enterC Tryz.func185 rfl rfl ?_
 intro w
 unfold set_Ptrs at hx
 refine Run.cl [] 2 ZB rfl (ZV rfl rfl (λb1 b2=>ZV rfl rfl (λb3 b4=>Run.ll_s [1] 8 ZB rfl (ZI hx E16 rfl store_Check_ok rfl ⟨f,h,j,trivial⟩ ?_))))
 intro b5 b6 hx
 refine Run.llz [] 2 ZB rfl (ZQ 12 hx rfl (λm hx=> ?_) (λm hx=> ?_))
 ·
  refine Run.lnz_sk [] 15 ZB rfl (ZZ ?_)
  exact Zj [0] rfl hx rfl ⟨⟨0,RowOf.nil _ _ _ _ _⟩,rfl⟩
 ·
  refine Run.llz [0] 3 ZB rfl (ZI hx E42 rfl ptr_Check_ok rfl trivial ?_)
  intro b7 b8 hx
  refine Run.lcz_s [] 5 ZB rfl (ZG hx rfl (λp hx=> ?_) (λp hx=> ?_))
  ·
   refine Run.cnz_k [] 8 ZB rfl (ZZ ?_)
   exact Zj [0] rfl hx rfl ⟨⟨0,RowOf.nil _ _ _ _ _⟩,rfl⟩
  ·
   refine Run.cl_s [0] 7 ZB rfl (ZA rfl rfl (R.eqlAgg QU31 QP31 QG31 QF31 rfl rfl (EqF.i (by decide) S3 U3 rfl rfl (EqF.u32 (a:=c.Birth) (b:=(0:UInt32)) (by decide) S27 U27 rfl rfl (EqF.u32 (a:=c.Iv) (b:=(0:UInt32)) (by decide) S27 U27 rfl rfl (EqF.u32 (a:=c.Tag) (b:=(0:UInt32)) (by decide) S27 U27 rfl rfl (EqF.u32 (a:=c.Sum) (b:=(0:UInt32)) (by decide) S27 U27 rfl rfl EqF.nil)))))) ?_)
   refine Run.lcz_s [] 2 ZB rfl (ZG hx rfl (λq hx=> ?_) (λq hx=> ?_))
   ·
    refine Run.cl [] 2 ZB rfl ?_
    obtain⟨b9,s,v,hx⟩:=mks_some hx
    refine JL.mkF (HF:=New H H) (R:=R_Ptr) (y:=Ptr.mk 0 (0:UInt32) (0:UInt32) (0:UInt32) (0:UInt32)) (n:=16) U97 I31 rfl rfl (λ_=>rfl) R_Ptr.one s v rfl rfl (λc0 c1 k=> ?_)
    obtain⟨c2,c3,rfl⟩:=RowOf.val k
    refine Run.lnz_sk [] 6 ZB rfl ?_
    exact Zj [0] rfl hx rfl ⟨⟨_,k⟩,rfl⟩
   ·
    refine Run.cl_s [1,0] 6 ZB rfl (Zv hx E9 rfl store_Look_ok rfl ⟨f,h,j,trivial⟩ ?_)
    intro c4 c5 hx c6 c7 c8 c9 d0 x
    refine Run.lc_s [] 14 ZB rfl (ZG hx rfl (λz hx=> ?_) (λz hx=> ?_))
    ·
     refine Run.cnz_k [] 9 ZB rfl (ZZ ?_)
     exact Zj [0] rfl hx rfl ⟨⟨0,RowOf.nil _ _ _ _ _⟩,rfl⟩
    ·
     refine Run.cl_s [] 5 ZB rfl (Zv hx E89 rfl ptr_Rows_ok rfl ⟨(x.old RU8.mono),trivial⟩ ?_)
     intro d1 d2 hx d3 d4 d5 d6 d7 d8 a0
     refine Run.lc_s [] 14 ZB rfl (ZG hx rfl (λa1 hx=> ?_) (λa1 hx=> ?_))
     ·
      refine Run.cnz_k [] 8 ZB rfl (ZZ ?_)
      exact Zj [0] rfl hx rfl ⟨⟨0,RowOf.nil _ _ _ _ _⟩,rfl⟩
     ·
      refine Run.cnz_s [] 10 ZB rfl ?_
      exact Zj [0] rfl hx rfl ⟨⟨_,a0⟩,rfl⟩
theorem obj_Check_1_ok{c d f}:Con Tryz.prog 204 true ([.i c,.i d,.i f]) (obj_Check_1 c d f) (λr=> [.b r]):=by
 intro H r hx
 refine Does.enterC Tryz.func204 rfl rfl ?_
 intro w
 unfold obj_Check_1 at hx
 refine Run.cc [] 6 ZB rfl (ZO hx [] [] rfl rfl (λa l0 o0 l o g=>l=(6,.bool a)::l0∧o=o0∧H=g) (λa j hx=> ?_) (λa k hx=> ?_))
 ·
  rintro _ _ _ ⟨rfl,rfl,rfl⟩
  refine Run.nnz_s [] 2 ZB rfl ?_
  exact ZD [] rfl hx rfl rfl
 ·
  refine Run.clz [] 5 ZB rfl (ZQ 10 hx rfl (λh hx=> ?_) (λh hx=> ?_))
  ·
   refine Run.lnz [] 9 ZB rfl ?_
   obtain rfl:=Option.some.inj hx
   exact ZC ⟨rfl,rfl,rfl⟩ rfl rfl rfl
  ·
   refine Run.lnz [] 6 ZB rfl ?_
   obtain rfl:=Option.some.inj hx
   exact ZC ⟨rfl,rfl,rfl⟩ rfl rfl rfl
theorem obj_Check_2_ok{a}:Con Tryz.prog 205 true (sp_Ptr false a) (obj_Check_2 a) (λr=> [.b r]):=by
 intro H r hx
 refine Does.enterC Tryz.func205 rfl rfl ?_
 intro w
 unfold obj_Check_2 at hx
 refine Run.cl [] 2 ZB rfl (ZV rfl rfl (λc d=>Run.ll_s [0] 6 ZB rfl (ZI hx E42 rfl ptr_Check_ok rfl trivial ?_)))
 intro f h hx
 refine Run.lnz_s [] 5 ZB rfl ?_
 exact ZD [] rfl hx rfl rfl
theorem slices_IndexFunc_Ptr_ok{f}:Con Tryz.prog 240 true ([.sl false R_Ptr 5 f,.fv 205]) (slices_IndexFunc_Ptr f) (λr=> [.i r]):=by
 intro H x y z a r hx
 refine Does.enterC Tryz.func240 rfl rfl ?_
 intro w
 unfold slices_IndexFunc_Ptr at hx
 refine Run.cl [] 9 ZB rfl (ZA rfl rfl (ZM U97 rfl (IsSlice.long a)) (Run.lcz_s [] 3 ZB rfl (ZO hx [] [] rfl rfl (λb l0 o0 l o g=>∃h:Unit,l=l0∧o=o0∧H=g∧b=.inl h) (λb a0 hx=> ?_) (λb k hx=> ?_))))
 ·
  rintro _ _ _ ⟨h,rfl,rfl,rfl,rfl⟩
  simp only[Sum.elim_inl]at hx
  refine Run.nnz_s [] 7 ZB rfl ?_
  exact ZD [] rfl hx rfl rfl
 ·
  refine JC.block (ZS [0,1,7] [] rfl rfl (λl0 o0 c l o g=>l=(8,.int .i64 ((c:Nat):Int))::l0∧o=o0∧H=g) hx ⟨rfl,rfl,rfl⟩ rfl ?_)
  ·
   rintro a1 c _ _ _ ⟨rfl,rfl,rfl⟩ a2 hx d
   unfold slices_IndexFunc_Ptr_l1 at hx
   refine Run.cc [] 6 ZB rfl (ZG hx rfl (λj hx=> ?_) (λj hx=> ?_))
   ·
    refine Run.cl_s [] 15 ZB rfl ?_
    obtain⟨a3,m,hx⟩:=ZJ hx
    obtain⟨a4,a5,a6,p,q,a7,s⟩:=IsSlice.elem a m
    obtain rfl:=q
    refine ZA rfl rfl (Zd U97 S31 rfl rfl p) (ZA rfl rfl (Zz 0 S31 rfl s rfl rfl) (ZI hx E205 rfl obj_Check_2_ok rfl trivial ?_))
    intro a8 a9 hx
    refine Run.lcz_s [] 2 ZB rfl (ZG hx rfl (λv hx=> ?_) (λv hx=> ?_))
    ·
     refine Run.cnz_bk [] 9 ZB rfl ?_
     obtain rfl:=ZH d hx
     refine Run.nnz_kb [] 2 ZB rfl ?_
     clear hx;have hx:=k
     simp only[Sum.elim_inl,Sum.elim_inr]at hx
     refine Run.nnz_kk [] 2 ZB rfl ?_
     exact ZD [] rfl hx rfl rfl
    ·
     refine Run.clz_bs [] 4 ZB rfl (ZA rfl rfl (Zi rfl rfl (of_decide_eq_true j) (IsSlice.lenI a)) (Run.lnz [] 2 ZB rfl ?_))
     replace hx:=ZP d hx
     exact ZC ⟨c+1,⟨rfl,rfl,rfl⟩,hx⟩ rfl rfl rfl
   ·
    refine Run.cnz_k [] 2 ZB rfl ?_
    obtain rfl:=ZH d hx
    refine Run.nnz_kb [] 2 ZB rfl ?_
    exact ZC ⟨(),rfl,rfl,rfl,rfl⟩ rfl rfl rfl
theorem slices_ContainsFunc_Ptr_ok{a}:Con Tryz.prog 206 true ([.sl false R_Ptr 5 a,.fv 205]) (slices_ContainsFunc_Ptr a) (λr=> [.b r]):=by
 intro H d f h c r hx
 refine Does.enterC Tryz.func206 rfl rfl ?_
 intro w
 unfold slices_ContainsFunc_Ptr at hx
 refine Run.cl [] 9 ZB rfl (ZI hx E240 rfl slices_IndexFunc_Ptr_ok rfl ⟨c,trivial⟩ ?_)
 intro i j hx
 refine Run.lnz_s [] 5 ZB rfl ?_
 exact ZD [] rfl hx rfl rfl
theorem obj_Check_ok{b}:Con Tryz.prog 147 true (sp_Object false b) (obj_Check b) (λr=> [.i r]):=by
 intro H m p q c r hx
 refine Does.enterC Tryz.func147 rfl rfl ?_
 intro w
 unfold obj_Check at hx
 refine Run.cl [] 2 ZB rfl (ZV rfl rfl (λs v=>Run.ll_s [0] 19 ZB rfl (ZA rfl rfl (R.cv_u8_i64 (a:=b.Kind) U5 U3 rfl) (ZI hx E204 rfl obj_Check_1_ok rfl trivial ?_))))
 intro x y hx
 refine Run.llz [] 2 ZB rfl (ZQ 11 hx rfl (λd hx=> ?_) (λd hx=> ?_))
 ·
  refine Run.lnz_sk [] 35 ZB rfl ?_
  exact ZD [] rfl hx rfl rfl
 ·
  refine Run.llz [0] 7 ZB rfl (ZI hx E204 rfl obj_Check_1_ok rfl trivial ?_)
  intro z a0 hx
  refine Run.llz [] 4 ZB rfl (ZQ 18 hx rfl (λf hx=> ?_) (λf hx=> ?_))
  ·
   refine Run.lnz_sk [] 28 ZB rfl ?_
   exact ZD [] rfl hx rfl rfl
  ·
   refine Run.llz [0] 7 ZB rfl (ZI hx E204 rfl obj_Check_1_ok rfl trivial ?_)
   intro a1 a2 hx
   refine Run.llz [] 4 ZB rfl (ZQ 25 hx rfl (λh hx=> ?_) (λh hx=> ?_))
   ·
    refine Run.lnz_sk [] 21 ZB rfl ?_
    exact ZD [] rfl hx rfl rfl
   ·
    refine Run.llz [0] 5 ZB rfl (ZA rfl rfl (ZM U97 rfl (IsSlice.long c)) (Run.llz [] 4 ZB rfl (ZQ 31 hx rfl (λj hx=> ?_) (λj hx=> ?_))))
    ·
     refine Run.lnz_sk [] 15 ZB rfl ?_
     exact ZD [] rfl hx rfl rfl
    ·
     refine Run.llz [0] 7 ZB rfl (ZI hx E206 rfl slices_ContainsFunc_Ptr_ok rfl ⟨c,trivial⟩ ?_)
     intro a3 a4 hx
     refine Run.lcz_s [] 3 ZB rfl (ZG hx rfl (λk hx=> ?_) (λk hx=> ?_))
     ·
      refine Run.cnz_k [] 7 ZB rfl ?_
      exact ZD [] rfl hx rfl rfl
     ·
      refine Run.cnz_s [] 8 ZB rfl ?_
      exact ZD [] rfl hx rfl rfl
theorem obj_Read_ok{k}:Con Tryz.prog 90 false ([.sl false RU8 1 k]) (obj_Read k) (λr=> [.st 4,.w8 r.1.Kind,.i r.1.Links,.i r.1.Size,.cl true R_Ptr 5 r.1.Data,.i r.2]):=by
 intro H c5 c6 c7 j r hx
 refine Does.enterC Tryz.func90 rfl rfl ?_
 intro w
 unfold obj_Read at hx
 refine Run.cl [] 2 ZB rfl (JL.alloc Z113 rfl (λp c8=>Run.ll_s [] 7 ZB rfl (ZA rfl rfl (ZM U26 rfl (IsSlice.long j)) (Run.lcz_s [] 3 ZB rfl (ZG hx rfl (λa2 hx=> ?_) (λa2 hx=> ?_))))))
 ·
  refine Run.cnz_k [0] 9 ZB rfl ?_
  exact Zo [0] [] ZB rfl hx rfl ⟨⟨⟨_,_,rfl⟩,IsSlice.nil _ _ _⟩,rfl⟩
 ·
  refine Run.cl_s [] 5 ZB rfl ?_
  obtain⟨d,a3,a4,hx⟩:=A16.first_some hx
  obtain⟨c9,d0,a5,a6,a7⟩:=IsSlice.first j a3 a4 (by decide)
  refine ZA rfl rfl (R.s2aH U199 rfl a6 a5) (ZA rfl rfl (Zz 0 S199 rfl a7 rfl rfl) (JL.alloc Z199 rfl (λa8 d1=>Run.ll_s [0] 7 ZB rfl (ZA rfl rfl (ZM U26 rfl (IsSlice.long j)) (ZA rfl rfl (ZW rfl) (ZA rfl rfl (ZM U26 rfl (IsSlice.long j)) ?_))))))
  obtain⟨d2,a9,v,hx⟩:=slc_some hx
  obtain⟨d3,b0,d4,h1v_17,h2v_17,b1⟩:=IsSlice.cutc j a9 v
  refine ZA rfl rfl (R.slc (cap:=b0) (a:=16) (b:=(k.length:Int)) (c:=(k.length:Int)) (m:=k) (R:=RU8) U26 S5 rfl ⟨_,rfl⟩ ⟨_,rfl⟩ ⟨_,rfl⟩ ⟨v.1,v.2.1,Int.le_refl _⟩ h1v_17 (.inr (λh=>by cases h))) ?_
  subst h2v_17
  obtain⟨d5,b2,b3,hx⟩:=Zb hx
  refine JL.appZC (HF:=(New H H)) (y:=(0:UInt8)) (N:=16) U26 U3 I5 rfl RU8.one (Hle.refl _) b1 (λ_ _ h=>RU8.const _ _ _ _ h) rfl (λ_=>rfl) rfl b2 (by simpa using b3) rfl rfl (λd6 b4 a0=> ?_)
  obtain⟨d7,d8,rfl⟩:=RowOf.val a0
  refine JL.conL hx E89 rfl ptr_Rows_ok rfl (λd9 b5 b6=>⟨(Lent.row' 0 b6 RU8.mono b5 rfl (a0.old RU8.mono)),trivial⟩) (λ_=>⟨R_Ptr.const,trivial⟩) ?_
  intro x f0 hx f1 f2 f3 f4 b7
  refine Run.ll_s [] 13 ZB rfl (ZQ 28 hx rfl (λb8 hx=> ?_) (λb8 hx=> ?_))
  ·
   refine Run.lnz_sk [3] 18 ZB rfl ?_
   exact Zo [3] [] ZB rfl hx rfl ⟨⟨⟨_,_,rfl⟩,IsSlice.nil _ _ _⟩,rfl⟩
  ·
   refine Zq rfl rfl rfl (ZA rfl rfl (R.slcA U199 S5 rfl ⟨_,_,rfl,rfl⟩ rfl rfl rfl rfl) (Zq rfl rfl rfl (ZA rfl rfl (R.s2aK U200 rfl rfl) (Run.llz [2] 3 ZB rfl (ZA rfl rfl (R.bldA (vs:=[]) (cells:=#[.int .u8 ((0:UInt8).toNat:Int),.int .u8 ((0:UInt8).toNat:Int),.int .u8 ((0:UInt8).toNat:Int),.int .u8 ((0:UInt8).toNat:Int),.int .u8 ((0:UInt8).toNat:Int),.int .u8 ((0:UInt8).toNat:Int),.int .u8 ((0:UInt8).toNat:Int),.int .u8 ((0:UInt8).toNat:Int),.int .u8 ((0:UInt8).toNat:Int),.int .u8 ((0:UInt8).toNat:Int),.int .u8 ((0:UInt8).toNat:Int),.int .u8 ((0:UInt8).toNat:Int)]) Z200 B200 rfl rfl rfl rfl) (Zq rfl rfl rfl (ZA rfl rfl (R.neqArr [d.e4,d.e5,d.e6,d.e7,d.e8,d.e9,d.e10,d.e11,d.e12,d.e13,d.e14,d.e15] [(0:UInt8),(0:UInt8),(0:UInt8),(0:UInt8),(0:UInt8),(0:UInt8),(0:UInt8),(0:UInt8),(0:UInt8),(0:UInt8),(0:UInt8),(0:UInt8)] U200 U5 S5 C5 QG200 rfl rfl rfl rfl rfl rfl) (Run.lcz_s [] 3 ZB rfl (ZG hx rfl (λb9 hx=> ?_) (λb9 hx=> ?_))))))))))
   ·
    refine Run.cnz_k [3] 9 ZB rfl ?_
    exact Zo [3] [] ZB rfl hx rfl ⟨⟨⟨_,_,rfl⟩,IsSlice.nil _ _ _⟩,rfl⟩
   ·
    refine Run.cl_s [] 5 ZB rfl (Zv hx E146 rfl code_Get_ok rfl ⟨j,trivial⟩ ?_)
    intro q f5 hx f6 c0
    refine Run.lc_s [] 8 ZB rfl (JC.pubN 0 R_Ptr.mono rfl (b7.mono R_Ptr.mono (New.mono c0)) (Nat.le_refl _) (λf7 f8 c1=>JC.forget 0 (Zh (so:=[(_,[]),(_,[]),(_,[9])]) 10 rfl Mixed ⟨by kernel_rfl,by kernel_rfl⟩ (ZX [0,1,2] rfl) ?_)))
    refine JB.val (i:=0) [] rfl (R.ixA 0 U199 S5 rfl rfl rfl) ?_
    refine JB.val (i:=1) [] rfl (R.ldo 1 S5 rfl rfl rfl) ?_
    refine JB.val (i:=2) [] rfl (R.ixA 1 U199 S5 rfl rfl rfl) ?_
    refine JB.val (i:=3) [] rfl (R.ldo 1 S5 rfl rfl rfl) ?_
    refine JB.val (i:=4) [] rfl (R.cv_u8_i64 (a:=d.e1) U5 U3 rfl) ?_
    refine JB.run 2 [5,6] [] ZB rfl ?_
    obtain⟨f,c2,z,hx⟩:=slc_some hx
    obtain⟨f9,c3,s,h1v_37,h2v_37,a1⟩:=IsSlice.cutc c1 c2 z
    refine JB.val (i:=7) [] rfl (R.slc (cap:=c3) (a:=0) (b:=15) (c:=15) (m:=x.1) (R:=R_Ptr) U97 S31 rfl rfl ⟨_,rfl⟩ ⟨_,rfl⟩ ⟨z.1,z.2.1,Int.le_refl _⟩ h1v_37 (.inr (λh=>by cases h))) ?_
    subst h2v_37
    refine JB.val (i:=8) [] rfl (R.bldP (vs:=[(0,.int .u8 (d.e0.toNat:Int)),(1,.int .i64 (d.e1.toNat:Int)),(2,.int .i64 q.1),(3,.slice s f.length f.length)]) (cs:=[.int .u8 (d.e0.toNat:Int),.int .i64 (d.e1.toNat:Int),.int .i64 q.1,.slice s f.length f.length]) Z113 B113 rfl rfl rfl) ?_
    refine JB.one (i:=9) (by kernel_rfl) ?_
    refine JOB.step rfl trivial rfl (λK hK=>Run.lnz [2] 2 ZB rfl (hK _ _ _ (Hle.refl _) (kept1 [false,false,true] [0,1,0] (by kernel_rfl) rfl) ?_))
    refine JB.doneN (by kernel_rfl) ?_
    refine Zw (JC.tidy (l':=[(2,.pointer (some ⟨p,0,none⟩)),(3,.int .i64 x.2)]) (own':=[b4,[(a8,.cells #[.int .u8 (d.e0.toNat:Int),.int .u8 (d.e1.toNat:Int),.int .u8 (d.e2.toNat:Int),.int .u8 (d.e3.toNat:Int),.int .u8 (d.e4.toNat:Int),.int .u8 (d.e5.toNat:Int),.int .u8 (d.e6.toNat:Int),.int .u8 (d.e7.toNat:Int),.int .u8 (d.e8.toNat:Int),.int .u8 (d.e9.toNat:Int),.int .u8 (d.e10.toNat:Int),.int .u8 (d.e11.toNat:Int),.int .u8 (d.e12.toNat:Int),.int .u8 (d.e13.toNat:Int),.int .u8 (d.e14.toNat:Int),.int .u8 (d.e15.toNat:Int)] 199 (0,0))],[(p,.cells #[.int .u8 (d.e0.toNat:Int),.int .i64 (d.e1.toNat:Int),.int .i64 q.1,.slice s f.length f.length] 113 (0,0))]]) ⟨rfl,rfl,trivial⟩ rfl (JC.tidyP (l':=[(2,.pointer (some ⟨p,0,none⟩)),(3,.int .i64 x.2)]) (own':=[[(p,.cells #[.int .u8 (d.e0.toNat:Int),.int .i64 (d.e1.toNat:Int),.int .i64 q.1,.slice s f.length f.length] 113 (0,0))]]) (rst:=[_,_]) ⟨rfl,rfl,trivial⟩ (Ze 2 rfl ZT) (Run.cl [0] 4 ZB rfl (ZI hx E147 rfl obj_Check_ok rfl ⟨(a1.old R_Ptr.mono),trivial⟩ ?_))))
    intro g0 g1 hx
    refine Run.lcz_s [] 3 ZB rfl (ZG hx rfl (λc4 hx=> ?_) (λc4 hx=> ?_))
    ·
     refine Run.cnz_k [0] 9 ZB rfl ?_
     exact Zo [0] [] ZB rfl hx rfl ⟨⟨⟨_,_,rfl⟩,IsSlice.nil _ _ _⟩,rfl⟩
    ·
     refine Run.cnz_s [0,0] 10 ZB rfl ?_
     exact Zo [0] [] ZB rfl hx rfl ⟨⟨⟨_,_,rfl⟩,a1⟩,rfl⟩
theorem set_one_ok{a b}:Con Tryz.prog 186 false (sp_Store false a++sp_Ptr false b) (set_one a b) (λr=> [.st 4,.w8 r.1.Kind,.i r.1.Links,.i r.1.Size,.cl true R_Ptr 5 r.1.Data,.i r.2]):=by
 intro H p q s c v x y d z a0 a1 f r hx
 refine Does.enterC Tryz.func186 rfl rfl ?_
 intro w
 unfold set_one at hx
 refine Run.cl [] 2 ZB rfl (ZV rfl rfl (λa2 a3=>ZV rfl rfl (λa4 a5=>JL.alloc Z113 rfl (λa6 a7=>Run.ll_s [2,1] 7 ZB rfl (Zv hx E9 rfl store_Look_ok rfl ⟨c,d,f,trivial⟩ ?_)))))
 intro a8 a9 hx b0 b1 b2 b3 b4 h
 refine Run.lc_s [] 14 ZB rfl (ZG hx rfl (λj hx=> ?_) (λj hx=> ?_))
 ·
  refine Run.cnz_k [0] 10 ZB rfl ?_
  exact Zo [0] [] ZB rfl hx rfl ⟨⟨⟨_,_,rfl⟩,IsSlice.nil _ _ _⟩,rfl⟩
 ·
  refine Run.cl_s [] 5 ZB rfl (Zv hx E90 rfl obj_Read_ok rfl ⟨(h.old RU8.mono),trivial⟩ ?_)
  intro b5 b6 hx b7 b8 b9 c0 k
  refine Run.llz [] 3 ZB rfl (JL.alloc Z113 rfl (λc1 c2=>Run.lc_s [0] 11 ZB rfl (ZG hx rfl (λm hx=> ?_) (λm hx=> ?_))))
  ·
   refine Run.cnz_k [1] 9 ZB rfl ?_
   exact Zo [1] [] ZB rfl hx rfl ⟨⟨⟨_,_,rfl⟩,IsSlice.nil _ _ _⟩,rfl⟩
  ·
   refine Run.cnz_s [0,1] 10 ZB rfl ?_
   exact Zo [1] [] ZB rfl hx rfl ⟨⟨⟨_,_,rfl⟩,k⟩,rfl⟩
theorem set_Object_ok{h j m}:Con Tryz.prog 126 false (sp_Store false h++sp_Ptr false j++ [.i m]) (set_Object h j m) (λr=> [.st 4,.w8 r.1.Kind,.i r.1.Links,.i r.1.Size,.cl true R_Ptr 5 r.1.Data,.i r.2]):=by
 intro H a6 a7 a8 b a9 b0 b1 c b2 b3 b4 d r hx
 refine Does.enterC Tryz.func126 rfl rfl ?_
 intro w
 unfold set_Object at hx
 refine Run.cl [] 2 ZB rfl (ZV rfl rfl (λb5 b6=>ZV rfl rfl (λb7 b8=>JL.alloc Z113 rfl (λb9 c0=>Run.ll_s [2] 7 ZB rfl (ZI hx E16 rfl store_Check_ok rfl ⟨b,c,d,trivial⟩ ?_)))))
 intro c1 c2 hx
 refine Run.llz [] 2 ZB rfl (ZQ 13 hx rfl (λq hx=> ?_) (λq hx=> ?_))
 ·
  refine Run.lnz_sk [0] 16 ZB rfl ?_
  exact Zo [0] [] ZB rfl hx rfl ⟨⟨⟨_,_,rfl⟩,IsSlice.nil _ _ _⟩,rfl⟩
 ·
  refine Run.llz [1] 3 ZB rfl (ZI hx E42 rfl ptr_Check_ok rfl trivial ?_)
  intro c3 c4 hx
  refine Run.lcz_s [] 5 ZB rfl (ZG hx rfl (λs hx=> ?_) (λs hx=> ?_))
  ·
   refine Run.cnz_k [0] 9 ZB rfl ?_
   exact Zo [0] [] ZB rfl hx rfl ⟨⟨⟨_,_,rfl⟩,IsSlice.nil _ _ _⟩,rfl⟩
  ·
   refine Run.cl_s [] 8 ZB rfl (ZQ 21 hx rfl (λv hx=> ?_) (λv hx=> ?_))
   ·
    refine Run.lnz_sk [0] 15 ZB rfl ?_
    exact Zo [0] [] ZB rfl hx rfl ⟨⟨⟨_,_,rfl⟩,IsSlice.nil _ _ _⟩,rfl⟩
   ·
    refine Run.lcz_s [] 7 ZB rfl (ZG hx rfl (λx hx=> ?_) (λx hx=> ?_))
    ·
     refine Run.cnz_k [0] 9 ZB rfl ?_
     exact Zo [0] [] ZB rfl hx rfl ⟨⟨⟨_,_,rfl⟩,IsSlice.nil _ _ _⟩,rfl⟩
    ·
     refine Run.cl_s [2,1] 6 ZB rfl (Zv hx E185 rfl set_Ptrs_ok rfl ⟨b,c,d,trivial⟩ ?_)
     intro c5 c6 hx c7 f c8 c9 d0 d1 y
     refine Run.lc_s [] 14 ZB rfl (ZG hx rfl (λz hx=> ?_) (λz hx=> ?_))
     ·
      refine Run.cnz_k [1] 10 ZB rfl ?_
      exact Zo [1] [] ZB rfl hx rfl ⟨⟨⟨_,_,rfl⟩,IsSlice.nil _ _ _⟩,rfl⟩
     ·
      refine Run.cc_s [] 3 ZB rfl (Zh (so:=[(_,[]),(_,[8]),(_,[]),(_,[])]) 10 rfl Mixed ⟨by kernel_rfl,by kernel_rfl⟩ (ZX [0,1,2,3] rfl) ?_)
      refine JB.run 3 [0,1,2] [2] ZB rfl ?_
      obtain⟨a,a0,hx⟩:=ZJ hx
      obtain⟨d2,d3,d4,d5,a1,a2,a3,d6,a4⟩:=RowOf.elem y a0
      subst a1
      obtain rfl:=a3
      refine JB.val (i:=3) [] rfl (Zd U97 S31 rfl rfl a2) ?_
      refine JB.val (i:=4) [] rfl (R.ldoE 0 (cs:=[.int .i64 a.At,.int .u32 (a.Birth.toNat:Int),.int .u32 (a.Iv.toNat:Int),.int .u32 (a.Tag.toNat:Int),.int .u32 (a.Sum.toNat:Int)]) (k:=0) (vs:=[.int .i64 a.At,.int .u32 (a.Birth.toNat:Int),.int .u32 (a.Iv.toNat:Int),.int .u32 (a.Tag.toNat:Int),.int .u32 (a.Sum.toNat:Int)]) S31 rfl rfl a4 rfl rfl) ?_
      refine JB.one (i:=5) (by kernel_rfl) ?_
      refine JOB.step rfl trivial rfl (λK hK=>Zv hx E186 rfl set_one_ok rfl ⟨(b.mono (RSl.mono RU8.mono) f),(c.mono R_Write.mono f),(d.mono RU8.mono f),trivial⟩ ?_)
      intro d7 d8 hx d9 p e0 e1 a5
      refine JL.nil (hK _ _ _ p (ZX [0,1,2,3] rfl) ?_)
      refine JB.run 2 [6,7] [] ZB rfl ?_
      refine JB.one (i:=8) (by kernel_rfl) ?_
      refine JOB.step rfl trivial rfl (λK hK=>Run.lnz [1] 2 ZB rfl (hK _ _ _ p (kept1 [false,true,false,false] [0,0,2,3] (by kernel_rfl) rfl) ?_))
      refine JB.val (i:=9) [] rfl (R.assign rfl) ?_
      refine JB.doneN (by kernel_rfl) ?_
      refine Run.nnz_s [] 2 ZB rfl ?_
      exact Zo [1] [] ZB rfl hx rfl ⟨⟨⟨_,_,rfl⟩,a5⟩,rfl⟩
theorem data_rooted_ok{a b c}:Con Tryz.prog 69 false (sp_Pool false a++sp_Line false b++ [.i c]) (data_rooted a b c) (λr=>sp_Object true r.1++ [.i r.2]):=by
 intro H x z a0 f a1 a2 a3 h a4 a5 a6 j a7 a8 a9 b0 b1 b2 b3 b4 b5 b6 b7 b8 b9 c0 c1 c2 c3 c4 c5 c6 c7 c8 c9 d0 r hx
 refine Does.enterC Tryz.func69 rfl rfl ?_
 intro w
 unfold data_rooted at hx
 refine Run.cl [] 2 ZB rfl (ZV rfl rfl (λd1 d2=>ZV rfl rfl (λd3 d4=>JL.alloc Z113 rfl (λd5 d6=>Run.ll_s [2,1] 10 ZB rfl (Zv hx E126 rfl set_Object_ok rfl ⟨f,h,j,trivial⟩ ?_)))))
 intro d7 d8 hx k d9 e0 e1 m
 refine Run.llz [] 3 ZB rfl (JL.alloc Z113 rfl (λe2 e3=>Run.lc_s [0] 11 ZB rfl (ZG hx rfl (λp hx=> ?_) (λp hx=> ?_))))
 ·
  refine Run.cl [] 2 ZB rfl ?_
  obtain⟨e4,q,s,hx⟩:=mks_some hx
  refine JL.mkF (HF:=New H k) (R:=R_Ptr) (y:=Ptr.mk 0 (0:UInt32) (0:UInt32) (0:UInt32) (0:UInt32)) (n:=15) U97 I31 rfl rfl (λ_=>rfl) R_Ptr.one q s rfl rfl (λe5 e6 d=> ?_)
  obtain⟨e7,e8,rfl⟩:=RowOf.val d
  refine Run.lnz_sk [2] 7 ZB rfl (JN.pubN 0 R_Ptr.mono rfl d (Nat.le_refl _) (λe9 f0 v=>JN.forget 0 ?_))
  exact Zo [1] [] ZB rfl hx rfl ⟨v,rfl⟩
 ·
  refine Run.cnz_s [0,1] 11 ZB rfl ?_
  exact Zo [1] [] ZB rfl hx rfl ⟨m,rfl⟩
theorem data_head_ok{p q s}:Con Tryz.prog 67 false (sp_Pool false p++sp_Line false q++ [.i s]) (data_head p q s) (λr=>sp_Change false r.1++ [.i r.2]):=by
 intro H b8 b9 c0 v c1 c2 c3 x c4 c5 c6 y c7 c8 c9 z d0 d1 d2 a0 d3 d4 d5 a1 d6 d7 d8 a2 d9 e0 e1 a3 e2 e3 e4 a4 r hx
 refine Does.enterC Tryz.func67 rfl rfl ?_
 intro w
 unfold data_head at hx
 refine Run.cl [] 2 ZB rfl (ZV rfl rfl (λe5 e6=>ZV rfl rfl (λe7 e8=>JL.alloc Z101 rfl (λa5 e9=>Run.ll_s [2,1] 10 ZB rfl (ZI hx E68 rfl data_change_ok rfl ⟨v,x,y,z,a0,a1,a2,a3,trivial⟩ ?_)))))
 intro a6 f0 hx a7 a8 a9 b0
 refine Run.lc_s [0] 14 ZB rfl (ZO hx [6] [] rfl rfl (λf l0 o0 l o g=>∃c:Change,∃d:Heaplet,∃h:Option Addr,∃j:Nat,∃k:Nat,l=l0∧o= [(a5,.cells #[.int .i64 c.Set,.int .i64 c.Obj,.int .i64 c.Index,.int .u8 (c.Kind.toNat:Int),.int .i64 c.Links,.int .i64 c.Size,.slice h j k,.int .i64 c.Laid.At,.int .u32 (c.Laid.Birth.toNat:Int),.int .u32 (c.Laid.Iv.toNat:Int),.int .u32 (c.Laid.Tag.toNat:Int),.int .u32 (c.Laid.Sum.toNat:Int)] 101 (0,0))]::o0∧d=g∧f=.inl c∧Hle H d∧IsSlice d RU8 1 (.slice h j k) c.Data) (λf f1 hx=> ?_) (λf b1 hx=> ?_))
 ·
  rintro _ _ _ ⟨c,d,h,j,k,rfl,rfl,rfl,rfl,f2,b2⟩
  simp only[Sum.elim_inl]at hx
  refine Run.nl_s [0] 6 ZB rfl (ZA rfl rfl (R.eql8 (a:=c.Kind) (b:=(0:UInt8)) rfl rfl) (Run.lcz_s [] 2 ZB rfl (ZG hx rfl (λb3 hx=> ?_) (λb3 hx=> ?_))))
  ·
   refine Run.cnz_k [0] 9 ZB rfl ?_
   exact Zo [0] [] ZB rfl hx rfl ⟨IsSlice.nil _ _ _,rfl⟩
  ·
   refine Run.cnz_s [0,0] 10 ZB rfl ?_
   exact Zo [0] [] ZB rfl hx rfl ⟨b2,rfl⟩
 ·
  refine ZG hx rfl (λb4 hx=> ?_) (λb4 hx=> ?_)
  ·
   refine Run.cl [2,1] 5 ZB rfl (Zv hx E69 rfl data_rooted_ok rfl ⟨v,x,y,z,a0,a1,a2,a3,a4,trivial⟩ ?_)
   intro m f3 hx b5 b6 f4 f5 f6 f7
   refine Run.llz [] 3 ZB rfl (JL.alloc Z113 rfl (λf8 f9=>Run.lc_s [0] 11 ZB rfl (ZG hx rfl (λb7 hx=> ?_) (λb7 hx=> ?_))))
   ·
    refine Run.cnz_k [1] 10 ZB rfl ?_
    obtain rfl:=Option.some.inj hx
    clear hx;have hx:=b1
    simp only[Sum.elim_inl,Sum.elim_inr]at hx
    refine Run.nnz_kk [] 2 ZB rfl ?_
    exact Zo [1] [] ZB rfl hx rfl ⟨IsSlice.nil _ _ _,rfl⟩
   ·
    refine Run.cnz_s [0,0,0,1] 12 ZB rfl ?_
    obtain rfl:=Option.some.inj hx
    refine JN.forget 3 (JN.forget 2 (JN.forget 0 ?_))
    exact ZC ⟨Change.mk 0 0 0 m.1.Kind m.1.Links m.1.Size ([]:List UInt8) (Ptr.mk 0 (0:UInt32) (0:UInt32) (0:UInt32) (0:UInt32)),b5,none,0,0,rfl,rfl,rfl,rfl,(b6),(IsSlice.nil _ _ _)⟩ rfl rfl rfl
  ·
   refine JC.skip ?_
   obtain rfl:=Option.some.inj hx
   refine JN.forget 2 (JN.forget 1 ?_)
   exact ZC ⟨a6.1,H,a7,a8,a9,rfl,rfl,rfl,rfl,(Hle.refl _),b0⟩ rfl rfl rfl
theorem code_Put_ok{v h}:Con Tryz.prog 170 true ([.i v,.i h]) (code_Put v h) (λr=> [.row true RU8 5 1 r.1,.i r.2]):=by
 intro H r hx
 refine Does.enterC Tryz.func170 rfl rfl ?_
 intro w
 unfold code_Put at hx
 refine Run.cl [] 10 ZB rfl (ZI hx E202 rfl code_sized_ok rfl trivial ?_)
 intro b2 b3 hx
 refine Run.llz [] 2 ZB rfl (ZQ 10 hx rfl (λa1 hx=> ?_) (λa1 hx=> ?_))
 ·
  refine Run.lnz_sk [] 21 ZB rfl (ZZ ?_)
  exact ZD [0] rfl hx rfl ⟨⟨0,RowOf.nil _ _ _ _ _⟩,rfl⟩
 ·
  refine Run.llz [] 6 ZB rfl (ZQ 14 hx rfl (λa2 hx=> ?_) (λa2 hx=> ?_))
  ·
   refine Run.lnz_sk [] 17 ZB rfl (ZZ ?_)
   exact ZD [0] rfl hx rfl ⟨⟨0,RowOf.nil _ _ _ _ _⟩,rfl⟩
  ·
   refine Run.llz [] 7 ZB rfl ?_
   obtain⟨a3,hx⟩:=chk_some hx
   refine ZA rfl rfl (R.shl_i (n:=(w64 (8*h))) rfl rfl a3) (Run.lcz_s [] 5 ZB rfl (ZG hx rfl (λa4 hx=> ?_) (λa4 hx=> ?_)))
   ·
    refine Run.cnz_k [] 8 ZB rfl (ZZ ?_)
    exact ZD [0] rfl hx rfl ⟨⟨0,RowOf.nil _ _ _ _ _⟩,rfl⟩
   ·
    refine Run.cc_s [] 8 ZB rfl (ZO hx [] [] rfl rfl (λj l0 o0 l o g=>∃k:Option Addr,∃m:Nat,∃p:Nat,∃q:Own,l=(6,.slice k m p)::l0∧o=q::o0∧H=g∧RowOf (New H H) RU8 w.heap.size 5 1 (.slice k m p) j q) (λj b4 hx=> ?_) (λj b5 hx=> ?_))
    ·
     rintro _ _ _ ⟨k,m,p,q,rfl,rfl,rfl,a5⟩
     refine Run.nnz_s [] 9 ZB rfl ?_
     exact ZD [0] rfl hx rfl ⟨⟨_,a5⟩,rfl⟩
    ·
     refine JC.block (JC.seg0 (ZS [1] [] rfl rfl (λl0 o0 a l o g=>∃b:Option Addr,∃c:Nat,∃d:Nat,∃f:Own,l=(0,.int .i64 a.1)::(6,.slice b c d)::l0∧o=f::o0∧H=g∧RowOf (New H H) RU8 w.heap.size 5 1 (.slice b c d) a.2 f) hx ⟨none,0,0,[],rfl,rfl,rfl,(RowOf.nil _ _ _ _ _)⟩ rfl ?_))
     ·
      rintro b6 a _ _ _ ⟨b,c,d,f,rfl,rfl,rfl,s⟩ b7 hx x
      unfold code_Put_l1 at hx
      refine Run.cl [] 4 ZB rfl (ZA rfl rfl (ZM U26 rfl (RowOf.long s)) (Run.lcz_s [] 4 ZB rfl (ZG hx rfl (λa6 hx=> ?_) (λa6 hx=> ?_))))
      ·
       refine Run.cl_s [] 7 ZB rfl (ZA rfl rfl (R.cv_i64_u8 U3 U5 rfl) (Zx (HF:=(New H H)) (R:=RU8) (ls:=[u8i a.1]) (vs:=[.int .u8 ((u8i a.1).toNat:Int)]) U26 I5 rfl rfl (⟨_,_,rfl,rfl,rfl,rfl⟩) RU8.one rfl rfl rfl (by simp[maxLen]) rfl (λb8 b9 y=> ?_)))
       obtain⟨c0,c1,rfl⟩:=RowOf.val y
       obtain⟨z,a7,a8,hx⟩:=Zb hx
       refine Zl (HF:=(New H H)) 1 U26 I5 rfl rfl s rfl (SrcF.row 0 U26 rfl y) a7 a8 rfl (Nat.le_refl _) rfl (λc2 a9 a0=> ?_)
       obtain⟨b0,b1,rfl⟩:=RowOf.val a0
       refine Run.llz_bs [] 6 ZB rfl (ZA rfl rfl (R.quo_i rfl rfl (by decide)) ?_)
       refine Run.lnz [] 2 ZB rfl ?_
       replace hx:=ZP x hx
       refine JN.forget 0 ?_
       exact ZC ⟨(w64 (a.1.tdiv 256),z),⟨b0,z.length,b1,a9,rfl,rfl,rfl,a0⟩,hx⟩ rfl rfl rfl
      ·
       refine Run.cnz_k [] 2 ZB rfl ?_
       obtain rfl:=ZH x hx
       refine Run.nnz_kb [] 2 ZB rfl ?_
       exact ZC ⟨b,c,d,f,rfl,rfl,rfl,s⟩ rfl rfl rfl
theorem cipher_pieces_ok (h:List UInt8)(b:UInt32)(H:Heaplet){c:Option Addr}{d:Nat}{f:Nat}(m:IsSlice H RU8 1 (.slice c d f) h)(r:(List UInt8×List UInt8))(hx:cipher_pieces h b=some r):
  Does Tryz.prog 260 #[.slice c d f,.int .u32 (b.toNat:Int)] [] H (λu K' H'=>∃b0:Nat,∃ao1:Option Addr,∃n1:Nat,∃cap1:Nat,∃b2:Nat,∃ao3:Option Addr,∃n3:Nat,∃cap3:Nat,∃K3:Own,u=.func (.func 274) #[] #[.pointer (some ⟨b0,0,none⟩),.pointer (some ⟨b2,0,none⟩)]∧K'= [[(b0,.cells #[.slice ao1 n1 cap1] 26 (0,0))],[(b2,.cells #[.slice ao3 n3 cap3] 26 (0,0))],K3]∧H=H'∧IsSlice H RU8 1 (.slice ao1 n1 cap1) r.1∧RowOf (New H H) RU8 0 5 1 (.slice ao3 n3 cap3) r.2 K3∧(∀p∈K3,p.1∉ids (List.flatten []))∧True):=by
 refine Does.enterL (vs:=[.slice c d f,.int .u32 (b.toNat:Int)]) (l:=[(0,.slice c d f),(1,.int .u32 (b.toNat:Int))]) Tryz.func260 rfl rfl ⟨rfl,rfl,trivial⟩ (λw hlt=> ?_)
 unfold cipher_pieces at hx
 refine Run.cl [] 2 ZB rfl (ZV rfl rfl (λi y=>Run.ll_s [] 6 ZB rfl (ZA rfl rfl (R.cv_u32_i64 (a:=b) U27 U3 rfl) (ZI hx E170 rfl code_Put_ok rfl trivial ?_))))
 intro z a0 hx q s v x j
 refine Run.llz [] 3 ZB rfl (JL.alloc Z26 rfl (λk a1=>Run.lnz_s [0] 11 ZB rfl (Zm (vs:=[.func (.func 274) #[] #[.pointer (some ⟨i,0,none⟩),.pointer (some ⟨k,0,none⟩)]]) (K:=[_,_,_]) (rst:=[]) (.inl rfl) rfl rfl (Zs rfl rfl) (Ze 2 rfl (Ze 0 rfl (Ze 0 rfl ZT))) ?_)))
 obtain rfl:=Option.some.inj hx
 exact⟨i,c,d,f,k,q,s,v,x,rfl,rfl,rfl,m,(RowOf.weak (Nat.zero_le _) j),(new_ids j hlt),trivial⟩
theorem slices_Grow_byte_ok (d:Int)(H:Heaplet)(r:List UInt8)(hx:slices_Grow_byte d=some r):
  Does Tryz.prog 224 #[.slice none 0 0,.int .i64 d] [] H (λu K' H'=>∃ao0:Option Addr,∃n0:Nat,∃cap0:Nat,∃K0:Own,u=.slice ao0 n0 cap0∧K'= [K0]∧H=H'∧RowOf (New H H) RU8 0 5 1 (.slice ao0 n0 cap0) r K0∧(∀p∈K0,p.1∉ids (List.flatten []))∧True):=by
 refine Does.enterL (vs:=[.slice none 0 0,.int .i64 d]) (l:=[(0,.slice none 0 0),(1,.int .i64 d)]) Tryz.func224 rfl rfl ⟨rfl,rfl,trivial⟩ (λw hlt=> ?_)
 unfold slices_Grow_byte at hx
 refine Run.cc [] 12 ZB rfl (ZG hx rfl (λa0 hx=> ?_) (λa0 hx=> ?_))
 ·
  refine JC.region ?_
  cases hx
 ·
  refine Run.cl_s [] 7 ZB rfl (ZA rfl rfl (R.capN ⟨_,U26⟩ rfl) (ZA rfl rfl (ZW rfl) (ZA rfl rfl (R.len U26 rfl) (Run.lcz_s [] 11 ZB rfl (ZO hx [] [] rfl rfl (λk l0 o0 l o g=>∃f:Option Addr,∃h:Nat,∃i:Nat,∃j:Own,l=(0,.slice f h i)::l0∧o=j::o0∧H=g∧RowOf (New H H) RU8 w.heap.size 5 1 (.slice f h i) k j) (λk b0 hx=> ?_) (λk b1 hx=> ?_))))))
  ·
   rintro _ _ _ ⟨f,h,i,j,rfl,rfl,rfl,s⟩
   refine Run.nnz_s [] 8 ZB rfl (Zm (vs:=[.slice f h i]) (K:=[_]) (rst:=[]) (.inl rfl) rfl rfl (Zs rfl rfl) (Ze 0 rfl ZT) ?_)
   obtain rfl:=Option.some.inj hx
   exact⟨f,h,i,j,rfl,rfl,rfl,(RowOf.weak (Nat.zero_le _) s),(new_ids s hlt),trivial⟩
  ·
   refine ZG hx rfl (λa1 hx=> ?_) (λa1 hx=> ?_)
   ·
    refine Run.clz [] 3 ZB rfl (ZA rfl rfl (R.capN ⟨_,U26⟩ rfl) (ZA rfl rfl (R.slcN U26 S5 rfl trivial ⟨_,rfl⟩ rfl) (ZA rfl rfl (ZW rfl) ?_)))
    obtain⟨a2,a3,a4,hx⟩:=mks_some hx
    refine JL.appZ (HF:=New H H) (R:=RU8) (y:=(0:UInt8)) (n:=w64 (d-0)) U26 U3 I5 rfl rfl (λ_=>rfl) RU8.one a3 a4 rfl rfl (λb2 a5 v=> ?_)
    obtain⟨b3,b4,rfl⟩:=RowOf.val v
    refine ZA rfl rfl (ZW rfl) (ZA rfl rfl (R.len U26 rfl) ?_)
    obtain⟨a6,a7,q,hx⟩:=slc_some hx
    obtain⟨b5,x,h1v_11,h2v_11,h3v_11,z⟩:=RowOf.pre v a7 q
    refine ZA rfl rfl (R.slc (cap:=x) (a:=0) (b:=0) (c:=(x:Int)) (m:=a2) (R:=RU8) U26 S5 rfl rfl ⟨_,rfl⟩ (by obtain⟨ao,n,e,_⟩:=h1v_11;exact⟨ao,n,e,rfl⟩) ⟨q.1,q.2.1,h2v_11⟩ h3v_11 (.inl rfl)) ?_
    obtain⟨a8,a9,rfl⟩:=RowOf.val z
    refine Run.lnz [] 2 ZB rfl ?_
    obtain rfl:=Option.some.inj hx
    exact ZC ⟨a8,a6.length,a9,a5,rfl,rfl,rfl,z⟩ rfl rfl rfl
   ·
    refine JC.skip ?_
    obtain rfl:=Option.some.inj hx
    refine ZZ ?_
    exact ZC ⟨none,0,0,[],rfl,rfl,rfl,(RowOf.nil _ _ _ _ _)⟩ rfl rfl rfl
theorem slices_Concat_byte_ok{y}:Con Tryz.prog 172 true ([.sl false (RSl RU8 1) 1 y]) (slices_Concat_byte y) (λr=> [.row true RU8 5 1 r]):=by
 intro H d2 d3 d4 a r hx
 refine Does.enterC Tryz.func172 rfl rfl ?_
 intro w
 unfold slices_Concat_byte at hx
 refine Run.cl [] 14 ZB rfl (ZA rfl rfl (ZM U22 rfl (IsSlice.long a)) (Run.lcz_s [] 3 ZB rfl (ZO hx [0] [] rfl rfl (λc l0 o0 l o g=>l=(3,.int .i64 c)::l0∧o=o0∧H=g) (λc d5 hx=> ?_) (λc d6 hx=> ?_))))
 ·
  rintro _ _ _ ⟨rfl,rfl,rfl⟩
  refine Run.nl_s [] 4 ZB rfl ?_
  obtain⟨d7,a8,hx⟩:=ZU hx
  refine Zg (vs:=[_,_]) (args:=[_,_]) (K:=[]) (rst:=[]) E224 rfl rfl rfl ZT (slices_Grow_byte_ok c _ _ a8) rfl (λd8 d9 e0 a9 e1 b0=> ?_)
  obtain⟨b1,b2,b3,b4,rfl,rfl,rfl,k,b5,-⟩:=a9
  replace k:=(RowOf.base (RowOf.const (H2:=New H H) RU8.const k) (λp hp=>(b0 p (mem_seg 0 rfl hp)).resolve_left (b5 p hp)))
  refine Run.ll_s [] 7 ZB rfl (ZA rfl rfl (ZM U22 rfl (IsSlice.long a)) (Run.lcz_s [] 3 ZB rfl (ZO hx [] [] rfl rfl (λm l0 o0 l o g=>∃q:Option Addr,∃s:Nat,∃v:Nat,∃x:Own,l=(6,.slice q s v)::l0∧o=x::o0∧H=g∧RowOf (New H H) RU8 w.heap.size 5 1 (.slice q s v) m x) (λm e2 hx=> ?_) (λm e3 hx=> ?_))))
  ·
   rintro _ _ _ ⟨q,s,v,x,rfl,rfl,rfl,b6⟩
   refine Run.nnz_s [] 8 ZB rfl ?_
   exact ZD [0] rfl hx rfl ⟨⟨_,b6⟩,rfl⟩
  ·
   refine JC.block (ZS [25,26] [] rfl rfl (λl0 o0 d l o g=>∃f:Option Addr,∃h:Nat,∃i:Nat,∃j:Own,l=(6,.slice f h i)::(27,.int .i64 ((d.2:Nat):Int))::l0∧o=j::o0∧H=g∧RowOf (New H H) RU8 w.heap.size 5 1 (.slice f h i) d.1 j) hx ⟨b1,b2,b3,b4,rfl,rfl,rfl,k⟩ rfl ?_)
   ·
    rintro e4 d _ _ _ ⟨f,h,i,j,rfl,rfl,rfl,z⟩ e5 hx a0
    unfold slices_Concat_byte_l2 at hx
    refine Run.cc [] 6 ZB rfl (ZG hx rfl (λa1 hx=> ?_) (λa1 hx=> ?_))
    ·
     refine Run.cl_s [] 6 ZB rfl ?_
     obtain⟨e6,b7,hx⟩:=ZJ hx
     obtain⟨e7,e8,e9,b8,b9,f0,c0⟩:=IsSlice.elem a b7
     obtain⟨f1,rfl,a2⟩:=b9
     obtain⟨f2,f3,rfl⟩:=IsSlice.val a2
     refine ZA rfl rfl (Zd U22 S26 rfl rfl b8) (ZA rfl rfl (ZY S26 rfl (c0 0 _ rfl)) (Run.llz_s [] 6 ZB rfl ?_))
     obtain⟨a3,c1,c2,hx⟩:=Zb hx
     refine Zl (HF:=(New H H)) 0 U26 I5 rfl rfl z rfl (SrcF.sliceC RU8.const RU8.one U26 a2) c1 c2 rfl (Nat.le_refl _) rfl (λf4 c3 a4=> ?_)
     obtain⟨c4,c5,rfl⟩:=RowOf.val a4
     refine Run.llz_bs [] 5 ZB rfl (ZA rfl rfl (Zi rfl rfl (of_decide_eq_true a1) (IsSlice.lenI a)) (Run.lnz [] 2 ZB rfl ?_))
     replace hx:=ZP a0 hx
     exact ZC ⟨(a3,d.2+1),⟨c4,a3.length,c5,c3,rfl,rfl,rfl,a4⟩,hx⟩ rfl rfl rfl
    ·
     refine Run.cnz_k [] 2 ZB rfl ?_
     obtain rfl:=ZH a0 hx
     refine Run.nnz_kb [] 2 ZB rfl ?_
     exact ZC ⟨f,h,i,j,rfl,rfl,rfl,z⟩ rfl rfl rfl
 ·
  refine JC.block (ZS [0,9,10] [] rfl rfl (λl0 o0 b l o g=>l=(3,.int .i64 b.1)::(11,.int .i64 ((b.2:Nat):Int))::l0∧o=o0∧H=g) hx ⟨rfl,rfl,rfl⟩ rfl ?_)
  ·
   rintro f5 b _ _ _ ⟨rfl,rfl,rfl⟩ f6 hx a5
   unfold slices_Concat_byte_l1 at hx
   refine Run.cc [] 6 ZB rfl (ZG hx rfl (λa6 hx=> ?_) (λa6 hx=> ?_))
   ·
    refine Run.cl_s [] 6 ZB rfl ?_
    obtain⟨c6,c7,hx⟩:=ZJ hx
    obtain⟨f7,f8,f9,c8,c9,g0,d0⟩:=IsSlice.elem a c7
    obtain⟨g1,rfl,a7⟩:=c9
    obtain⟨g2,g3,rfl⟩:=IsSlice.val a7
    refine ZA rfl rfl (Zd U22 S26 rfl rfl c8) (ZA rfl rfl (ZY S26 rfl (d0 0 _ rfl)) (Run.ll_s [] 7 ZB rfl (ZA rfl rfl (ZM U26 rfl (IsSlice.long a7)) (Run.lcz_s [] 10 ZB rfl (ZG hx rfl (λd1 hx=> ?_) (λd1 hx=> ?_))))))
    ·
     refine JC.region ?_
     cases hx
    ·
     refine Run.clz_bs [] 4 ZB rfl (ZA rfl rfl (Zi rfl rfl (of_decide_eq_true a6) (IsSlice.lenI a)) (Run.lnz [] 2 ZB rfl ?_))
     replace hx:=ZP a5 hx
     exact ZC ⟨(w64 (b.1+(c6.length:Int)),b.2+1),⟨rfl,rfl,rfl⟩,hx⟩ rfl rfl rfl
   ·
    refine Run.cnz_k [] 2 ZB rfl ?_
    obtain rfl:=ZH a5 hx
    refine Run.nnz_kb [] 2 ZB rfl ?_
    exact ZC ⟨rfl,rfl,rfl⟩ rfl rfl rfl
theorem mix_Key_ok{s}:Con Tryz.prog 261 false ([.sl false RU8 1 s]) (mix_Key s) (λr=> [.row true RU8 5 1 r]):=by
 intro H b2 b3 b4 a1 r hx
 refine Does.enterC Tryz.func261 rfl rfl ?_
 intro w
 unfold mix_Key at hx
 refine Run.cl [] 14 ZB rfl (Zv hx E103 rfl mix_four_ok rfl ⟨a1,trivial⟩ ?_)
 intro a2 b5 hx b b6
 refine Run.lcz_s [] 3 ZB rfl (ZO hx [] [] rfl rfl (λj l0 o0 l o g=>∃k:Option Addr,∃m:Nat,∃p:Nat,∃q:Own,l=(3,.slice k m p)::l0∧o=q::o0∧b=g∧RowOf (New H b) RU8 w.heap.size 5 1 (.slice k m p) j q) (λj b7 hx=> ?_) (λj b8 hx=> ?_))
 ·
  rintro _ _ _ ⟨k,m,p,q,rfl,rfl,rfl,a3⟩
  refine Run.nnz_s [] 8 ZB rfl ?_
  exact Zj [0] rfl hx rfl ⟨⟨_,a3⟩,rfl⟩
 ·
  refine JC.block (JC.seg0 (ZS [9] [] rfl rfl (λl0 o0 c l o g=>∃d:Option Addr,∃f:Nat,∃h:Nat,∃i:Own,l=(3,.slice d f h)::(10,.int .i64 ((c.2:Nat):Int))::l0∧o=i::o0∧b=g∧RowOf (New H b) RU8 w.heap.size 5 1 (.slice d f h) c.1 i) hx ⟨none,0,0,[],rfl,rfl,rfl,(RowOf.nil _ _ _ _ _)⟩ rfl ?_))
  ·
   rintro b9 c _ _ _ ⟨d,f,h,i,rfl,rfl,rfl,v⟩ c0 hx x
   unfold mix_Key_l1 at hx
   refine Run.cc [] 6 ZB rfl (ZG hx rfl (λy hx=> ?_) (λy hx=> ?_))
   ·
    refine Run.cl_s [] 6 ZB rfl ?_
    obtain⟨a4,a5,hx⟩:=ZJ hx
    refine ZA rfl rfl (R.idxA (enc:=(λa:UInt32=>Value.int .u32 (a.toNat:Int))) (L:=a2.l) U157 S27 rfl rfl rfl rfl rfl a5) (Run.ll_s [] 6 ZB rfl (ZA rfl rfl (R.cv_u32_i64 (a:=a4) U27 U3 rfl) (ZI hx E170 rfl code_Put_ok rfl trivial ?_)))
    intro c1 c2 hx c3 c4 c5 c6 a6
    refine Run.llz_s [] 10 ZB rfl ?_
    obtain⟨z,a7,a8,hx⟩:=Zb hx
    refine Zl (HF:=(New H b)) 1 U26 I5 rfl rfl v rfl (SrcF.row 0 U26 rfl a6) a7 a8 rfl (Nat.le_refl _) rfl (λc7 a9 a0=> ?_)
    obtain⟨b0,b1,rfl⟩:=RowOf.val a0
    refine Run.llz_bs [] 5 ZB rfl (ZA rfl rfl (Zi rfl rfl (of_decide_eq_true y) (by decide)) ?_)
    refine Run.lnz [] 2 ZB rfl ?_
    replace hx:=ZP x hx
    refine JN.forget 0 ?_
    exact ZC ⟨(z,c.2+1),⟨b0,z.length,b1,a9,rfl,rfl,rfl,a0⟩,hx⟩ rfl rfl rfl
   ·
    refine Run.cnz_k [] 2 ZB rfl ?_
    obtain rfl:=ZH x hx
    refine Run.nnz_kb [] 2 ZB rfl ?_
    exact ZC ⟨d,f,h,i,rfl,rfl,rfl,v⟩ rfl rfl rfl
theorem cipher_pieces_1_ok{σ τ:Type}(a2:(List UInt8)→σ→Option (σ ⊕ τ))(a3:σ)(q:List UInt8)(s:List UInt8)(H:Heaplet){lr_:Nat}{I_:σ→Own→Heaplet→Prop}{X_:τ→Own→Heaplet→Prop}{O_:Own}{a:Nat}{c:Option Addr}{d:Nat}{f:Nat}{b:Nat}{h:Option Addr}{i:Nat}{j:Nat}(hY_:YSpecG Tryz.prog lr_ (fun(H:Heaplet) (args:Array Value) (y:List UInt8)=>∃v0:Value,args= #[v0]∧IsSlice H RU8 1 v0 y) a2 I_ X_)(hI_:IX I_ X_ (.inl a3) O_ H)(b0:IsSlice H RU8 1 (.slice c d f) q)(b1:IsSlice H RU8 1 (.slice h i j) s)(r:σ ⊕ τ)(hx:cipher_pieces_1 a2 a3 q s=some r):
  Does Tryz.prog 274 #[.func (.yield lr_) #[] #[],.pointer (some ⟨a,0,none⟩),.pointer (some ⟨b,0,none⟩)] [[(a,.cells #[.slice c d f] 26 (0,0))],[(b,.cells #[.slice h i j] 26 (0,0))],O_] H (λu K' H'=>∃O':Own,u=.tuple #[]∧K'= [[(a,.cells #[.slice c d f] 26 (0,0))],[(b,.cells #[.slice h i j] 26 (0,0))],O']∧IX I_ X_ r O' H'∧True):=by
 refine Does.enterL (vs:=[.func (.yield lr_) #[] #[],.pointer (some ⟨a,0,none⟩),.pointer (some ⟨b,0,none⟩)]) (l:=[(0,.func (.yield lr_) #[] #[]),(1,.pointer (some ⟨a,0,none⟩)),(2,.pointer (some ⟨b,0,none⟩))]) Tryz.func274 rfl rfl ⟨rfl,rfl,rfl,trivial⟩ (λw hlt=> ?_)
 unfold cipher_pieces_1 at hx
 refine Run.ccz [] 5 ZB rfl ?_
 obtain⟨d1,a4,hx⟩:=ZU hx
 have b2:=hx;clear hx;have hx:=a4;clear a4
 refine JC.block (ZR 1 rfl (ZR 1 rfl (ZR 2 rfl (ZS [0,1,2] [1,2] rfl rfl (λl0 o0 k l o g=>∃m:Heaplet,∃v:Own,l=(4,.int .i64 k.2)::l0∧o=v::o0∧m=g∧Hle H m∧IX I_ X_ (.inl (k.1)) v m) hx ⟨H,O_,rfl,rfl,rfl,(Hle.refl _),hI_⟩ rfl ?_))))
 ·
  rintro d2 k _ _ _ ⟨m,v,rfl,rfl,rfl,x,b3⟩ d3 hx a5
  unfold cipher_pieces_1_l1 at hx
  refine Run.cl [] 5 ZB rfl (ZI hx E170 rfl code_Put_ok rfl trivial ?_)
  intro b4 d4 hx b5 b6 b7 d5 b8
  refine Run.ll_s [2,3] 13 ZB rfl (JL.pubN 0 RU8.mono rfl b8 (Nat.le_refl _) (λb9 p c0=>JL.forget 0 (Zx (HF:=b9) (R:=(RSl RU8 1)) (ls:=[q,s,b4.1]) (vs:=[.slice c d f,.slice h i j,.slice b5 b6 b7]) U22 I26 rfl rfl (⟨_,_,rfl,rfl,⟨_,rfl,(b0.mono RU8.mono (x.trans p))⟩,⟨_,_,rfl,rfl,⟨_,rfl,(b1.mono RU8.mono (x.trans p))⟩,⟨_,_,rfl,rfl,⟨_,rfl,(c0.old RU8.mono)⟩,rfl⟩⟩⟩) RSl.one rfl rfl rfl (by simp[maxLen]) rfl (λd6 d7 a6=> ?_))))
  obtain⟨d8,d9,rfl⟩:=RowOf.val a6
  refine JL.conL hx E172 rfl slices_Concat_byte_ok rfl (λe0 c1 c2=>⟨(Lent.row' 0 c2 (RSl.mono RU8.mono) c1 rfl a6),trivial⟩) (λ_=>⟨RU8.const,trivial⟩) ?_
  intro e1 e2 hx e3 e4 e5 e6 c3
  refine JL.conL hx E261 rfl mix_Key_ok rfl (λe7 c4 c5=>⟨(Lent.row' 0 c5 RU8.mono c4 rfl (c3.old RU8.mono)),trivial⟩) (λ_=>⟨RU8.const,trivial⟩) ?_
  intro c6 e8 hx e9 f0 f1 f2 c7
  refine JL.pubN 0 RU8.mono rfl c7 (Nat.le_refl _) (λf3 a7 c8=>JL.forget 0 ?_)
  obtain⟨f4,c9,hx⟩:=ZU hx
  refine JL.yieldG 2 c6 c9 hY_ rfl rfl rfl (b3.mono (p.trans a7)) ⟨_,rfl,(c8.old RU8.mono)⟩ rfl (λd0 z a8 a9 a0 a1=> ?_) (λf5 z a8 a9 a0 a1=> ?_)
  ·
   subst a1
   simp only[Sum.elim_inl]at hx
   refine Run.lnz_sbs [] 12 ZB rfl ?_
   replace hx:=ZP a5 hx
   refine JN.forget 1 (JN.forget 0 (ZE 2 rfl (ZE 2 rfl (ZE 2 rfl ?_))))
   exact ZC ⟨(d0,w64 (k.2+1)),⟨a8,z,rfl,rfl,rfl,((x.trans (p.trans (a7.trans a9)))),a0⟩,hx⟩ rfl rfl rfl
  ·
   subst a1
   simp only[Sum.elim_inr]at hx
   refine Run.lnz_sbk [] 7 ZB rfl ?_
   obtain rfl:=ZH a5 hx
   refine Run.nnz_kb [] 2 ZB rfl ?_
   clear hx;have hx:=b2
   refine Zm (vs:=[]) (K:=[_,_,_]) (rst:=[_,_]) (.inl rfl) rfl rfl rfl (Ze 3 rfl (Ze 3 rfl (Ze 2 rfl ZT))) ?_
   obtain rfl:=Option.some.inj hx
   exact⟨z,rfl,rfl,a0,trivial⟩
theorem cipher_Stream_ok{b1 b2 f}:Con Tryz.prog 222 false ([.sl false RU8 1 b1,.w32 b2,.i f]) (cipher_Stream b1 b2 f) (λr=> [.row true RU8 5 1 r.1,.i r.2]):=by
 intro H h4 h5 h6 c6 r hx
 refine Does.enterMC Tryz.func222 rfl rfl ?_
 intro w
 unfold cipher_Stream at hx
 refine Run.cl [] 2 ZB rfl (ZV rfl rfl (λx h7=>Run.ll_s [] 8 ZB rfl (ZA rfl rfl (ZM U26 rfl (IsSlice.long c6)) (Run.llz [] 2 ZB rfl (ZQ 13 hx rfl (λd4 hx=> ?_) (λd4 hx=> ?_))))))
 ·
  refine Run.lnz_sk [] 18 ZB rfl (ZZ ?_)
  exact JN.conM (own2:=[_,_]) [] [0] ZT ⟨rfl,rfl,rfl,rfl⟩ rfl rfl hx rfl ⟨⟨0,RowOf.nil _ _ _ _ _⟩,rfl⟩
 ·
  refine Run.llz [0] 6 ZB rfl (ZQ 17 hx rfl (λd5 hx=> ?_) (λd5 hx=> ?_))
  ·
   refine Run.lnz_sk [] 14 ZB rfl (ZZ ?_)
   exact JN.conM (own2:=[_,_]) [] [0] ZT ⟨rfl,rfl,rfl,rfl⟩ rfl rfl hx rfl ⟨⟨0,RowOf.nil _ _ _ _ _⟩,rfl⟩
  ·
   refine Run.lcz_s [0] 7 ZB rfl (ZG hx rfl (λd6 hx=> ?_) (λd6 hx=> ?_))
   ·
    refine Run.cnz_k [] 8 ZB rfl (ZZ ?_)
    exact JN.conM (own2:=[_,_]) [] [0] ZT ⟨rfl,rfl,rfl,rfl⟩ rfl rfl hx rfl ⟨⟨0,RowOf.nil _ _ _ _ _⟩,rfl⟩
   ·
    refine Run.cl_s [] 4 ZB rfl (JL.alloc Z26 rfl (λz h8=>Run.ll_s [] 7 ZB rfl ?_))
    obtain⟨c7,d7,hx⟩:=ZU hx
    refine Zg (vs:=[_,_]) (args:=[_,_]) (K:=[]) (rst:=[_,_]) E260 rfl rfl rfl ZT (cipher_pieces_ok b1 b2 _ c6 _ d7) rfl (λh9 i0 i1 d8 i2 b3=> ?_)
    obtain⟨d9,e0,e1,e2,e3,e4,e5,e6,i3,rfl,rfl,rfl,e7,b4,e8,-⟩:=d8
    have i4:=(b3 _ (mem_seg 0 rfl (List.mem_singleton.2 rfl))).resolve_left (λh=>by cases h)
    have i5:=(b3 _ (mem_seg 1 rfl (List.mem_singleton.2 rfl))).resolve_left (λh=>by cases h)
    replace b4:=(RowOf.base (RowOf.const (H2:=New H H) RU8.const b4) (λp hp=>(b3 p (mem_seg 2 rfl hp)).resolve_left (e8 p hp)))
    refine Run.lcz_s [] 2 ZB rfl ?_
    obtain⟨c8,c9,hx⟩:=ZU hx
    refine JC.cutD (λds l o g=>∃a2:Heaplet,∃a3:Nat,∃b5:Option Addr,∃b6:Nat,∃b7:Nat,∃b8:Own,ds= [Go.Ow.mark a3]∧l= [(5,.pointer (some ⟨x,0,none⟩)),(8,.pointer (some ⟨z,0,none⟩))]∧o= [[(a3,Obj.deferred (some []))],[(x,.cells #[.int .i64 f] 3 (0,0))],[(z,.cells #[.slice b5 b6 b7] 26 (0,0))],b8]∧a2=g∧Hle H a2∧RowOf (New H a2) RU8 w.heap.size 5 1 (.slice b5 b6 b7) c8 b8) ?_ ?_
    ·
     rintro _ _ _ _ ⟨a2,a3,b5,b6,b7,b8,rfl,rfl,rfl,rfl,i6,e9⟩
     refine Run.nl_s [2,1] 5 ZB rfl (JL.pubN 3 RU8.mono rfl e9 (Nat.le_refl _) (λf0 i7 f1=>JL.forget 3 ?_))
     obtain⟨f2,f3,b9,hx⟩:=slc_some hx
     obtain⟨i8,d0,h1v_48,h2v_48,h3v_48,d1⟩:=IsSlice.cutv f1 f3 b9
     refine ZA rfl rfl (R.slc (cap:=d0) (a:=0) (b:=f) (c:=(d0:Int)) (m:=c8) (R:=RU8) U26 S5 rfl rfl ⟨_,rfl⟩ (by obtain⟨ao,n,e,_⟩:=h1v_48;exact⟨ao,n,e,rfl⟩) ⟨b9.1,b9.2.1,h2v_48⟩ h3v_48 (.inl rfl)) ?_
     obtain⟨i9,j0,rfl⟩:=IsSlice.val d1
     obtain⟨j1,f4,hx⟩:=ZU hx
     refine Zg (vs:=[_]) (args:=[_]) (K:=[]) (rst:=[_,_,_]) E163 rfl rfl rfl ZT (slices_Clone_byte_ok f2 _ (d1.old RU8.mono) _ f4) rfl (λj2 j3 j4 f5 j5 f6=> ?_)
     obtain⟨j6,j7,j8,j9,rfl,rfl,rfl,c0,f7,-⟩:=f5
     replace c0:=(RowOf.base (RowOf.const (H2:=New H f0) RU8.const c0) (λp hp=>(f6 p (mem_seg 0 rfl hp)).resolve_left (f7 p hp)))
     refine Run.lnz_s [] 5 ZB rfl ?_
     exact JN.conM (own2:=[_,_,_]) [a3] [0] (Ze 1 rfl ZT) ⟨rfl,rfl,rfl,rfl⟩ rfl rfl hx rfl ⟨⟨_,c0⟩,rfl⟩
    ·
     have k0:=hx;clear hx;have hx:=c9;clear c9
     refine JC.block (JC.pubN 2 RU8.mono rfl b4 (Nat.le_refl _) (λc1 c2 f8=>JC.forget 2 (JC.seg0 (ZR 4 rfl (ZR 1 rfl (ZR 4 rfl (ZR 4 rfl (ZR 4 rfl ?_))))))))
     obtain⟨f9,g0,hx⟩:=ZU hx
     refine JC.rangeG (RA:=(fun(H:Heaplet) (args:Array Value) (y:List UInt8)=>∃v0:Value,args= #[v0]∧IsSlice H RU8 1 v0 y)) rfl (cipher_Stream_r1 f) ([]:List UInt8) f9 (λa4 o g=>∃a0:Heaplet,∃k:Option Addr,∃q:Nat,∃s:Nat,∃v:Own,o= [[(z,.cells #[.slice k q s] 26 (0,0))],v,[(x,.cells #[.int .i64 f] 3 (0,0))]]∧a0=g∧Hle c1 a0∧RowOf (New H a0) RU8 w.heap.size 5 1 (.slice k q s) a4 v) (λe c o g=>(c=.exit 0∧∃t_21e0:List UInt8,t_21e0=e∧∃a5:Heaplet,∃a6:Option Addr,∃a7:Nat,∃a8:Nat,∃a9:Own,o= [[(z,.cells #[.slice a6 a7 a8] 26 (0,0))],a9,[(x,.cells #[.int .i64 f] 3 (0,0))]]∧a5=g∧Hle c1 a5∧RowOf (New H a5) RU8 w.heap.size 5 1 (.slice a6 a7 a8) t_21e0 a9)) (λmm g=>mm= [[(d9,.cells #[.slice e0 e1 e2] 26 (0,0))],[(e3,.cells #[.slice e4 e5 e6] 26 (0,0))]]) [_,_] [_,_,_] rfl E274 rfl (λlr' I' X' O' hY' hI'=>Does.mono (cipher_pieces_1_ok (cipher_Stream_r1 f) ([]:List UInt8) c7.1 c7.2 _ hY' hI' (e7.mono RU8.mono c2) (f8.old RU8.mono) _ g0) (λu K' H' h=>by obtain⟨Oo,-,hK,hIX,-⟩:=h;exact⟨_,_,hK,rfl,hIX⟩)) (λ_ _ _ h=>by obtain⟨_,rfl,_⟩:=h;first|rfl|(subst h;rfl)) rfl ⟨c1,none,0,0,[],rfl,rfl,(Hle.refl _),(RowOf.nil _ _ _ _ _)⟩ ?_ ?_ ?_
     ·
      rintro k1 g1 a4 args o g j k2 d ⟨a0,k,q,s,v,rfl,rfl,b0,a1⟩ hA hx2
      clear hx;have hx:=hx2;clear hx2;unfold cipher_Stream_r1 at hx
      obtain⟨vy_25_0,rfl,hsy_25_0⟩:=hA
      obtain⟨ay_25_0,cy_25_0,rfl⟩:=IsSlice.val hsy_25_0
      refine⟨[(5,.pointer (some ⟨x,0,none⟩)),(8,.pointer (some ⟨z,0,none⟩)),(9,.slice ay_25_0 g1.length cy_25_0)],λg2 d2=> ?_,λg2 d2=> ?_⟩
      ·
       refine Run.cnz [] 3 ZB rfl ?_
       exact JN.assigned ⟨rfl,rfl,rfl,trivial⟩
      ·
       refine Run.cl [0] 5 ZB rfl (ZA rfl rfl (ZM U26 rfl (RowOf.long a1)) (Run.lcz_s [2] 4 ZB rfl (ZG hx rfl (λg3 hx=> ?_) (λg3 hx=> ?_))))
       ·
        refine Run.cnz_kb [] 3 ZB rfl ?_
        obtain rfl:=Option.some.inj hx
        refine ZE 2 rfl (ZE 2 rfl (ZE 2 rfl ?_))
        exact JN.rX ⟨rfl,a4,rfl,j,k,q,s,v,rfl,rfl,((b0.trans d)),(a1.mono RU8.mono (New.mono d))⟩
       ·
        refine Run.clz_s [0] 5 ZB rfl ?_
        obtain⟨g4,g5,g6,hx⟩:=Zb hx
        refine Zl (HF:=(New H j)) 1 U26 I5 rfl rfl (a1.mono RU8.mono (New.mono d)) rfl (SrcF.sliceC RU8.const RU8.one U26 hsy_25_0) g5 g6 rfl d2 rfl (λk3 g7 d3=> ?_)
        obtain⟨g8,g9,rfl⟩:=RowOf.val d3
        refine Run.lnz_b [0] 3 ZB rfl ?_
        obtain rfl:=Option.some.inj hx
        refine ZE 2 rfl (ZE 2 rfl (ZE 2 rfl ?_))
        exact JN.rN ⟨j,g8,g4.length,g9,g7,rfl,rfl,((b0.trans d)),d3⟩
     ·
      rintro c3 a4 h0 o g j h1 c4 c5 d ⟨a0,k,q,s,v,rfl,rfl,b0,a1⟩ hle2
      obtain rfl:=c5
      rw[c4]at hx;simp only[Sum.elim_inl]at hx
      refine JN.blkN ?_
      obtain rfl:=Option.some.inj hx
      refine JN.forget 2 (JN.forget 1 (ZE 2 rfl (ZE 2 rfl (ZE 3 rfl (ZE 3 rfl ?_)))))
      exact JN.cutD ⟨j,c3,k,q,s,v,rfl,rfl,rfl,rfl,((c2.trans (b0.trans d))),(a1.mono RU8.mono (New.mono d))⟩ rfl ⟨rfl,rfl,trivial⟩ rfl rfl
     ·
      rintro c3 c e h0 o g j h1 c4 c5 d hX hle2
      obtain rfl:=c5
      rcases hX with⟨rfl,t_21e0,rfl,a5,a6,a7,a8,a9,rfl,rfl,h2,h3⟩
      rw[c4]at hx;simp only[Sum.elim_inl,Sum.elim_inr]at hx
      refine Run.cnz_b [] 2 ZB rfl ?_
      obtain rfl:=Option.some.inj hx
      refine JN.forget 2 (JN.forget 1 (ZE 2 rfl (ZE 2 rfl (ZE 3 rfl (ZE 3 rfl ?_)))))
      exact JN.cutD ⟨j,c3,a6,a7,a8,a9,rfl,rfl,rfl,rfl,((c2.trans (h2.trans d))),(h3.mono RU8.mono (New.mono d))⟩ rfl ⟨rfl,rfl,trivial⟩ rfl rfl
theorem cipher_Turn_ok{q s v}:Con Tryz.prog 169 false ([.sl false RU8 1 q,.w32 s,.sl false RU8 1 v]) (cipher_Turn q s v) (λr=> [.row true RU8 5 1 r.1,.i r.2]):=by
 intro H c7 c8 c9 x d0 d1 d2 c r hx
 refine Does.enterC Tryz.func169 rfl rfl ?_
 intro w
 unfold cipher_Turn at hx
 refine Run.cl [] 11 ZB rfl (ZA rfl rfl (ZM U26 rfl (IsSlice.long x)) (Run.lcz_s [] 4 ZB rfl (ZG hx rfl (λa7 hx=> ?_) (λa7 hx=> ?_))))
 ·
  refine Run.cnz_bk [] 9 ZB rfl (ZZ ?_)
  exact Zj [0] rfl hx rfl ⟨⟨0,RowOf.nil _ _ _ _ _⟩,rfl⟩
 ·
  refine Run.cl [] 3 ZB rfl (ZA rfl rfl (ZM U26 rfl (IsSlice.long c)) (Run.lcz_s [] 4 ZB rfl (ZG hx rfl (λa8 hx=> ?_) (λa8 hx=> ?_))))
  ·
   refine Run.cnz_bk [] 9 ZB rfl (ZZ ?_)
   exact Zj [0] rfl hx rfl ⟨⟨0,RowOf.nil _ _ _ _ _⟩,rfl⟩
  ·
   refine Run.cl_bs [] 8 ZB rfl (ZA rfl rfl (ZM U26 rfl (IsSlice.long c)) (Zv hx E222 rfl cipher_Stream_ok rfl ⟨x,trivial⟩ ?_))
   intro d3 d4 hx f a9 z a0 a1 b0 b1
   refine Run.ll_s [] 11 ZB rfl (ZA rfl rfl (ZM U26 rfl (IsSlice.long c)) (Run.lcz_s [] 3 ZB rfl (ZO hx [8,9] [] rfl rfl (λm l0 o0 l o g=>∃p:Own,l=l0∧o=p::o0∧f=g∧RowOf (New H f) RU8 w.heap.size 5 1 (.slice z a0 a1) m p) (λm d5 hx=> ?_) (λm d6 hx=> ?_))))
   ·
    rintro _ _ _ ⟨p,rfl,rfl,rfl,b2⟩
    refine Run.nnz_s [] 10 ZB rfl ?_
    exact Zj [0] rfl hx rfl ⟨⟨_,b2⟩,rfl⟩
   ·
    refine JC.block (ZS [8,9,28,29] [] rfl rfl (λl0 o0 d l o g=>∃h:Own,l=(30,.int .i64 ((d.2:Nat):Int))::l0∧o=h::o0∧f=g∧RowOf (New H f) RU8 w.heap.size 5 1 (.slice z a0 a1) d.1 h) hx ⟨b0,rfl,rfl,rfl,b1⟩ rfl ?_)
    ·
     rintro d7 d _ _ _ ⟨h,rfl,rfl,rfl,j⟩ d8 hx a2
     unfold cipher_Turn_l1 at hx
     refine Run.cc [] 6 ZB rfl (ZG hx rfl (λa3 hx=> ?_) (λa3 hx=> ?_))
     ·
      refine Run.cl_s [] 7 ZB rfl ?_
      obtain⟨a4,b3,hx⟩:=ZJ hx
      obtain⟨d9,e0,e1,b4,b5,e2,b6⟩:=IsSlice.elem (c.mono RU8.mono a9) b3
      obtain rfl:=b5
      refine ZA rfl rfl (Zd U26 S5 rfl rfl b4) (ZA rfl rfl (ZY S5 rfl (b6 0 _ rfl)) (Run.llz_s [] 7 ZB rfl ?_))
      obtain⟨a5,b7,hx⟩:=ZJ hx
      obtain⟨e3,e4,e5,e6,b8,b9,c0,e7,c1⟩:=RowOf.elem j b7
      subst b8
      obtain rfl:=c0
      refine ZA rfl rfl (Zd U26 S5 rfl rfl b9) (ZA rfl rfl (R.ldo 0 S5 rfl rfl (c1 0 _ rfl)) (ZA rfl rfl (ZW rfl) (ZA rfl rfl (R.xor8 (a:=a5) (b:=a4) rfl rfl) ?_)))
      obtain⟨c2,hx⟩:=chk_some hx
      obtain⟨e8,e9,a6⟩:=RowOf.place j c2
      refine ZA rfl rfl (Zd U26 S5 rfl rfl a6) ?_
      obtain⟨c3,c4,f0,hx⟩:=setI_some hx
      refine JL.stE 0 (k:=((d.2:Nat):Int)) (y:=(a5^^^a4)) S5 rfl j rfl a6 rfl rfl (rfl) RU8.one c4 (λc5 c6 f1=>Run.llz_bs [] 4 ZB rfl (ZA rfl rfl (Zi rfl rfl (of_decide_eq_true a3) (IsSlice.lenI c)) (Run.lnz [] 2 ZB rfl ?_)))
      replace hx:=ZP a2 hx
      exact ZC ⟨(c3,d.2+1),⟨c5,rfl,rfl,rfl,c6⟩,hx⟩ rfl rfl rfl
     ·
      refine Run.cnz_k [] 2 ZB rfl ?_
      obtain rfl:=ZH a2 hx
      refine Run.nnz_kb [] 2 ZB rfl ?_
      exact ZC ⟨h,rfl,rfl,rfl,j⟩ rfl rfl rfl
theorem seal_turned_ok{b c d}:Con Tryz.prog 108 false ([.sl false RU8 1 b,.w32 c,.sl false RU8 1 d]) (seal_turned b c d) (λr=> [.row true RU8 5 1 r.1,.i r.2]):=by
 intro H s v x f y z a0 h r hx
 refine Does.enterC Tryz.func108 rfl rfl ?_
 intro w
 unfold seal_turned at hx
 refine Run.cc [] 7 ZB rfl (ZO hx [0,1,2] [] rfl rfl (λa l0 o0 l o g=>∃j:Unit,l=l0∧o=o0∧H=g∧a=.inl j) (λa a1 hx=> ?_) (λa k hx=> ?_))
 ·
  rintro _ _ _ ⟨j,rfl,rfl,rfl,rfl⟩
  simp only[Sum.elim_inl]at hx
  refine Run.nl_s [] 6 ZB rfl (Zv hx E169 rfl cipher_Turn_ok rfl ⟨f,h,trivial⟩ ?_)
  intro a2 a3 hx a4 a5 a6 a7 a8 a9 m
  refine Run.lnz_s [] 7 ZB rfl ?_
  exact Zj [0] rfl hx rfl ⟨⟨_,m⟩,rfl⟩
 ·
  refine Run.cl [] 3 ZB rfl (ZA rfl rfl (ZM U26 rfl (IsSlice.long f)) (Run.llz [] 2 ZB rfl (ZQ 11 hx rfl (λp hx=> ?_) (λp hx=> ?_))))
  ·
   refine Run.llz [] 3 ZB rfl (ZA rfl rfl (ZM U26 rfl (IsSlice.long h)) (Run.lcz_s [] 5 ZB rfl (ZG hx rfl (λq hx=> ?_) (λq hx=> ?_))))
   ·
    refine Run.cnz [] 6 ZB rfl ?_
    obtain rfl:=Option.some.inj hx
    clear hx;have hx:=k
    simp only[Sum.elim_inl,Sum.elim_inr]at hx
    refine Run.nnz_kk [] 2 ZB rfl (ZZ ?_)
    exact Zj [0] rfl hx rfl ⟨⟨0,RowOf.nil _ _ _ _ _⟩,rfl⟩
   ·
    refine JC.skip ?_
    obtain rfl:=Option.some.inj hx
    exact ZC ⟨(),rfl,rfl,rfl,rfl⟩ rfl rfl rfl
  ·
   refine Run.lnz_s [] 8 ZB rfl ?_
   obtain rfl:=Option.some.inj hx
   exact ZC ⟨(),rfl,rfl,rfl,rfl⟩ rfl rfl rfl
theorem mac_inner_ok{a}:Con Tryz.prog 223 true ([.sl false (RSl RU8 1) 1 a]) (mac_inner a) (λr=> [.row true RU8 5 1 r]):=by
 intro H i j k b r hx
 refine Does.enterC Tryz.func223 rfl rfl ?_
 intro w
 unfold mac_inner at hx
 refine Run.cl [] 8 ZB rfl (ZI hx E172 rfl slices_Concat_byte_ok rfl ⟨b,trivial⟩ ?_)
 intro m p hx q s v x c
 refine JL.conL hx E261 rfl mix_Key_ok rfl (λy d f=>⟨(Lent.row' 0 f RU8.mono d rfl (c.old RU8.mono)),trivial⟩) (λ_=>⟨RU8.const,trivial⟩) ?_
 intro z a0 hx a1 a2 a3 a4 h
 refine Run.lnz_s [] 4 ZB rfl ?_
 exact ZD [0] rfl hx rfl ⟨⟨_,h⟩,rfl⟩
theorem mac_Tag_ok{a c}:Con Tryz.prog 171 false ([.sl false RU8 1 a,.sl false RU8 1 c]) (mac_Tag a c) (λr=> [.w32 r.1,.i r.2]):=by
 intro H f h j d x y z a0 r hx
 refine Does.enterC Tryz.func171 rfl rfl ?_
 intro w
 unfold mac_Tag at hx
 refine Run.cl [] 10 ZB rfl (ZA rfl rfl (ZM U26 rfl (IsSlice.long d)) (Run.lcz_s [] 3 ZB rfl (ZG hx rfl (λa1 hx=> ?_) (λa1 hx=> ?_))))
 ·
  refine Run.cnz_k [] 8 ZB rfl ?_
  exact Zj [] rfl hx rfl rfl
 ·
  refine Run.cl_s [] 5 ZB rfl (Zx (HF:=(New H H)) (R:=RU8) (ls:=[(2:UInt8)]) (vs:=[.int .u8 ((2:UInt8).toNat:Int)]) U26 I5 rfl rfl (⟨_,_,rfl,rfl,rfl,rfl⟩) RU8.one rfl rfl rfl (by simp[maxLen]) rfl (λc3 c4 k=> ?_))
  obtain⟨a2,a3,rfl⟩:=RowOf.val k
  refine ZA rfl rfl (ZW rfl) (Zx (HF:=(New H H)) (R:=RU8) (ls:=[(1:UInt8)]) (vs:=[.int .u8 ((1:UInt8).toNat:Int)]) U26 I5 rfl rfl (⟨_,_,rfl,rfl,rfl,rfl⟩) RU8.one rfl rfl rfl (by simp[maxLen]) rfl (λc5 c6 m=> ?_))
  obtain⟨a4,a5,rfl⟩:=RowOf.val m
  refine ZA rfl rfl (ZW rfl) (JL.pubN 0 RU8.mono rfl m (Nat.le_refl _) (λa6 b a7=>JL.forget 0 (Zx (HF:=a6) (R:=(RSl RU8 1)) (ls:=[a,[(1:UInt8)],c]) (vs:=[.slice f h j,.slice a4 (([(1:UInt8)]).length) a5,.slice x y z]) U22 I26 rfl rfl (⟨_,_,rfl,rfl,⟨_,rfl,(d.mono RU8.mono b)⟩,⟨_,_,rfl,rfl,⟨_,rfl,(a7.old RU8.mono)⟩,⟨_,_,rfl,rfl,⟨_,rfl,(a0.mono RU8.mono b)⟩,rfl⟩⟩⟩) RSl.one rfl rfl rfl (by simp[maxLen]) rfl (λc7 c8 p=> ?_))))
  obtain⟨c9,d0,rfl⟩:=RowOf.val p
  refine JL.conL hx E223 rfl mac_inner_ok rfl (λd1 a8 a9=>⟨(Lent.row' 0 a9 (RSl.mono RU8.mono) a8 rfl p),trivial⟩) (λ_=>⟨RU8.const,trivial⟩) ?_
  intro b0 d2 hx b1 b2 b3 d3 b4
  refine JL.pubN 2 RU8.mono rfl (k.mono RU8.mono (New.mono b)) (Nat.le_refl _) (λd4 q b5=>JL.forget 2 (JL.pubN 0 RU8.mono rfl (b4.mono RU8.mono (New.mono q)) (Nat.le_refl _) (λb6 s b7=>JL.forget 0 (Zx (HF:=b6) (R:=(RSl RU8 1)) (ls:=[a,[(2:UInt8)],b0]) (vs:=[.slice f h j,.slice a2 (([(2:UInt8)]).length) a3,.slice b1 b2 b3]) U22 I26 rfl rfl (⟨_,_,rfl,rfl,⟨_,rfl,(d.mono RU8.mono (b.trans (q.trans s)))⟩,⟨_,_,rfl,rfl,⟨_,rfl,((b5.mono RU8.mono (New.mono s)).old RU8.mono)⟩,⟨_,_,rfl,rfl,⟨_,rfl,(b7.old RU8.mono)⟩,rfl⟩⟩⟩) RSl.one rfl rfl rfl (by simp[maxLen]) rfl (λd5 d6 v=> ?_)))))
  obtain⟨d7,d8,rfl⟩:=RowOf.val v
  refine JL.conL hx E172 rfl slices_Concat_byte_ok rfl (λd9 b8 b9=>⟨(Lent.row' 0 b9 (RSl.mono RU8.mono) b8 rfl v),trivial⟩) (λ_=>⟨RU8.const,trivial⟩) ?_
  intro e0 e1 hx e2 e3 e4 e5 c0
  refine JL.conL hx E44 rfl mix_Sum_ok rfl (λe6 c1 c2=>⟨(Lent.row' 0 c2 RU8.mono c1 rfl (c0.old RU8.mono)),trivial⟩) (λ_=>trivial) ?_
  intro e7 e8 hx
  refine Run.lnz_s [] 5 ZB rfl ?_
  exact Zj [] rfl hx rfl rfl
theorem seal_tagged_ok{d b c}:Con Tryz.prog 109 false ([.sl false RU8 1 d,.w32 b,.sl false RU8 1 c]) (seal_tagged d b c) (λr=> [.w32 r.1,.i r.2]):=by
 intro H a8 a9 b0 k m p q s r hx
 refine Does.enterC Tryz.func109 rfl rfl ?_
 intro w
 unfold seal_tagged at hx
 refine Run.cl [] 9 ZB rfl (ZA rfl rfl (R.cv_u32_i64 (a:=b) U27 U3 rfl) (ZI hx E170 rfl code_Put_ok rfl trivial ?_))
 intro v b1 hx x y z b2 a0
 refine Run.lc_s [] 14 ZB rfl (ZG hx rfl (λa1 hx=> ?_) (λa1 hx=> ?_))
 ·
  refine Run.cnz_k [] 9 ZB rfl ?_
  exact Zj [] rfl hx rfl rfl
 ·
  refine Run.cl_s [] 7 ZB rfl (JL.pubN 0 RU8.mono rfl a0 (Nat.le_refl _) (λa2 f a3=>JL.forget 0 (Zx (HF:=a2) (R:=(RSl RU8 1)) (ls:=[v.1,c]) (vs:=[.slice x y z,.slice m p q]) U22 I26 rfl rfl (⟨_,_,rfl,rfl,⟨_,rfl,(a3.old RU8.mono)⟩,⟨_,_,rfl,rfl,⟨_,rfl,(s.mono RU8.mono f)⟩,rfl⟩⟩) RSl.one rfl rfl rfl (by simp[maxLen]) rfl (λb3 b4 h=> ?_))))
  obtain⟨b5,b6,rfl⟩:=RowOf.val h
  refine JL.conL hx E172 rfl slices_Concat_byte_ok rfl (λb7 a4 a5=>⟨(Lent.row' 0 a5 (RSl.mono RU8.mono) a4 rfl h),trivial⟩) (λ_=>⟨RU8.const,trivial⟩) ?_
  intro b8 b9 hx c0 c1 c2 c3 a6
  refine JL.conL hx E171 rfl mac_Tag_ok rfl (λc4 j a7=>⟨(IsSlice.mono RU8.mono j (k.mono RU8.mono f)),(Lent.row' 0 a7 RU8.mono j rfl (a6.old RU8.mono)),trivial⟩) (λ_=>trivial) ?_
  intro c5 c6 hx
  refine Run.lnz_s [] 7 ZB rfl ?_
  exact Zj [] rfl hx rfl rfl
theorem seal_Open_ok{d f h c}:Con Tryz.prog 48 false ([.sl false RU8 1 d,.w32 f,.sl false RU8 1 h,.w32 c]) (seal_Open d f h c) (λr=> [.row true RU8 5 1 r.1,.i r.2]):=by
 intro H z a0 a1 j a2 a3 a4 k r hx
 refine Does.enterC Tryz.func48 rfl rfl ?_
 intro w
 unfold seal_Open at hx
 refine Run.cl [] 11 ZB rfl (Zv hx E108 rfl seal_turned_ok rfl ⟨j,k,trivial⟩ ?_)
 intro a5 a6 hx a7 m a8 a9 b0 b1 p
 refine Run.lc_s [] 14 ZB rfl (ZG hx rfl (λq hx=> ?_) (λq hx=> ?_))
 ·
  refine Run.cnz_k [] 9 ZB rfl (ZZ ?_)
  exact Zj [0] rfl hx rfl ⟨⟨0,RowOf.nil _ _ _ _ _⟩,rfl⟩
 ·
  refine Run.cl_s [] 8 ZB rfl (Zv hx E109 rfl seal_tagged_ok rfl ⟨(j.mono RU8.mono m),(k.mono RU8.mono m),trivial⟩ ?_)
  intro s b2 hx b3 v
  refine Run.ll_s [] 12 ZB rfl (ZQ 33 hx rfl (λx hx=> ?_) (λx hx=> ?_))
  ·
   refine Run.lnz_sk [] 15 ZB rfl (ZZ ?_)
   exact Zj [0] rfl hx rfl ⟨⟨0,RowOf.nil _ _ _ _ _⟩,rfl⟩
  ·
   refine Run.llz [] 5 ZB rfl (ZA rfl rfl (R.neq32 (a:=s.1) (b:=c) rfl rfl) (Run.lcz_s [] 3 ZB rfl (ZG hx rfl (λy hx=> ?_) (λy hx=> ?_))))
   ·
    refine Run.cnz_k [] 8 ZB rfl (ZZ ?_)
    exact Zj [0] rfl hx rfl ⟨⟨0,RowOf.nil _ _ _ _ _⟩,rfl⟩
   ·
    refine Run.cnz_s [] 10 ZB rfl ?_
    exact Zj [0] rfl hx rfl ⟨⟨_,(p.mono RU8.mono (New.mono v))⟩,rfl⟩
theorem store_Open_ok{a b c}:Con Tryz.prog 11 false (sp_Store false a++sp_Ptr false b++ [.sl false RU8 1 c]) (store_Open a b c) (λr=> [.row true RU8 5 1 r.1,.i r.2]):=by
 intro H x y z f a0 a1 a2 h a3 a4 a5 j a6 a7 a8 d r hx
 refine Does.enterC Tryz.func11 rfl rfl ?_
 intro w
 unfold store_Open at hx
 refine Run.cl [] 2 ZB rfl (ZV rfl rfl (λa9 b0=>ZV rfl rfl (λb1 b2=>Run.ll_s [1,0] 8 ZB rfl (Zv hx E9 rfl store_Look_ok rfl ⟨f,h,j,trivial⟩ ?_))))
 intro b3 b4 hx b5 k b6 b7 b8 m
 refine Run.lc_s [] 14 ZB rfl (ZG hx rfl (λp hx=> ?_) (λp hx=> ?_))
 ·
  refine Run.cnz_k [] 9 ZB rfl (ZZ ?_)
  exact Zj [0] rfl hx rfl ⟨⟨0,RowOf.nil _ _ _ _ _⟩,rfl⟩
 ·
  refine Run.cl_s [] 6 ZB rfl (ZA rfl rfl (ZM U26 rfl (IsSlice.long d)) (Run.lcz_s [] 3 ZB rfl (ZG hx rfl (λq hx=> ?_) (λq hx=> ?_))))
  ·
   refine Run.cnz_k [] 8 ZB rfl (ZZ ?_)
   exact Zj [0] rfl hx rfl ⟨⟨0,RowOf.nil _ _ _ _ _⟩,rfl⟩
  ·
   refine Run.cl_s [0,0] 10 ZB rfl (Zv hx E48 rfl seal_Open_ok rfl ⟨(d.mono RU8.mono k),(m.old RU8.mono),trivial⟩ ?_)
   intro b9 c0 hx c1 c2 c3 c4 c5 c6 s
   refine Run.lc_s [] 14 ZB rfl (ZG hx rfl (λv hx=> ?_) (λv hx=> ?_))
   ·
    refine Run.cnz_k [] 8 ZB rfl (ZZ ?_)
    exact Zj [0] rfl hx rfl ⟨⟨0,RowOf.nil _ _ _ _ _⟩,rfl⟩
   ·
    refine Run.cnz_s [] 10 ZB rfl ?_
    exact Zj [0] rfl hx rfl ⟨⟨_,s⟩,rfl⟩
end Go.Proofs.YtebhagohhbmgoaaGreat
