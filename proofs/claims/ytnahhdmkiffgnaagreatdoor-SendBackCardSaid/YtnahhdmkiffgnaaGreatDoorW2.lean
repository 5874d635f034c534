import Derived.Test.YtnahhdmkiffgnaaGreatDoorT2
import Derived.Test.YtnahhdmkiffgnaaGreatDoorOwMf
/- walks: what the code computes, function by function. -/
set_option linter.unusedSimpArgs false
set_option linter.unusedVariables false
namespace Go.Proofs.YtnahhdmkiffgnaaGreatDoor
open Go.Ow Go.RowKit Go.Proofs
set_option maxHeartbeats 8000000
theorem code_sized_ok{c}:Con Tryz.prog 31 true ([.i c]) (code_sized c) (λr=> [.b r]):=by
 intro H r hx
 refine Does.enterC Tryz.func31 rfl rfl ?_
 intro w
 unfold code_sized at hx
 refine Run.cc [] 6 tbo rfl (JC.cutX hx [] [] rfl rfl (λa l0 o0 l o g=>l=(2,.bool a)::l0∧o=o0∧H=g) (λa f hx=> ?_) (λa h hx=> ?_))
 ·
  rintro _ _ _ ⟨rfl,rfl,rfl⟩
  refine Run.nnz_s [] 2 tbo rfl ?_
  exact JN.conQ [] rfl hx rfl rfl
 ·
  refine Run.clz [] 4 tbo rfl (JL.gX 5 hx rfl (λd hx=> ?_) (λd hx=> ?_))
  ·
   refine Run.lnz [] 7 tbo rfl ?_
   obtain rfl:=Option.some.inj hx
   exact JN.cutR ⟨rfl,rfl,rfl⟩ rfl rfl rfl
  ·
   refine Run.lnz [] 5 tbo rfl ?_
   obtain rfl:=Option.some.inj hx
   exact JN.cutR ⟨rfl,rfl,rfl⟩ rfl rfl rfl
theorem slices_Backward_byte_ok (a:List UInt8)(H:Heaplet){ao:Option Addr}{n cap:Nat}(hs:IsSlice H RU8 1 (.slice ao n cap) a)(r:Unit)(hx:slices_Backward_byte a=some r):
  Does Tryz.prog 32 #[.slice ao n cap] [] H (λu K' H'=>∃b:Nat,u=.func (.func 58) #[] #[.pointer (some ⟨b,0,none⟩)]∧K'= []∧H' b 0=some (.slice ao n cap)∧True):=by
 refine Does.enter (vs:=[.slice ao n cap]) (l:=[(0,.slice ao n cap)]) Tryz.func32 rfl rfl ⟨rfl,trivial⟩ (λw=>Run.cl [] 2 tbo rfl (JL.box rfl rfl (λb1 hb1=>JL.assign rfl rfl (Run.ll_s [] 4 tbo rfl (JL.func (vf:=#[]) (vc:=#[_]) rfl rfl rfl (JL.assign rfl rfl (Run.lnz_s [] 3 tbo rfl (JN.pubBox 0 rfl hb1 (λH1 hle1 hc1=>JN.forget 0 ?_)))))))))
 have hc:=hc1 0 _ rfl
 refine JN.out1 (.inl rfl) rfl rfl rfl ?_
 exact⟨_,rfl,rfl,hc,trivial⟩
theorem slices_Backward_byte_it (m:List UInt8)(H:Heaplet){v:Value}{b:Nat}(hs:IsSlice H RU8 1 v m)(hb:H b 0=some v):
  IterL Tryz.prog 58 #[.pointer (some ⟨b,0,none⟩)] H (λ_ args (y:Nat×UInt8)=>args= #[.int .i64 ((y.1:Nat):Int),.int .u8 (y.2.toNat:Int)]) (bwd m m.length):=by
 intro lr I X o hY hI
 have hlen:=hs.len_le
 obtain⟨ao,cap,rfl⟩:=hs.val
 show Does Tryz.prog 58 #[.func (.yield lr) #[] #[],.pointer (some ⟨b,0,none⟩)] o H _
 refine Does.enter (vs:=[.func (.yield lr) #[] #[],.pointer (some ⟨b,0,none⟩)]) (l:=[(0,.func (.yield lr) #[] #[]),(1,.pointer (some ⟨b,0,none⟩))]) Tryz.func58 rfl rfl ⟨rfl,rfl,trivial⟩ (λw=>Run.cl [] 2 tbo rfl (JL.ldH S23 rfl hb rfl (JL.lenS U23 rfl hs rfl (JL.subI rfl rfl (wi64 (by omega) (by omega)) rfl (JL.assign rfl rfl ?_)))))
 refine Run.lc_s [] 3 tbo rfl (JC.loop (ι:=Nat×List (Nat×UInt8)×List Own×Heaplet) (λi=> [(0,.func (.yield lr) #[] #[]),(1,.pointer (some ⟨b,0,none⟩)),(3,.int .i64 ((i.1:Int)-1))]) (λi=>i.2.2.1) (λi=>i.2.2.2) (λi=>i.1≤m.length∧i.2.1++bwd m i.1=bwd m m.length∧I i.2.1 i.2.2.1 i.2.2.2∧Hle H i.2.2.2) (λi=>i.1) (m.length,[],o,H) (⟨Nat.le_refl _,rfl,hI,Hle.refl _⟩) ⟨rfl,rfl,rfl,trivial⟩ rfl rfl ?_)
 rintro⟨k,pre,o2,H2⟩ hI0
 dsimp only at hI0⊢
 obtain⟨hk,hpre,hI2,hle⟩:=hI0
 have hb2:=hle _ _ _ hb
 have hs2:=IsB.mono hle hs
 refine Run.cl [] 3 tbo rfl (JL.move rfl rfl (JL.geq rfl rfl rfl (Run.lcz_s [] 2 tbo rfl (JC.condP rfl (λc8=> ?_) (λc8=> ?_)))))
 ·
  refine Run.cl_s [] 6 tbo rfl (JL.move rfl rfl (JL.move rfl rfl (JL.ldH S23 rfl hb2 rfl (JL.move rfl rfl (JL.ixB (k:=k-1) U23 S5 rfl hs2 rfl (by omega) (by omega) rfl (λb15 o15 hc15=>JL.ldH S5 rfl hc15 rfl ?_))))))
  have e1:((k-1:Nat):Int)=(k:Int)-1:=by omega
  have e2:m.getD (k-1) 0=m[k-1]:=by rw[List.getD_eq_getElem?_getD,List.getElem?_eq_getElem (show k-1<m.length by omega),Option.getD_some]
  have e3:bwd m k=(k-1,m.getD (k-1) 0)::bwd m (k-1):=by rw[show k=(k-1)+1 by omega];rfl
  refine JL.yield (vs:=[_,_]) (mine:=[]) ((k-1,m.getD (k-1) 0)) hY rfl rfl hI2 (⟨by simp only[e1,e2],bwd m (k-1),by rw[←hpre,e3]⟩) rfl rfl (λo17 H17 hle17 hI17=> ?_) (λo17 H17 hle17 hX17=> ?_)
  ·
   refine JL.not rfl rfl (Run.llz_sbs [] 7 tbo rfl (JL.move rfl rfl (JL.subI rfl rfl (wi64 (by omega) (by omega)) rfl (JL.assign rfl rfl (JL.nil (JN.again (i:=(k,pre,o2,H2)) (k-1,pre++ [(k-1,m.getD (k-1) 0)],o17,H17) (by exact⟨by simp only;omega,by rw[←hpre,e3];simp,hI17,hle.trans hle17⟩) (by simp only;omega) (by exact⟨rfl,rfl,by show some _=some _;simp only[e1],trivial⟩) rfl rfl))))))
  ·
   refine JL.not rfl rfl (Run.lnz_sbk [] 6 tbo rfl (Run.nnz_kb [] 2 tbo rfl (JN.out0 (.inl rfl) rfl rfl ?_)))
   exact⟨hle.trans hle17,.inr ⟨_,⟨bwd m (k-1),by rw[←hpre,e3];simp⟩,hX17⟩⟩
 ·
  refine Run.cnz_kkb [] 4 tbo rfl (JN.out0 (.inr rfl) rfl rfl ?_)
  exact⟨hle,.inl ⟨pre,by rw[←hpre,show k=0 by omega];simp[bwd],hI2⟩⟩
theorem code_Get_ok (s:List UInt8)(d:Int)(f:Int)(H:Heaplet){j:Option Addr}{k:Nat}{p:Nat}(v:IsSlice H RU8 1 (.slice j k p) s)(r:Int×Int)(hx:code_Get s d f=some r):
  Does Tryz.prog 17 #[.slice j k p,.int .i64 d,.int .i64 f] [] H (λu K' H'=>u=.tuple #[.int .i64 r.1,.int .i64 r.2]∧K'= []∧True):=by
 refine Does.enterML (vs:=[.slice j k p,.int .i64 d,.int .i64 f]) (l:=[(0,.slice j k p),(1,.int .i64 d),(2,.int .i64 f)]) Tryz.func17 rfl rfl ⟨rfl,rfl,rfl,trivial⟩ (λw hlt=> ?_)
 unfold code_Get at hx
 refine Run.cl [] 12 tbo rfl (JL.conQ hx E31 rfl code_sized_ok rfl trivial ?_)
 intro c1 c2 hx
 refine Run.lcz_s [] 4 tbo rfl (JC.cutX hx [0,1,2] [] rfl rfl (λx l0 o0 l o g=>l=(11,.bool x)::l0∧o=o0∧H=g) (λx c3 hx=> ?_) (λx c4 hx=> ?_))
 ·
  rintro _ _ _ ⟨rfl,rfl,rfl⟩
  refine JN.next (JC.ifx hx rfl (λa7 hx=> ?_) (λa7 hx=> ?_))
  ·
   refine Run.cnz_bk [] 9 tbo rfl (JN.outMP (vs:=[.int .i64 0,.int .i64 2]) (K:=[]) (rst:=[]) (own2:=[]) [] (.inl rfl) ⟨rfl,rfl,rfl,rfl⟩ rfl rfl picks0 (Res.tmp rfl (Res.tmp rfl rfl)) picks0 ?_)
   obtain rfl:=Option.some.inj hx
   exact⟨rfl,rfl,trivial⟩
  ·
   refine Run.cl [] 6 tbo rfl (JL.val rfl rfl (R.lenL U23 rfl (IsSlice.long v)) (Run.lcz_s [] 4 tbo rfl (JC.ifx hx rfl (λa8 hx=> ?_) (λa8 hx=> ?_))))
   ·
    refine Run.cnz_bk [] 9 tbo rfl (JN.outMP (vs:=[.int .i64 0,.int .i64 8]) (K:=[]) (rst:=[]) (own2:=[]) [] (.inl rfl) ⟨rfl,rfl,rfl,rfl⟩ rfl rfl picks0 (Res.tmp rfl (Res.tmp rfl rfl)) picks0 ?_)
    obtain rfl:=Option.some.inj hx
    exact⟨rfl,rfl,trivial⟩
   ·
    refine Run.cl_bs [] 5 tbo rfl (JL.alloc Z3 rfl (λa1 c5=>Run.ll_s [0] 11 tbo rfl ?_))
    obtain⟨a2,a9,z,hx⟩:=slc_some hx
    obtain⟨c6,a3,h1v_19,h2v_19,h3v_19,a0⟩:=IsSlice.cutv v a9 z
    refine JL.val rfl rfl (R.slc (cap:=a3) (a:=d) (b:=w64 (d+f)) (c:=(a3:Int)) (m:=s) (R:=RU8) U23 S5 rfl ⟨_,rfl⟩ ⟨_,rfl⟩ (by obtain⟨ao,n,e,_⟩:=h1v_19;exact⟨ao,n,e,rfl⟩) ⟨z.1,z.2.1,h2v_19⟩ h3v_19 (.inl rfl)) ?_
    obtain⟨c7,c8,rfl⟩:=IsSlice.val a0
    obtain⟨c9,b0,hx⟩:=bnd_some hx
    refine JL.callC (vs:=[_]) (args:=[_]) (K:=[]) (rst:=[_]) E32 rfl rfl rfl picks0 (slices_Backward_byte_ok a2 _ a0 _ b0) rfl (λd0 d1 a4 b1 b2 d2=> ?_)
    obtain⟨d3,rfl,rfl,b3,-⟩:=b1
    refine Run.lc_s [] 3 tbo rfl ?_
    obtain⟨b4,b5,hx⟩:=bnd_some hx
    refine JC.rangeL (RA:=λ_ args (y:Nat×UInt8)=>args= #[.int .i64 ((y.1:Nat):Int),.int .u8 (y.2.toNat:Int)]) rfl code_Get_r1 0 b4 b5 (λq o g=>∃i:Heaplet,o= [[(a1,.cells #[.int .i64 q] 3 (0,0))]]∧i=g∧Hle a4 i) (λe c o g=>False) rfl E58 (slices_Backward_byte_it a2 _ (a0.mono RU8.mono b2) b3) (λ_ _ _ h=>by rw[h];rfl) rfl ⟨a4,rfl,rfl,(Hle.refl _)⟩ ?_ ?_ ?_
    ·
     rintro d4 a5 q args o g d5 ⟨i,rfl,rfl,a6⟩ hA hx2
     clear hx;have hx:=hx2;clear hx2;unfold code_Get_r1 at hx
     subst hA
     refine⟨[(8,.pointer (some ⟨a1,0,none⟩)),(10,.int .u8 (a5.2.toNat:Int))],λb6 b7=> ?_,λb6 b7=> ?_⟩
     ·
      refine Run.cnz [] 3 tbo rfl ?_
      exact JN.assigned ⟨rfl,rfl,trivial⟩
     ·
      refine Run.cl [0] 5 tbo rfl (JL.val rfl rfl (R.cv_u8_i64 (a:=a5.2) U5 U3 rfl) (Run.lnz_b [0] 4 tbo rfl ?_))
      obtain rfl:=Option.some.inj hx
      exact JN.rN ⟨i,rfl,rfl,(a6)⟩
    ·
     rintro b8 q o g d6 htt ⟨i,rfl,rfl,a6⟩ hle2
     subst htt;simp only[Sum.elim_inl]at hx
     refine Run.nnz_bs [1] 10 tbo rfl (JN.outMP (vs:=[.int .i64 q,.int .i64 0]) (K:=[]) (rst:=[_]) (own2:=[_]) [b8] (.inl rfl) ⟨rfl,rfl,rfl,rfl⟩ rfl rfl (picks 0 rfl picks0) (Res.tmp rfl (Res.tmp rfl rfl)) picks0 ?_)
     obtain rfl:=Option.some.inj hx
     exact⟨rfl,rfl,trivial⟩
    ·
     rintro D c e o g hD htt hX;exact hX.elim
 ·
  refine JC.ifx hx rfl (λb9 hx=> ?_) (λb9 hx=> ?_)
  ·
   refine JC.skip ?_
   obtain rfl:=Option.some.inj hx
   exact JN.cutR ⟨rfl,rfl,rfl⟩ rfl rfl rfl
  ·
   refine Run.ccz [] 7 tbo rfl (JC.ifx hx rfl (λc0 hx=> ?_) (λc0 hx=> ?_))
   ·
    refine JC.skip ?_
    obtain rfl:=Option.some.inj hx
    exact JN.cutR ⟨rfl,rfl,rfl⟩ rfl rfl rfl
   ·
    refine Run.clz [] 3 tbo rfl (JL.val rfl rfl (R.lenL U23 rfl (IsSlice.long v)) (Run.lnz [] 3 tbo rfl ?_))
    obtain rfl:=Option.some.inj hx
    exact JN.cutR ⟨rfl,rfl,rfl⟩ rfl rfl rfl
theorem slices_Clone_byte_ok (b:List UInt8)(H:Heaplet){ao:Option Addr}{n cap:Nat}(hs:IsSlice H RU8 1 (.slice ao n cap) b)(r:List UInt8)(hx:slices_Clone_byte b=some r):
  Does Tryz.prog 15 #[.slice ao n cap] [] H (λu K' H'=>∃ao0:Option Addr,∃n0:Nat,∃cap0:Nat,∃K0:Own,u=.slice ao0 n0 cap0∧K'= [K0]∧H=H'∧RowOf (New H H') RU8 0 5 1 (.slice ao0 n0 cap0) r K0∧(∀p∈K0,p.1∉ids (List.flatten []))∧True):=by
 rw[slices_Clone_byte.eq_1]at hx
 obtain⟨q,hq,hl,hx⟩:=app_some hx
 obtain rfl:=Option.some.inj hx
 refine Does.enter (vs:=[.slice ao n cap]) (l:=[(0,.slice ao n cap)]) Tryz.func15 rfl rfl ⟨rfl,trivial⟩ (λw=>Run.cl [] 9 tbo rfl (JL.val rfl rfl (R.eqlNil U23 rfl rfl) (Run.lcz_s [] 2 tbo rfl ?_)))
 cases ao with
 |none=>
  have hp:=hs.none_nil
  subst hp
  simp only[List.append_nil]at hq
  subst hq
  refine Run.cnz_k [] 8 tbo rfl (JN.seg0 (JN.outP (vs:=[.slice none 0 0]) (K:=[_]) (rst:=[]) (.inl rfl) rfl rfl (Res.tmp rfl rfl) (picks 0 rfl picks0) ?_))
  exact⟨none,0,0,[],rfl,rfl,rfl,RowOf.nil _ _ _ _ _,(λp hp=>by cases hp),trivial⟩
 |some a=>
  refine Run.cl_s [] 5 tbo rfl (JL.bslF (HF:=New H H) (R:=RU8) (ls:=[]) (vs:=[]) U23 I5 rfl rfl rfl RU8.one rfl rfl rfl (by simp[maxLen]) rfl (λv1 K1 h1=> ?_))
  obtain⟨ao1,cap1,rfl⟩:=RowOf.val h1
  refine JL.val rfl rfl (R.move rfl) (JL.appF (HF:=New H H) 0 U23 I5 rfl rfl h1 rfl (SrcF.sliceC RU8.const RU8.one U23 hs) hq hl rfl (Nat.le_refl _) rfl (λv2 K2 h2=> ?_))
  obtain⟨ao2,cap2,rfl⟩:=RowOf.val h2
  refine Run.lnz_s [] 4 tbo rfl (JN.outP (vs:=[.slice ao2 _ cap2]) (K:=[_]) (rst:=[]) (.inl rfl) rfl rfl (Res.tmp rfl rfl) (picks 0 rfl picks0) ?_)
  exact⟨_,_,_,_,rfl,rfl,rfl,RowOf.weak (Nat.zero_le _) h2,(λp hp hm=>by cases hm),trivial⟩
theorem slices_Clip_byte_ok{d}:Con Tryz.prog 204 true ([.sl false RU8 1 d]) (slices_Clip_byte d) (λr=> [.cl false RU8 1 r]):=by
 intro H q s v f r hx
 refine Does.enterC Tryz.func204 rfl rfl ?_
 intro w
 unfold slices_Clip_byte at hx
 refine Run.cl [] 9 tbo rfl (JL.val rfl rfl (R.lenL U23 rfl (IsSlice.long f)) (JL.val rfl rfl (R.move rfl) (JL.val rfl rfl (R.lenL U23 rfl (IsSlice.long f)) ?_)))
 obtain⟨x,j,i,hx⟩:=slc_some hx
 obtain⟨y,k,z,h1v_6,h2v_6,p⟩:=IsSlice.cutc f j i
 refine JL.val rfl rfl (R.slc (cap:=k) (a:=0) (b:=(d.length:Int)) (c:=(d.length:Int)) (m:=d) (R:=RU8) U23 S5 rfl rfl ⟨_,rfl⟩ ⟨_,rfl⟩ ⟨i.1,i.2.1,Int.le_refl _⟩ h1v_6 (.inr (λh=>by cases h))) ?_
 subst h2v_6
 refine Run.lnz_s [] 4 tbo rfl ?_
 exact JN.conQ [] rfl hx rfl ⟨⟨⟨_,_,rfl⟩,p⟩,rfl⟩
theorem slices_Chunk_byte_ok (b:List UInt8)(a:Int)(H:Heaplet){ao:Option Addr}{n cap:Nat}(hs:IsSlice H RU8 1 (.slice ao n cap) b)(r:Unit)(hx:slices_Chunk_byte b a=some r):
  Does Tryz.prog 153 #[.slice ao n cap,.int .i64 a] [] H (λu K' H'=>∃b2 b3:Nat,u=.func (.func 194) #[] #[.pointer (some ⟨b2,0,none⟩),.pointer (some ⟨b3,0,none⟩)]∧K'= []∧H' b2 0=some (.slice ao n cap)∧H' b3 0=some (.int .i64 a)∧(1≤a∧a≤1099511627776∧b.length≤LIM)∧True):=by
 unfold slices_Chunk_byte at hx
 split at hx
 case isFalse=>cases hx
 rename_i hp
 refine Does.enter (vs:=[.slice ao n cap,.int .i64 a]) (l:=[(0,.slice ao n cap),(1,.int .i64 a)]) Tryz.func153 rfl rfl ⟨rfl,rfl,trivial⟩ (λw=>Run.cl [] 2 tbo rfl (JL.box rfl rfl (λb2 hb2=>JL.box rfl rfl (λb3 hb3=>Run.lc_s [0] 10 tbo rfl (JC.condB rfl (λc=> ?_) (λc=> ?_))))))
 ·
  exact absurd (of_decide_eq_true c) (by omega)
 refine Run.cnz_s [] 9 tbo rfl (JN.pubBox 0 rfl hb3 (λH1 hle1 hc1=>JN.forget 0 (JN.pubBox 0 rfl hb2 (λH2 hle2 hc2=>JN.forget 0 (JN.out1 (.inl rfl) rfl rfl rfl ?_)))))
 exact⟨_,_,rfl,rfl,hc2 0 _ rfl,hle2 _ _ _ (hc1 0 _ rfl),hp,trivial⟩
theorem slices_Chunk_byte_it (m:List UInt8)(N:Int)(hN:1≤N∧N≤1099511627776∧m.length≤LIM)(H:Heaplet){v:Value}{b2 b3:Nat}(hs:IsSlice H RU8 1 v m)(hb2:H b2 0=some v)(hb3:H b3 0=some (.int .i64 N)):
  IterL Tryz.prog 194 #[.pointer (some ⟨b2,0,none⟩),.pointer (some ⟨b3,0,none⟩)] H (λH' args (y:List UInt8)=>∃ao:Option Addr,args= #[.slice ao y.length y.length]∧IsSlice H' RU8 1 (.slice ao y.length y.length) y) (chunks N.toNat m.length m):=by
 intro lr I X o hY hI
 obtain⟨hN1,hN2,hml⟩:=hN
 unfold LIM at hml
 obtain⟨ao,cap,rfl⟩:=hs.val
 show Does Tryz.prog 194 #[.func (.yield lr) #[] #[],.pointer (some ⟨b2,0,none⟩),.pointer (some ⟨b3,0,none⟩)] o H _
 refine Does.enter (vs:=[.func (.yield lr) #[] #[],.pointer (some ⟨b2,0,none⟩),.pointer (some ⟨b3,0,none⟩)]) (l:=[(0,.func (.yield lr) #[] #[]),(1,.pointer (some ⟨b2,0,none⟩)),(2,.pointer (some ⟨b3,0,none⟩))]) Tryz.func194 rfl rfl ⟨rfl,rfl,rfl,trivial⟩ (λw=>Run.cc [] 6 tbo rfl ?_)
 refine JC.loop (ι:=Nat×Nat×List (List UInt8)×List Own×Heaplet) (λi=> [(0,.func (.yield lr) #[] #[]),(1,.pointer (some ⟨b2,0,none⟩)),(2,.pointer (some ⟨b3,0,none⟩)),(4,.int .i64 ((i.1:Nat):Int))]) (λi=>i.2.2.2.1) (λi=>i.2.2.2.2)
  (λi=>i.1≤2199023255552∧m.length≤i.1+i.2.1∧i.2.2.1++chunks N.toNat i.2.1 (m.drop i.1)=chunks N.toNat m.length m∧I i.2.2.1 i.2.2.2.1 i.2.2.2.2∧Hle H i.2.2.2.2) (λi=>m.length+1-i.1) (0,m.length,[],o,H) (⟨by omega,by simp,by simp,hI,Hle.refl _⟩) ⟨rfl,rfl,rfl,rfl,trivial⟩ rfl rfl ?_
 rintro⟨i,f,pre,o2,H2⟩ hI0
 dsimp only at hI0⊢
 obtain⟨hi2,hf,hpre,hI2,hle⟩:=hI0
 have hb2':=hle _ _ _ hb2
 have hb3':=hle _ _ _ hb3
 have hs2:=IsSlice.mono RU8.mono hle hs
 refine Run.cl [] 4 tbo rfl (JL.val rfl rfl (R.ldH S23 rfl hb2') (JL.val rfl rfl (R.lenL U23 rfl (IsSlice.long hs2)) (Run.lcz_s [] 3 tbo rfl (JC.condB rfl (λc=> ?_) (λc=> ?_)))))
 ·
  have hlt:i<m.length:=by have:=of_decide_eq_true c;omega
  have hne:m.drop i≠[]:=λh=>by have:=List.drop_eq_nil_iff.1 h;omega
  obtain⟨f',rfl⟩:∃f',f=f'+1:=⟨f-1,by omega⟩
  rw[chunks_step hne,List.drop_drop]at hpre
  obtain⟨e,he⟩:∃e:Int,e=min N ((m.length:Int)-i):=⟨_,rfl⟩
  have hcut:(m.drop i).take N.toNat=cut m (i:Int) ((i:Int)+e):=by
   unfold cut
   rw[Int.toNat_natCast]
   by_cases h:N≤(m.length:Int)-i
   ·
    rw[show((i:Int)+e).toNat-i=N.toNat by omega]
   ·
    rw[List.take_of_length_le (by rw[List.length_drop];omega),List.take_of_length_le (by rw[List.length_drop];omega)]
  refine Run.cc_s [] 5 tbo rfl ?_
  obtain⟨v1,c1,h1,h2,h3,hs1⟩:=IsSlice.cutv (m':=cut m (i:Int) (m.length:Int)) hs2 rfl ⟨by omega,by omega,Int.le_refl _⟩
  have hl1:((cut m (i:Int) (m.length:Int)).length:Int)=(m.length:Int)-i:=cut_length (by omega) (by omega) (Int.le_refl _)
  refine JC.draw (so:=[]) 7 rfl Mixed trivial (JA.val ⟨by kernel_rfl,by kernel_rfl⟩ (calm_only _) (i:=0) rfl ⟨by kernel_rfl,by kernel_rfl,rfl⟩ trivial (stab_of (Hle.refl _) trivial) (R.ldH S3 rfl hb3') rfl (JA.val ⟨by kernel_rfl,by kernel_rfl⟩ (calm_only _) (i:=1) rfl ⟨by kernel_rfl,by kernel_rfl,rfl⟩ trivial (stab_of (Hle.refl _) trivial) (R.ldH S23 rfl hb2') rfl (JA.val ⟨by kernel_rfl,by kernel_rfl⟩ (calm_only _) (i:=2) rfl ⟨by kernel_rfl,by kernel_rfl,rfl⟩ trivial (stab_of (Hle.refl _) trivial) (R.move rfl) rfl (JA.val ⟨by kernel_rfl,by kernel_rfl⟩ (calm_only _) (i:=3) rfl ⟨by kernel_rfl,by kernel_rfl,rfl⟩ trivial (stab_of (Hle.refl _) trivial) (R.slc (cap:=c1) (a:=(i:Int)) (b:=(m.length:Int)) (c:=(c1:Int)) (m:=m) (R:=RU8) U23 S5 rfl ⟨_,rfl⟩ rfl (by obtain⟨ao,n,e,_⟩:=h1;exact⟨ao,n,e,rfl⟩) ⟨by omega,by omega,h2⟩ h3 (.inl rfl)) rfl (JA.val ⟨by kernel_rfl,by kernel_rfl⟩ (calm_only _) (i:=4) rfl ⟨by kernel_rfl,by kernel_rfl,rfl⟩ trivial (stab_of (Hle.refl _) trivial) (R.lenE U23 rfl ⟨_,IsSlice.long hs1,hl1⟩) rfl (JA.val ⟨by kernel_rfl,by kernel_rfl⟩ (calm_only _) (i:=5) rfl ⟨by kernel_rfl,by kernel_rfl,rfl⟩ trivial (stab_of (Hle.refl _) trivial) (R.min2 rfl rfl) rfl ?_))))))
  rw[←he]
  refine JA.val ⟨by kernel_rfl,by kernel_rfl⟩ (calm_only _) (i:=6) rfl ⟨by kernel_rfl,by kernel_rfl,rfl⟩ trivial (stab_of (Hle.refl _) trivial) (R.assign rfl) rfl (JA.doneN (by kernel_rfl) (JN.next ?_))
  have hw:w64 ((i:Int)+e)=(i:Int)+e:=w64_of (by omega) (by omega)
  obtain⟨v2,c2,ao2,g1,g2,hs3⟩:=IsSlice.cutc (m':=(m.drop i).take N.toNat) hs2 hcut ⟨by omega,by omega,by omega⟩
  subst g2
  refine Run.cl [] 3 tbo rfl (JL.val rfl rfl (R.ldH S23 rfl hb2') (Run.llz [] 4 tbo rfl ?_))
  rw[hw]
  refine Run.llz [] 3 tbo rfl ?_
  rw[hw]
  refine JL.val rfl rfl (R.slc (cap:=c2) (a:=(i:Int)) (b:=(i:Int)+e) (c:=(i:Int)+e) (m:=m) (R:=RU8) U23 S5 rfl ⟨_,rfl⟩ ⟨_,rfl⟩ ⟨_,rfl⟩ ⟨by omega,by omega,Int.le_refl _⟩ g1 (.inr (λh=>by cases h))) (JL.yield (vs:=[_]) (mine:=[]) ((m.drop i).take N.toNat) hY rfl rfl hI2 (⟨⟨ao2,rfl,hs3⟩,_,by rw[←hpre]⟩) rfl rfl (λo17 H17 hle17 hI17=> ?_) (λo17 H17 hle17 hX17=> ?_))
  ·
   refine Run.llz_sbs [] 9 tbo rfl (JL.val rfl rfl (R.ldH S3 rfl (hle17 _ _ _ hb3')) (Run.lnz [] 3 tbo rfl ?_))
   have hw2:w64 ((i:Int)+N)=((i+N.toNat:Nat):Int):=by rw[w64_of (by omega) (by omega)];omega
   refine JN.again (i:=(i,f'+1,pre,o2,H2)) (i+N.toNat,f',pre++ [(m.drop i).take N.toNat],o17,H17) (by
    refine⟨?_,?_,?_,hI17,hle.trans hle17⟩
    ·
     simp only;omega
    ·
     simp only;omega
    ·
     simp only[List.append_assoc,List.singleton_append];exact hpre) (by simp only;omega) (by exact⟨rfl,rfl,rfl,by show some _=some _;rw[hw2],trivial⟩) rfl rfl
  ·
   refine Run.lnz_sbk [] 7 tbo rfl (Run.nnz_kb [] 2 tbo rfl (JN.out0 (.inl rfl) rfl rfl ?_))
   exact⟨hle.trans hle17,.inr ⟨_,⟨chunks N.toNat f' (m.drop (i+N.toNat)),by rw[←hpre];simp⟩,hX17⟩⟩
 ·
  have hge:m.length≤i:=by have:=of_decide_eq_false c;omega
  refine Run.cnz_kkb [] 4 tbo rfl (JN.out0 (.inr rfl) rfl rfl (⟨hle,.inl ⟨pre,?_,hI2⟩⟩))
  rw[←hpre,List.drop_eq_nil_of_le hge,chunks_nil,List.append_nil]
theorem mix_number_ok{a}:Con Tryz.prog 205 false ([.sl false RU8 1 a]) (mix_number a) (λr=> [.w32 r]):=by
 intro H f h i b r hx
 refine Does.enterC Tryz.func205 rfl rfl ?_
 intro w
 unfold mix_number at hx
 refine Run.cl [] 8 tbo rfl ?_
 obtain⟨j,c,hx⟩:=bnd_some hx
 refine JL.callC (vs:=[_,_,_]) (args:=[_,_,_]) (K:=[]) (rst:=[]) E17 rfl rfl rfl picks0 (code_Get_ok a 0 4 _ b _ c) rfl (λk m p d q s=> ?_)
 obtain⟨rfl,rfl,-⟩:=d
 refine Run.ll_s [] 10 tbo rfl (JL.val rfl rfl (R.cv_i64_u32 U3 U22 rfl) (Run.lnz_s [] 4 tbo rfl ?_))
 exact JN.con [] rfl hx rfl rfl
theorem math_bits_RotateLeft32_ok{d c}:Con Tryz.prog 252 true ([.w32 d,.i c]) (math_bits_RotateLeft32 d c) (λr=> [.w32 r]):=by
 intro H r hx
 refine Does.enterC Tryz.func252 rfl rfl ?_
 intro w
 unfold math_bits_RotateLeft32 at hx
 refine Run.cl [] 8 tbo rfl (JL.val rfl rfl (R.cv_i64_u64 U3 U169 rfl) (JL.val rfl rfl (R.and64 (a:=u64i c) (b:=(31:UInt64)) rfl rfl) (Run.ll_s [] 7 tbo rfl (JL.val rfl rfl (R.shl32 (n:=(((u64i c)&&&(31:UInt64)).toNat:Int)) (a:=d) rfl rfl (Int.natCast_nonneg _)) (Run.llz [] 2 tbo rfl (JL.val rfl rfl (R.sub64 (a:=(32:UInt64)) (b:=(u64i c)&&&(31:UInt64)) rfl rfl) (JL.val rfl rfl (R.shr32 (n:=(((32:UInt64)-((u64i c)&&&(31:UInt64))).toNat:Int)) (a:=d) rfl rfl (Int.natCast_nonneg _)) (JL.val rfl rfl (R.or32 (a:=sl32 d ((((u64i c)&&&(31:UInt64)).toNat:Int)).toNat) (b:=sr32 d ((((32:UInt64)-((u64i c)&&&(31:UInt64))).toNat:Int)).toNat) rfl rfl) (Run.lnz_s [] 4 tbo rfl ?_)))))))))
 exact JN.conQ [] rfl hx rfl rfl
theorem mix_words_turned_1_ok (f:Int)(h:Int)(c:A4 UInt32)(H:Heaplet){d:Nat}(r:A4 UInt32)(hx:mix_words_turned_1 f h c=some r):
  Does Tryz.prog 251 #[.int .i64 f,.int .i64 h,.pointer (some ⟨d,0,none⟩)] [[(d,.cells #[.int .u32 (c.e0.toNat:Int),.int .u32 (c.e1.toNat:Int),.int .u32 (c.e2.toNat:Int),.int .u32 (c.e3.toNat:Int)] 244 (0,0))]] H (λu K' H'=>u=.tuple #[]∧K'= [[(d,.cells #[.int .u32 (r.e0.toNat:Int),.int .u32 (r.e1.toNat:Int),.int .u32 (r.e2.toNat:Int),.int .u32 (r.e3.toNat:Int)] 244 (0,0))]]∧H=H'∧True):=by
 refine Does.enterL (vs:=[.int .i64 f,.int .i64 h,.pointer (some ⟨d,0,none⟩)]) (l:=[(0,.int .i64 f),(1,.int .i64 h),(2,.pointer (some ⟨d,0,none⟩))]) Tryz.func251 rfl rfl ⟨rfl,rfl,rfl,trivial⟩ (λw hlt=> ?_)
 unfold mix_words_turned_1 at hx
 refine Run.cl [] 2 tbo rfl (JL.val rfl rfl (R.ixA 0 U244 S22 rfl rfl rfl) (JL.val rfl rfl (R.ldo 0 S22 rfl rfl rfl) (JL.val rfl rfl (R.ixA 1 U244 S22 rfl rfl rfl) (JL.val rfl rfl (R.ldo 0 S22 rfl rfl rfl) (JL.val rfl rfl (R.add32 (a:=c.e0) (b:=c.e1) rfl rfl) (JL.val rfl rfl (R.ixA 0 U244 S22 rfl rfl rfl) (Run.ll_s [0] 5 tbo rfl (JL.val rfl rfl (R.ixA 3 U244 S22 rfl rfl rfl) (JL.val rfl rfl (R.ldo 0 S22 rfl rfl rfl) (JL.val rfl rfl (R.ixA 0 U244 S22 rfl rfl rfl) (JL.val rfl rfl (R.ldo 0 S22 rfl rfl rfl) (JL.val rfl rfl (R.xor32 (a:=c.e3) (b:=c.e0+c.e1) rfl rfl) (JL.val rfl rfl (R.move rfl) (JL.conQ hx E252 rfl math_bits_RotateLeft32_ok rfl trivial ?_))))))))))))))
 intro i j hx
 refine JL.val rfl rfl (R.ixA 3 U244 S22 rfl rfl rfl) (Run.ll_s [0] 5 tbo rfl (JL.val rfl rfl (R.ixA 2 U244 S22 rfl rfl rfl) (JL.val rfl rfl (R.ldo 0 S22 rfl rfl rfl) (JL.val rfl rfl (R.ixA 3 U244 S22 rfl rfl rfl) (JL.val rfl rfl (R.ldo 0 S22 rfl rfl rfl) (JL.val rfl rfl (R.add32 (a:=c.e2) (b:=i) rfl rfl) (JL.val rfl rfl (R.ixA 2 U244 S22 rfl rfl rfl) (Run.llz_s [0] 4 tbo rfl (JL.val rfl rfl (R.ixA 1 U244 S22 rfl rfl rfl) (JL.val rfl rfl (R.ldo 0 S22 rfl rfl rfl) (JL.val rfl rfl (R.ixA 2 U244 S22 rfl rfl rfl) (JL.val rfl rfl (R.ldo 0 S22 rfl rfl rfl) (JL.val rfl rfl (R.xor32 (a:=c.e1) (b:=c.e2+i) rfl rfl) (JL.val rfl rfl (R.move rfl) (JL.conQ hx E252 rfl math_bits_RotateLeft32_ok rfl trivial ?_)))))))))))))))
 intro k m hx
 refine JL.val rfl rfl (R.ixA 1 U244 S22 rfl rfl rfl) (Run.lnz [0] 2 tbo rfl (JN.outP (vs:=[]) (K:=[_]) (rst:=[]) (.inr rfl) rfl rfl rfl (picks 0 rfl picks0) ?_))
 obtain rfl:=Option.some.inj hx
 exact⟨rfl,rfl,rfl,trivial⟩
theorem mix_words_turned_ok{a}:Con Tryz.prog 233 true ([.st 4,.w32 a.e0,.w32 a.e1,.w32 a.e2,.w32 a.e3]) (mix_words_turned a) (λr=> [.st 4,.w32 r.e0,.w32 r.e1,.w32 r.e2,.w32 r.e3]):=by
 intro H r hx
 refine Does.enterC Tryz.func233 rfl rfl ?_
 intro w
 unfold mix_words_turned at hx
 refine Run.cl [] 2 tbo rfl (JL.box rfl rfl (λi j=>JL.alloc Z244 rfl (λk m=>Run.ll_s [] 11 tbo rfl ?_)))
 obtain⟨b,c,hx⟩:=bnd_some hx
 refine JL.callC (vs:=[_,_]) (args:=[_,_,_]) (K:=[_]) (rst:=[_]) E251 rfl rfl rfl (picks 1 rfl picks0) (mix_words_turned_1_ok 15 11 a _ _ c) rfl (λp q s d v x=> ?_)
 obtain⟨rfl,rfl,rfl,-⟩:=d
 refine Run.ll_s [] 5 tbo rfl ?_
 obtain⟨y,f,hx⟩:=bnd_some hx
 refine JL.callC (vs:=[_,_]) (args:=[_,_,_]) (K:=[_]) (rst:=[_]) E251 rfl rfl rfl (picks 0 rfl picks0) (mix_words_turned_1_ok 9 6 b _ _ f) rfl (λz a0 a1 h a2 a3=> ?_)
 obtain⟨rfl,rfl,rfl,-⟩:=h
 refine Run.lnz_s [0,1] 9 tbo rfl ?_
 exact JN.conCQ [1] [] tbo rfl hx rfl rfl
theorem mix_words_often_ok{c f}:Con Tryz.prog 206 true ([.st 4,.w32 c.e0,.w32 c.e1,.w32 c.e2,.w32 c.e3,.i f]) (mix_words_often c f) (λr=> [.st 4,.w32 r.e0,.w32 r.e1,.w32 r.e2,.w32 r.e3]):=by
 intro H r hx
 refine Does.enterC Tryz.func206 rfl rfl ?_
 intro w
 unfold mix_words_often at hx
 refine Run.cl [] 2 tbo rfl (JL.box rfl rfl (λh m=>JL.alloc Z244 rfl (λp q=>Run.lc_s [] 9 tbo rfl (JC.cutX hx [2,4] [0] rfl rfl (λb l0 o0 l o g=>l=l0∧o= [(h,.cells #[.int .u32 (b.1.toNat:Int),.int .u32 (b.2.1.toNat:Int),.int .u32 (b.2.2.1.toNat:Int),.int .u32 (b.2.2.2.toNat:Int)] 244 (0,0))]::o0∧H=g) (λb s hx=> ?_) (λb v hx=> ?_)))))
 ·
  rintro _ _ _ ⟨rfl,rfl,rfl⟩
  refine Run.nnz_s [0,1] 8 tbo rfl ?_
  exact JN.conCQ [1] [] tbo rfl hx rfl rfl
 ·
  refine JC.block (JC.front 1 rfl (JC.loopX [2,4,5] [1] rfl rfl (λl0 o0 a l o g=>l=(6,.int .i64 a.2.2.2.2)::l0∧o= [(h,.cells #[.int .u32 (a.1.toNat:Int),.int .u32 (a.2.1.toNat:Int),.int .u32 (a.2.2.1.toNat:Int),.int .u32 (a.2.2.2.1.toNat:Int)] 244 (0,0))]::o0∧H=g) hx ⟨rfl,rfl,rfl⟩ rfl ?_))
  ·
   rintro x a _ _ _ ⟨rfl,rfl,rfl⟩ y hx j
   unfold mix_words_often_l1 at hx
   refine Run.cc [] 6 tbo rfl (JC.ifx hx rfl (λk hx=> ?_) (λk hx=> ?_))
   ·
    refine Run.cl_s [0] 6 tbo rfl (JL.conQ hx E233 rfl mix_words_turned_ok rfl trivial ?_)
    intro d z hx
    refine Run.lnz_bs [0] 8 tbo rfl ?_
    replace hx:=run_next j hx
    refine JN.front 1 rfl (JN.front 1 rfl ?_)
    exact JN.cutR ⟨(d.e0,d.e1,d.e2,d.e3,w64 (a.2.2.2.2+1)),⟨rfl,rfl,rfl⟩,hx⟩ rfl rfl rfl
   ·
    refine Run.cnz_k [] 2 tbo rfl ?_
    obtain rfl:=run_done j hx
    refine Run.nnz_kb [] 2 tbo rfl (JN.front 1 rfl (JN.front 1 rfl ?_))
    exact JN.cutR ⟨rfl,rfl,rfl⟩ rfl rfl rfl
theorem mix_four_ok (a4:List UInt8)(H:Heaplet){s:Option Addr}{v:Nat}{x:Nat}(c5:IsSlice H RU8 1 (.slice s v x) a4)(r:A4 UInt32)(hx:mix_four a4=some r):
  Does Tryz.prog 171 #[.slice s v x] [] H (λu K' H'=>u=.agg #[.int .u32 (r.e0.toNat:Int),.int .u32 (r.e1.toNat:Int),.int .u32 (r.e2.toNat:Int),.int .u32 (r.e3.toNat:Int)]∧K'= []∧True):=by
 refine Does.enterML (vs:=[.slice s v x]) (l:=[(0,.slice s v x)]) Tryz.func171 rfl rfl ⟨rfl,trivial⟩ (λw hlt=> ?_)
 unfold mix_four at hx
 refine Run.cl [] 2 tbo rfl (JL.alloc Z244 rfl (λc6 j6=>Run.ll_s [] 4 tbo rfl (JL.val rfl rfl (R.bldA (vs:=[(0,.int .u32 ((1:UInt32).toNat:Int)),(1,.int .u32 ((2:UInt32).toNat:Int)),(2,.int .u32 ((3:UInt32).toNat:Int)),(3,.int .u32 ((4:UInt32).toNat:Int))]) (cells:=#[.int .u32 ((1:UInt32).toNat:Int),.int .u32 ((2:UInt32).toNat:Int),.int .u32 ((3:UInt32).toNat:Int),.int .u32 ((4:UInt32).toNat:Int)]) Z244 B244 rfl rfl rfl rfl) (JL.alloc Z244 rfl (λb0 j7=>Run.ll_s [0] 6 tbo rfl ?_)))))
 obtain⟨j8,d9,hx⟩:=bnd_some hx
 refine JL.callC (vs:=[_]) (args:=[_]) (K:=[]) (rst:=[_,_]) E15 rfl rfl rfl picks0 (slices_Clone_byte_ok a4 _ c5 _ d9) rfl (λj9 k0 k1 e4 k2 e5=> ?_)
 obtain⟨k3,k4,k5,k6,rfl,rfl,rfl,b1,e6,-⟩:=e4
 replace b1:=(RowOf.base (RowOf.const (H2:=New H H) RU8.const b1) (λp hp=>(e5 p (mem_seg 0 rfl hp)).resolve_left (e6 p hp)))
 refine JL.pubN 0 RU8.mono rfl b1 (Nat.le_refl _) (λf k7 e7=>JL.forget 0 (JL.conQ hx E204 rfl slices_Clip_byte_ok rfl ⟨(e7.old RU8.mono),trivial⟩ ?_))
 intro k8 k9 hx l1 l2 e8
 refine JL.bslF (HF:=(New H f)) (R:=RU8) (ls:=[(1:UInt8)]) (vs:=[.int .u8 ((1:UInt8).toNat:Int)]) U23 I5 rfl rfl (⟨_,_,rfl,rfl,rfl,rfl⟩) RU8.one rfl rfl rfl (by simp[maxLen]) rfl (λl3 l4 c7=> ?_)
 obtain⟨l5,l6,rfl⟩:=RowOf.val c7
 obtain⟨e9,f0,f1,hx⟩:=app_some hx
 refine JL.appC (HF:=(New H f)) U23 I5 rfl RU8.one (Hle.refl _) e8 (λ_ _ h=>RU8.const _ _ _ _ h) rfl (SrcF.row 0 U23 rfl (RowOf.const RU8.const c7)) (List.cons_ne_nil _ _) f0 f1 rfl rfl (λl7 f2 c8=> ?_)
 obtain⟨f3,f4,rfl⟩:=RowOf.val c8
 refine Run.lc_s [] 4 tbo rfl (JC.cutX hx [0,2,3] [3,2] rfl rfl (λz l0 o0 l o g=>∃b2:Option Addr,∃b3:Nat,∃b4:Nat,∃b5:Own,l=(4,.slice b2 b3 b4)::l0∧o=b5::o0∧f=g∧RowOf (New H f) RU8 w.heap.size 5 1 (.slice b2 b3 b4) z b5) (λz l8 hx=> ?_) (λz l9 hx=> ?_))
 ·
  rintro _ _ _ ⟨b2,b3,b4,b5,rfl,rfl,rfl,f5⟩
  refine Run.nl_s [] 5 tbo rfl (JL.pubN 0 RU8.mono rfl f5 (Nat.le_refl _) (λm0 m1 c9=>JL.forget 0 ?_))
  obtain⟨m2,f6,hx⟩:=bnd_some hx
  refine JL.callC (vs:=[_,_]) (args:=[_,_]) (K:=[]) (rst:=[_,_]) E153 rfl rfl rfl picks0 (slices_Chunk_byte_ok z 8 _ (c9.old RU8.mono) _ f6) rfl (λm3 m4 d0 f7 f8 m5=> ?_)
  obtain⟨m6,m7,rfl,rfl,f9,g0,g1,-⟩:=f7
  refine Run.lc_s [] 3 tbo rfl ?_
  obtain⟨g2,g3,hx⟩:=bnd_some hx
  refine JC.front 1 rfl (JC.rangeL (RA:=λH' args (y:List UInt8)=>∃ao:Option Addr,args= #[.slice ao y.length y.length]∧IsSlice H' RU8 1 (.slice ao y.length y.length) y) rfl mix_four_r2 ((1:UInt32),(2:UInt32),(3:UInt32),(4:UInt32)) g2 g3 (λd o g=>∃a0:Heaplet,o= [[(b0,.cells #[.int .u32 (d.1.toNat:Int),.int .u32 (d.2.1.toNat:Int),.int .u32 (d.2.2.1.toNat:Int),.int .u32 (d.2.2.2.toNat:Int)] 244 (0,0))],[(c6,.cells #[.int .u32 ((0:UInt32).toNat:Int),.int .u32 ((0:UInt32).toNat:Int),.int .u32 ((0:UInt32).toNat:Int),.int .u32 ((0:UInt32).toNat:Int)] 244 (0,0))]]∧a0=g∧Hle d0 a0) (λe c o g=>False) rfl E194 (slices_Chunk_byte_it z 8 g1 _ ((c9.mono RU8.mono (New.mono f8)).old RU8.mono) f9 g0) (λ_ _ _ h=>by obtain⟨_,h,_⟩:=h;rw[h];rfl) rfl ⟨d0,rfl,rfl,(Hle.refl _)⟩ ?_ ?_ ?_)
  ·
   rintro m8 a1 d args o g m9 ⟨a0,rfl,rfl,b6⟩ hA hx2
   clear hx;have hx:=hx2;clear hx2;unfold mix_four_r2 at hx
   obtain⟨g4,rfl,d1⟩:=hA
   refine⟨[(0,.slice s v x),(2,.pointer (some ⟨c6,0,none⟩)),(3,.pointer (some ⟨b0,0,none⟩)),(5,.slice g4 a1.length a1.length)],λg5 g6=> ?_,λg5 g6=> ?_⟩
   ·
    refine Run.cnz [] 3 tbo rfl ?_
    exact JN.assigned ⟨rfl,rfl,rfl,rfl,trivial⟩
   ·
    refine Run.cc [] 2 tbo rfl (JC.cutX hx [0,2,3,5] [1] rfl rfl (λb7 l0 o0 l o g=>∃b8:Heaplet,l=l0∧o= [(b0,.cells #[.int .u32 (b7.toNat:Int),.int .u32 (d.2.1.toNat:Int),.int .u32 (d.2.2.1.toNat:Int),.int .u32 (d.2.2.2.toNat:Int)] 244 (0,0))]::o0∧b8=g∧Hle a0 b8) (λb7 n0 hx=> ?_) (λb7 n1 hx=> ?_))
    ·
     rintro _ _ _ ⟨b8,rfl,rfl,rfl,b9⟩
     refine Run.nc_s [] 2 tbo rfl (JC.draw (so:=[_]) 8 rfl Mixed ⟨⟨1,rfl⟩,trivial⟩ (JA.val ⟨by kernel_rfl,by kernel_rfl⟩ (calm_only _) (i:=0) rfl ⟨by kernel_rfl,by kernel_rfl,rfl⟩ trivial (stab_of (Hle.refl _) ⟨⟨1,rfl⟩,trivial⟩) (R.ixA 2 U244 S22 rfl rfl rfl) rfl (JA.val ⟨by kernel_rfl,by kernel_rfl⟩ (calm_only _) (i:=2) rfl ⟨by kernel_rfl,by kernel_rfl,rfl⟩ trivial (stab_of (Hle.refl _) ⟨⟨1,rfl⟩,trivial⟩) (R.move rfl) rfl ?_)))
     obtain⟨n2,g7,c0,hx⟩:=slc_some hx
     obtain⟨n3,d2,h1v_59,h2v_59,h3v_59,c1⟩:=IsSlice.cutv (d1.mono RU8.mono b9) g7 c0
     refine JA.val ⟨by kernel_rfl,by kernel_rfl⟩ (calm_only _) (i:=3) rfl ⟨by kernel_rfl,by kernel_rfl,rfl⟩ trivial (stab_of (Hle.refl _) ⟨⟨1,rfl⟩,trivial⟩) (R.slc (cap:=d2) (a:=4) (b:=(a1.length:Int)) (c:=(d2:Int)) (m:=a1) (R:=RU8) U23 S5 rfl ⟨_,rfl⟩ rfl (by obtain⟨ao,n,e,_⟩:=h1v_59;exact⟨ao,n,e,rfl⟩) ⟨c0.1,c0.2.1,h2v_59⟩ h3v_59 (.inl rfl)) rfl ?_
     obtain⟨n4,n5,rfl⟩:=IsSlice.val c1
     refine JA.two (i:=1) (j:=4) (by kernel_rfl) ?_ ?_
     ·
      refine JO.step rfl trivial rfl (λK hK=>Run.lnz [0] 2 tbo rfl (hK _ _ _ (stab_of (Hle.refl _) ⟨⟨1,rfl⟩,trivial⟩) (JA.one (i:=4) (by kernel_rfl) (JO.step rfl trivial rfl (λK hK=> ?_)))))
      obtain⟨g8,g9,hx⟩:=bnd_some hx
      refine JL.callC (vs:=[_]) (args:=[_]) (K:=[]) (rst:=[_,_]) E205 rfl rfl rfl picks0 (mix_number_ok.doesX rfl ⟨c1,trivial⟩ g9) rfl (λn6 n7 h0 h1 a2 n8=> ?_)
      obtain⟨rfl,rfl,-⟩:=h1
      refine JL.nil (hK _ _ _ (stab_of a2 ⟨⟨1,rfl⟩,trivial⟩) (JA.val ⟨by kernel_rfl,by kernel_rfl⟩ (calm_only _) (i:=5) rfl ⟨by kernel_rfl,by kernel_rfl,rfl⟩ trivial (stab_of a2 ⟨⟨1,rfl⟩,trivial⟩) (R.xor32 (a:=d.2.2.1) (b:=g8) rfl rfl) rfl (JA.val ⟨by kernel_rfl,by kernel_rfl⟩ (calm_only _) (i:=6) rfl ⟨by kernel_rfl,by kernel_rfl,rfl⟩ trivial (stab_of a2 ⟨⟨1,rfl⟩,trivial⟩) (R.ixA 2 U244 S22 rfl rfl rfl) rfl (JA.one (i:=7) (by kernel_rfl) (JO.step rfl trivial rfl (λK hK=> ?_))))))
      refine Run.lnz [0] 2 tbo rfl (hK _ _ _ (stab_of a2 ⟨⟨1,rfl⟩,trivial⟩) (JA.doneN (by kernel_rfl) ?_))
      refine Run.nlz_s [0] 3 tbo rfl ?_
      obtain⟨n9,h2,hx⟩:=bnd_some hx
      refine JL.callC (vs:=[_,_]) (args:=[_,_]) (K:=[]) (rst:=[_,_]) E206 rfl rfl rfl picks0 (mix_words_often_ok.doesX rfl trivial h2) rfl (λo1 o2 o3 h3 o4 o5=> ?_)
      obtain⟨rfl,rfl,rfl⟩:=h3
      refine Run.lnz_b [0] 3 tbo rfl ?_
      obtain rfl:=Option.some.inj hx
      refine JN.front 1 rfl (JN.front 1 rfl ?_)
      exact JN.rN ⟨h0,rfl,rfl,((b6.trans (b9.trans a2)))⟩
     ·
      refine JO.step rfl trivial rfl (λK hK=> ?_)
      obtain⟨h4,h5,hx⟩:=bnd_some hx
      refine JL.callC (vs:=[_]) (args:=[_]) (K:=[]) (rst:=[_,_]) E205 rfl rfl rfl picks0 (mix_number_ok.doesX rfl ⟨c1,trivial⟩ h5) rfl (λo6 o7 h6 h7 k o8=> ?_)
      obtain⟨rfl,rfl,-⟩:=h7
      refine JL.nil (hK _ _ _ (stab_of k ⟨⟨1,rfl⟩,trivial⟩) (JA.one (i:=1) (by kernel_rfl) (JO.step rfl trivial rfl (λK hK=> ?_))))
      refine Run.lnz [0] 2 tbo rfl (hK _ _ _ (stab_of k ⟨⟨1,rfl⟩,trivial⟩) (JA.val ⟨by kernel_rfl,by kernel_rfl⟩ (calm_only _) (i:=5) rfl ⟨by kernel_rfl,by kernel_rfl,rfl⟩ trivial (stab_of k ⟨⟨1,rfl⟩,trivial⟩) (R.xor32 (a:=d.2.2.1) (b:=h4) rfl rfl) rfl (JA.val ⟨by kernel_rfl,by kernel_rfl⟩ (calm_only _) (i:=6) rfl ⟨by kernel_rfl,by kernel_rfl,rfl⟩ trivial (stab_of k ⟨⟨1,rfl⟩,trivial⟩) (R.ixA 2 U244 S22 rfl rfl rfl) rfl (JA.one (i:=7) (by kernel_rfl) (JO.step rfl trivial rfl (λK hK=> ?_))))))
      refine Run.lnz [0] 2 tbo rfl (hK _ _ _ (stab_of k ⟨⟨1,rfl⟩,trivial⟩) (JA.doneN (by kernel_rfl) ?_))
      refine Run.nlz_s [0] 3 tbo rfl ?_
      obtain⟨o9,h8,hx⟩:=bnd_some hx
      refine JL.callC (vs:=[_,_]) (args:=[_,_]) (K:=[]) (rst:=[_,_]) E206 rfl rfl rfl picks0 (mix_words_often_ok.doesX rfl trivial h8) rfl (λp0 p1 p2 h9 p3 p4=> ?_)
      obtain⟨rfl,rfl,rfl⟩:=h9
      refine Run.lnz_b [0] 3 tbo rfl ?_
      obtain rfl:=Option.some.inj hx
      refine JN.front 1 rfl (JN.front 1 rfl ?_)
      exact JN.rN ⟨h6,rfl,rfl,((b6.trans (b9.trans k)))⟩
    ·
     refine JC.draw (so:=[_]) 8 rfl Mixed ⟨⟨1,rfl⟩,trivial⟩ (JA.val ⟨by kernel_rfl,by kernel_rfl⟩ (calm_only _) (i:=0) rfl ⟨by kernel_rfl,by kernel_rfl,rfl⟩ trivial (stab_of (Hle.refl _) ⟨⟨1,rfl⟩,trivial⟩) (R.ixA 0 U244 S22 rfl rfl rfl) rfl (JA.val ⟨by kernel_rfl,by kernel_rfl⟩ (calm_only _) (i:=2) rfl ⟨by kernel_rfl,by kernel_rfl,rfl⟩ trivial (stab_of (Hle.refl _) ⟨⟨1,rfl⟩,trivial⟩) (R.move rfl) rfl ?_))
     obtain⟨p5,i0,c2,hx⟩:=slc_some hx
     obtain⟨p6,d3,h1v_48,h2v_48,h3v_48,c3⟩:=IsSlice.cutv d1 i0 c2
     refine JA.val ⟨by kernel_rfl,by kernel_rfl⟩ (calm_only _) (i:=3) rfl ⟨by kernel_rfl,by kernel_rfl,rfl⟩ trivial (stab_of (Hle.refl _) ⟨⟨1,rfl⟩,trivial⟩) (R.slc (cap:=d3) (a:=0) (b:=4) (c:=(d3:Int)) (m:=a1) (R:=RU8) U23 S5 rfl rfl ⟨_,rfl⟩ (by obtain⟨ao,n,e,_⟩:=h1v_48;exact⟨ao,n,e,rfl⟩) ⟨c2.1,c2.2.1,h2v_48⟩ h3v_48 (.inl rfl)) rfl ?_
     obtain⟨p7,p8,rfl⟩:=IsSlice.val c3
     refine JA.two (i:=1) (j:=4) (by kernel_rfl) ?_ ?_
     ·
      refine JO.step rfl trivial rfl (λK hK=>Run.lnz [0] 2 tbo rfl (hK _ _ _ (stab_of (Hle.refl _) ⟨⟨1,rfl⟩,trivial⟩) (JA.one (i:=4) (by kernel_rfl) (JO.step rfl trivial rfl (λK hK=> ?_)))))
      obtain⟨i1,i2,hx⟩:=bnd_some hx
      refine JL.callC (vs:=[_]) (args:=[_]) (K:=[]) (rst:=[_,_]) E205 rfl rfl rfl picks0 (mix_number_ok.doesX rfl ⟨c3,trivial⟩ i2) rfl (λp9 q0 i3 i4 a3 q1=> ?_)
      obtain⟨rfl,rfl,-⟩:=i4
      refine JL.nil (hK _ _ _ (stab_of a3 ⟨⟨1,rfl⟩,trivial⟩) (JA.val ⟨by kernel_rfl,by kernel_rfl⟩ (calm_only _) (i:=5) rfl ⟨by kernel_rfl,by kernel_rfl,rfl⟩ trivial (stab_of a3 ⟨⟨1,rfl⟩,trivial⟩) (R.xor32 (a:=d.1) (b:=i1) rfl rfl) rfl (JA.val ⟨by kernel_rfl,by kernel_rfl⟩ (calm_only _) (i:=6) rfl ⟨by kernel_rfl,by kernel_rfl,rfl⟩ trivial (stab_of a3 ⟨⟨1,rfl⟩,trivial⟩) (R.ixA 0 U244 S22 rfl rfl rfl) rfl (JA.one (i:=7) (by kernel_rfl) (JO.step rfl trivial rfl (λK hK=> ?_))))))
      refine Run.lnz [0] 2 tbo rfl (hK _ _ _ (stab_of a3 ⟨⟨1,rfl⟩,trivial⟩) (JA.doneN (by kernel_rfl) ?_))
      obtain rfl:=Option.some.inj hx
      refine JN.front 1 rfl (JN.front 1 rfl ?_)
      exact JN.cutR ⟨i3,rfl,rfl,rfl,(a3)⟩ rfl rfl rfl
     ·
      refine JO.step rfl trivial rfl (λK hK=> ?_)
      obtain⟨i5,i6,hx⟩:=bnd_some hx
      refine JL.callC (vs:=[_]) (args:=[_]) (K:=[]) (rst:=[_,_]) E205 rfl rfl rfl picks0 (mix_number_ok.doesX rfl ⟨c3,trivial⟩ i6) rfl (λq2 q3 i7 i8 q q4=> ?_)
      obtain⟨rfl,rfl,-⟩:=i8
      refine JL.nil (hK _ _ _ (stab_of q ⟨⟨1,rfl⟩,trivial⟩) (JA.one (i:=1) (by kernel_rfl) (JO.step rfl trivial rfl (λK hK=> ?_))))
      refine Run.lnz [0] 2 tbo rfl (hK _ _ _ (stab_of q ⟨⟨1,rfl⟩,trivial⟩) (JA.val ⟨by kernel_rfl,by kernel_rfl⟩ (calm_only _) (i:=5) rfl ⟨by kernel_rfl,by kernel_rfl,rfl⟩ trivial (stab_of q ⟨⟨1,rfl⟩,trivial⟩) (R.xor32 (a:=d.1) (b:=i5) rfl rfl) rfl (JA.val ⟨by kernel_rfl,by kernel_rfl⟩ (calm_only _) (i:=6) rfl ⟨by kernel_rfl,by kernel_rfl,rfl⟩ trivial (stab_of q ⟨⟨1,rfl⟩,trivial⟩) (R.ixA 0 U244 S22 rfl rfl rfl) rfl (JA.one (i:=7) (by kernel_rfl) (JO.step rfl trivial rfl (λK hK=> ?_))))))
      refine Run.lnz [0] 2 tbo rfl (hK _ _ _ (stab_of q ⟨⟨1,rfl⟩,trivial⟩) (JA.doneN (by kernel_rfl) ?_))
      obtain rfl:=Option.some.inj hx
      refine JN.front 1 rfl (JN.front 1 rfl ?_)
      exact JN.cutR ⟨i7,rfl,rfl,rfl,(q)⟩ rfl rfl rfl
  ·
   rintro i9 d o g q5 htt ⟨a0,rfl,rfl,b6⟩ hle2
   subst htt;simp only[Sum.elim_inl]at hx
   refine Run.nl_bs [] 4 tbo rfl (JL.val rfl rfl (R.ixA 1 U244 S22 rfl rfl rfl) (Run.llz [1] 2 tbo rfl (JL.val rfl rfl (R.lenL U23 rfl (IsSlice.long c5)) (JL.val rfl rfl (R.cv_i64_u32 U3 U22 rfl) (JL.val rfl rfl (R.xor32 (a:=d.2.1) (b:=u32i (a4.length:Int)) rfl rfl) (JL.val rfl rfl (R.ixA 1 U244 S22 rfl rfl rfl) (Run.ll_s [1,1] 6 tbo rfl (JL.conQ hx E206 rfl mix_words_often_ok rfl trivial ?_))))))))
   intro a5 q6 hx
   refine Run.lnz_s [2] 4 tbo rfl (JN.outMP (vs:=[.agg #[.int .u32 (a5.e0.toNat:Int),.int .u32 (a5.e1.toNat:Int),.int .u32 (a5.e2.toNat:Int),.int .u32 (a5.e3.toNat:Int)]]) (K:=[]) (rst:=[_,_]) (own2:=[_,_]) [i9] (.inl rfl) ⟨rfl,rfl,rfl,rfl⟩ rfl rfl (picks 0 rfl picks0) (Res.cellN 1 rfl rfl S244 rfl) picks0 ?_)
   obtain rfl:=Option.some.inj hx
   exact⟨rfl,rfl,trivial⟩
  ·
   rintro D c e o g hD htt hX;exact hX.elim
 ·
  refine JC.block (JC.forget 1 (JC.front 1 rfl (JC.front 2 rfl (JC.front 2 rfl (JC.loopX [0,2,3] [1,2] rfl rfl (λl0 o0 d4 l o g=>∃a6:Option Addr,∃a7:Nat,∃a8:Nat,∃a9:Own,l=(4,.slice a6 a7 a8)::l0∧o=a9::o0∧f=g∧RowOf (New H f) RU8 w.heap.size 5 1 (.slice a6 a7 a8) d4 a9) hx ⟨f3,e9.length,f4,f2,rfl,rfl,rfl,c8⟩ rfl ?_)))))
  ·
   rintro q7 d4 _ _ _ ⟨a6,a7,a8,a9,rfl,rfl,rfl,c4⟩ q8 hx d5
   unfold mix_four_l1 at hx
   refine Run.cl [] 4 tbo rfl (JL.val rfl rfl (R.lenL U23 rfl (RowOf.long c4)) (JL.val rfl rfl (R.rem_i rfl rfl (by decide)) ?_))
   refine Run.lcz_s [] 3 tbo rfl (JC.ifx hx rfl (λj0 hx=> ?_) (λj0 hx=> ?_))
   ·
    refine Run.cl_s [] 5 tbo rfl (JL.bslF (HF:=(New H f)) (R:=RU8) (ls:=[(0:UInt8)]) (vs:=[.int .u8 ((0:UInt8).toNat:Int)]) U23 I5 rfl rfl (⟨_,_,rfl,rfl,rfl,rfl⟩) RU8.one rfl rfl rfl (by simp[maxLen]) rfl (λq9 r0 d6=> ?_))
    obtain⟨r1,r2,rfl⟩:=RowOf.val d6
    obtain⟨d7,j1,j2,hx⟩:=app_some hx
    refine JL.appF (HF:=(New H f)) 1 U23 I5 rfl rfl c4 rfl (SrcF.row 0 U23 rfl d6) j1 j2 rfl (Nat.le_refl _) rfl (λr3 j3 d8=> ?_)
    obtain⟨j4,j5,rfl⟩:=RowOf.val d8
    refine Run.lnz_b [] 3 tbo rfl ?_
    replace hx:=run_next d5 hx
    refine JN.forget 0 (JN.front 2 rfl (JN.front 2 rfl (JN.front 2 rfl ?_)))
    exact JN.cutR ⟨d7,⟨j4,d7.length,j5,j3,rfl,rfl,rfl,d8⟩,hx⟩ rfl rfl rfl
   ·
    refine Run.cnz_k [] 2 tbo rfl ?_
    obtain rfl:=run_done d5 hx
    refine Run.nnz_kb [] 2 tbo rfl (JN.front 2 rfl (JN.front 2 rfl (JN.front 2 rfl ?_)))
    exact JN.cutR ⟨a6,a7,a8,a9,rfl,rfl,rfl,c4⟩ rfl rfl rfl
theorem code_Put_ok (h:Int)(b:Int)(H:Heaplet)(r:List UInt8×Int)(hx:code_Put h b=some r):
  Does Tryz.prog 57 #[.int .i64 h,.int .i64 b] [] H (λu K' H'=>∃ao0:Option Addr,∃n0:Nat,∃cap0:Nat,∃K0:Own,u=.tuple #[.slice ao0 n0 cap0,.int .i64 r.2]∧K'= [K0]∧H=H'∧RowOf (New H H) RU8 0 5 1 (.slice ao0 n0 cap0) r.1 K0∧(∀p∈K0,p.1∉ids (List.flatten []))∧True):=by
 refine Does.enterL (vs:=[.int .i64 h,.int .i64 b]) (l:=[(0,.int .i64 h),(1,.int .i64 b)]) Tryz.func57 rfl rfl ⟨rfl,rfl,trivial⟩ (λw hlt=> ?_)
 unfold code_Put at hx
 refine Run.cl [] 10 tbo rfl (JL.conQ hx E31 rfl code_sized_ok rfl trivial ?_)
 intro b2 b3 hx
 refine Run.llz [] 2 tbo rfl (JL.gX 10 hx rfl (λa2 hx=> ?_) (λa2 hx=> ?_))
 ·
  refine Run.lnz_sk [] 21 tbo rfl (JN.seg0 (JN.outP (vs:=[.slice none 0 0,.int .i64 2]) (K:=[_]) (rst:=[]) (.inl rfl) rfl rfl (Res.tmp rfl (Res.tmp rfl rfl)) (picks 0 rfl picks0) ?_))
  obtain rfl:=Option.some.inj hx
  exact⟨none,0,0,[],rfl,rfl,rfl,(RowOf.nil _ _ _ _ _),(λp hp=>by cases hp),trivial⟩
 ·
  refine Run.llz [] 6 tbo rfl (JL.gX 14 hx rfl (λa3 hx=> ?_) (λa3 hx=> ?_))
  ·
   refine Run.lnz_sk [] 17 tbo rfl (JN.seg0 (JN.outP (vs:=[.slice none 0 0,.int .i64 2]) (K:=[_]) (rst:=[]) (.inl rfl) rfl rfl (Res.tmp rfl (Res.tmp rfl rfl)) (picks 0 rfl picks0) ?_))
   obtain rfl:=Option.some.inj hx
   exact⟨none,0,0,[],rfl,rfl,rfl,(RowOf.nil _ _ _ _ _),(λp hp=>by cases hp),trivial⟩
  ·
   refine Run.llz [] 7 tbo rfl ?_
   obtain⟨a4,hx⟩:=chk_some hx
   refine JL.val rfl rfl (R.shl_i (n:=(w64 (8*b))) rfl rfl a4) (Run.lcz_s [] 5 tbo rfl (JC.ifx hx rfl (λa5 hx=> ?_) (λa5 hx=> ?_)))
   ·
    refine Run.cnz_k [] 8 tbo rfl (JN.seg0 (JN.outP (vs:=[.slice none 0 0,.int .i64 2]) (K:=[_]) (rst:=[]) (.inl rfl) rfl rfl (Res.tmp rfl (Res.tmp rfl rfl)) (picks 0 rfl picks0) ?_))
    obtain rfl:=Option.some.inj hx
    exact⟨none,0,0,[],rfl,rfl,rfl,(RowOf.nil _ _ _ _ _),(λp hp=>by cases hp),trivial⟩
   ·
    refine Run.cc_s [] 8 tbo rfl (JC.cutX hx [] [] rfl rfl (λs l0 o0 l o g=>∃c:Option Addr,∃d:Nat,∃f:Nat,∃i:Own,l=(6,.slice c d f)::l0∧o=i::o0∧H=g∧RowOf (New H H) RU8 w.heap.size 5 1 (.slice c d f) s i) (λs b4 hx=> ?_) (λs b5 hx=> ?_))
    ·
     rintro _ _ _ ⟨c,d,f,i,rfl,rfl,rfl,x⟩
     refine Run.nnz_s [] 9 tbo rfl (JN.outP (vs:=[.slice c d f,.int .i64 0]) (K:=[_]) (rst:=[]) (.inl rfl) rfl rfl (Res.tmp rfl (Res.tmp rfl rfl)) (picks 0 rfl picks0) ?_)
     obtain rfl:=Option.some.inj hx
     exact⟨c,d,f,i,rfl,rfl,rfl,(RowOf.weak (Nat.zero_le _) x),(new_ids x hlt),trivial⟩
    ·
     refine JC.block (JC.seg0 (JC.loopX [1] [] rfl rfl (λl0 o0 a l o g=>∃j:Option Addr,∃k:Nat,∃m:Nat,∃q:Own,l=(0,.int .i64 a.1)::(6,.slice j k m)::l0∧o=q::o0∧H=g∧RowOf (New H H) RU8 w.heap.size 5 1 (.slice j k m) a.2 q) hx ⟨none,0,0,[],rfl,rfl,rfl,(RowOf.nil _ _ _ _ _)⟩ rfl ?_))
     ·
      rintro b6 a _ _ _ ⟨j,k,m,q,rfl,rfl,rfl,v⟩ b7 hx y
      unfold code_Put_l1 at hx
      refine Run.cl [] 4 tbo rfl (JL.val rfl rfl (R.lenL U23 rfl (RowOf.long v)) (Run.lcz_s [] 4 tbo rfl (JC.ifx hx rfl (λa6 hx=> ?_) (λa6 hx=> ?_))))
      ·
       refine Run.cl_s [] 7 tbo rfl (JL.val rfl rfl (R.cv_i64_u8 U3 U5 rfl) (JL.bslF (HF:=(New H H)) (R:=RU8) (ls:=[u8i a.1]) (vs:=[.int .u8 ((u8i a.1).toNat:Int)]) U23 I5 rfl rfl (⟨_,_,rfl,rfl,rfl,rfl⟩) RU8.one rfl rfl rfl (by simp[maxLen]) rfl (λb8 b9 z=> ?_)))
       obtain⟨c0,c1,rfl⟩:=RowOf.val z
       obtain⟨a0,a7,a8,hx⟩:=app_some hx
       refine JL.appF (HF:=(New H H)) 1 U23 I5 rfl rfl v rfl (SrcF.row 0 U23 rfl z) a7 a8 rfl (Nat.le_refl _) rfl (λc2 a9 a1=> ?_)
       obtain⟨b0,b1,rfl⟩:=RowOf.val a1
       refine Run.llz_bs [] 6 tbo rfl (JL.val rfl rfl (R.quo_i rfl rfl (by decide)) ?_)
       refine Run.lnz [] 2 tbo rfl ?_
       replace hx:=run_next y hx
       refine JN.forget 0 ?_
       exact JN.cutR ⟨(w64 (a.1.tdiv 256),a0),⟨b0,a0.length,b1,a9,rfl,rfl,rfl,a1⟩,hx⟩ rfl rfl rfl
      ·
       refine Run.cnz_k [] 2 tbo rfl ?_
       obtain rfl:=run_done y hx
       refine Run.nnz_kb [] 2 tbo rfl ?_
       exact JN.cutR ⟨j,k,m,q,rfl,rfl,rfl,v⟩ rfl rfl rfl
theorem mix_Key_ok (y:List UInt8)(H:Heaplet){h:Option Addr}{i:Nat}{j:Nat}(a8:IsSlice H RU8 1 (.slice h i j) y)(r:List UInt8)(hx:mix_Key y=some r):
  Does Tryz.prog 120 #[.slice h i j] [] H (λu K' H'=>∃ao0:Option Addr,∃n0:Nat,∃cap0:Nat,∃K0:Own,u=.slice ao0 n0 cap0∧K'= [K0]∧RowOf (New H H') RU8 0 5 1 (.slice ao0 n0 cap0) r K0∧(∀p∈K0,p.1∉ids (List.flatten []))∧True):=by
 refine Does.enterL (vs:=[.slice h i j]) (l:=[(0,.slice h i j)]) Tryz.func120 rfl rfl ⟨rfl,trivial⟩ (λw hlt=> ?_)
 unfold mix_Key at hx
 refine Run.cl [] 14 tbo rfl ?_
 obtain⟨a9,b0,hx⟩:=bnd_some hx
 refine JL.callC (vs:=[_]) (args:=[_]) (K:=[]) (rst:=[]) E171 rfl rfl rfl picks0 (mix_four_ok y _ a8 _ b0) rfl (λc2 c3 b b1 c4 c5=> ?_)
 obtain⟨rfl,rfl,-⟩:=b1
 refine Run.lcz_s [] 3 tbo rfl (JC.cutX hx [] [] rfl rfl (λz l0 o0 l o g=>∃c:Option Addr,∃d:Nat,∃f:Nat,∃k:Own,l=(3,.slice c d f)::l0∧o=k::o0∧b=g∧RowOf (New H b) RU8 w.heap.size 5 1 (.slice c d f) z k) (λz c6 hx=> ?_) (λz c7 hx=> ?_))
 ·
  rintro _ _ _ ⟨c,d,f,k,rfl,rfl,rfl,a1⟩
  refine Run.nnz_s [] 8 tbo rfl (JN.outP (vs:=[.slice c d f]) (K:=[_]) (rst:=[]) (.inl rfl) rfl rfl (Res.tmp rfl rfl) (picks 0 rfl picks0) ?_)
  obtain rfl:=Option.some.inj hx
  exact⟨c,d,f,k,rfl,rfl,(RowOf.weak (Nat.zero_le _) a1),(new_ids a1 hlt),trivial⟩
 ·
  refine JC.block (JC.seg0 (JC.loopX [9] [] rfl rfl (λl0 o0 m l o g=>∃q:Option Addr,∃s:Nat,∃v:Nat,∃x:Own,l=(3,.slice q s v)::(10,.int .i64 ((m.2:Nat):Int))::l0∧o=x::o0∧b=g∧RowOf (New H b) RU8 w.heap.size 5 1 (.slice q s v) m.1 x) hx ⟨none,0,0,[],rfl,rfl,rfl,(RowOf.nil _ _ _ _ _)⟩ rfl ?_))
  ·
   rintro c8 m _ _ _ ⟨q,s,v,x,rfl,rfl,rfl,a2⟩ c9 hx a3
   unfold mix_Key_l1 at hx
   refine Run.cc [] 6 tbo rfl (JC.ifx hx rfl (λa4 hx=> ?_) (λa4 hx=> ?_))
   ·
    refine Run.cl_s [] 6 tbo rfl ?_
    obtain⟨a5,b2,hx⟩:=idx_some hx
    refine JL.val rfl rfl (R.idxA (enc:=(λa:UInt32=>Value.int .u32 (a.toNat:Int))) (L:=a9.l) U244 S22 rfl rfl rfl rfl rfl b2) (Run.ll_s [] 6 tbo rfl (JL.val rfl rfl (R.cv_u32_i64 (a:=a5) U22 U3 rfl) ?_))
    obtain⟨d0,b3,hx⟩:=bnd_some hx
    refine JL.callC (vs:=[_,_]) (args:=[_,_]) (K:=[]) (rst:=[_]) E57 rfl rfl rfl picks0 (code_Put_ok (a5.toNat:Int) 4 _ _ b3) rfl (λd1 d2 d3 b4 d4 b5=> ?_)
    obtain⟨d5,d6,d7,d8,rfl,rfl,rfl,a0,b6,-⟩:=b4
    replace a0:=(RowOf.base (RowOf.const (H2:=New H b) RU8.const a0) (λp hp=>(b5 p (mem_seg 0 rfl hp)).resolve_left (b6 p hp)))
    refine Run.llz_s [] 10 tbo rfl ?_
    obtain⟨a6,b7,b8,hx⟩:=app_some hx
    refine JL.appF (HF:=(New H b)) 1 U23 I5 rfl rfl a2 rfl (SrcF.row 0 U23 rfl a0) b7 b8 rfl (Nat.le_refl _) rfl (λd9 b9 a7=> ?_)
    obtain⟨c0,c1,rfl⟩:=RowOf.val a7
    refine Run.llz_bs [] 5 tbo rfl (JL.val rfl rfl (R.inc rfl rfl (of_decide_eq_true a4) (by decide)) ?_)
    refine Run.lnz [] 2 tbo rfl ?_
    replace hx:=run_next a3 hx
    refine JN.forget 0 ?_
    exact JN.cutR ⟨(a6,m.2+1),⟨c0,a6.length,c1,b9,rfl,rfl,rfl,a7⟩,hx⟩ rfl rfl rfl
   ·
    refine Run.cnz_k [] 2 tbo rfl ?_
    obtain rfl:=run_done a3 hx
    refine Run.nnz_kb [] 2 tbo rfl ?_
    exact JN.cutR ⟨q,s,v,x,rfl,rfl,rfl,a2⟩ rfl rfl rfl
theorem mix_Sum_ok (d:List UInt8)(H:Heaplet){a:Option Addr}{b:Nat}{c:Nat}(f:IsSlice H RU8 1 (.slice a b c) d)(r:UInt32)(hx:mix_Sum d=some r):
  Does Tryz.prog 131 #[.slice a b c] [] H (λu K' H'=>u=.int .u32 (r.toNat:Int)∧K'= []∧True):=by
 refine Does.enterL (vs:=[.slice a b c]) (l:=[(0,.slice a b c)]) Tryz.func131 rfl rfl ⟨rfl,trivial⟩ (λw hlt=> ?_)
 unfold mix_Sum at hx
 refine Run.cl [] 8 tbo rfl ?_
 obtain⟨h,i,hx⟩:=bnd_some hx
 refine JL.callC (vs:=[_]) (args:=[_]) (K:=[]) (rst:=[]) E171 rfl rfl rfl picks0 (mix_four_ok d _ f _ i) rfl (λk m p j q s=> ?_)
 obtain⟨rfl,rfl,-⟩:=j
 refine JL.val rfl rfl (R.idxAk 0 U244 S22 rfl rfl rfl rfl rfl) (Run.lnz_s [] 4 tbo rfl (JN.outP (vs:=[.int .u32 (h.e0.toNat:Int)]) (K:=[]) (rst:=[]) (.inl rfl) rfl rfl (Res.tmp rfl rfl) picks0 ?_))
 obtain rfl:=Option.some.inj hx
 exact⟨rfl,rfl,trivial⟩
theorem dev_place_ok{c}:Con Tryz.prog 167 true ([.i c]) (dev_place c) (λr=> [.b r]):=by
 intro H r hx
 refine Does.enterC Tryz.func167 rfl rfl ?_
 intro w
 unfold dev_place at hx
 refine Run.cl [] 8 tbo rfl (JL.val rfl rfl (R.cv_i64_u64 U3 U169 rfl) (JL.val rfl rfl (R.lss64 (a:=u64i c) (b:=(256:UInt64)) rfl rfl) (Run.lnz_s [] 4 tbo rfl ?_)))
 exact JN.conQ [] rfl hx rfl rfl
theorem dev_Check_ok (s:Disk)(H:Heaplet){h:Option Addr}{i:Nat}{j:Nat}{k:Option Addr}{m:Nat}{p:Nat}(d:IsSlice H (RSl RU8 1) 1 (.slice h i j) s.Blocks)(a:IsSlice H R_Write 2 (.slice k m p) s.Waits)(r:Int)(hx:dev_Check s=some r):
  Does Tryz.prog 110 #[.agg #[.slice h i j,.slice k m p]] [] H (λu K' H'=>u=.int .i64 r∧K'= []∧H=H'∧True):=by
 refine Does.enterL (vs:=[.agg #[.slice h i j,.slice k m p]]) (l:=[(0,.agg #[.slice h i j,.slice k m p])]) Tryz.func110 rfl rfl ⟨rfl,trivial⟩ (λw hlt=> ?_)
 unfold dev_Check at hx
 refine Run.cl [] 2 tbo rfl (JL.box rfl rfl (λb7 b8=>Run.lc_s [] 4 tbo rfl (JC.cutX hx [1] [0] rfl rfl (λv l0 o0 l o g=>l=(3,.bool v)::l0∧o=o0∧H=g) (λv b9 hx=> ?_) (λv c0 hx=> ?_))))
 ·
  rintro _ _ _ ⟨rfl,rfl,rfl⟩
  refine Run.nl_s [0] 6 tbo rfl (JL.val rfl rfl (R.lenL U36 rfl (IsSlice.long d)) (Run.lcz_s [] 3 tbo rfl (JC.cutX hx [1] [0] rfl rfl (λx l0 o0 l o g=>l=(3,.bool x)::l0∧o=o0∧H=g) (λx c1 hx=> ?_) (λx c2 hx=> ?_))))
  ·
   rintro _ _ _ ⟨rfl,rfl,rfl⟩
   refine Run.nl_s [0] 6 tbo rfl (JL.val rfl rfl (R.lenL U37 rfl (IsSlice.long a)) (Run.lcz_s [] 3 tbo rfl (JC.cutX hx [] [] rfl rfl (λy l0 o0 l o g=>l=(3,.bool y)::l0∧o=o0∧H=g) (λy c3 hx=> ?_) (λy c4 hx=> ?_))))
   ·
    rintro _ _ _ ⟨rfl,rfl,rfl⟩
    refine Run.nc_s [] 7 tbo rfl (JC.ifx hx rfl (λb hx=> ?_) (λb hx=> ?_))
    ·
     refine Run.cnz_k [] 7 tbo rfl (JN.outP (vs:=[.int .i64 0]) (K:=[]) (rst:=[]) (.inl rfl) rfl rfl (Res.tmp rfl rfl) picks0 ?_)
     obtain rfl:=Option.some.inj hx
     exact⟨rfl,rfl,rfl,trivial⟩
    ·
     refine Run.cnz_s [] 8 tbo rfl (JN.outP (vs:=[.int .i64 8]) (K:=[]) (rst:=[]) (.inl rfl) rfl rfl (Res.tmp rfl rfl) picks0 ?_)
     obtain rfl:=Option.some.inj hx
     exact⟨rfl,rfl,rfl,trivial⟩
   ·
    refine JC.block (JC.forget 0 (JC.loopX [33,34] [] rfl rfl (λl0 o0 c l o g=>l=(3,.bool c.1)::(35,.int .i64 ((c.2:Nat):Int))::l0∧o=o0∧H=g) hx ⟨rfl,rfl,rfl⟩ rfl ?_))
    ·
     rintro c5 c _ _ _ ⟨rfl,rfl,rfl⟩ c6 hx q
     unfold dev_Check_l2 at hx
     refine Run.cc [] 6 tbo rfl (JC.ifx hx rfl (λb hx=> ?_) (λb hx=> ?_))
     ·
      refine Run.cl_s [] 6 tbo rfl ?_
      obtain⟨a3,a4,hx⟩:=idx_some hx
      obtain⟨c7,c8,c9,a5,a6,d0,a7⟩:=IsSlice.elem a a4
      obtain⟨d1,rfl,a1⟩:=a6
      obtain⟨d2,d3,rfl⟩:=IsSlice.val a1
      refine JL.val rfl rfl (R.ix U37 S239 rfl rfl a5) (JL.val rfl rfl (R.ldHF 0 S239 rfl a7 rfl rfl) (JL.alloc Z239 rfl (λd4 d5=>Run.llz_s [0] 6 tbo rfl (JL.gX 40 hx rfl (λa8 hx=> ?_) (λa8 hx=> ?_)))))
      ·
       refine Run.llz [0] 5 tbo rfl (JL.conQ hx E167 rfl dev_place_ok rfl trivial ?_)
       intro d6 d7 hx
       refine Run.llz [] 2 tbo rfl (JL.gX 45 hx rfl (λa9 hx=> ?_) (λa9 hx=> ?_))
       ·
        refine Run.llz [0] 5 tbo rfl (JL.val rfl rfl (R.lenL U23 rfl (IsSlice.long a1)) (Run.llz_bs [] 8 tbo rfl (JL.val rfl rfl (R.inc rfl rfl (of_decide_eq_true b) (IsSlice.lenI a)) (Run.lnz [] 2 tbo rfl ?_))))
        replace hx:=run_next q hx
        refine JN.forget 0 ?_
        exact JN.cutR ⟨(decide ((a3.Data.length:Int)=256),c.2+1),⟨rfl,rfl,rfl⟩,hx⟩ rfl rfl rfl
       ·
        refine Run.llz_bs [] 10 tbo rfl (JL.val rfl rfl (R.inc rfl rfl (of_decide_eq_true b) (IsSlice.lenI a)) (Run.lnz [] 2 tbo rfl ?_))
        replace hx:=run_next q hx
        refine JN.forget 0 ?_
        exact JN.cutR ⟨(false,c.2+1),⟨rfl,rfl,rfl⟩,hx⟩ rfl rfl rfl
      ·
       refine Run.llz_bs [] 15 tbo rfl (JL.val rfl rfl (R.inc rfl rfl (of_decide_eq_true b) (IsSlice.lenI a)) (Run.lnz [] 2 tbo rfl ?_))
       replace hx:=run_next q hx
       refine JN.forget 0 ?_
       exact JN.cutR ⟨(false,c.2+1),⟨rfl,rfl,rfl⟩,hx⟩ rfl rfl rfl
     ·
      refine Run.cnz_k [] 2 tbo rfl ?_
      obtain rfl:=run_done q hx
      refine Run.nnz_kb [] 2 tbo rfl ?_
      exact JN.cutR ⟨rfl,rfl,rfl⟩ rfl rfl rfl
  ·
   refine JC.block (JC.loopX [1,19,20] [0] rfl rfl (λl0 o0 f l o g=>l=(3,.bool f.1)::(21,.int .i64 ((f.2:Nat):Int))::l0∧o=o0∧H=g) hx ⟨rfl,rfl,rfl⟩ rfl ?_)
   ·
    rintro d8 f _ _ _ ⟨rfl,rfl,rfl⟩ d9 hx z
    unfold dev_Check_l1 at hx
    refine Run.cc [] 6 tbo rfl (JC.ifx hx rfl (λa0 hx=> ?_) (λa0 hx=> ?_))
    ·
     refine Run.cl_s [] 6 tbo rfl ?_
     obtain⟨b0,b1,hx⟩:=idx_some hx
     obtain⟨e0,e1,e2,b2,b3,e3,b4⟩:=IsSlice.elem d b1
     obtain⟨e4,rfl,a2⟩:=b3
     obtain⟨e5,e6,rfl⟩:=IsSlice.val a2
     refine JL.val rfl rfl (R.ix U36 S23 rfl rfl b2) (JL.val rfl rfl (R.ldH S23 rfl (b4 0 _ rfl)) (Run.llz_s [] 6 tbo rfl (JL.gX 26 hx rfl (λb5 hx=> ?_) (λb5 hx=> ?_))))
     ·
      refine Run.llz [] 3 tbo rfl (JL.val rfl rfl (R.lenL U23 rfl (IsSlice.long a2)) (Run.llz_bs [] 8 tbo rfl (JL.val rfl rfl (R.inc rfl rfl (of_decide_eq_true a0) (IsSlice.lenI d)) (Run.lnz [] 2 tbo rfl ?_))))
      replace hx:=run_next z hx
      exact JN.cutR ⟨(decide ((b0.length:Int)=256),f.2+1),⟨rfl,rfl,rfl⟩,hx⟩ rfl rfl rfl
     ·
      refine Run.llz_bs [] 9 tbo rfl (JL.val rfl rfl (R.inc rfl rfl (of_decide_eq_true a0) (IsSlice.lenI d)) (Run.lnz [] 2 tbo rfl ?_))
      replace hx:=run_next z hx
      exact JN.cutR ⟨(false,f.2+1),⟨rfl,rfl,rfl⟩,hx⟩ rfl rfl rfl
    ·
     refine Run.cnz_k [] 2 tbo rfl ?_
     obtain rfl:=run_done z hx
     refine Run.nnz_kb [] 2 tbo rfl ?_
     exact JN.cutR ⟨rfl,rfl,rfl⟩ rfl rfl rfl
 ·
  refine Run.clz [0] 3 tbo rfl (JL.val rfl rfl (R.lenL U36 rfl (IsSlice.long d)) (Run.llz [] 2 tbo rfl (JL.gX 12 hx rfl (λb6 hx=> ?_) (λb6 hx=> ?_))))
  ·
   refine Run.llz [0] 5 tbo rfl (JL.val rfl rfl (R.lenL U37 rfl (IsSlice.long a)) (Run.lnz [] 5 tbo rfl ?_))
   obtain rfl:=Option.some.inj hx
   exact JN.cutR ⟨rfl,rfl,rfl⟩ rfl rfl rfl
  ·
   refine Run.lnz [] 7 tbo rfl ?_
   obtain rfl:=Option.some.inj hx
   exact JN.cutR ⟨rfl,rfl,rfl⟩ rfl rfl rfl
theorem slices_Clone_byte_L_ok (b:List (List UInt8))(H:Heaplet){ao:Option Addr}{n cap:Nat}(hs:IsSlice H (RSl RU8 1) 1 (.slice ao n cap) b)(r:List (List UInt8))(hx:slices_Clone_byte_L b=some r):
  Does Tryz.prog 80 #[.slice ao n cap] [] H (λu K' H'=>∃ao0:Option Addr,∃n0:Nat,∃cap0:Nat,∃K0:Own,u=.slice ao0 n0 cap0∧K'= [K0]∧H=H'∧RowOf H' (RSl RU8 1) 0 23 1 (.slice ao0 n0 cap0) r K0∧(∀p∈K0,p.1∉ids (List.flatten []))∧True):=by
 rw[slices_Clone_byte_L.eq_1]at hx
 obtain⟨q,hq,hl,hx⟩:=app_some hx
 obtain rfl:=Option.some.inj hx
 refine Does.enter (vs:=[.slice ao n cap]) (l:=[(0,.slice ao n cap)]) Tryz.func80 rfl rfl ⟨rfl,trivial⟩ (λw=>Run.cl [] 9 tbo rfl (JL.val rfl rfl (R.eqlNil U36 rfl rfl) (Run.lcz_s [] 2 tbo rfl ?_)))
 cases ao with
 |none=>
  have hp:=hs.none_nil
  subst hp
  simp only[List.append_nil]at hq
  subst hq
  refine Run.cnz_k [] 8 tbo rfl (JN.seg0 (JN.outP (vs:=[.slice none 0 0]) (K:=[_]) (rst:=[]) (.inl rfl) rfl rfl (Res.tmp rfl rfl) (picks 0 rfl picks0) ?_))
  exact⟨none,0,0,[],rfl,rfl,rfl,RowOf.nil _ _ _ _ _,(λp hp=>by cases hp),trivial⟩
 |some a=>
  refine Run.cl_s [] 5 tbo rfl (JL.bslF (HF:=H) (R:=(RSl RU8 1)) (ls:=[]) (vs:=[]) U36 I23 rfl rfl rfl RSl.one rfl rfl rfl (by simp[maxLen]) rfl (λv1 K1 h1=> ?_))
  obtain⟨ao1,cap1,rfl⟩:=RowOf.val h1
  refine JL.val rfl rfl (R.move rfl) (JL.appF (HF:=H) 0 U36 I23 rfl rfl h1 rfl (SrcF.slice RSl.one U36 (Hle.refl _) hs) hq hl rfl (Nat.le_refl _) rfl (λv2 K2 h2=> ?_))
  obtain⟨ao2,cap2,rfl⟩:=RowOf.val h2
  refine Run.lnz_s [] 4 tbo rfl (JN.outP (vs:=[.slice ao2 _ cap2]) (K:=[_]) (rst:=[]) (.inl rfl) rfl rfl (Res.tmp rfl rfl) (picks 0 rfl picks0) ?_)
  exact⟨_,_,_,_,rfl,rfl,rfl,RowOf.weak (Nat.zero_le _) h2,(λp hp hm=>by cases hm),trivial⟩
theorem dev_all_ok{a}:Con Tryz.prog 161 true ([.i a]) (dev_all a) (λr=> [.b r]):=by
 intro H r hx
 refine Does.enterC Tryz.func161 rfl rfl ?_
 intro w
 unfold dev_all at hx
 refine Run.cnz [] 11 tbo rfl ?_
 exact JN.conQ [] rfl hx rfl rfl
theorem dev_lasts_ok (y:Disk)(H:Heaplet){m:Value}{c:Option Addr}{d:Nat}{f:Nat}(h:IsSlice H R_Write 2 (.slice c d f) y.Waits)(r:(List (Int×Write)))(hx:dev_lasts y=some r):
  Does Tryz.prog 197 #[.agg #[m,.slice c d f],.func (.func 161) #[] #[]] [] H (λu K' H'=>∃ao0:Option Addr,∃n0:Nat,∃cap0:Nat,∃K0:Own,u=.map (some n0)∧K'= [K0]∧H=H'∧MapOf H R_Write 0 n0 r K0∧(∀p∈K0,p.1∉ids (List.flatten []))∧True):=by
 refine Does.enterL (vs:=[.agg #[m,.slice c d f],.func (.func 161) #[] #[]]) (l:=[(0,.agg #[m,.slice c d f]),(1,.func (.func 161) #[] #[])]) Tryz.func197 rfl rfl ⟨rfl,rfl,trivial⟩ (λw hlt=> ?_)
 unfold dev_lasts at hx
 refine Run.cl [] 2 tbo rfl (JL.box rfl rfl (λb2 b3=>Run.ll_s [] 5 tbo rfl (JL.mkMapF (New H H) R_Write rfl (λi a1 a2=>Run.ll_s [1] 8 tbo rfl (JL.val rfl rfl (R.lenL U37 rfl (IsSlice.long h)) (Run.lcz_s [] 3 tbo rfl (JC.cutX hx [5] [] rfl rfl (λq l0 o0 l o g=>∃j:Own,l=l0∧o=j::o0∧H=g∧MapOf H R_Write w.heap.size i q j) (λq b4 hx=> ?_) (λq b5 hx=> ?_))))))))
 ·
  rintro _ _ _ ⟨j,rfl,rfl,rfl,z⟩
  refine Run.nnz_s [] 8 tbo rfl (JN.outP (vs:=[.map (some i)]) (K:=[_]) (rst:=[]) (.inl rfl) rfl rfl (Res.tmp rfl rfl) (picks 0 rfl picks0) ?_)
  obtain rfl:=Option.some.inj hx
  exact⟨none,i,0,j,rfl,rfl,rfl,(MapOf.weak (Nat.zero_le _) z),(newM_ids z hlt),trivial⟩
 ·
  refine JC.block (JC.forget 1 (JC.loopX [1,5,10,11] [] rfl rfl (λl0 o0 a l o g=>∃b:Own,l=(12,.int .i64 ((a.2:Nat):Int))::l0∧o=b::o0∧H=g∧MapOf H R_Write w.heap.size i a.1 b) hx ⟨a1,rfl,rfl,rfl,(a2.old R_Write.mono)⟩ rfl ?_))
  ·
   rintro b6 a _ _ _ ⟨b,rfl,rfl,rfl,s⟩ b7 hx v
   unfold dev_lasts_l1 at hx
   refine Run.cc [] 6 tbo rfl (JC.ifx hx rfl (λx hx=> ?_) (λx hx=> ?_))
   ·
    refine Run.cl_s [] 7 tbo rfl ?_
    obtain⟨k,a3,hx⟩:=idx_some hx
    obtain⟨b8,b9,c0,a4,a5,c1,a6⟩:=IsSlice.elem h a3
    obtain⟨c2,rfl,a0⟩:=a5
    obtain⟨a7,a8,rfl⟩:=IsSlice.val a0
    refine JL.val rfl rfl (R.ix U37 S239 rfl rfl a4) (JL.val rfl rfl (R.ldHF 0 S239 rfl a6 rfl rfl) (JL.alloc Z239 rfl (λc3 c4=>Run.ll_s [0] 8 tbo rfl (JL.conQ hx E161 rfl dev_all_ok rfl trivial ?_))))
    intro c5 c6 hx
    refine Run.lcz_s [] 2 tbo rfl (JC.ifx hx rfl (λa9 hx=> ?_) (λa9 hx=> ?_))
    ·
     refine Run.clz [0,0] 5 tbo rfl (JL.mapUpdF 1 (cs:=[.int .i64 k.At,.slice a7 k.Data.length a8]) U273 U3 rfl rfl rfl rfl s ⟨_,rfl,a0⟩ (λb0 b1=>Run.llz_bs [] 4 tbo rfl (JL.val rfl rfl (R.inc rfl rfl (of_decide_eq_true x) (IsSlice.lenI h)) (Run.lnz [] 2 tbo rfl ?_))))
     replace hx:=run_next v hx
     refine JN.forget 0 ?_
     exact JN.cutR ⟨((putM a.1 k.At k),a.2+1),⟨b0,rfl,rfl,rfl,b1⟩,hx⟩ rfl rfl rfl
    ·
     refine Run.clz_bs [] 4 tbo rfl (JL.val rfl rfl (R.inc rfl rfl (of_decide_eq_true x) (IsSlice.lenI h)) (Run.lnz [] 2 tbo rfl ?_))
     replace hx:=run_next v hx
     refine JN.forget 0 ?_
     exact JN.cutR ⟨(a.1,a.2+1),⟨b,rfl,rfl,rfl,s⟩,hx⟩ rfl rfl rfl
   ·
    refine Run.cnz_k [] 2 tbo rfl ?_
    obtain rfl:=run_done v hx
    refine Run.nnz_kb [] 2 tbo rfl ?_
    exact JN.cutR ⟨b,rfl,rfl,rfl,s⟩ rfl rfl rfl
theorem dev_cut_ok (d:List Int)(H:Heaplet){ao:Option Addr}{n cap:Nat}(hs:IsSlice H RInt 1 (.slice ao n cap) d)(r:List (List UInt8))(hx:dev_cut d=some r):
  Does Tryz.prog 138 #[.slice ao n cap] [] H (λu K' H'=>∃ao0:Option Addr,∃n0:Nat,∃cap0:Nat,∃K0:Own,u=.slice ao0 n0 cap0∧K'= [K0]∧H=H'∧Pcs 0 5 23 (.slice ao0 n0 cap0) r K0∧(∀p∈K0,p.1∉ids (List.flatten []))∧True):=by
 unfold dev_cut at hx
 split at hx
 case isFalse=>cases hx
 rename_i hp
 obtain rfl:=Option.some.inj hx
 obtain⟨ns,hns⟩:∃ns,ns=d.map Int.toNat:=⟨_,rfl⟩
 have hpn:d=ns.map (λn:Nat=>(n:Int)):=by
  rw[hns,List.map_map]
  have:∀(q:List Int),(∀n∈q,0≤n)→q=q.map ((λn:Nat=>(n:Int))∘Int.toNat):=by
   intro q
   induction q with
   |nil=>intro _;rfl
   |cons y q ih=>intro h;rw[List.map_cons,←ih (λn hn=>h n (by simp[hn]))];congr 1;have:=h y (by simp);simp only[Function.comp];omega
  exact this _ hp.1
 have hsum:ns.sum≤LIM:=by rw[hns];exact hp.2.1
 have hlen:ns.length≤LIM:=by rw[hns,List.length_map];exact hp.2.2
 have hpl:d.length=ns.length:=by rw[hns,List.length_map]
 have hat:∀i,i<ns.length→∃y:Nat,ns[i]? =some y∧Nth d (i:Int) (y:Int):=λi hi=>by
  refine⟨ns[i],List.getElem?_eq_getElem hi,Int.natCast_nonneg i,?_⟩
  rw[hpn];simp[hi]
 have htk:∀i,(ns.take i).sum≤ns.sum:=λi=>by
  have:=congrArg List.sum (List.take_append_drop i ns)
  rw[List.sum_append]at this;omega
 have hstep:∀i y,ns[i]? =some y→ns.take (i+1)=ns.take i++ [y]:=λi y h=>by rw[List.take_add_one,h];rfl
 have hL:LIM=1099511627776:=rfl
 have hr:(d.map λn=>List.replicate n.toNat (0:UInt8))=ns.map λn=>List.replicate n 0:=by rw[hpn,List.map_map];rfl
 rw[hr]
 clear hr
 obtain⟨ao,cap,e0⟩:=hs.val
 rw[e0]at hs
 simp only[e0]
 rw[hpl]at hs⊢
 refine Does.enterL (vs:=[.slice ao ns.length cap]) (l:=[(0,.slice ao ns.length cap)]) Tryz.func138 rfl rfl ⟨rfl,trivial⟩ (λw hlt=>Run.cc [] 11 tbo rfl ?_)
 -- how many in all
 refine JC.cut (λl o g=>l= [(0,.slice ao ns.length cap),(2,.slice none 0 0),(3,.int .i64 ((ns.sum:Nat):Int))]∧o= []∧H=g) ?_ ?_
 rotate_left
 ·
  refine Run.cl [] 3 tbo rfl (JL.val rfl rfl (R.lenL U44 rfl ⟨_,_,rfl⟩) (Run.lc_s [] 4 tbo rfl (JC.loop (ι:=Nat) (λi=> [(0,.slice ao ns.length cap),(2,.slice none 0 0),(9,.slice ao ns.length cap),(10,.int .i64 (ns.length:Int)),(3,.int .i64 (((ns.take i).sum:Nat):Int)),(11,.int .i64 ((i:Nat):Int))]) (λ_=> []) (λ_=>H) (λi=>i≤ns.length) (λi=>ns.length-i) 0 (Nat.zero_le _) ⟨rfl,rfl,rfl,rfl,rfl,rfl,trivial⟩ rfl rfl ?_)))
  intro i hi
  refine Run.cc [] 6 tbo rfl (JC.condB rfl (λc=> ?_) (λc=> ?_))
  ·
   have hlt':i<ns.length:=by have:=of_decide_eq_true c;omega
   obtain⟨y,hy,hN⟩:=hat i hlt'
   obtain⟨b1,q1,cs1,hE1,hR1,hl1,hc1⟩:=IsSlice.elem hs hN
   obtain rfl:cs1= [.int .i64 (y:Int)]:=hR1
   have hsy:=hstep i y hy
   have hw:w64 ((((ns.take i).sum:Nat):Int)+(y:Int))=(((ns.take (i+1)).sum:Nat):Int):=by
    have h1:=htk (i+1)
    rw[hsy,List.sum_append]at h1⊢
    simp only[List.sum_cons,List.sum_nil,Nat.add_zero]at h1⊢
    rw[w64_of (by omega) (by omega)];omega
   refine Run.cl_s [] 6 tbo rfl (JL.val rfl rfl (R.ix U44 S3 rfl rfl hE1) (JL.val rfl rfl (R.ldH S3 rfl (hc1 0 _ rfl)) (Run.llz_s [] 7 tbo rfl ?_)))
   rw[hw]
   refine Run.llz_bs [] 5 tbo rfl (JL.val rfl rfl (R.inc rfl rfl (of_decide_eq_true c) (by omega)) ?_)
   refine Run.lnz [] 2 tbo rfl (JN.again (i:=i) (i+1) hlt' (by omega) ⟨rfl,rfl,rfl,rfl,rfl,rfl,trivial⟩ rfl rfl)
  ·
   have hge:i=ns.length:=by have:=of_decide_eq_false c;omega
   subst hge
   refine Run.cnz_kkb [] 4 tbo rfl ?_
   rw[List.take_length]
   exact JN.cut ⟨rfl,rfl,rfl⟩ ⟨rfl,rfl,rfl,trivial⟩ rfl rfl
 rintro _ _ _ ⟨rfl,rfl,rfl⟩
 refine Run.nl_s [] 4 tbo rfl (JL.mkB U23 I5 rfl rfl hsum rfl rfl (λhb hhb=>Run.lc_s [] 4 tbo rfl (JC.cut (λl o g=>∃(ao2:Option Addr) (n2 cap2:Nat) (Ko:Own),l= [(2,.slice ao2 n2 cap2)]∧o= [Ko,[(hb,.cells (bvs (List.replicate ns.sum 0)).toArray 5 (0,0))]]∧H=g∧RowOf (λ_ _=>none) (RPc hb) w.heap.size 23 1 (.slice ao2 n2 cap2) (offs 0 ns) Ko) ?_ ?_)))
 rotate_left
 ·
  refine Run.cl [] 3 tbo rfl (JL.val rfl rfl (R.lenL U44 rfl ⟨_,_,rfl⟩) (JL.val rfl rfl (R.move rfl) (JL.seg0 (Run.lc_s [] 3 tbo rfl ?_))))
  refine JC.loop (ι:=Nat×Nat×Option Addr×Nat×Nat×Own) (λi=> [(21,.slice ao ns.length cap),(22,.int .i64 (ns.length:Int)),(2,.slice i.2.2.1 i.2.2.2.1 i.2.2.2.2.1),(6,.slice (some ⟨hb,i.2.1,none⟩) (ns.sum-(ns.take i.1).sum) (ns.sum-(ns.take i.1).sum)),(23,.int .i64 ((i.1:Nat):Int))])
   (λi=> [i.2.2.2.2.2,[(hb,.cells (bvs (List.replicate ns.sum 0)).toArray 5 (0,0))]]) (λ_=>H)
   (λi=>i.1≤ns.length∧(ns.sum-(ns.take i.1).sum=0∨i.2.1=(ns.take i.1).sum)∧RowOf (λ_ _=>none) (RPc hb) w.heap.size 23 1 (.slice i.2.2.1 i.2.2.2.1 i.2.2.2.2.1) (offs 0 (ns.take i.1)) i.2.2.2.2.2) (λi=>ns.length-i.1) (0,0,none,0,0,[])
   ⟨Nat.zero_le _,.inr rfl,RowOf.nil _ _ _ _ _⟩ ⟨rfl,rfl,rfl,rfl,rfl,trivial⟩ rfl rfl ?_
  rintro⟨i,s,ao2,n2,cap2,Ko⟩ ⟨hi,hsi,hout⟩
  dsimp only at hi hsi hout⊢
  refine Run.cc [] 6 tbo rfl (JC.condB rfl (λc=> ?_) (λc=> ?_))
  ·
   have hlt':i<ns.length:=by have:=of_decide_eq_true c;omega
   obtain⟨y,hy,hN⟩:=hat i hlt'
   obtain⟨b1,q1,cs1,hE1,hR1,hl1,hc1⟩:=IsSlice.elem hs hN
   obtain rfl:cs1= [.int .i64 (y:Int)]:=hR1
   have hsy:=hstep i y hy
   have htot:=htk (i+1)
   have hsm:(ns.take (i+1)).sum=(ns.take i).sum+y:=by rw[hsy,List.sum_append];simp
   obtain⟨rem,hrem⟩:∃rem,rem=ns.sum-(ns.take i).sum:=⟨_,rfl⟩
   rw[←hrem]at hsi⊢
   have hyr:y≤rem:=by omega
   have hcy:y=0∨s=(ns.take i).sum:=by
    rcases hsi with h|h
    ·
     left;omega
    ·
     exact .inr h
   have hrem2:ns.sum-(ns.take (i+1)).sum=rem-y:=by omega
   have e31:Value.slice (some ⟨hb,s,none⟩) y y=sliced (some ⟨hb,s,none⟩) (0:Int).toNat (y:Int).toNat (y:Int).toNat 1:=by
    unfold sliced
    simp only[Int.toNat_natCast,Int.toNat_zero,Nat.sub_zero,Option.map_some,Nat.zero_mul,add_lit,Nat.add_zero]
    split<;>rfl
   obtain⟨s2,hs2,e36⟩:∃s2,(rem-y=0∨s2=(ns.take (i+1)).sum)∧Value.slice (some ⟨hb,s2,none⟩) (rem-y) (rem-y)=sliced (some ⟨hb,s,none⟩) (y:Int).toNat (rem:Int).toNat (rem:Int).toNat 1:=by
    unfold sliced
    simp only[Int.toNat_natCast,Option.map_some,add_lit,Nat.mul_one]
    by_cases h:rem=y
    ·
     exact⟨s,.inl (by omega),by rw[if_pos h]⟩
    ·
     refine⟨s+y,.inr ?_,by rw[if_neg h]⟩
     rcases hsi with h'|h'<;>omega
   have hq:offs 0 (ns.take (i+1))=offs 0 (ns.take i)++ [((ns.take i).sum,y)]:=by rw[hsy,offs_append];simp[offs]
   have hll:(offs 0 (ns.take i)).length+ [((ns.take i).sum,y)].length≤LIM:=by rw[offs_length,List.length_take];simp only[List.length_cons,List.length_nil];omega
   refine Run.cl_s [] 6 tbo rfl (JL.val rfl rfl (R.ix U44 S3 rfl rfl hE1) (JL.val rfl rfl (R.ldH S3 rfl (hc1 0 _ rfl)) (Run.ll_s [] 9 tbo rfl (JL.val rfl rfl (R.slc (cap:=rem) (a:=0) (b:=(y:Int)) (c:=(y:Int)) (m:=List.replicate rem (0:UInt8)) (R:=RU8) (v':=.slice (some ⟨hb,s,none⟩) y y) U23 S5 rfl rfl ⟨_,rfl⟩ ⟨_,rfl⟩ ⟨Int.le_refl _,by omega,Int.le_refl _⟩ ⟨some ⟨hb,s,none⟩,by rw[List.length_replicate],by omega,e31⟩ (.inr (λh=>by cases h))) (JL.bslF (HF:=λ_ _=>none) (R:=RPc hb) (ls:=[((ns.take i).sum,y)]) (vs:=[.slice (some ⟨hb,s,none⟩) y y]) U36 I23 rfl rfl (⟨_,_,rfl,rfl,⟨s,rfl,hcy⟩,rfl⟩) (RPc.one hb) rfl rfl rfl (by simp[maxLen]) rfl (λv3 K3 h3=> ?_))))))
   obtain⟨ao3,cap3,rfl⟩:=RowOf.val h3
   refine JL.appF (HF:=λ_ _=>none) 1 U36 I23 rfl rfl hout rfl (SrcF.row 0 U36 rfl h3) hq hll rfl (Nat.le_refl _) rfl (λv4 K4 h4=> ?_)
   obtain⟨ao4,cap4,rfl⟩:=RowOf.val h4
   refine Run.llz_s [] 6 tbo rfl (JL.val rfl rfl (R.slc (cap:=rem) (a:=(y:Int)) (b:=(rem:Int)) (c:=(rem:Int)) (m:=List.replicate rem (0:UInt8)) (R:=RU8) (v':=.slice (some ⟨hb,s2,none⟩) (rem-y) (rem-y)) U23 S5 rfl ⟨_,rfl⟩ (by simp) ⟨some ⟨hb,s,none⟩,rem,rfl,rfl⟩ ⟨by omega,by omega,Int.le_refl _⟩ ⟨some ⟨hb,s,none⟩,by rw[List.length_replicate],by omega,e36⟩ (.inl rfl)) ?_)
   refine Run.llz_bs [] 5 tbo rfl (JL.val rfl rfl (R.inc rfl rfl (of_decide_eq_true c) (by omega)) ?_)
   refine Run.lnz [] 2 tbo rfl (JN.forget 0 (JN.again (i:=(i,s,ao2,n2,cap2,Ko)) (i+1,s2,ao4,_,cap4,K4) ⟨hlt',by dsimp only;rw[hrem2];exact hs2,h4⟩ (by dsimp only;omega) ⟨rfl,rfl,rfl,by dsimp only;rw[hrem2];rfl,rfl,trivial⟩ rfl rfl))
  ·
   have hge:i=ns.length:=by have:=of_decide_eq_false c;omega
   subst hge
   refine Run.cnz_kkb [] 4 tbo rfl ?_
   rw[List.take_length]at hout
   exact JN.cut ⟨_,_,_,_,rfl,rfl,rfl,hout⟩ ⟨rfl,trivial⟩ rfl rfl
 rintro _ _ _ ⟨ao2,n2,cap2,Ko,rfl,rfl,rfl,hout⟩
 refine Run.nnz_s [] 2 tbo rfl (JN.outP (vs:=[.slice ao2 n2 cap2]) (K:=[Ko++ [(hb,.cells (bvs (List.replicate ns.sum 0)).toArray 5 (0,0))]]) (rst:=[]) (.inl rfl) rfl rfl (Res.tmp rfl rfl) (by simp) ?_)
 have hflat:(ns.map λn=>List.replicate n (0:UInt8)).flatten=List.replicate ns.sum 0:=by
  clear hat hstep htk hs hout hpn hns hpl hsum hlen
  induction ns with
  |nil=>rfl
  |cons y r ih=>rw[List.map_cons,List.flatten_cons,ih,List.sum_cons,List.replicate_append_replicate]
 have hlens:lens (ns.map λn=>List.replicate n (0:UInt8))=ns:=by unfold lens;rw[List.map_map];simp[Function.comp_def]
 refine⟨ao2,n2,cap2,_,rfl,rfl,rfl,⟨hb,Ko,?_,Nat.zero_le _,?_,?_⟩,(λp hp hm=>by cases hm),trivial⟩
 ·
  rw[hflat]
 ·
  rw[hflat,List.length_replicate];exact lim_max hsum
 ·
  rw[hlens];exact RowOf.weak (Nat.zero_le _) hout
theorem bytes_Clone_ok (b:List UInt8)(H:Heaplet){ao:Option Addr}{n cap:Nat}(hs:IsSlice H RU8 1 (.slice ao n cap) b)(r:List UInt8)(hx:bytes_Clone b=some r):
  Does Tryz.prog 40 #[.slice ao n cap] [] H (λu K' H'=>∃ao0:Option Addr,∃n0:Nat,∃cap0:Nat,∃K0:Own,u=.slice ao0 n0 cap0∧K'= [K0]∧H=H'∧RowOf (New H H') RU8 0 5 1 (.slice ao0 n0 cap0) r K0∧(∀p∈K0,p.1∉ids (List.flatten []))∧True):=by
 rw[bytes_Clone.eq_1]at hx
 obtain⟨q,hq,hl,hx⟩:=app_some hx
 obtain rfl:=Option.some.inj hx
 refine Does.enter (vs:=[.slice ao n cap]) (l:=[(0,.slice ao n cap)]) Tryz.func40 rfl rfl ⟨rfl,trivial⟩ (λw=>Run.cl [] 9 tbo rfl (JL.val rfl rfl (R.eqlNil U23 rfl rfl) (Run.lcz_s [] 2 tbo rfl ?_)))
 cases ao with
 |none=>
  have hp:=hs.none_nil
  subst hp
  simp only[List.append_nil]at hq
  subst hq
  refine Run.cnz_k [] 8 tbo rfl (JN.seg0 (JN.outP (vs:=[.slice none 0 0]) (K:=[_]) (rst:=[]) (.inl rfl) rfl rfl (Res.tmp rfl rfl) (picks 0 rfl picks0) ?_))
  exact⟨none,0,0,[],rfl,rfl,rfl,RowOf.nil _ _ _ _ _,(λp hp=>by cases hp),trivial⟩
 |some a=>
  refine Run.cl_s [] 5 tbo rfl (JL.bslF (HF:=New H H) (R:=RU8) (ls:=[]) (vs:=[]) U23 I5 rfl rfl rfl RU8.one rfl rfl rfl (by simp[maxLen]) rfl (λv1 K1 h1=> ?_))
  obtain⟨ao1,cap1,rfl⟩:=RowOf.val h1
  refine JL.val rfl rfl (R.move rfl) (JL.appF (HF:=New H H) 0 U23 I5 rfl rfl h1 rfl (SrcF.sliceC RU8.const RU8.one U23 hs) hq hl rfl (Nat.le_refl _) rfl (λv2 K2 h2=> ?_))
  obtain⟨ao2,cap2,rfl⟩:=RowOf.val h2
  refine Run.lnz_s [] 4 tbo rfl (JN.outP (vs:=[.slice ao2 _ cap2]) (K:=[_]) (rst:=[]) (.inl rfl) rfl rfl (Res.tmp rfl rfl) (picks 0 rfl picks0) ?_)
  exact⟨_,_,_,_,rfl,rfl,rfl,RowOf.weak (Nat.zero_le _) h2,(λp hp hm=>by cases hm),trivial⟩
theorem dev_Twin_ok (b9:Disk)(H:Heaplet){y:Option Addr}{z:Nat}{a0:Nat}{a1:Option Addr}{a2:Nat}{a3:Nat}(a:IsSlice H (RSl RU8 1) 1 (.slice y z a0) b9.Blocks)(c0:IsSlice H R_Write 2 (.slice a1 a2 a3) b9.Waits)(r:Disk)(hx:dev_Twin b9=some r):
  Does Tryz.prog 123 #[.agg #[.slice y z a0,.slice a1 a2 a3]] [] H (λu K' H'=>∃ao0:Option Addr,∃n0:Nat,∃cap0:Nat,∃K0:Own,∃ao1:Option Addr,∃n1:Nat,∃cap1:Nat,∃K1:Own,u=.agg #[.slice ao0 n0 cap0,.slice ao1 n1 cap1]∧K'= [K0,K1]∧Pcs 0 5 23 (.slice ao0 n0 cap0) r.Blocks K0∧(∀p∈K0,p.1∉ids (List.flatten []))∧RowOf (New H H') R_Write 0 239 2 (.slice ao1 n1 cap1) r.Waits K1∧(∀p∈K1,p.1∉ids (List.flatten []))∧(r.Waits= []→Value.slice ao1 n1 cap1=.slice none 0 0)):=by
 refine Does.enterL (vs:=[.agg #[.slice y z a0,.slice a1 a2 a3]]) (l:=[(0,.agg #[.slice y z a0,.slice a1 a2 a3])]) Tryz.func123 rfl rfl ⟨rfl,trivial⟩ (λw hlt=> ?_)
 unfold dev_Twin at hx
 refine Run.cl [] 2 tbo rfl (JL.box rfl rfl (λk0 k1=>JL.alloc Z39 rfl (λd4 k2=>Run.ll_s [1] 12 tbo rfl (JL.val rfl rfl (R.lenL U36 rfl (IsSlice.long a)) (Run.lcz_s [] 3 tbo rfl (JC.cutX hx [1,2] [1,0] rfl rfl (λa4 l0 o0 l o g=>∃c1:Option Addr,∃c2:Nat,∃c3:Nat,∃c4:Own,l=(3,.slice c1 c2 c3)::l0∧o=c4::o0∧H=g∧RowOf (New H H) RInt w.heap.size 3 1 (.slice c1 c2 c3) a4 c4) (λa4 k3 hx=> ?_) (λa4 k4 hx=> ?_)))))))
 ·
  rintro _ _ _ ⟨c1,c2,c3,c4,rfl,rfl,rfl,f7⟩
  refine Run.nl_s [] 4 tbo rfl (JL.pubN 0 RInt.mono rfl f7 (Nat.le_refl _) (λj d5 f8=>JL.forget 0 ?_))
  obtain⟨k5,f9,hx⟩:=bnd_some hx
  refine JL.callC (vs:=[_]) (args:=[_]) (K:=[]) (rst:=[_,_]) E138 rfl rfl rfl picks0 (dev_cut_ok a4 _ (f8.old RInt.mono) _ f9) rfl (λk6 k7 k8 g0 k9 g1=> ?_)
  obtain⟨b,c,d,g2,rfl,rfl,rfl,c5,g3,-⟩:=g0
  replace c5:=(Pcs.base c5 (λp hp=>(g1 p (mem_seg 0 rfl hp)).resolve_left (g3 p hp)))
  refine Run.ll_s [2,1] 9 tbo rfl (JL.val rfl rfl (R.lenL U36 rfl (IsSlice.long a)) (Run.lcz_s [] 3 tbo rfl (JC.cutX hx [1,2] [1,2] rfl rfl (λc6 l0 o0 l o g=>∃a5:Own,l=l0∧o=a5::o0∧j=g∧Pcs w.heap.size 5 23 (.slice b c d) c6 a5) (λc6 l1 hx=> ?_) (λc6 l2 hx=> ?_))))
  ·
   rintro _ _ _ ⟨a5,rfl,rfl,rfl,d6⟩
   refine Run.nl_s [1] 6 tbo rfl (JL.val rfl rfl (R.lenL U37 rfl (IsSlice.long c0)) (Run.lcz_s [] 3 tbo rfl (JC.cutX hx [2] [0] rfl rfl (λc7 l0 o0 l o g=>∃a6:Heaplet,∃k:Option Addr,∃m:Nat,∃q:Nat,∃a7:Own,l=l0∧o= [(d4,.cells #[.slice b c d,.slice k m q] 39 (0,0))]::a7::o0∧a6=g∧Hle j a6∧RowOf (New H a6) R_Write w.heap.size 239 2 (.slice k m q) c7 a7∧(c7= []→Value.slice k m q=.slice none 0 0)) (λc7 l3 hx=> ?_) (λc7 l4 hx=> ?_))))
   ·
    rintro _ _ _ ⟨a6,k,m,q,a7,rfl,rfl,rfl,l5,d7,nl⟩
    refine Run.nnz_s [] 2 tbo rfl (JN.outP (vs:=[.agg #[.slice b c d,.slice k m q]]) (K:=[_,_]) (rst:=[_]) (.inl rfl) rfl rfl (Res.cellN 0 rfl rfl S39 rfl) (picks 2 rfl (picks 1 rfl picks0)) ?_)
    obtain rfl:=Option.some.inj hx
    exact⟨b,c,d,a5,k,m,q,a7,rfl,rfl,(Pcs.weak (Nat.zero_le _) d6),(newP_ids d6 hlt),(RowOf.weak (Nat.zero_le _) d7),(new_ids d7 hlt),nl⟩
   ·
    refine JC.block (JC.seg0 (JC.forget 2 (JC.front 1 rfl (JC.front 1 rfl (JC.front 2 rfl (JC.loopX [2,43,44] [2] rfl rfl (λl0 o0 a8 l o g=>∃f:Heaplet,∃a9:Option Addr,∃b0:Nat,∃b1:Nat,∃b2:Own,l=(45,.int .i64 ((a8.2:Nat):Int))::l0∧o= [(d4,.cells #[.slice b c d,.slice a9 b0 b1] 39 (0,0))]::b2::o0∧f=g∧Hle j f∧RowOf (New H f) R_Write w.heap.size 239 2 (.slice a9 b0 b1) a8.1 b2∧(a8.1= []→Value.slice a9 b0 b1=.slice none 0 0)) hx ⟨j,none,0,0,[],rfl,rfl,rfl,(Hle.refl _),(RowOf.nil _ _ _ _ _),(λ_=>rfl)⟩ rfl ?_))))))
    ·
     rintro l6 a8 _ _ _ ⟨f,a9,b0,b1,b2,rfl,rfl,rfl,c8,d8,nl⟩ l7 hx d9
     unfold dev_Twin_l3 at hx
     refine Run.cc [] 6 tbo rfl (JC.ifx hx rfl (λe0 hx=> ?_) (λe0 hx=> ?_))
     ·
      refine Run.cl_s [] 6 tbo rfl ?_
      obtain⟨s,g4,hx⟩:=idx_some hx
      obtain⟨l8,l9,m0,g5,g6,m1,g7⟩:=IsSlice.elem (c0.mono R_Write.mono (d5.trans c8)) g4
      obtain⟨m2,rfl,e1⟩:=g6
      obtain⟨m3,m4,rfl⟩:=IsSlice.val e1
      refine JL.val rfl rfl (R.ix U37 S239 rfl rfl g5) (JL.val rfl rfl (R.ldHF 0 S239 rfl g7 rfl rfl) (JL.alloc Z239 rfl (λm5 m6=>Run.lcz_s [0] 3 tbo rfl (JC.drawB (so:=[(_,[]),(_,[9,11]),(_,[9]),(_,[])]) 12 rfl Mixed ⟨by kernel_rfl,by kernel_rfl⟩ (kept0 [0,1,2,3] rfl) ?_))))
      refine JB.val (i:=0) [] rfl (R.fa F39_1 rfl) ?_
      refine JB.val (i:=1) [9,10,11] rfl (R.ldo 1 S37 rfl rfl rfl) ?_
      refine JB.run 4 [2,3,4,5] [0,0] tbo rfl ?_
      refine JB.one (i:=6) (by kernel_rfl) ?_
      refine JOB.step rfl trivial rfl (λK hK=> ?_)
      obtain⟨g8,g9,hx⟩:=bnd_some hx
      refine JL.callC (vs:=[_]) (args:=[_]) (K:=[]) (rst:=[_,_,_,_]) E40 rfl rfl rfl picks0 (bytes_Clone_ok s.Data _ e1 _ g9) rfl (λm7 m8 m9 h0 n2 h1=> ?_)
      obtain⟨c9,d0,d1,n3,rfl,rfl,rfl,d2,h2,-⟩:=h0
      replace d2:=(RowOf.base (RowOf.const (H2:=New H f) RU8.const d2) (λp hp=>(h1 p (mem_seg 0 rfl hp)).resolve_left (h2 p hp)))
      refine JL.nil (hK _ _ _ (Hle.refl _) (kept0 [1,2,3,4] rfl) ?_)
      refine JB.val (i:=7) [] rfl (R.bldP (vs:=[(0,.int .i64 s.At),(1,.slice c9 d0 d1)]) (cs:=[.int .i64 s.At,.slice c9 d0 d1]) Z239 B239 rfl rfl rfl) ?_
      refine JB.one (i:=8) (by kernel_rfl) ?_
      refine JOB.step rfl trivial rfl (λK hK=>JL.pubN 0 RU8.mono rfl d2 (Nat.le_refl _) (λd3 v h3=>JL.forget 0 (JL.bslF (HF:=(New H d3)) (R:=R_Write) (ls:=[Write.mk s.At g8]) (vs:=[.agg #[.int .i64 s.At,.slice c9 d0 d1]]) U37 I239 rfl rfl (⟨_,_,rfl,rfl,⟨_,rfl,h3⟩,rfl⟩) R_Write.one rfl rfl rfl (by simp[maxLen]) rfl (λn4 n5 e2=> ?_))))
      obtain⟨n6,n7,rfl⟩:=RowOf.val e2
      refine JL.nil (hK _ _ _ v (kept0 [1,2,3,4] rfl) ?_)
      refine JB.one (i:=9) (by kernel_rfl) ?_
      refine JOB.step rfl trivial rfl (λK hK=> ?_)
      obtain⟨e3,h4,h5,hx⟩:=app_some hx
      refine JL.appF (HF:=(New H d3)) 3 U37 I239 rfl rfl (d8.mono R_Write.mono (New.mono v)) rfl (SrcF.row 0 U37 rfl e2) h4 h5 rfl (Nat.le_refl _) rfl (λn8 h6 e4=> ?_)
      obtain⟨h7,h8,rfl⟩:=RowOf.val e4
      refine JL.nil (hK _ _ _ v (kept1 [false,true,true,false] [1,0,0,4] (by kernel_rfl) rfl) ?_)
      refine JB.val (i:=10) [] rfl (R.fa F39_1 rfl) ?_
      refine JB.one (i:=11) (by kernel_rfl) ?_
      refine JOB.step rfl trivial rfl (λK hK=>Run.lnz [2] 2 tbo rfl (hK _ _ _ v (kept1 [false,true,true,false] [1,0,0,4] (by kernel_rfl) rfl) ?_))
      refine JB.doneN (by kernel_rfl) ?_
      refine Run.nlz_bs [] 3 tbo rfl (JL.val rfl rfl (R.inc rfl rfl (of_decide_eq_true e0) (IsSlice.lenI c0)) (Run.lnz [] 2 tbo rfl ?_))
      replace hx:=run_next d9 hx
      refine JN.forget 1 (JN.forget 0 (JN.front 2 rfl (JN.front 2 rfl (JN.front 2 rfl ?_))))
      exact JN.cutR ⟨(e3,a8.2+1),⟨d3,h7,e3.length,h8,h6,rfl,rfl,rfl,((c8.trans v)),e4,λq=>absurd (h4.symm.trans q) (by simp)⟩,hx⟩ rfl rfl rfl
     ·
      refine Run.cnz_k [] 2 tbo rfl ?_
      obtain rfl:=run_done d9 hx
      refine Run.nnz_kb [] 2 tbo rfl (JN.front 2 rfl (JN.front 2 rfl (JN.front 2 rfl ?_)))
      exact JN.cutR ⟨f,a9,b0,b1,b2,rfl,rfl,rfl,(c8),d8,nl⟩ rfl rfl rfl
  ·
   refine JC.block (JC.front 2 rfl (JC.front 2 rfl (JC.front 2 rfl (JC.loopX [1,2,27,28] [1,2] rfl rfl (λl0 o0 b3 l o g=>∃x:Own,l=(29,.int .i64 ((b3.2:Nat):Int))::l0∧o=x::o0∧j=g∧Pcs w.heap.size 5 23 (.slice b c d) b3.1 x) hx ⟨g2,rfl,rfl,rfl,c5⟩ rfl ?_))))
   ·
    rintro n9 b3 _ _ _ ⟨x,rfl,rfl,rfl,h⟩ o1 hx e5
    unfold dev_Twin_l2 at hx
    refine Run.cc [] 6 tbo rfl (JC.ifx hx rfl (λe6 hx=> ?_) (λe6 hx=> ?_))
    ·
     refine Run.cl_s [] 7 tbo rfl ?_
     obtain⟨o2,h9,hx⟩:=idx_some hx
     obtain⟨o3,o4,o5,i0,i1,o6,i2⟩:=IsSlice.elem (a.mono (RSl.mono RU8.mono) d5) h9
     obtain⟨o7,rfl,e7⟩:=i1
     obtain⟨o8,o9,rfl⟩:=IsSlice.val e7
     refine JL.val rfl rfl (R.ix U36 S23 rfl rfl i0) (JL.val rfl rfl (R.ldH S23 rfl (i2 0 _ rfl)) (Run.llz_s [2] 8 tbo rfl ?_))
     obtain⟨p0,e8,hx⟩:=idx_some hx
     obtain⟨p1,p2,p3,p4,i3,i4,i5,i6⟩:=Pcs.at h e8
     refine JL.val rfl rfl (R.ix U36 S23 rfl rfl i3) (JL.val rfl rfl (R.ldM 0 S23 rfl rfl i4 i5) (JL.val rfl rfl (R.move rfl) ?_))
     obtain⟨i7,hx⟩:=chk_some hx
     obtain⟨i8,i9,p5,hx⟩:=setI_some hx
     refine JL.copyP 0 U23 S5 rfl h e8 i6 rfl rfl (Hle.refl _) e7 i7 rfl (λj0 e9=> ?_)
     rw[←i9]at e9
     refine Run.llz_bs [] 4 tbo rfl (JL.val rfl rfl (R.inc rfl rfl (of_decide_eq_true e6) (IsSlice.lenI a)) (Run.lnz [] 2 tbo rfl ?_))
     replace hx:=run_next e5 hx
     refine JN.front 2 rfl (JN.front 2 rfl (JN.front 2 rfl ?_))
     exact JN.cutR ⟨(i8,b3.2+1),⟨j0,rfl,rfl,rfl,e9⟩,hx⟩ rfl rfl rfl
    ·
     refine Run.cnz_k [] 2 tbo rfl ?_
     obtain rfl:=run_done e5 hx
     refine Run.nnz_kb [] 2 tbo rfl (JN.front 2 rfl (JN.front 2 rfl (JN.front 2 rfl ?_)))
     exact JN.cutR ⟨x,rfl,rfl,rfl,h⟩ rfl rfl rfl
 ·
  refine JC.block (JC.seg0 (JC.front 1 rfl (JC.front 2 rfl (JC.front 2 rfl (JC.loopX [1,2,11,12] [1,2] rfl rfl (λl0 o0 b4 l o g=>∃b5:Option Addr,∃b6:Nat,∃b7:Nat,∃b8:Own,l=(3,.slice b5 b6 b7)::(13,.int .i64 ((b4.2:Nat):Int))::l0∧o=b8::o0∧H=g∧RowOf (New H H) RInt w.heap.size 3 1 (.slice b5 b6 b7) b4.1 b8) hx ⟨none,0,0,[],rfl,rfl,rfl,(RowOf.nil _ _ _ _ _)⟩ rfl ?_)))))
  ·
   rintro p6 b4 _ _ _ ⟨b5,b6,b7,b8,rfl,rfl,rfl,f0⟩ p7 hx f1
   unfold dev_Twin_l1 at hx
   refine Run.cc [] 6 tbo rfl (JC.ifx hx rfl (λf2 hx=> ?_) (λf2 hx=> ?_))
   ·
    refine Run.cl_s [] 6 tbo rfl ?_
    obtain⟨f3,j1,hx⟩:=idx_some hx
    obtain⟨p8,p9,q0,j2,j3,q1,j4⟩:=IsSlice.elem a j1
    obtain⟨q2,rfl,f4⟩:=j3
    obtain⟨q3,q4,rfl⟩:=IsSlice.val f4
    refine JL.val rfl rfl (R.ix U36 S23 rfl rfl j2) (JL.val rfl rfl (R.ldH S23 rfl (j4 0 _ rfl)) (Run.llz_s [] 6 tbo rfl (JL.val rfl rfl (R.lenL U23 rfl (IsSlice.long f4)) (JL.bslF (HF:=(New H H)) (R:=RInt) (ls:=[(f3.length:Int)]) (vs:=[.int .i64 (f3.length:Int)]) U44 I3 rfl rfl (⟨_,_,rfl,rfl,rfl,rfl⟩) RInt.one rfl rfl rfl (by simp[maxLen]) rfl (λq5 x h=> ?_)))))
    obtain⟨q6,q7,rfl⟩:=RowOf.val h
    obtain⟨f5,j5,j6,hx⟩:=app_some hx
    refine JL.appF (HF:=(New H H)) 1 U44 I3 rfl rfl f0 rfl (SrcF.row 0 U44 rfl h) j5 j6 rfl (Nat.le_refl _) rfl (λq8 j7 f6=> ?_)
    obtain⟨j8,j9,rfl⟩:=RowOf.val f6
    refine Run.llz_bs [] 5 tbo rfl (JL.val rfl rfl (R.inc rfl rfl (of_decide_eq_true f2) (IsSlice.lenI a)) (Run.lnz [] 2 tbo rfl ?_))
    replace hx:=run_next f1 hx
    refine JN.forget 0 (JN.front 2 rfl (JN.front 2 rfl (JN.front 2 rfl ?_)))
    exact JN.cutR ⟨(f5,b4.2+1),⟨j8,f5.length,j9,j7,rfl,rfl,rfl,f6⟩,hx⟩ rfl rfl rfl
   ·
    refine Run.cnz_k [] 2 tbo rfl ?_
    obtain rfl:=run_done f1 hx
    refine Run.nnz_kb [] 2 tbo rfl (JN.front 2 rfl (JN.front 2 rfl (JN.front 2 rfl ?_)))
    exact JN.cutR ⟨b5,b6,b7,b8,rfl,rfl,rfl,f0⟩ rfl rfl rfl
theorem dev_left_ok (s:Disk)(H:Heaplet){a4:Option Addr}{a5:Nat}{a6:Nat}{c:Option Addr}{d:Nat}{m:Nat}(b5:IsSlice H (RSl RU8 1) 1 (.slice a4 a5 a6) s.Blocks)(e9:IsSlice H R_Write 2 (.slice c d m) s.Waits)(r:Disk)(hx:dev_left s=some r):
  Does Tryz.prog 160 #[.agg #[.slice a4 a5 a6,.slice c d m],.func (.func 161) #[] #[]] [] H (λu K' H'=>∃ao0:Option Addr,∃n0:Nat,∃cap0:Nat,∃K0:Own,∃ao1:Option Addr,∃n1:Nat,∃cap1:Nat,∃K1:Own,u=.agg #[.slice ao0 n0 cap0,.slice ao1 n1 cap1]∧K'= [K0,K1]∧Pcs 0 5 23 (.slice ao0 n0 cap0) r.Blocks K0∧(∀p∈K0,p.1∉ids (List.flatten []))∧RowOf (New H H') R_Write 0 239 2 (.slice ao1 n1 cap1) r.Waits K1∧(∀p∈K1,p.1∉ids (List.flatten []))∧(r.Waits= []→Value.slice ao1 n1 cap1=.slice none 0 0)):=by
 refine Does.enterL (vs:=[.agg #[.slice a4 a5 a6,.slice c d m],.func (.func 161) #[] #[]]) (l:=[(0,.agg #[.slice a4 a5 a6,.slice c d m]),(1,.func (.func 161) #[] #[])]) Tryz.func160 rfl rfl ⟨rfl,rfl,trivial⟩ (λw hlt=> ?_)
 unfold dev_left at hx
 refine Run.cl [] 2 tbo rfl (JL.box rfl rfl (λb6 j2=>JL.alloc Z39 rfl (λd3 j3=>Run.lc_s [] 3 tbo rfl (JC.cutX hx [1,2,4] [0] rfl rfl (λv l0 o0 l o g=>∃a0:Option Addr,∃a1:Nat,∃a2:Nat,∃a7:Own,l=l0∧o= [(b6,.cells #[.slice a0 a1 a2,.slice c d m] 39 (0,0))]::a7::o0∧H=g∧RowOf H (RSl RU8 1) w.heap.size 23 1 (.slice a0 a1 a2) v a7) (λv j4 hx=> ?_) (λv j5 hx=> ?_)))))
 ·
  rintro _ _ _ ⟨a0,a1,a2,a7,rfl,rfl,rfl,f0⟩
  refine Run.nl_s [0] 6 tbo rfl ?_
  obtain⟨x,f1,hx⟩:=bnd_some hx
  refine JL.callC (vs:=[_,_]) (args:=[_,_]) (K:=[]) (rst:=[_,_,_]) E197 rfl rfl rfl picks0 (dev_lasts_ok (Disk.mk v s.Waits) _ e9 _ f1) rfl (λj6 j7 j8 f2 j9 f3=> ?_)
  obtain⟨k0,d4,k1,k2,rfl,rfl,rfl,b7,f4,-⟩:=f2
  replace b7:=(MapOf.base b7 (λp hp=>(f3 p (mem_seg 0 rfl hp)).resolve_left (f4 p hp)))
  refine JL.rangeMapF 0 U273 rfl rfl b7 rfl (λd5 f5 f6 a8=> ?_)
  subst f6
  refine Run.lcz_s [] 2 tbo rfl ?_
  obtain⟨f7,f8,b8,hx⟩:=layR_some hx
  refine JC.block (JC.loop (ι:=Array Nat×(List (List UInt8))×Own) (λ_=> [(2,.pointer (some ⟨b6,0,none⟩)),(4,.pointer (some ⟨d3,0,none⟩)),(16,.pointer (some ⟨d5,0,none⟩))]) (λi=> [[(d5,.mapIter (some d4) (x).length i.1 (x).length)],[(d4,.map f5 (x).length)],[(b6,.cells #[.slice a0 a1 a2,.slice c d m] 39 (0,0))],i.2.2,[(d3,.cells #[.slice none 0 0,.slice none 0 0] 39 (0,0))]]) (λ_=>H) (λi=>i.1.toList.Nodup∧(∀q∈i.1.toList,q<(x).length)∧Laid (λy:Write=>y.Data) v x i.1.toList i.2.1∧RowOf H (RSl RU8 1) w.heap.size 23 1 (.slice a0 a1 a2) i.2.1 i.2.2) (λi=>(x).length-i.1.size) (#[],v,a7) ⟨by simp,by simp,Laid.start _ _ _,f0⟩ ⟨rfl,rfl,rfl,trivial⟩ rfl rfl ?_)
  rintro⟨d6,a3,f9⟩ ⟨b9,c0,a9,b0⟩
  dsimp only at b9 c0 a9 b0⊢
  refine Run.cl [] 2 tbo rfl (JL.nextMap 0 1 rfl rfl rfl a8 (Nat.le_refl _) rfl (λg0=> ?_) (λg1 z b1 k3 b2 g2 d7 g3=> ?_))
  ·
   refine Run.lnz_sk [] 8 tbo rfl (JN.exitSame ?_)
   obtain rfl:=f8.trans (a9.full a8.nodup b8 g0).symm
   refine JN.forget 1 (JN.forget 0 (Run.nl_s [0,0] 10 tbo rfl (JL.pub 1 (RSl.mono RU8.mono) rfl b0 (Nat.le_refl _) (λk4 g4 g5=>JL.forget 1 ?_))))
   obtain⟨k5,g6,hx⟩:=bnd_some hx
   refine JL.callC (vs:=[_]) (args:=[_]) (K:=[]) (rst:=[_,_]) E123 rfl rfl rfl picks0 (dev_Twin_ok (Disk.mk f7 ([]:List Write)) _ g5 (IsSlice.nil _ _ _) _ g6) rfl (λk6 k7 k8 g7 k9 d8=> ?_)
   obtain⟨d9,e0,e1,g8,e2,e3,e4,g9,rfl,rfl,b3,h0,b4,h1,nl⟩:=g7
   replace b3:=(Pcs.base b3 (λp hp=>(d8 p (mem_seg 0 rfl hp)).resolve_left (h0 p hp)))
   replace b4:=(RowOf.base (RowOf.mono R_Write.mono (New.call g4) b4) (λp hp=>(d8 p (mem_seg 1 rfl hp)).resolve_left (h1 p hp)))
   refine Run.lnz_s [3] 4 tbo rfl (JN.outP (vs:=[.agg #[.slice d9 e0 e1,.slice e2 e3 e4]]) (K:=[_,_]) (rst:=[_,_]) (.inl rfl) rfl rfl (Res.cellN 3 rfl rfl S39 rfl) (picks 0 rfl (picks 0 rfl picks0)) ?_)
   obtain rfl:=Option.some.inj hx
   exact⟨d9,e0,e1,g8,e2,e3,e4,g9,rfl,rfl,(Pcs.weak (Nat.zero_le _) b3),(newP_ids b3 hlt),(RowOf.weak (Nat.zero_le _) b4),(new_ids b4 hlt),nl⟩
  ·
   have h2:=seen_more b9 c0 (List.getElem?_eq_some_iff.1 b2).1 d7
   refine Run.ll_s [] 10 tbo rfl ?_
   obtain⟨l1,rfl,e5⟩:=g3
   obtain⟨l2,l3,rfl⟩:=IsSlice.val e5
   refine JL.entryMap 0 1 rfl rfl rfl a8 g2 rfl ?_
   have e6:=b8 _ (List.mem_of_getElem? b2)
   rw[←a9.len]at e6
   clear hx
   have hx:(chk (0≤z∧z.toNat<a3.length)<|setI a3 z b1.Data λe7=>some e7)=some (a3.set z.toNat b1.Data):=lay_step e6
   refine Run.llz [] 2 tbo rfl (JL.alloc Z239 rfl (λl4 l5=>Run.llz_s [0,3,0] 10 tbo rfl ?_))
   obtain⟨h3,hx⟩:=chk_some hx
   obtain⟨l6,l7,e8⟩:=RowOf.place b0 h3
   refine JL.val rfl rfl (R.ix U36 S23 rfl rfl e8) ?_
   obtain⟨e7,h4,l8,hx⟩:=setI_some hx
   refine JL.stE 4 (k:=z) (y:=b1.Data) S23 rfl b0 rfl e8 rfl rfl (⟨_,rfl,e5⟩) RSl.one h4 (λh5 h6 l9=>Run.lnz_b [] 2 tbo rfl ?_)
   obtain rfl:=Option.some.inj hx
   refine JN.forget 0 (JN.front 4 rfl (JN.front 4 rfl (JN.front 4 rfl (JN.front 4 rfl (JN.front 4 rfl ?_)))))
   exact JN.again (i:=(d6,a3,f9)) (d6.push g1,a3.set z.toNat b1.Data,h5) ⟨by simp only[Array.toList_push];exact List.nodup_append.2 ⟨b9,by simp,λa ha b hb e=>by simp at hb;subst hb;subst e;exact d7 ha⟩,by simp only[Array.toList_push];intro q hq;rcases List.mem_append.1 hq with h|h;exact c0 q h;simp at h;subst h;exact(List.getElem?_eq_some_iff.1 b2).1,a9.step (f:=(λy:Write=>y.Data)) a8.nodup b8 b2 _ (λq=>by simp),h6⟩ (by simp only[Array.size_push];simp only[Array.length_toList]at h2;omega) ⟨rfl,rfl,rfl,trivial⟩ rfl rfl
 ·
  refine JC.draw (so:=[_]) 7 rfl Mixed ⟨⟨0,rfl⟩,trivial⟩ (JA.val ⟨by kernel_rfl,by kernel_rfl⟩ (calm_only _) (i:=0) rfl ⟨by kernel_rfl,by kernel_rfl,rfl⟩ trivial (stab_of (Hle.refl _) ⟨⟨0,rfl⟩,trivial⟩) (R.fa F39_0 rfl) rfl (JA.val ⟨by kernel_rfl,by kernel_rfl⟩ (calm_only _) (i:=3) rfl ⟨by kernel_rfl,by kernel_rfl,rfl⟩ trivial (stab_of (Hle.refl _) ⟨⟨0,rfl⟩,trivial⟩) (R.fa F39_1 rfl) rfl (JA.two (i:=1) (j:=4) (by kernel_rfl) ?_ ?_)))
  ·
   refine JO.step rfl trivial rfl (λK hK=>Run.lnz [1] 2 tbo rfl (hK _ _ _ (stab_of (Hle.refl _) ⟨⟨0,rfl⟩,trivial⟩) (JA.two (i:=2) (j:=4) (by kernel_rfl) ?_ ?_)))
   ·
    refine JO.step rfl trivial rfl (λK hK=> ?_)
    obtain⟨m0,h7,hx⟩:=bnd_some hx
    refine JL.callC (vs:=[_]) (args:=[_]) (K:=[]) (rst:=[_,_]) E80 rfl rfl rfl picks0 (slices_Clone_byte_L_ok s.Blocks _ b5 _ h7) rfl (λm1 m2 m3 h8 m4 h9=> ?_)
    obtain⟨c1,c2,c3,i0,rfl,rfl,rfl,c4,i1,-⟩:=h8
    replace c4:=(RowOf.base c4 (λp hp=>(h9 p (mem_seg 0 rfl hp)).resolve_left (i1 p hp)))
    refine JL.nil (hK _ _ _ (stab_of (Hle.refl _) ⟨⟨1,rfl⟩,trivial⟩) (JA.one (i:=4) (by kernel_rfl) (JO.step rfl trivial rfl (λK hK=> ?_))))
    refine Run.lnz [2] 2 tbo rfl (hK _ _ _ (stab_of (Hle.refl _) ⟨⟨1,rfl⟩,trivial⟩) (JA.val ⟨by kernel_rfl,by kernel_rfl⟩ (calm_only _) (i:=5) rfl ⟨by kernel_rfl,by kernel_rfl,rfl⟩ trivial (stab_of (Hle.refl _) ⟨⟨1,rfl⟩,trivial⟩) (R.bldP (vs:=[(0,.slice c1 c2 c3),(1,.slice c d m)]) (cs:=[.slice c1 c2 c3,.slice c d m]) Z39 B39 rfl rfl rfl) rfl (JA.one (i:=6) (by kernel_rfl) (JO.step rfl trivial rfl (λK hK=> ?_)))))
    refine Run.lnz [2] 2 tbo rfl (hK _ _ _ (stab_of (Hle.refl _) ⟨⟨1,rfl⟩,trivial⟩) (JA.doneN (by kernel_rfl) ?_))
    obtain rfl:=Option.some.inj hx
    refine JN.front 1 rfl (JN.front 1 rfl (JN.front 2 rfl ?_))
    exact JN.cutR ⟨c1,c2,c3,i0,rfl,rfl,rfl,c4⟩ rfl rfl rfl
   ·
    refine JO.step rfl trivial rfl (λK hK=>Run.lnz [1] 2 tbo rfl (hK _ _ _ (stab_of (Hle.refl _) ⟨⟨0,rfl⟩,trivial⟩) (JA.one (i:=2) (by kernel_rfl) (JO.step rfl trivial rfl (λK hK=> ?_)))))
    obtain⟨m5,i2,hx⟩:=bnd_some hx
    refine JL.callC (vs:=[_]) (args:=[_]) (K:=[]) (rst:=[_,_]) E80 rfl rfl rfl picks0 (slices_Clone_byte_L_ok s.Blocks _ b5 _ i2) rfl (λm6 m7 m8 i3 m9 i4=> ?_)
    obtain⟨c5,c6,c7,i5,rfl,rfl,rfl,c8,i6,-⟩:=i3
    replace c8:=(RowOf.base c8 (λp hp=>(i4 p (mem_seg 0 rfl hp)).resolve_left (i6 p hp)))
    refine JL.nil (hK _ _ _ (stab_of (Hle.refl _) ⟨⟨1,rfl⟩,trivial⟩) (JA.val ⟨by kernel_rfl,by kernel_rfl⟩ (calm_only _) (i:=5) rfl ⟨by kernel_rfl,by kernel_rfl,rfl⟩ trivial (stab_of (Hle.refl _) ⟨⟨1,rfl⟩,trivial⟩) (R.bldP (vs:=[(0,.slice c5 c6 c7),(1,.slice c d m)]) (cs:=[.slice c5 c6 c7,.slice c d m]) Z39 B39 rfl rfl rfl) rfl (JA.one (i:=6) (by kernel_rfl) (JO.step rfl trivial rfl (λK hK=> ?_)))))
    refine Run.lnz [2] 2 tbo rfl (hK _ _ _ (stab_of (Hle.refl _) ⟨⟨1,rfl⟩,trivial⟩) (JA.doneN (by kernel_rfl) ?_))
    obtain rfl:=Option.some.inj hx
    refine JN.front 1 rfl (JN.front 1 rfl (JN.front 2 rfl ?_))
    exact JN.cutR ⟨c5,c6,c7,i5,rfl,rfl,rfl,c8⟩ rfl rfl rfl
  ·
   refine JO.step rfl trivial rfl (λK hK=>Run.lnz [1] 2 tbo rfl (hK _ _ _ (stab_of (Hle.refl _) ⟨⟨0,rfl⟩,trivial⟩) (JA.one (i:=1) (by kernel_rfl) (JO.step rfl trivial rfl (λK hK=> ?_)))))
   refine Run.lnz [1] 2 tbo rfl (hK _ _ _ (stab_of (Hle.refl _) ⟨⟨0,rfl⟩,trivial⟩) (JA.one (i:=2) (by kernel_rfl) (JO.step rfl trivial rfl (λK hK=> ?_))))
   obtain⟨n2,i7,hx⟩:=bnd_some hx
   refine JL.callC (vs:=[_]) (args:=[_]) (K:=[]) (rst:=[_,_]) E80 rfl rfl rfl picks0 (slices_Clone_byte_L_ok s.Blocks _ b5 _ i7) rfl (λn3 n4 n5 i8 n6 i9=> ?_)
   obtain⟨c9,d0,d1,j0,rfl,rfl,rfl,d2,j1,-⟩:=i8
   replace d2:=(RowOf.base d2 (λp hp=>(i9 p (mem_seg 0 rfl hp)).resolve_left (j1 p hp)))
   refine JL.nil (hK _ _ _ (stab_of (Hle.refl _) ⟨⟨1,rfl⟩,trivial⟩) (JA.val ⟨by kernel_rfl,by kernel_rfl⟩ (calm_only _) (i:=5) rfl ⟨by kernel_rfl,by kernel_rfl,rfl⟩ trivial (stab_of (Hle.refl _) ⟨⟨1,rfl⟩,trivial⟩) (R.bldP (vs:=[(0,.slice c9 d0 d1),(1,.slice c d m)]) (cs:=[.slice c9 d0 d1,.slice c d m]) Z39 B39 rfl rfl rfl) rfl (JA.one (i:=6) (by kernel_rfl) (JO.step rfl trivial rfl (λK hK=> ?_)))))
   refine Run.lnz [2] 2 tbo rfl (hK _ _ _ (stab_of (Hle.refl _) ⟨⟨1,rfl⟩,trivial⟩) (JA.doneN (by kernel_rfl) ?_))
   obtain rfl:=Option.some.inj hx
   refine JN.front 1 rfl (JN.front 1 rfl (JN.front 2 rfl ?_))
   exact JN.cutR ⟨c9,d0,d1,j0,rfl,rfl,rfl,d2⟩ rfl rfl rfl
theorem math_bits_Mul64_ok{c d}:Con Tryz.prog 210 true ([.w64 c,.w64 d]) (math_bits_Mul64 c d) (λr=> [.w64 r.1,.w64 r.2]):=by
 intro H r hx
 refine Does.enterC Tryz.func210 rfl rfl ?_
 intro w
 unfold math_bits_Mul64 at hx
 refine Run.cl [] 9 tbo rfl (JL.val rfl rfl (R.and64 (a:=c) (b:=(4294967295:UInt64)) rfl rfl) (Run.ll_s [] 6 tbo rfl (JL.val rfl rfl (R.shr64 (n:=((32:UInt64).toNat:Int)) (a:=c) rfl rfl (by decide)) ?_)))
 refine Run.ll_s [] 6 tbo rfl (JL.val rfl rfl (R.and64 (a:=d) (b:=(4294967295:UInt64)) rfl rfl) (Run.ll_s [] 6 tbo rfl (JL.val rfl rfl (R.shr64 (n:=((32:UInt64).toNat:Int)) (a:=d) rfl rfl (by decide)) ?_)))
 refine Run.ll_s [] 7 tbo rfl (JL.val rfl rfl (R.mul64 (a:=c&&&(4294967295:UInt64)) (b:=d&&&(4294967295:UInt64)) rfl rfl) (Run.ll_s [] 7 tbo rfl (JL.val rfl rfl (R.mul64 (a:=sr64 c (((32:UInt64).toNat:Int)).toNat) (b:=d&&&(4294967295:UInt64)) rfl rfl) (JL.val rfl rfl (R.move rfl) (JL.val rfl rfl (R.shr64 (n:=((32:UInt64).toNat:Int)) (a:=(c&&&(4294967295:UInt64))*(d&&&(4294967295:UInt64))) rfl rfl (by decide)) (JL.val rfl rfl (R.add64 (a:=(sr64 c (((32:UInt64).toNat:Int)).toNat)*(d&&&(4294967295:UInt64))) (b:=sr64 ((c&&&(4294967295:UInt64))*(d&&&(4294967295:UInt64))) (((32:UInt64).toNat:Int)).toNat) rfl rfl) ?_))))))
 refine Run.ll_s [] 6 tbo rfl (JL.val rfl rfl (R.and64 (a:=((sr64 c (((32:UInt64).toNat:Int)).toNat)*(d&&&(4294967295:UInt64)))+(sr64 ((c&&&(4294967295:UInt64))*(d&&&(4294967295:UInt64))) (((32:UInt64).toNat:Int)).toNat)) (b:=(4294967295:UInt64)) rfl rfl) (Run.ll_s [] 6 tbo rfl (JL.val rfl rfl (R.shr64 (n:=((32:UInt64).toNat:Int)) (a:=((sr64 c (((32:UInt64).toNat:Int)).toNat)*(d&&&(4294967295:UInt64)))+(sr64 ((c&&&(4294967295:UInt64))*(d&&&(4294967295:UInt64))) (((32:UInt64).toNat:Int)).toNat)) rfl rfl (by decide)) ?_)))
 refine Run.ll_s [] 8 tbo rfl (JL.val rfl rfl (R.mul64 (a:=c&&&(4294967295:UInt64)) (b:=sr64 d (((32:UInt64).toNat:Int)).toNat) rfl rfl) (JL.val rfl rfl (R.add64 (a:=(((sr64 c (((32:UInt64).toNat:Int)).toNat)*(d&&&(4294967295:UInt64)))+(sr64 ((c&&&(4294967295:UInt64))*(d&&&(4294967295:UInt64))) (((32:UInt64).toNat:Int)).toNat))&&&(4294967295:UInt64)) (b:=(c&&&(4294967295:UInt64))*(sr64 d (((32:UInt64).toNat:Int)).toNat)) rfl rfl) (Run.ll_s [] 7 tbo rfl (JL.val rfl rfl (R.mul64 (a:=sr64 c (((32:UInt64).toNat:Int)).toNat) (b:=sr64 d (((32:UInt64).toNat:Int)).toNat) rfl rfl) (JL.val rfl rfl (R.move rfl) (JL.val rfl rfl (R.add64 (a:=(sr64 c (((32:UInt64).toNat:Int)).toNat)*(sr64 d (((32:UInt64).toNat:Int)).toNat)) (b:=sr64 (((sr64 c (((32:UInt64).toNat:Int)).toNat)*(d&&&(4294967295:UInt64)))+(sr64 ((c&&&(4294967295:UInt64))*(d&&&(4294967295:UInt64))) (((32:UInt64).toNat:Int)).toNat)) (((32:UInt64).toNat:Int)).toNat) rfl rfl) (JL.val rfl rfl (R.move rfl) (JL.val rfl rfl (R.shr64 (n:=((32:UInt64).toNat:Int)) (a:=((((sr64 c (((32:UInt64).toNat:Int)).toNat)*(d&&&(4294967295:UInt64)))+(sr64 ((c&&&(4294967295:UInt64))*(d&&&(4294967295:UInt64))) (((32:UInt64).toNat:Int)).toNat))&&&(4294967295:UInt64))+((c&&&(4294967295:UInt64))*(sr64 d (((32:UInt64).toNat:Int)).toNat))) rfl rfl (by decide)) (JL.val rfl rfl (R.add64 (a:=((sr64 c (((32:UInt64).toNat:Int)).toNat)*(sr64 d (((32:UInt64).toNat:Int)).toNat))+(sr64 (((sr64 c (((32:UInt64).toNat:Int)).toNat)*(d&&&(4294967295:UInt64)))+(sr64 ((c&&&(4294967295:UInt64))*(d&&&(4294967295:UInt64))) (((32:UInt64).toNat:Int)).toNat)) (((32:UInt64).toNat:Int)).toNat)) (b:=sr64 (((((sr64 c (((32:UInt64).toNat:Int)).toNat)*(d&&&(4294967295:UInt64)))+(sr64 ((c&&&(4294967295:UInt64))*(d&&&(4294967295:UInt64))) (((32:UInt64).toNat:Int)).toNat))&&&(4294967295:UInt64))+((c&&&(4294967295:UInt64))*(sr64 d (((32:UInt64).toNat:Int)).toNat))) (((32:UInt64).toNat:Int)).toNat) rfl rfl) ?_)))))))))
 refine Run.lcz_s [] 3 tbo rfl (JC.tidy (l':=[(0,.int .u64 (c.toNat:Int)),(1,.int .u64 (d.toNat:Int)),(4,.int .u64 (((((sr64 c (((32:UInt64).toNat:Int)).toNat)*(sr64 d (((32:UInt64).toNat:Int)).toNat))+(sr64 (((sr64 c (((32:UInt64).toNat:Int)).toNat)*(d&&&(4294967295:UInt64)))+(sr64 ((c&&&(4294967295:UInt64))*(d&&&(4294967295:UInt64))) (((32:UInt64).toNat:Int)).toNat)) (((32:UInt64).toNat:Int)).toNat))+(sr64 (((((sr64 c (((32:UInt64).toNat:Int)).toNat)*(d&&&(4294967295:UInt64)))+(sr64 ((c&&&(4294967295:UInt64))*(d&&&(4294967295:UInt64))) (((32:UInt64).toNat:Int)).toNat))&&&(4294967295:UInt64))+((c&&&(4294967295:UInt64))*(sr64 d (((32:UInt64).toNat:Int)).toNat))) (((32:UInt64).toNat:Int)).toNat)).toNat:Int)),(5,.int .u64 ((0:UInt64).toNat:Int))]) (own':=[]) ⟨rfl,rfl,rfl,rfl,trivial⟩ rfl (JC.tidyP (l':=[(0,.int .u64 (c.toNat:Int)),(1,.int .u64 (d.toNat:Int)),(4,.int .u64 (((((sr64 c (((32:UInt64).toNat:Int)).toNat)*(sr64 d (((32:UInt64).toNat:Int)).toNat))+(sr64 (((sr64 c (((32:UInt64).toNat:Int)).toNat)*(d&&&(4294967295:UInt64)))+(sr64 ((c&&&(4294967295:UInt64))*(d&&&(4294967295:UInt64))) (((32:UInt64).toNat:Int)).toNat)) (((32:UInt64).toNat:Int)).toNat))+(sr64 (((((sr64 c (((32:UInt64).toNat:Int)).toNat)*(d&&&(4294967295:UInt64)))+(sr64 ((c&&&(4294967295:UInt64))*(d&&&(4294967295:UInt64))) (((32:UInt64).toNat:Int)).toNat))&&&(4294967295:UInt64))+((c&&&(4294967295:UInt64))*(sr64 d (((32:UInt64).toNat:Int)).toNat))) (((32:UInt64).toNat:Int)).toNat)).toNat:Int)),(5,.int .u64 ((0:UInt64).toNat:Int))]) (own':=[]) (rst:=[]) ⟨rfl,rfl,rfl,rfl,trivial⟩ picks0 (Run.cl [] 4 tbo rfl (JL.val rfl rfl (R.mul64 (a:=c) (b:=d) rfl rfl) (Run.lnz_s [] 4 tbo rfl ?_)))))
 exact JN.conQ [] rfl hx rfl rfl
theorem math_bits_Mul_ok{a b}:Con Tryz.prog 183 true ([.w64 a,.w64 b]) (math_bits_Mul a b) (λr=> [.w64 r.1,.w64 r.2]):=by
 intro H r hx
 refine Does.enterC Tryz.func183 rfl rfl ?_
 intro w
 unfold math_bits_Mul at hx
 refine Run.cl [] 14 tbo rfl (JL.conQ hx E210 rfl math_bits_Mul64_ok rfl trivial ?_)
 intro c d hx
 refine Run.lnz_s [] 16 tbo rfl ?_
 exact JN.conQ [] rfl hx rfl rfl
theorem slices_Repeat_int_ok{a8 a9}:Con Tryz.prog 139 true ([.sl false RInt 1 a8,.i a9]) (slices_Repeat_int a8 a9) (λr=> [.row true RInt 3 1 r]):=by
 intro H d1 d2 d3 b0 r hx
 refine Does.enterC Tryz.func139 rfl rfl ?_
 intro w
 unfold slices_Repeat_int at hx
 refine Run.cc [] 12 tbo rfl (JC.ifx hx rfl (λb6 hx=> ?_) (λb6 hx=> ?_))
 ·
  refine JC.region ?_
  cases hx
 ·
  refine Run.cl_s [] 5 tbo rfl (JL.val rfl rfl (R.lenL U44 rfl (IsSlice.long b0)) (JL.val rfl rfl (R.cv_i64_u64 U3 U169 rfl) (JL.val rfl rfl (R.move rfl) (JL.val rfl rfl (R.cv_i64_u64 U3 U169 rfl) (JL.conQ hx E183 rfl math_bits_Mul_ok rfl trivial ?_)))))
  intro v d4 hx
  refine Run.ll_s [] 11 tbo rfl (JL.val rfl rfl (R.gtr64 (a:=v.1) (b:=(0:UInt64)) rfl rfl) (JL.val rfl rfl (R.move rfl) (JL.gX 23 hx rfl (λb7 hx=> ?_) (λb7 hx=> ?_))))
  ·
   refine Run.llz_s [] 7 tbo rfl ?_
   cases hx
  ·
   refine Run.llz [] 3 tbo rfl (JL.val rfl rfl (R.gtr64 (a:=v.2) (b:=(9223372036854775807:UInt64)) rfl rfl) (Run.lcz_s [] 3 tbo rfl (JC.ifx hx rfl (λb8 hx=> ?_) (λb8 hx=> ?_))))
   ·
    refine JC.region ?_
    cases hx
   ·
    refine Run.cl_s [] 5 tbo rfl (JL.val rfl rfl (R.cv_u64_i64 (a:=v.2) U169 U3 rfl) ?_)
    obtain⟨z,b9,c0,hx⟩:=mks_some hx
    refine JL.mkF (HF:=New H H) (R:=RInt) (y:=0) (n:=w64 (v.2.toNat:Int)) U44 I3 rfl rfl (λ_=>rfl) RInt.one b9 c0 rfl rfl (λd5 d6 a0=> ?_)
    obtain⟨b1,b2,rfl⟩:=RowOf.val a0
    refine Run.ll_s [] 7 tbo rfl ?_
    obtain⟨d7,c1,c2,hx⟩:=cpyO_some hx
    refine JL.copyR (HF:=(New H H)) (lo:=0) (hi:=(z.length:Int)) 0 U44 S3 rfl a0 rfl (RowOf.whole a0) rfl (CSrc.slice RInt.one (Hle.refl _) b0 (λ_ _ h=>RInt.const _ _ _ _ h)) c2 c1 rfl (λc3 c4=>Run.lc_s [] 4 tbo rfl (JC.cutX hx [7] [] rfl rfl (λa1 l0 o0 l o g=>∃a2:Own,l=l0∧o=a2::o0∧H=g∧RowOf (New H H) RInt w.heap.size 3 1 (.slice b1 z.length b2) a1 a2) (λa1 d8 hx=> ?_) (λa1 d9 hx=> ?_)))
    ·
     rintro _ _ _ ⟨a2,rfl,rfl,rfl,c5⟩
     refine Run.nnz_s [] 8 tbo rfl ?_
     exact JN.conQ [0] rfl hx rfl ⟨⟨_,c5⟩,rfl⟩
    ·
     refine JC.block (JC.loopX [7] [] rfl rfl (λl0 o0 d l o g=>∃x:Own,l=(8,.int .i64 d.2)::l0∧o=x::o0∧H=g∧RowOf (New H H) RInt w.heap.size 3 1 (.slice b1 z.length b2) d.1 x) hx ⟨c3,rfl,rfl,rfl,c4⟩ rfl ?_)
     ·
      rintro e0 d _ _ _ ⟨x,rfl,rfl,rfl,f⟩ e1 hx a3
      unfold slices_Repeat_int_l1 at hx
      refine Run.cl [] 5 tbo rfl (JL.val rfl rfl (R.lenL U44 rfl (RowOf.long f)) (Run.lcz_s [] 3 tbo rfl (JC.ifx hx rfl (λc6 hx=> ?_) (λc6 hx=> ?_))))
      ·
       refine Run.cc_s [] 3 tbo rfl (JC.drawB (so:=[(_,[7])]) 10 rfl Mixed ⟨by kernel_rfl,by kernel_rfl⟩ (kept0 [0] rfl) ?_)
       refine JB.run 5 [0,1,2,4,5] [] tbo rfl ?_
       obtain⟨p,hx⟩:=chk_some hx
       obtain⟨k,hx⟩:=chk_some hx
       obtain⟨b3,b4,b5,hx⟩:=cpyO_some hx
       refine JB.two (i:=3) (j:=6) (by kernel_rfl) ?_ ?_
       ·
        refine JOB.step rfl trivial rfl (λK hK=> ?_)
        obtain⟨c7,q,h1v_26,h2v_26,h3v_26,a4,c8⟩:=RowOf.cutv f p
        refine JL.val rfl rfl (R.slc (cap:=q) (a:=d.2) (b:=(d.1.length:Int)) (c:=(q:Int)) (m:=d.1) (R:=RInt) U44 S3 rfl ⟨_,rfl⟩ rfl (by obtain⟨ao,n,e,_⟩:=h1v_26;exact⟨ao,n,e,rfl⟩) ⟨p.1,p.2.1,h2v_26⟩ h3v_26 (.inl rfl)) (JL.nil (hK _ _ _ (Hle.refl _) (kept0 [0] rfl) ?_))
        refine JB.one (i:=6) (by kernel_rfl) ?_
        refine JOB.step rfl trivial rfl (λK hK=> ?_)
        obtain⟨c9,s,h1v_28,h2v_28,h3v_28,a5,d0⟩:=RowOf.cutv f k
        refine JL.val rfl rfl (R.slc (cap:=s) (a:=(0:Int)) (b:=d.2) (c:=(s:Int)) (m:=d.1) (R:=RInt) U44 S3 rfl rfl ⟨_,rfl⟩ (by obtain⟨ao,n,e,_⟩:=h1v_28;exact⟨ao,n,e,rfl⟩) ⟨k.1,k.2.1,h2v_28⟩ h3v_28 (.inl rfl)) (JL.nil (hK _ _ _ (Hle.refl _) (kept0 [0] rfl) ?_))
        refine JB.one (i:=7) (by kernel_rfl) ?_
        refine JOB.step rfl trivial rfl (λK hK=>JL.copyR (HF:=(New H H)) (lo:=d.2) (hi:=(d.1.length:Int)) 0 U44 S3 rfl f rfl a4 rfl (CSrc.part 0 rfl f a5 k rfl) b5 b4 rfl (λa6 a7=>JL.nil (hK _ _ _ (Hle.refl _) (kept1 [true] [0] (by kernel_rfl) rfl) ?_)))
        refine JB.run 2 [8,9] [] tbo rfl ?_
        refine JB.doneN (by kernel_rfl) ?_
        refine JN.blkN ?_
        replace hx:=run_next a3 hx
        exact JN.cutR ⟨(b3,w64 (d.2+(min ((cut d.1 (0:Int) d.2).length:Int) ((d.1.length:Int)-d.2)))),⟨a6,rfl,rfl,rfl,a7⟩,hx⟩ rfl rfl rfl
       ·
        refine JOB.step rfl trivial rfl (λK hK=> ?_)
        obtain⟨c9,s,h1v_28,h2v_28,h3v_28,a5,d0⟩:=RowOf.cutv f k
        refine JL.val rfl rfl (R.slc (cap:=s) (a:=(0:Int)) (b:=d.2) (c:=(s:Int)) (m:=d.1) (R:=RInt) U44 S3 rfl rfl ⟨_,rfl⟩ (by obtain⟨ao,n,e,_⟩:=h1v_28;exact⟨ao,n,e,rfl⟩) ⟨k.1,k.2.1,h2v_28⟩ h3v_28 (.inl rfl)) (JL.nil (hK _ _ _ (Hle.refl _) (kept0 [0] rfl) ?_))
        refine JB.one (i:=3) (by kernel_rfl) ?_
        refine JOB.step rfl trivial rfl (λK hK=> ?_)
        obtain⟨c7,q,h1v_26,h2v_26,h3v_26,a4,c8⟩:=RowOf.cutv f p
        refine JL.val rfl rfl (R.slc (cap:=q) (a:=d.2) (b:=(d.1.length:Int)) (c:=(q:Int)) (m:=d.1) (R:=RInt) U44 S3 rfl ⟨_,rfl⟩ rfl (by obtain⟨ao,n,e,_⟩:=h1v_26;exact⟨ao,n,e,rfl⟩) ⟨p.1,p.2.1,h2v_26⟩ h3v_26 (.inl rfl)) (JL.nil (hK _ _ _ (Hle.refl _) (kept0 [0] rfl) ?_))
        refine JB.one (i:=7) (by kernel_rfl) ?_
        refine JOB.step rfl trivial rfl (λK hK=>JL.copyR (HF:=(New H H)) (lo:=d.2) (hi:=(d.1.length:Int)) 0 U44 S3 rfl f rfl a4 rfl (CSrc.part 0 rfl f a5 k rfl) b5 b4 rfl (λa6 a7=>JL.nil (hK _ _ _ (Hle.refl _) (kept1 [true] [0] (by kernel_rfl) rfl) ?_)))
        refine JB.run 2 [8,9] [] tbo rfl ?_
        refine JB.doneN (by kernel_rfl) ?_
        refine JN.blkN ?_
        replace hx:=run_next a3 hx
        exact JN.cutR ⟨(b3,w64 (d.2+(min ((cut d.1 (0:Int) d.2).length:Int) ((d.1.length:Int)-d.2)))),⟨a6,rfl,rfl,rfl,a7⟩,hx⟩ rfl rfl rfl
      ·
       refine Run.cnz_k [] 2 tbo rfl ?_
       obtain rfl:=run_done a3 hx
       refine Run.nnz_kb [] 2 tbo rfl ?_
       exact JN.cutR ⟨x,rfl,rfl,rfl,f⟩ rfl rfl rfl
theorem dev_New_ok (H:Heaplet)(r:Disk)(hx:dev_New=some r):
  Does Tryz.prog 101 #[] [] H (λu K' H'=>∃ao0:Option Addr,∃n0:Nat,∃cap0:Nat,∃K0:Own,u=.agg #[.slice ao0 n0 cap0,.slice none 0 0]∧K'= [K0]∧Pcs 0 5 23 (.slice ao0 n0 cap0) r.Blocks K0∧(∀p∈K0,p.1∉ids (List.flatten []))∧r.Waits= []):=by
 refine Does.enterL (vs:=[]) (l:=[]) Tryz.func101 rfl rfl trivial (λw hlt=> ?_)
 unfold dev_New at hx
 refine Run.cl [] 2 tbo rfl (JL.alloc Z39 rfl (λz a0=>Run.ll_s [] 4 tbo rfl (JL.bslF (HF:=(New H H)) (R:=RInt) (ls:=[256]) (vs:=[.int .i64 256]) U44 I3 rfl rfl (⟨_,_,rfl,rfl,rfl,rfl⟩) RInt.one rfl rfl rfl (by simp[maxLen]) rfl (λa1 a2 b=> ?_))))
 obtain⟨a3,a4,rfl⟩:=RowOf.val b
 refine JL.conL hx E139 rfl slices_Repeat_int_ok rfl (λa5 h i=>⟨(Lent.row' 0 i RInt.mono h rfl (b.old RInt.mono)),trivial⟩) (λ_=>⟨RInt.const,trivial⟩) ?_
 intro j a6 hx a7 a8 a9 b0 k
 refine JL.pubN 0 RInt.mono rfl k (Nat.le_refl _) (λb1 b2 m=>JL.forget 0 ?_)
 obtain⟨b3,q,hx⟩:=bnd_some hx
 refine JL.callC (vs:=[_]) (args:=[_]) (K:=[]) (rst:=[_,_]) E138 rfl rfl rfl picks0 (dev_cut_ok j _ (m.old RInt.mono) _ q) rfl (λb4 b5 b6 s b7 v=> ?_)
 obtain⟨c,d,f,x,rfl,rfl,rfl,a,y,-⟩:=s
 replace a:=(Pcs.base a (λp hp=>(v p (mem_seg 0 rfl hp)).resolve_left (y p hp)))
 refine Run.lnz_s [2] 5 tbo rfl (JN.outP (vs:=[.agg #[.slice c d f,.slice none 0 0]]) (K:=[_]) (rst:=[_,_]) (.inl rfl) rfl rfl (Res.cellN 2 rfl rfl S39 rfl) (picks 0 rfl picks0) ?_)
 obtain rfl:=Option.some.inj hx
 exact⟨c,d,f,x,rfl,rfl,(Pcs.weak (Nat.zero_le _) a),(newP_ids a hlt),rfl⟩
theorem slices_Max_byte_ok (k:List UInt8)(H:Heaplet){f:Option Addr}{h:Nat}{i:Nat}(d:IsSlice H RU8 1 (.slice f h i) k)(r:UInt8)(hx:slices_Max_byte k=some r):
  Does Tryz.prog 168 #[.slice f h i] [] H (λu K' H'=>u=.int .u8 (r.toNat:Int)∧K'= []∧H=H'∧True):=by
 refine Does.enterL (vs:=[.slice f h i]) (l:=[(0,.slice f h i)]) Tryz.func168 rfl rfl ⟨rfl,trivial⟩ (λw hlt=> ?_)
 unfold slices_Max_byte at hx
 refine Run.cl [] 9 tbo rfl (JL.val rfl rfl (R.lenL U23 rfl (IsSlice.long d)) (Run.lcz_s [] 3 tbo rfl (JC.ifx hx rfl (λs hx=> ?_) (λs hx=> ?_))))
 ·
  refine JC.region ?_
  cases hx
 ·
  refine Run.cl_s [] 5 tbo rfl ?_
  obtain⟨a4,v,hx⟩:=idx_some hx
  obtain⟨a5,a6,a7,x,y,a8,z⟩:=IsSlice.elem d v
  obtain rfl:=y
  refine JL.val rfl rfl (R.ix U23 S5 rfl rfl x) (JL.val rfl rfl (R.ldH S5 rfl (z 0 _ rfl)) (Run.lc_s [] 9 tbo rfl (JC.cutX hx [] [] rfl rfl (λj l0 o0 l o g=>l=(3,.int .u8 (j.toNat:Int))::l0∧o=o0∧H=g) (λj a9 hx=> ?_) (λj b0 hx=> ?_))))
  ·
   rintro _ _ _ ⟨rfl,rfl,rfl⟩
   refine Run.nnz_s [] 8 tbo rfl (JN.outP (vs:=[.int .u8 (j.toNat:Int)]) (K:=[]) (rst:=[]) (.inl rfl) rfl rfl (Res.tmp rfl rfl) picks0 ?_)
   obtain rfl:=Option.some.inj hx
   exact⟨rfl,rfl,rfl,trivial⟩
  ·
   refine JC.block (JC.loopX [0] [] rfl rfl (λl0 o0 c l o g=>l=(3,.int .u8 (c.1.toNat:Int))::(4,.int .i64 ((c.2:Nat):Int))::l0∧o=o0∧H=g) hx ⟨rfl,rfl,rfl⟩ rfl ?_)
   ·
    rintro b1 c _ _ _ ⟨rfl,rfl,rfl⟩ b2 hx m
    unfold slices_Max_byte_l1 at hx
    refine Run.cl [] 5 tbo rfl (JL.val rfl rfl (R.lenL U23 rfl (IsSlice.long d)) (Run.lcz_s [] 3 tbo rfl (JC.ifx hx rfl (λp hx=> ?_) (λp hx=> ?_))))
    ·
     refine Run.cl_s [] 8 tbo rfl ?_
     obtain⟨q,a0,hx⟩:=idx_some hx
     obtain⟨b3,b4,b5,a1,a2,b6,a3⟩:=IsSlice.elem d a0
     obtain rfl:=a2
     refine JL.val rfl rfl (R.ix U23 S5 rfl rfl a1) (JL.val rfl rfl (R.ldH S5 rfl (a3 0 _ rfl)) (JL.val rfl rfl (R.max2b (a:=c.1) (b:=q) rfl rfl) (Run.llz_bs [] 6 tbo rfl (JL.val rfl rfl (R.inc rfl rfl (of_decide_eq_true p) (IsSlice.lenI d)) (Run.lnz [] 2 tbo rfl ?_)))))
     replace hx:=run_next m hx
     exact JN.cutR ⟨(maxB c.1 q,c.2+1),⟨rfl,rfl,rfl⟩,hx⟩ rfl rfl rfl
    ·
     refine Run.cnz_k [] 2 tbo rfl ?_
     obtain rfl:=run_done m hx
     refine Run.nnz_kb [] 2 tbo rfl ?_
     exact JN.cutR ⟨rfl,rfl,rfl⟩ rfl rfl rfl
theorem slices_Grow_byte_ok (d:Int)(H:Heaplet)(r:List UInt8)(hx:slices_Grow_byte d=some r):
  Does Tryz.prog 172 #[.slice none 0 0,.int .i64 d] [] H (λu K' H'=>∃ao0:Option Addr,∃n0:Nat,∃cap0:Nat,∃K0:Own,u=.slice ao0 n0 cap0∧K'= [K0]∧H=H'∧RowOf (New H H) RU8 0 5 1 (.slice ao0 n0 cap0) r K0∧(∀p∈K0,p.1∉ids (List.flatten []))∧True):=by
 refine Does.enterL (vs:=[.slice none 0 0,.int .i64 d]) (l:=[(0,.slice none 0 0),(1,.int .i64 d)]) Tryz.func172 rfl rfl ⟨rfl,rfl,trivial⟩ (λw hlt=> ?_)
 unfold slices_Grow_byte at hx
 refine Run.cc [] 12 tbo rfl (JC.ifx hx rfl (λa0 hx=> ?_) (λa0 hx=> ?_))
 ·
  refine JC.region ?_
  cases hx
 ·
  refine Run.cl_s [] 7 tbo rfl (JL.val rfl rfl (R.capN ⟨_,U23⟩ rfl) (JL.val rfl rfl (R.move rfl) (JL.val rfl rfl (R.len U23 rfl) (Run.lcz_s [] 11 tbo rfl (JC.cutX hx [] [] rfl rfl (λk l0 o0 l o g=>∃f:Option Addr,∃h:Nat,∃i:Nat,∃j:Own,l=(0,.slice f h i)::l0∧o=j::o0∧H=g∧RowOf (New H H) RU8 w.heap.size 5 1 (.slice f h i) k j) (λk b0 hx=> ?_) (λk b1 hx=> ?_))))))
  ·
   rintro _ _ _ ⟨f,h,i,j,rfl,rfl,rfl,s⟩
   refine Run.nnz_s [] 8 tbo rfl (JN.outP (vs:=[.slice f h i]) (K:=[_]) (rst:=[]) (.inl rfl) rfl rfl (Res.tmp rfl rfl) (picks 0 rfl picks0) ?_)
   obtain rfl:=Option.some.inj hx
   exact⟨f,h,i,j,rfl,rfl,rfl,(RowOf.weak (Nat.zero_le _) s),(new_ids s hlt),trivial⟩
  ·
   refine JC.ifx hx rfl (λa1 hx=> ?_) (λa1 hx=> ?_)
   ·
    refine Run.clz [] 3 tbo rfl (JL.val rfl rfl (R.capN ⟨_,U23⟩ rfl) (JL.val rfl rfl (R.slcN U23 S5 rfl trivial ⟨_,rfl⟩ rfl) (JL.val rfl rfl (R.move rfl) ?_)))
    obtain⟨a2,a3,a4,hx⟩:=mks_some hx
    refine JL.appZ (HF:=New H H) (R:=RU8) (y:=(0:UInt8)) (n:=w64 (d-0)) U23 U3 I5 rfl rfl (λ_=>rfl) RU8.one a3 a4 rfl rfl (λb2 a5 v=> ?_)
    obtain⟨b3,b4,rfl⟩:=RowOf.val v
    refine JL.val rfl rfl (R.move rfl) (JL.val rfl rfl (R.len U23 rfl) ?_)
    obtain⟨a6,a7,q,hx⟩:=slc_some hx
    obtain⟨b5,x,h1v_11,h2v_11,h3v_11,z⟩:=RowOf.pre v a7 q
    refine JL.val rfl rfl (R.slc (cap:=x) (a:=0) (b:=0) (c:=(x:Int)) (m:=a2) (R:=RU8) U23 S5 rfl rfl ⟨_,rfl⟩ (by obtain⟨ao,n,e,_⟩:=h1v_11;exact⟨ao,n,e,rfl⟩) ⟨q.1,q.2.1,h2v_11⟩ h3v_11 (.inl rfl)) ?_
    obtain⟨a8,a9,rfl⟩:=RowOf.val z
    refine Run.lnz [] 2 tbo rfl ?_
    obtain rfl:=Option.some.inj hx
    exact JN.cutR ⟨a8,a6.length,a9,a5,rfl,rfl,rfl,z⟩ rfl rfl rfl
   ·
    refine JC.skip ?_
    obtain rfl:=Option.some.inj hx
    refine JN.seg0 ?_
    exact JN.cutR ⟨none,0,0,[],rfl,rfl,rfl,(RowOf.nil _ _ _ _ _)⟩ rfl rfl rfl
theorem slices_Concat_byte_ok (a1:List (List UInt8))(H:Heaplet){h:Option Addr}{i:Nat}{j:Nat}(a:IsSlice H (RSl RU8 1) 1 (.slice h i j) a1)(r:List UInt8)(hx:slices_Concat_byte a1=some r):
  Does Tryz.prog 121 #[.slice h i j] [] H (λu K' H'=>∃ao0:Option Addr,∃n0:Nat,∃cap0:Nat,∃K0:Own,u=.slice ao0 n0 cap0∧K'= [K0]∧H=H'∧RowOf (New H H) RU8 0 5 1 (.slice ao0 n0 cap0) r K0∧(∀p∈K0,p.1∉ids (List.flatten []))∧True):=by
 refine Does.enterL (vs:=[.slice h i j]) (l:=[(0,.slice h i j)]) Tryz.func121 rfl rfl ⟨rfl,trivial⟩ (λw hlt=> ?_)
 unfold slices_Concat_byte at hx
 refine Run.cl [] 14 tbo rfl (JL.val rfl rfl (R.lenL U36 rfl (IsSlice.long a)) (Run.lcz_s [] 3 tbo rfl (JC.cutX hx [0] [] rfl rfl (λk l0 o0 l o g=>l=(3,.int .i64 k)::l0∧o=o0∧H=g) (λk d5 hx=> ?_) (λk d6 hx=> ?_))))
 ·
  rintro _ _ _ ⟨rfl,rfl,rfl⟩
  refine Run.nl_s [] 4 tbo rfl ?_
  obtain⟨d7,b2,hx⟩:=bnd_some hx
  refine JL.callC (vs:=[_,_]) (args:=[_,_]) (K:=[]) (rst:=[]) E172 rfl rfl rfl picks0 (slices_Grow_byte_ok k _ _ b2) rfl (λd8 d9 e0 b3 e1 b4=> ?_)
  obtain⟨b5,b6,b7,b8,rfl,rfl,rfl,z,b9,-⟩:=b3
  replace z:=(RowOf.base (RowOf.const (H2:=New H H) RU8.const z) (λp hp=>(b4 p (mem_seg 0 rfl hp)).resolve_left (b9 p hp)))
  refine Run.ll_s [] 7 tbo rfl (JL.val rfl rfl (R.lenL U36 rfl (IsSlice.long a)) (Run.lcz_s [] 3 tbo rfl (JC.cutX hx [] [] rfl rfl (λa0 l0 o0 l o g=>∃b:Option Addr,∃c:Nat,∃d:Nat,∃m:Own,l=(6,.slice b c d)::l0∧o=m::o0∧H=g∧RowOf (New H H) RU8 w.heap.size 5 1 (.slice b c d) a0 m) (λa0 e2 hx=> ?_) (λa0 e3 hx=> ?_))))
  ·
   rintro _ _ _ ⟨b,c,d,m,rfl,rfl,rfl,a2⟩
   refine Run.nnz_s [] 8 tbo rfl (JN.outP (vs:=[.slice b c d]) (K:=[_]) (rst:=[]) (.inl rfl) rfl rfl (Res.tmp rfl rfl) (picks 0 rfl picks0) ?_)
   obtain rfl:=Option.some.inj hx
   exact⟨b,c,d,m,rfl,rfl,rfl,(RowOf.weak (Nat.zero_le _) a2),(new_ids a2 hlt),trivial⟩
  ·
   refine JC.block (JC.loopX [25,26] [] rfl rfl (λl0 o0 q l o g=>∃s:Option Addr,∃v:Nat,∃x:Nat,∃y:Own,l=(6,.slice s v x)::(27,.int .i64 ((q.2:Nat):Int))::l0∧o=y::o0∧H=g∧RowOf (New H H) RU8 w.heap.size 5 1 (.slice s v x) q.1 y) hx ⟨b5,b6,b7,b8,rfl,rfl,rfl,z⟩ rfl ?_)
   ·
    rintro e4 q _ _ _ ⟨s,v,x,y,rfl,rfl,rfl,a3⟩ e5 hx a4
    unfold slices_Concat_byte_l2 at hx
    refine Run.cc [] 6 tbo rfl (JC.ifx hx rfl (λa5 hx=> ?_) (λa5 hx=> ?_))
    ·
     refine Run.cl_s [] 6 tbo rfl ?_
     obtain⟨e6,c0,hx⟩:=idx_some hx
     obtain⟨e7,e8,e9,c1,c2,f0,c3⟩:=IsSlice.elem a c0
     obtain⟨f1,rfl,a6⟩:=c2
     obtain⟨f2,f3,rfl⟩:=IsSlice.val a6
     refine JL.val rfl rfl (R.ix U36 S23 rfl rfl c1) (JL.val rfl rfl (R.ldH S23 rfl (c3 0 _ rfl)) (Run.llz_s [] 6 tbo rfl ?_))
     obtain⟨a7,c4,c5,hx⟩:=app_some hx
     refine JL.appF (HF:=(New H H)) 0 U23 I5 rfl rfl a3 rfl (SrcF.sliceC RU8.const RU8.one U23 a6) c4 c5 rfl (Nat.le_refl _) rfl (λf4 c6 a8=> ?_)
     obtain⟨c7,c8,rfl⟩:=RowOf.val a8
     refine Run.llz_bs [] 5 tbo rfl (JL.val rfl rfl (R.inc rfl rfl (of_decide_eq_true a5) (IsSlice.lenI a)) (Run.lnz [] 2 tbo rfl ?_))
     replace hx:=run_next a4 hx
     exact JN.cutR ⟨(a7,q.2+1),⟨c7,a7.length,c8,c6,rfl,rfl,rfl,a8⟩,hx⟩ rfl rfl rfl
    ·
     refine Run.cnz_k [] 2 tbo rfl ?_
     obtain rfl:=run_done a4 hx
     refine Run.nnz_kb [] 2 tbo rfl ?_
     exact JN.cutR ⟨s,v,x,y,rfl,rfl,rfl,a3⟩ rfl rfl rfl
 ·
  refine JC.block (JC.loopX [0,9,10] [] rfl rfl (λl0 o0 f l o g=>l=(3,.int .i64 f.1)::(11,.int .i64 ((f.2:Nat):Int))::l0∧o=o0∧H=g) hx ⟨rfl,rfl,rfl⟩ rfl ?_)
  ·
   rintro f5 f _ _ _ ⟨rfl,rfl,rfl⟩ f6 hx a9
   unfold slices_Concat_byte_l1 at hx
   refine Run.cc [] 6 tbo rfl (JC.ifx hx rfl (λb0 hx=> ?_) (λb0 hx=> ?_))
   ·
    refine Run.cl_s [] 6 tbo rfl ?_
    obtain⟨c9,d0,hx⟩:=idx_some hx
    obtain⟨f7,f8,f9,d1,d2,g0,d3⟩:=IsSlice.elem a d0
    obtain⟨g1,rfl,b1⟩:=d2
    obtain⟨g2,g3,rfl⟩:=IsSlice.val b1
    refine JL.val rfl rfl (R.ix U36 S23 rfl rfl d1) (JL.val rfl rfl (R.ldH S23 rfl (d3 0 _ rfl)) (Run.ll_s [] 7 tbo rfl (JL.val rfl rfl (R.lenL U23 rfl (IsSlice.long b1)) (Run.lcz_s [] 10 tbo rfl (JC.ifx hx rfl (λd4 hx=> ?_) (λd4 hx=> ?_))))))
    ·
     refine JC.region ?_
     cases hx
    ·
     refine Run.clz_bs [] 4 tbo rfl (JL.val rfl rfl (R.inc rfl rfl (of_decide_eq_true b0) (IsSlice.lenI a)) (Run.lnz [] 2 tbo rfl ?_))
     replace hx:=run_next a9 hx
     exact JN.cutR ⟨(w64 (f.1+(c9.length:Int)),f.2+1),⟨rfl,rfl,rfl⟩,hx⟩ rfl rfl rfl
   ·
    refine Run.cnz_k [] 2 tbo rfl ?_
    obtain rfl:=run_done a9 hx
    refine Run.nnz_kb [] 2 tbo rfl ?_
    exact JN.cutR ⟨rfl,rfl,rfl⟩ rfl rfl rfl
theorem bytes_Repeat_ok{b2 b3}:Con Tryz.prog 140 true ([.sl false RU8 1 b2,.i b3]) (bytes_Repeat b2 b3) (λr=> [.row true RU8 5 1 r]):=by
 intro H e6 e7 e8 s r hx
 refine Does.enterC Tryz.func140 rfl rfl ?_
 intro w
 unfold bytes_Repeat at hx
 refine Run.cc [] 12 tbo rfl (JC.ifx hx rfl (λc1 hx=> ?_) (λc1 hx=> ?_))
 ·
  refine Run.cl [] 2 tbo rfl (JL.bslF (HF:=(New H H)) (R:=RU8) (ls:=([]:List UInt8)) (vs:=[]) U23 I5 rfl rfl (rfl) RU8.one rfl rfl rfl (by simp[maxLen]) rfl (λe9 f0 b4=> ?_))
  obtain⟨f1,f2,rfl⟩:=RowOf.val b4
  refine Run.lnz_sk [] 5 tbo rfl ?_
  exact JN.conQ [0] rfl hx rfl ⟨⟨_,b4⟩,rfl⟩
 ·
  refine Run.cc_s [] 9 tbo rfl (JC.ifx hx rfl (λc2 hx=> ?_) (λc2 hx=> ?_))
  ·
   refine JC.region ?_
   cases hx
  ·
   refine Run.cl_s [] 5 tbo rfl (JL.val rfl rfl (R.lenL U23 rfl (IsSlice.long s)) (JL.val rfl rfl (R.cv_i64_u64 U3 U169 rfl) (JL.val rfl rfl (R.move rfl) (JL.val rfl rfl (R.cv_i64_u64 U3 U169 rfl) (JL.conQ hx E183 rfl math_bits_Mul_ok rfl trivial ?_)))))
   intro x f3 hx
   refine Run.ll_s [] 11 tbo rfl (JL.val rfl rfl (R.gtr64 (a:=x.1) (b:=(0:UInt64)) rfl rfl) (JL.val rfl rfl (R.move rfl) (JL.gX 29 hx rfl (λc3 hx=> ?_) (λc3 hx=> ?_))))
   ·
    refine Run.llz_s [] 7 tbo rfl ?_
    cases hx
   ·
    refine Run.llz [] 3 tbo rfl (JL.val rfl rfl (R.gtr64 (a:=x.2) (b:=(9223372036854775807:UInt64)) rfl rfl) (Run.lcz_s [] 3 tbo rfl (JC.ifx hx rfl (λc4 hx=> ?_) (λc4 hx=> ?_))))
    ·
     refine JC.region ?_
     cases hx
    ·
     refine Run.cl_s [] 5 tbo rfl (JL.val rfl rfl (R.cv_u64_i64 (a:=x.2) U169 U3 rfl) (Run.ll_s [] 7 tbo rfl (JL.val rfl rfl (R.lenL U23 rfl (IsSlice.long s)) (Run.lcz_s [] 3 tbo rfl (JC.ifx hx rfl (λc5 hx=> ?_) (λc5 hx=> ?_))))))
     ·
      refine Run.cl [] 2 tbo rfl (JL.bslF (HF:=(New H H)) (R:=RU8) (ls:=([]:List UInt8)) (vs:=[]) U23 I5 rfl rfl (rfl) RU8.one rfl rfl rfl (by simp[maxLen]) rfl (λf4 f5 b5=> ?_))
      obtain⟨f6,f7,rfl⟩:=RowOf.val b5
      refine Run.lnz_sk [] 5 tbo rfl ?_
      exact JN.conQ [0] rfl hx rfl ⟨⟨_,b5⟩,rfl⟩
     ·
      refine Run.cc_s [] 15 tbo rfl (JC.cutX hx [0,7] [] rfl rfl (λp l0 o0 l o g=>l=(8,.int .i64 p)::l0∧o=o0∧H=g) (λp f8 hx=> ?_) (λp f9 hx=> ?_))
      ·
       rintro _ _ _ ⟨rfl,rfl,rfl⟩
       refine Run.nl_s [] 4 tbo rfl ?_
       obtain⟨g0,c6,a2,hx⟩:=mks_some hx
       obtain⟨c7,a3⟩:=Int.eq_ofNat_of_zero_le a2.1
       refine JL.mkNZ (HF:=New H H) (N:=c7) Tryz.func184 (by kernel_rfl) rfl (by kernel_rfl) U23 (by kernel_rfl) (congrArg (λq=>some (Value.int .i64 q)) a3) (by simpa[a3]using a2.2) rfl (λg1 g2 c8 g3 c9 d0=> ?_)
       replace hx:=bytes_Repeat_any c6 a3 c9 hx (by have:=a2.2;omega)
       refine Run.llz [] 2 tbo rfl ?_
       obtain⟨y,d1,a4,hx⟩:=slc_some hx
       obtain⟨g4,d2,b6,h1v_27,h2v_27,b7⟩:=RowOf.cutc d0 d1 a4
       refine JL.val rfl rfl (R.slc (cap:=d2) (a:=0) (b:=w64 (x.2.toNat:Int)) (c:=w64 (x.2.toNat:Int)) (m:=c8) (R:=RU8) U23 S5 rfl rfl ⟨_,rfl⟩ ⟨_,rfl⟩ ⟨a4.1,a4.2.1,Int.le_refl _⟩ h1v_27 (.inr (λh=>by cases h))) ?_
       subst h2v_27
       refine Run.ll_s [] 7 tbo rfl ?_
       obtain⟨g5,d3,d4,hx⟩:=cpyO_some hx
       refine JL.copyR (HF:=(New H H)) (lo:=0) (hi:=(y.length:Int)) 0 U23 S5 rfl b7 rfl (RowOf.whole b7) rfl (CSrc.slice RU8.one (Hle.refl _) s (λ_ _ h=>RU8.const _ _ _ _ h)) d4 d3 rfl (λd5 d6=>Run.lc_s [] 4 tbo rfl (JC.cutX hx [9] [] rfl rfl (λa5 l0 o0 l o g=>∃a6:Own,l=l0∧o=a6::o0∧H=g∧RowOf (New H H) RU8 w.heap.size 5 1 (.slice b6 y.length y.length) a5 a6) (λa5 g6 hx=> ?_) (λa5 g7 hx=> ?_)))
       ·
        rintro _ _ _ ⟨a6,rfl,rfl,rfl,d7⟩
        refine Run.nnz_s [] 8 tbo rfl ?_
        exact JN.conQ [0] rfl hx rfl ⟨⟨_,d7⟩,rfl⟩
       ·
        refine JC.block (JC.loopX [7,8,9] [] rfl rfl (λl0 o0 d l o g=>∃a1:Own,l=(10,.int .i64 d.2)::l0∧o=a1::o0∧H=g∧RowOf (New H H) RU8 w.heap.size 5 1 (.slice b6 y.length y.length) d.1 a1) hx ⟨d5,rfl,rfl,rfl,d6⟩ rfl ?_)
        ·
         rintro g8 d _ _ _ ⟨a1,rfl,rfl,rfl,f⟩ g9 hx a7
         unfold bytes_Repeat_l1 at hx
         refine Run.cc [] 8 tbo rfl (JC.ifx hx rfl (λd8 hx=> ?_) (λd8 hx=> ?_))
         ·
          refine Run.cl_s [] 7 tbo rfl (JL.val rfl rfl (R.min2 rfl rfl) (Run.lcz_s [] 3 tbo rfl (JC.drawB (so:=[(_,[7])]) 10 rfl Mixed ⟨by kernel_rfl,by kernel_rfl⟩ (kept0 [0] rfl) ?_)))
          refine JB.run 5 [0,1,2,4,5] [] tbo rfl ?_
          obtain⟨v,hx⟩:=chk_some hx
          obtain⟨k,hx⟩:=chk_some hx
          obtain⟨b8,b9,c0,hx⟩:=cpyO_some hx
          refine JB.two (i:=3) (j:=6) (by kernel_rfl) ?_ ?_
          ·
           refine JOB.step rfl trivial rfl (λK hK=> ?_)
           obtain⟨d9,z,h1v_44,h2v_44,h3v_44,a8,e0⟩:=RowOf.cutv f v
           refine JL.val rfl rfl (R.slc (cap:=z) (a:=d.2) (b:=(d.1.length:Int)) (c:=(z:Int)) (m:=d.1) (R:=RU8) U23 S5 rfl ⟨_,rfl⟩ rfl (by obtain⟨ao,n,e,_⟩:=h1v_44;exact⟨ao,n,e,rfl⟩) ⟨v.1,v.2.1,h2v_44⟩ h3v_44 (.inl rfl)) (JL.nil (hK _ _ _ (Hle.refl _) (kept0 [0] rfl) ?_))
           refine JB.one (i:=6) (by kernel_rfl) ?_
           refine JOB.step rfl trivial rfl (λK hK=> ?_)
           obtain⟨e1,a0,h1v_46,h2v_46,h3v_46,a9,e2⟩:=RowOf.cutv f k
           refine JL.val rfl rfl (R.slc (cap:=a0) (a:=(0:Int)) (b:=min d.2 p) (c:=(a0:Int)) (m:=d.1) (R:=RU8) U23 S5 rfl rfl ⟨_,rfl⟩ (by obtain⟨ao,n,e,_⟩:=h1v_46;exact⟨ao,n,e,rfl⟩) ⟨k.1,k.2.1,h2v_46⟩ h3v_46 (.inl rfl)) (JL.nil (hK _ _ _ (Hle.refl _) (kept0 [0] rfl) ?_))
           refine JB.one (i:=7) (by kernel_rfl) ?_
           refine JOB.step rfl trivial rfl (λK hK=>JL.copyR (HF:=(New H H)) (lo:=d.2) (hi:=(d.1.length:Int)) 0 U23 S5 rfl f rfl a8 rfl (CSrc.part 0 rfl f a9 k rfl) c0 b9 rfl (λb0 b1=>JL.nil (hK _ _ _ (Hle.refl _) (kept1 [true] [0] (by kernel_rfl) rfl) ?_)))
           refine JB.run 2 [8,9] [] tbo rfl ?_
           refine JB.doneN (by kernel_rfl) ?_
           refine JN.blkN ?_
           replace hx:=run_next a7 hx
           exact JN.cutR ⟨(b8,w64 (d.2+(min ((cut d.1 (0:Int) (min d.2 p)).length:Int) ((d.1.length:Int)-d.2)))),⟨b0,rfl,rfl,rfl,b1⟩,hx⟩ rfl rfl rfl
          ·
           refine JOB.step rfl trivial rfl (λK hK=> ?_)
           obtain⟨e1,a0,h1v_46,h2v_46,h3v_46,a9,e2⟩:=RowOf.cutv f k
           refine JL.val rfl rfl (R.slc (cap:=a0) (a:=(0:Int)) (b:=min d.2 p) (c:=(a0:Int)) (m:=d.1) (R:=RU8) U23 S5 rfl rfl ⟨_,rfl⟩ (by obtain⟨ao,n,e,_⟩:=h1v_46;exact⟨ao,n,e,rfl⟩) ⟨k.1,k.2.1,h2v_46⟩ h3v_46 (.inl rfl)) (JL.nil (hK _ _ _ (Hle.refl _) (kept0 [0] rfl) ?_))
           refine JB.one (i:=3) (by kernel_rfl) ?_
           refine JOB.step rfl trivial rfl (λK hK=> ?_)
           obtain⟨d9,z,h1v_44,h2v_44,h3v_44,a8,e0⟩:=RowOf.cutv f v
           refine JL.val rfl rfl (R.slc (cap:=z) (a:=d.2) (b:=(d.1.length:Int)) (c:=(z:Int)) (m:=d.1) (R:=RU8) U23 S5 rfl ⟨_,rfl⟩ rfl (by obtain⟨ao,n,e,_⟩:=h1v_44;exact⟨ao,n,e,rfl⟩) ⟨v.1,v.2.1,h2v_44⟩ h3v_44 (.inl rfl)) (JL.nil (hK _ _ _ (Hle.refl _) (kept0 [0] rfl) ?_))
           refine JB.one (i:=7) (by kernel_rfl) ?_
           refine JOB.step rfl trivial rfl (λK hK=>JL.copyR (HF:=(New H H)) (lo:=d.2) (hi:=(d.1.length:Int)) 0 U23 S5 rfl f rfl a8 rfl (CSrc.part 0 rfl f a9 k rfl) c0 b9 rfl (λb0 b1=>JL.nil (hK _ _ _ (Hle.refl _) (kept1 [true] [0] (by kernel_rfl) rfl) ?_)))
           refine JB.run 2 [8,9] [] tbo rfl ?_
           refine JB.doneN (by kernel_rfl) ?_
           refine JN.blkN ?_
           replace hx:=run_next a7 hx
           exact JN.cutR ⟨(b8,w64 (d.2+(min ((cut d.1 (0:Int) (min d.2 p)).length:Int) ((d.1.length:Int)-d.2)))),⟨b0,rfl,rfl,rfl,b1⟩,hx⟩ rfl rfl rfl
         ·
          refine Run.cnz_k [] 2 tbo rfl ?_
          obtain rfl:=run_done a7 hx
          refine Run.nnz_kb [] 2 tbo rfl ?_
          exact JN.cutR ⟨a1,rfl,rfl,rfl,f⟩ rfl rfl rfl
      ·
       refine JC.ifx hx rfl (λe3 hx=> ?_) (λe3 hx=> ?_)
       ·
        refine Run.cl [] 3 tbo rfl (JL.val rfl rfl (R.lenL U23 rfl (IsSlice.long s)) ?_)
        obtain⟨e4,hx⟩:=chk_some hx
        refine JL.val rfl rfl (R.quo_i rfl rfl e4) (JL.val rfl rfl (R.move rfl) (JL.val rfl rfl (R.lenL U23 rfl (IsSlice.long s)) (Run.lcz_s [] 10 tbo rfl (JC.ifx hx rfl (λe5 hx=> ?_) (λe5 hx=> ?_)))))
        ·
         refine Run.clz [] 2 tbo rfl (JL.val rfl rfl (R.lenL U23 rfl (IsSlice.long s)) (Run.lnz [] 2 tbo rfl ?_))
         obtain rfl:=Option.some.inj hx
         exact JN.cutR ⟨rfl,rfl,rfl⟩ rfl rfl rfl
        ·
         refine JC.skip ?_
         obtain rfl:=Option.some.inj hx
         exact JN.cutR ⟨rfl,rfl,rfl⟩ rfl rfl rfl
       ·
        refine JC.skip ?_
        obtain rfl:=Option.some.inj hx
        exact JN.cutR ⟨rfl,rfl,rfl⟩ rfl rfl rfl
theorem space_New_ok (H:Heaplet)(r:List UInt8)(hx:space_New=some r):
  Does Tryz.prog 102 #[] [] H (λu K' H'=>∃ao0:Option Addr,∃n0:Nat,∃cap0:Nat,∃K0:Own,u=.slice ao0 n0 cap0∧K'= [K0]∧H=H'∧RowOf (New H H) RU8 0 5 1 (.slice ao0 n0 cap0) r K0∧(∀p∈K0,p.1∉ids (List.flatten []))∧True):=by
 refine Does.enterL (vs:=[]) (l:=[]) Tryz.func102 rfl rfl trivial (λw hlt=> ?_)
 unfold space_New at hx
 refine Run.cl [] 7 tbo rfl (JL.bslF (HF:=(New H H)) (R:=RU8) (ls:=[(1:UInt8)]) (vs:=[.int .u8 ((1:UInt8).toNat:Int)]) U23 I5 rfl rfl (⟨_,_,rfl,rfl,rfl,rfl⟩) RU8.one rfl rfl rfl (by simp[maxLen]) rfl (λx z b=> ?_))
 obtain⟨a0,a1,rfl⟩:=RowOf.val b
 refine JL.conL hx E140 rfl bytes_Repeat_ok rfl (λa2 h i=>⟨(Lent.row' 0 i RU8.mono h rfl (b.old RU8.mono)),trivial⟩) (λ_=>⟨RU8.const,trivial⟩) ?_
 intro a3 a4 hx a5 a6 a7 a8 j
 obtain⟨a9,k,m,hx⟩:=mks_some hx
 obtain⟨c,q,s,hx⟩:=app_some hx
 refine JL.appZR (HF:=(New H H)) (y:=(0:UInt8)) 0 U23 U3 I5 rfl rfl j rfl (λ_=>rfl) RU8.one k m q s rfl (Nat.le_refl _) rfl (λb0 v a=> ?_)
 obtain⟨d,f,rfl⟩:=RowOf.val a
 refine Run.lnz_s [] 4 tbo rfl (JN.outP (vs:=[.slice d c.length f]) (K:=[_]) (rst:=[_]) (.inl rfl) rfl rfl (Res.tmp rfl rfl) (picks 0 rfl picks0) ?_)
 obtain rfl:=Option.some.inj hx
 exact⟨d,c.length,f,v,rfl,rfl,rfl,(RowOf.weak (Nat.zero_le _) a),(new_ids a hlt),trivial⟩
theorem unicode_utf8_RuneCount_ok (a:List UInt8)(H:Heaplet){ao0:Option Addr}{n0 cap0:Nat}(h0:IsSlice H RU8 1 (.slice ao0 n0 cap0) a)(r:Int)(hx:unicode_utf8_RuneCount a=some r):
  Does Tryz.prog 201 #[.slice ao0 n0 cap0] [] H (λu K' H'=>u=.int .i64 r∧K'= []∧H=H'∧True):=by cases hx
theorem bytes_Index_ok (a:List UInt8)(b:List UInt8)(H:Heaplet){ao0:Option Addr}{n0 cap0:Nat}{ao1:Option Addr}{n1 cap1:Nat}(h0:IsSlice H RU8 1 (.slice ao0 n0 cap0) a)(h1:IsSlice H RU8 1 (.slice ao1 n1 cap1) b)(r:Int)(hx:bytes_Index a b=some r):
  Does Tryz.prog 203 #[.slice ao0 n0 cap0,.slice ao1 n1 cap1] [] H (λu K' H'=>u=.int .i64 r∧K'= []∧H=H'∧True):=by cases hx
theorem bytes_Count_ok (f:List UInt8)(p:List UInt8)(H:Heaplet){h:Option Addr}{i:Nat}{j:Nat}{q:Option Addr}{s:Nat}{v:Nat}(x:IsSlice H RU8 1 (.slice h i j) f)(k:IsSlice H RU8 1 (.slice q s v) p)(r:Int)(hx:bytes_Count f p=some r):
  Does Tryz.prog 169 #[.slice h i j,.slice q s v] [] H (λu K' H'=>u=.int .i64 r∧K'= []∧H=H'∧True):=by
 refine Does.enterL (vs:=[.slice h i j,.slice q s v]) (l:=[(0,.slice h i j),(1,.slice q s v)]) Tryz.func169 rfl rfl ⟨rfl,rfl,trivial⟩ (λw hlt=> ?_)
 unfold bytes_Count at hx
 refine Run.cl [] 9 tbo rfl (JL.val rfl rfl (R.lenL U23 rfl (IsSlice.long k)) (Run.lcz_s [] 3 tbo rfl (JC.ifx hx rfl (λa9 hx=> ?_) (λa9 hx=> ?_))))
 ·
  refine Run.cl [] 3 tbo rfl ?_
  obtain⟨b0,b1,hx⟩:=bnd_some hx
  refine JL.callC (vs:=[_]) (args:=[_]) (K:=[]) (rst:=[]) E201 rfl rfl rfl picks0 (unicode_utf8_RuneCount_ok f _ x _ b1) rfl (λc6 c7 c8 b2 c9 d0=> ?_)
  obtain⟨rfl,rfl,rfl,-⟩:=b2
  refine Run.lnz_sk [] 6 tbo rfl (JN.outP (vs:=[.int .i64 (w64 (b0+1))]) (K:=[]) (rst:=[]) (.inl rfl) rfl rfl (Res.tmp rfl rfl) picks0 ?_)
  obtain rfl:=Option.some.inj hx
  exact⟨rfl,rfl,rfl,trivial⟩
 ·
  refine Run.cl_s [] 6 tbo rfl (JL.val rfl rfl (R.lenL U23 rfl (IsSlice.long k)) (Run.lcz_s [] 3 tbo rfl (JC.ifx hx rfl (λb3 hx=> ?_) (λb3 hx=> ?_))))
  ·
   refine Run.cl [] 4 tbo rfl ?_
   obtain⟨a2,b4,hx⟩:=idx_some hx
   obtain⟨d1,d2,d3,b5,b6,d4,b7⟩:=IsSlice.elem k b4
   obtain rfl:=b6
   refine JL.val rfl rfl (R.ix U23 S5 rfl rfl b5) (JL.val rfl rfl (R.ldH S5 rfl (b7 0 _ rfl)) (JL.val rfl rfl (R.countB (m:=f) (c:=a2) Tryz.func202 (by kernel_rfl) rfl (by kernel_rfl) (by kernel_rfl) rfl x rfl) ?_))
   refine Run.lnz_sk [] 5 tbo rfl (JN.outP (vs:=[.int .i64 ((cntB f a2:Nat):Int)]) (K:=[]) (rst:=[]) (.inl rfl) rfl rfl (Res.tmp rfl rfl) picks0 ?_)
   obtain rfl:=Option.some.inj hx
   exact⟨rfl,rfl,rfl,trivial⟩
  ·
   refine Run.ccz_s [] 7 tbo rfl ?_
   obtain⟨d5,a3,hx⟩:=bnd_some hx
   have b8:=hx;clear hx;have hx:=a3;clear a3
   refine JC.block (JC.loopX [1] [] rfl rfl (λl0 o0 d l o g=>∃y:Option Addr,∃z:Nat,∃a0:Nat,l=(0,.slice y z a0)::(5,.int .i64 d.2)::l0∧o=o0∧H=g∧IsSlice H RU8 1 (.slice y z a0) d.1) hx ⟨h,i,j,rfl,rfl,rfl,x⟩ rfl ?_)
   ·
    rintro d6 d _ _ _ ⟨y,z,a0,rfl,rfl,rfl,a4⟩ d7 hx a5
    unfold bytes_Count_l1 at hx
    refine Run.cl [] 5 tbo rfl ?_
    obtain⟨b9,c0,hx⟩:=bnd_some hx
    refine JL.callC (vs:=[_,_]) (args:=[_,_]) (K:=[]) (rst:=[]) E203 rfl rfl rfl picks0 (bytes_Index_ok d.1 p _ a4 k _ c0) rfl (λd8 d9 e0 c1 e1 e2=> ?_)
    obtain⟨rfl,rfl,rfl,-⟩:=c1
    refine Run.lc_s [] 10 tbo rfl (JC.ifx hx rfl (λc2 hx=> ?_) (λc2 hx=> ?_))
    ·
     refine Run.cnz_kb [] 9 tbo rfl ?_
     obtain rfl:=run_done a5 hx
     refine Run.nnz_kb [] 2 tbo rfl ?_
     clear hx;have hx:=b8
     refine JN.outP (vs:=[.int .i64 d.2]) (K:=[]) (rst:=[]) (.inl rfl) rfl rfl (Res.tmp rfl rfl) picks0 ?_
     obtain rfl:=Option.some.inj hx
     exact⟨rfl,rfl,rfl,trivial⟩
    ·
     refine Run.clz_s [] 13 tbo rfl (JL.val rfl rfl (R.lenL U23 rfl (IsSlice.long k)) (JL.val rfl rfl (R.add_i rfl rfl) ?_))
     obtain⟨a6,c3,a1,hx⟩:=slc_some hx
     obtain⟨e3,a7,h1v_33,h2v_33,h3v_33,a8⟩:=IsSlice.cutv a4 c3 a1
     refine JL.val rfl rfl (R.slc (cap:=a7) (a:=w64 (b9+(p.length:Int))) (b:=(d.1.length:Int)) (c:=(a7:Int)) (m:=d.1) (R:=RU8) U23 S5 rfl ⟨_,rfl⟩ rfl (by obtain⟨ao,n,e,_⟩:=h1v_33;exact⟨ao,n,e,rfl⟩) ⟨a1.1,a1.2.1,h2v_33⟩ h3v_33 (.inl rfl)) ?_
     obtain⟨c4,c5,rfl⟩:=IsSlice.val a8
     refine Run.lnz_b [] 3 tbo rfl ?_
     replace hx:=run_next a5 hx
     exact JN.cutR ⟨(a6,w64 (d.2+1)),⟨c4,a6.length,c5,rfl,rfl,rfl,a8⟩,hx⟩ rfl rfl rfl
theorem space_Check_ok (d:List UInt8)(H:Heaplet){f:Option Addr}{i:Nat}{j:Nat}(k:IsSlice H RU8 1 (.slice f i j) d)(r:Int)(hx:space_Check d=some r):
  Does Tryz.prog 111 #[.slice f i j] [] H (λu K' H'=>u=.int .i64 r∧K'= []∧H=H'∧True):=by
 refine Does.enterL (vs:=[.slice f i j]) (l:=[(0,.slice f i j)]) Tryz.func111 rfl rfl ⟨rfl,trivial⟩ (λw hlt=> ?_)
 unfold space_Check at hx
 refine Run.cl [] 9 tbo rfl (JL.val rfl rfl (R.lenL U23 rfl (IsSlice.long k)) (Run.llz [] 2 tbo rfl (JL.gX 6 hx rfl (λz hx=> ?_) (λz hx=> ?_))))
 ·
  refine Run.lnz_sk [] 21 tbo rfl (JN.outP (vs:=[.int .i64 8]) (K:=[]) (rst:=[]) (.inl rfl) rfl rfl (Res.tmp rfl rfl) picks0 ?_)
  obtain rfl:=Option.some.inj hx
  exact⟨rfl,rfl,rfl,trivial⟩
 ·
  refine Run.llz [] 3 tbo rfl ?_
  obtain⟨a0,a1,hx⟩:=bnd_some hx
  refine JL.callC (vs:=[_]) (args:=[_]) (K:=[]) (rst:=[]) E168 rfl rfl rfl picks0 (slices_Max_byte_ok d _ k _ a1) rfl (λb0 b1 b2 a2 b3 b4=> ?_)
  obtain⟨rfl,rfl,rfl,-⟩:=a2
  refine JL.gYes rfl rfl rfl (JL.val rfl rfl (R.gtr8 (a:=a0) (b:=(2:UInt8)) rfl rfl) (Run.llz [] 2 tbo rfl (JL.gX 11 hx rfl (λa3 hx=> ?_) (λa3 hx=> ?_))))
  ·
   refine Run.lnz_sk [] 16 tbo rfl (JN.outP (vs:=[.int .i64 8]) (K:=[]) (rst:=[]) (.inl rfl) rfl rfl (Res.tmp rfl rfl) picks0 ?_)
   obtain rfl:=Option.some.inj hx
   exact⟨rfl,rfl,rfl,trivial⟩
  ·
   refine Run.llz [] 3 tbo rfl ?_
   obtain⟨a4,a5,p,hx⟩:=slc_some hx
   obtain⟨b5,q,h1v_11,h2v_11,h3v_11,s⟩:=IsSlice.cutv k a5 p
   refine JL.val rfl rfl (R.slc (cap:=q) (a:=0) (b:=12) (c:=(q:Int)) (m:=d) (R:=RU8) U23 S5 rfl rfl ⟨_,rfl⟩ (by obtain⟨ao,n,e,_⟩:=h1v_11;exact⟨ao,n,e,rfl⟩) ⟨p.1,p.2.1,h2v_11⟩ h3v_11 (.inl rfl)) ?_
   obtain⟨b6,b7,rfl⟩:=IsSlice.val s
   refine JL.gYes rfl rfl rfl (JL.bslF (HF:=(New H H)) (R:=RU8) (ls:=[(1:UInt8)]) (vs:=[.int .u8 ((1:UInt8).toNat:Int)]) U23 I5 rfl rfl (⟨_,_,rfl,rfl,rfl,rfl⟩) RU8.one rfl rfl rfl (by simp[maxLen]) rfl (λb8 b9 x=> ?_))
   obtain⟨c0,c1,rfl⟩:=RowOf.val x
   refine JL.gYes rfl rfl rfl ?_
   obtain⟨a6,a7,hx⟩:=bnd_some hx
   refine JL.callL2 (vs:=[_,_]) (v:=.int .i64 a6) E169 rfl rfl (λc2 y a8=>Does.mono (bytes_Count_ok a4 ([(1:UInt8)]) _ (IsSlice.mono RU8.mono y s) (Lent.row' 0 a8 RU8.mono y rfl (x.old RU8.mono)) _ a7) (λ_ _ _ h=>h.1)) rfl (Run.lcz_s [] 5 tbo rfl (JC.ifx hx rfl (λa9 hx=> ?_) (λa9 hx=> ?_)))
   ·
    refine Run.cnz_k [] 7 tbo rfl (JN.outP (vs:=[.int .i64 8]) (K:=[]) (rst:=[_]) (.inl rfl) rfl rfl (Res.tmp rfl rfl) picks0 ?_)
    obtain rfl:=Option.some.inj hx
    exact⟨rfl,rfl,rfl,trivial⟩
   ·
    refine Run.cnz_s [] 8 tbo rfl (JN.outP (vs:=[.int .i64 0]) (K:=[]) (rst:=[_]) (.inl rfl) rfl rfl (Res.tmp rfl rfl) picks0 ?_)
    obtain rfl:=Option.some.inj hx
    exact⟨rfl,rfl,rfl,trivial⟩
theorem dev_Write_1_ok (j:Disk)(H:Heaplet){a:Nat}{b:Option Addr}{c:Nat}{d:Nat}{f:Option Addr}{h:Nat}{i:Nat}(k:IsSlice H (RSl RU8 1) 1 (.slice b c d) j.Blocks)(m:IsSlice H R_Write 2 (.slice f h i) j.Waits)(r:Disk×Disk)(hx:dev_Write_1 j=some r):
  Does Tryz.prog 198 #[.pointer (some ⟨a,0,none⟩)] [[(a,.cells #[.slice b c d,.slice f h i] 39 (0,0))]] H (λu K' H'=>∃ao0:Option Addr,∃n0:Nat,∃cap0:Nat,∃ao1:Option Addr,∃n1:Nat,∃cap1:Nat,∃ao2:Option Addr,∃n2:Nat,∃cap2:Nat,∃ao3:Option Addr,∃n3:Nat,∃cap3:Nat,u=.agg #[.slice ao2 n2 cap2,.slice ao3 n3 cap3]∧K'= [[(a,.cells #[.slice ao0 n0 cap0,.slice ao1 n1 cap1] 39 (0,0))]]∧H=H'∧IsSlice H (RSl RU8 1) 1 (.slice ao0 n0 cap0) r.2.Blocks∧IsSlice H R_Write 2 (.slice ao1 n1 cap1) r.2.Waits∧IsSlice H (RSl RU8 1) 1 (.slice ao2 n2 cap2) r.1.Blocks∧IsSlice H R_Write 2 (.slice ao3 n3 cap3) r.1.Waits∧True):=by
 refine Does.enterL (vs:=[.pointer (some ⟨a,0,none⟩)]) (l:=[(0,.pointer (some ⟨a,0,none⟩))]) Tryz.func198 rfl rfl ⟨rfl,trivial⟩ (λw hlt=> ?_)
 unfold dev_Write_1 at hx
 refine Run.cl [] 2 tbo rfl (JL.alloc Z39 rfl (λp q=>Run.lnz_s [1,0] 9 tbo rfl (JN.outP (vs:=[.agg #[.slice b c d,.slice f h i]]) (K:=[_]) (rst:=[_]) (.inl rfl) rfl rfl (Res.cellN 0 rfl rfl S39 rfl) (picks 1 rfl picks0) ?_)))
 obtain rfl:=Option.some.inj hx
 exact⟨b,c,d,f,h,i,b,c,d,f,h,i,rfl,rfl,rfl,k,m,k,m,trivial⟩
theorem dev_guarded_ok (b:Disk)(c:Bool)(d:Disk)(H:Heaplet){f:Option Addr}{h:Nat}{i:Nat}{j:Option Addr}{k:Nat}{m:Nat}{a:Nat}{p:Option Addr}{q:Nat}{s:Nat}{v:Option Addr}{x:Nat}{y:Nat}(a7:IsSlice H (RSl RU8 1) 1 (.slice f h i) b.Blocks)(a8:IsSlice H R_Write 2 (.slice j k m) b.Waits)(z:IsSlice H (RSl RU8 1) 1 (.slice p q s) d.Blocks)(a0:IsSlice H R_Write 2 (.slice v x y) d.Waits)(r:Disk×Int×Disk)(hx:dev_guarded b c d=some r):
  Does Tryz.prog 158 #[.agg #[.slice f h i,.slice j k m],.bool c,.func (.func 198) #[] #[.pointer (some ⟨a,0,none⟩)]] [[(a,.cells #[.slice p q s,.slice v x y] 39 (0,0))]] H (λu K' H'=>∃ao0:Option Addr,∃n0:Nat,∃cap0:Nat,∃ao1:Option Addr,∃n1:Nat,∃cap1:Nat,∃ao2:Option Addr,∃n2:Nat,∃cap2:Nat,∃ao3:Option Addr,∃n3:Nat,∃cap3:Nat,u=.tuple #[.agg #[.slice ao2 n2 cap2,.slice ao3 n3 cap3],.int .i64 r.2.1]∧K'= [[(a,.cells #[.slice ao0 n0 cap0,.slice ao1 n1 cap1] 39 (0,0))]]∧H=H'∧IsSlice H (RSl RU8 1) 1 (.slice ao0 n0 cap0) r.2.2.Blocks∧IsSlice H R_Write 2 (.slice ao1 n1 cap1) r.2.2.Waits∧IsSlice H (RSl RU8 1) 1 (.slice ao2 n2 cap2) r.1.Blocks∧IsSlice H R_Write 2 (.slice ao3 n3 cap3) r.1.Waits∧True):=by
 refine Does.enterL (vs:=[.agg #[.slice f h i,.slice j k m],.bool c,.func (.func 198) #[] #[.pointer (some ⟨a,0,none⟩)]]) (l:=[(0,.agg #[.slice f h i,.slice j k m]),(1,.bool c),(2,.func (.func 198) #[] #[.pointer (some ⟨a,0,none⟩)])]) Tryz.func158 rfl rfl ⟨rfl,rfl,rfl,trivial⟩ (λw hlt=> ?_)
 unfold dev_guarded at hx
 refine Run.cl [] 2 tbo rfl (JL.box rfl rfl (λc6 c7=>JL.alloc Z39 rfl (λc8 c9=>Run.ll_s [1] 6 tbo rfl ?_)))
 obtain⟨a9,b0,hx⟩:=bnd_some hx
 refine JL.callC (vs:=[_]) (args:=[_]) (K:=[]) (rst:=[_,_,_]) E110 rfl rfl rfl picks0 (dev_Check_ok b _ a7 a8 _ b0) rfl (λd0 d1 d2 b1 d3 d4=> ?_)
 obtain⟨rfl,rfl,rfl,-⟩:=b1
 refine Run.lc_s [] 12 tbo rfl (JC.ifx hx rfl (λb2 hx=> ?_) (λb2 hx=> ?_))
 ·
  refine Run.cnz_bk [0] 11 tbo rfl (JN.outP (vs:=[.agg #[.slice none 0 0,.slice none 0 0],.int .i64 a9]) (K:=[_]) (rst:=[_,_]) (.inl rfl) rfl rfl (Res.cellN 0 rfl rfl S39 (Res.tmp rfl rfl)) (picks 2 rfl picks0) ?_)
  obtain rfl:=Option.some.inj hx
  exact⟨p,q,s,v,x,y,none,0,0,none,0,0,rfl,rfl,rfl,z,a0,(IsSlice.nil _ _ _),(IsSlice.nil _ _ _),trivial⟩
 ·
  refine Run.ccz [] 7 tbo rfl (JC.ifx hx rfl (λb3 hx=> ?_) (λb3 hx=> ?_))
  ·
   refine Run.cnz_bk [0] 10 tbo rfl (JN.outP (vs:=[.agg #[.slice none 0 0,.slice none 0 0],.int .i64 2]) (K:=[_]) (rst:=[_,_]) (.inl rfl) rfl rfl (Res.cellN 0 rfl rfl S39 (Res.tmp rfl rfl)) (picks 2 rfl picks0) ?_)
   obtain rfl:=Option.some.inj hx
   exact⟨p,q,s,v,x,y,none,0,0,none,0,0,rfl,rfl,rfl,z,a0,(IsSlice.nil _ _ _),(IsSlice.nil _ _ _),trivial⟩
  ·
   refine Run.cl_bs [] 6 tbo rfl ?_
   obtain⟨d5,b4,hx⟩:=bnd_some hx
   refine JL.callC (vs:=[]) (args:=[_]) (K:=[_]) (rst:=[_,_]) E198 rfl rfl rfl (picks 2 rfl picks0) (dev_Write_1_ok d _ z a0 _ b4) rfl (λd6 d7 d8 b5 d9 e0=> ?_)
   obtain⟨b6,b7,b8,b9,c0,c1,a1,a2,a3,a4,a5,a6,rfl,rfl,rfl,c2,c3,c4,c5,-⟩:=b5
   refine Run.lnz_s [1] 5 tbo rfl (JN.outP (vs:=[.agg #[.slice a1 a2 a3,.slice a4 a5 a6],.int .i64 0]) (K:=[_]) (rst:=[_,_]) (.inl rfl) rfl rfl (Res.cellN 1 rfl rfl S39 (Res.tmp rfl rfl)) (picks 0 rfl picks0) ?_)
   obtain rfl:=Option.some.inj hx
   exact⟨b6,b7,b8,b9,c0,c1,a1,a2,a3,a4,a5,a6,rfl,rfl,rfl,c2,c3,c4,c5,trivial⟩
theorem slices_Clip_Write_ok{d}:Con Tryz.prog 199 true ([.sl false R_Write 2 d]) (slices_Clip_Write d) (λr=> [.cl false R_Write 2 r]):=by
 intro H q s v f r hx
 refine Does.enterC Tryz.func199 rfl rfl ?_
 intro w
 unfold slices_Clip_Write at hx
 refine Run.cl [] 9 tbo rfl (JL.val rfl rfl (R.lenL U37 rfl (IsSlice.long f)) (JL.val rfl rfl (R.move rfl) (JL.val rfl rfl (R.lenL U37 rfl (IsSlice.long f)) ?_)))
 obtain⟨x,j,i,hx⟩:=slc_some hx
 obtain⟨y,k,z,h1v_6,h2v_6,p⟩:=IsSlice.cutc f j i
 refine JL.val rfl rfl (R.slc (cap:=k) (a:=0) (b:=(d.length:Int)) (c:=(d.length:Int)) (m:=d) (R:=R_Write) U37 S239 rfl rfl ⟨_,rfl⟩ ⟨_,rfl⟩ ⟨i.1,i.2.1,Int.le_refl _⟩ h1v_6 (.inr (λh=>by cases h))) ?_
 subst h2v_6
 refine Run.lnz_s [] 4 tbo rfl ?_
 exact JN.conQ [] rfl hx rfl ⟨⟨⟨_,_,rfl⟩,p⟩,rfl⟩
theorem dev_Write_ok (d:Disk)(b:Int)(b2:List UInt8)(H:Heaplet){b3:Option Addr}{b4:Nat}{b5:Nat}{b6:Option Addr}{b7:Nat}{b8:Nat}{x:Option Addr}{y:Nat}{z:Nat}(b9:IsSlice H (RSl RU8 1) 1 (.slice b3 b4 b5) d.Blocks)(c0:IsSlice H R_Write 2 (.slice b6 b7 b8) d.Waits)(c4:IsSlice H RU8 1 (.slice x y z) b2)(r:Disk×Int)(hx:dev_Write d b b2=some r):
  Does Tryz.prog 163 #[.agg #[.slice b3 b4 b5,.slice b6 b7 b8],.int .i64 b,.slice x y z] [] H (λu K' H'=>∃ao0:Option Addr,∃n0:Nat,∃cap0:Nat,∃ao1:Option Addr,∃n1:Nat,∃cap1:Nat,∃K1:Own,u=.tuple #[.agg #[.slice ao0 n0 cap0,.slice ao1 n1 cap1],.int .i64 r.2]∧K'= [K1]∧IsSlice (New H H') (RSl RU8 1) 1 (.slice ao0 n0 cap0) r.1.Blocks∧RowOf (New H H') R_Write 0 239 2 (.slice ao1 n1 cap1) r.1.Waits K1∧(∀p∈K1,p.1∉ids (List.flatten []))∧True):=by
 refine Does.enterL (vs:=[.agg #[.slice b3 b4 b5,.slice b6 b7 b8],.int .i64 b,.slice x y z]) (l:=[(0,.agg #[.slice b3 b4 b5,.slice b6 b7 b8]),(1,.int .i64 b),(2,.slice x y z)]) Tryz.func163 rfl rfl ⟨rfl,rfl,rfl,trivial⟩ (λw hlt=> ?_)
 unfold dev_Write at hx
 refine Run.cl [] 2 tbo rfl (JL.box rfl rfl (λg3 j6=>JL.alloc Z39 rfl (λg4 j7=>Run.lc_s [] 5 tbo rfl (JC.cutX hx [1,2,3,6] [0] rfl rfl (λc l0 o0 l o g=>∃f:Option Addr,∃k:Nat,∃m:Nat,∃c5:Option Addr,∃c6:Nat,∃c7:Nat,l=(9,.int .i64 c.2.2)::l0∧o= [(g3,.cells #[.slice f k m,.slice c5 c6 c7] 39 (0,0))]::o0∧H=g∧IsSlice H (RSl RU8 1) 1 (.slice f k m) c.1∧IsSlice H R_Write 2 (.slice c5 c6 c7) c.2.1) (λc j8 hx=> ?_) (λc j9 hx=> ?_)))))
 ·
  rintro _ _ _ ⟨f,k,m,c5,c6,c7,rfl,rfl,rfl,f3,c8⟩
  refine Run.ncz_s [] 7 tbo rfl (JC.ifx hx rfl (λg5 hx=> ?_) (λg5 hx=> ?_))
  ·
   refine Run.cnz_k [1] 10 tbo rfl (JN.seg0 (JN.outP (vs:=[.agg #[.slice none 0 0,.slice none 0 0],.int .i64 c.2.2]) (K:=[_]) (rst:=[_,_]) (.inl rfl) rfl rfl (Res.cellN 2 rfl rfl S39 (Res.tmp rfl rfl)) (picks 0 rfl picks0) ?_))
   obtain rfl:=Option.some.inj hx
   exact⟨none,0,0,none,0,0,[],rfl,rfl,(IsSlice.nil _ _ _),(RowOf.nil _ _ _ _ _),(λp hp=>by cases hp),trivial⟩
  ·
   refine Run.cl_s [] 7 tbo rfl (JL.val rfl rfl (R.lenL U23 rfl (IsSlice.long c4)) (Run.lcz_s [] 4 tbo rfl (JC.ifx hx rfl (λg6 hx=> ?_) (λg6 hx=> ?_))))
   ·
    refine Run.cnz_bk [1] 10 tbo rfl (JN.seg0 (JN.outP (vs:=[.agg #[.slice none 0 0,.slice none 0 0],.int .i64 3]) (K:=[_]) (rst:=[_,_]) (.inl rfl) rfl rfl (Res.cellN 2 rfl rfl S39 (Res.tmp rfl rfl)) (picks 0 rfl picks0) ?_))
    obtain rfl:=Option.some.inj hx
    exact⟨none,0,0,none,0,0,[],rfl,rfl,(IsSlice.nil _ _ _),(RowOf.nil _ _ _ _ _),(λp hp=>by cases hp),trivial⟩
   ·
    refine Run.cl [0] 4 tbo rfl (JL.val rfl rfl (R.lenL U37 rfl (IsSlice.long c8)) (Run.lcz_s [] 4 tbo rfl (JC.ifx hx rfl (λg7 hx=> ?_) (λg7 hx=> ?_))))
    ·
     refine Run.cnz_bk [1] 10 tbo rfl (JN.seg0 (JN.outP (vs:=[.agg #[.slice none 0 0,.slice none 0 0],.int .i64 9]) (K:=[_]) (rst:=[_,_]) (.inl rfl) rfl rfl (Res.cellN 2 rfl rfl S39 (Res.tmp rfl rfl)) (picks 0 rfl picks0) ?_))
     obtain rfl:=Option.some.inj hx
     exact⟨none,0,0,none,0,0,[],rfl,rfl,(IsSlice.nil _ _ _),(RowOf.nil _ _ _ _ _),(λp hp=>by cases hp),trivial⟩
    ·
     refine Run.cc_bs [] 4 tbo rfl (JC.cutX hx [6] [] rfl rfl (λc1 l0 o0 l o g=>∃c2:Heaplet,∃a1:Option Addr,∃a2:Nat,∃a3:Nat,∃c9:Own,∃a4:Option Addr,∃a5:Nat,∃a6:Nat,∃c3:Own,l=(7,.int .i64 0)::l0∧o= [(g4,.cells #[.slice a1 a2 a3,.slice a4 a5 a6] 39 (0,0))]::c9::c3::o0∧c2=g∧Hle H c2∧Pcs w.heap.size 5 23 (.slice a1 a2 a3) c1.1 c9∧RowOf (New H c2) R_Write w.heap.size 239 2 (.slice a4 a5 a6) c1.2 c3) (λc1 k0 hx=> ?_) (λc1 k1 hx=> ?_))
     ·
      rintro _ _ _ ⟨c2,a1,a2,a3,c9,a4,a5,a6,c3,rfl,rfl,rfl,k2,g8,f4⟩
      refine Run.nnz_s [] 2 tbo rfl (JN.pubPcs 1 rfl g8 (Nat.le_refl _) (λk3 f5 g9=>JN.forget 1 (JN.outP (vs:=[.agg #[.slice a1 a2 a3,.slice a4 a5 a6],.int .i64 0]) (K:=[_]) (rst:=[_]) (.inl rfl) rfl rfl (Res.cellN 0 rfl rfl S39 (Res.tmp rfl rfl)) (picks 1 rfl picks0) ?_)))
      obtain rfl:=Option.some.inj hx
      exact⟨a1,a2,a3,a4,a5,a6,c3,rfl,rfl,g9,(RowOf.weak (Nat.zero_le _) (f4.mono R_Write.mono (New.mono f5))),(new_ids (f4.mono R_Write.mono (New.mono f5)) hlt),trivial⟩
     ·
      refine JC.drawB (so:=[(_,[]),(_,[12])]) 14 rfl Mixed ⟨by kernel_rfl,by kernel_rfl⟩ (kept0 [0,1] rfl) ?_
      refine JB.run 7 [0,1,2,3,5,6,7] [0,0] tbo rfl ?_
      obtain⟨k4,f6,hx⟩:=bnd_some hx
      obtain⟨a0,f7,f8,hx⟩:=app_some hx
      obtain⟨k5,f9,hx⟩:=bnd_some hx
      refine JB.two (i:=4) (j:=8) (by kernel_rfl) ?_ ?_
      ·
       refine JOB.step rfl trivial rfl (λK hK=>JL.conQ' f6 E199 rfl slices_Clip_Write_ok rfl ⟨c8,trivial⟩ ?_)
       intro h0 h1 d0
       refine JL.nil (hK _ _ _ (Hle.refl _) (kept0 [0,1] rfl) ?_)
       refine JB.one (i:=8) (by kernel_rfl) ?_
       refine JOB.step rfl trivial rfl (λK hK=>JL.bslF (HF:=H) (R:=R_Write) (ls:=[Write.mk b b2]) (vs:=[.agg #[.int .i64 b,.slice x y z]]) U37 I239 rfl rfl (⟨_,_,rfl,rfl,⟨_,rfl,c4⟩,rfl⟩) R_Write.one rfl rfl rfl (by simp[maxLen]) rfl (λh2 h3 a7=> ?_))
       obtain⟨h4,h5,rfl⟩:=RowOf.val a7
       refine JL.nil (hK _ _ _ (Hle.refl _) (kept0 [1,2] rfl) ?_)
       refine JB.one (i:=9) (by kernel_rfl) ?_
       refine JOB.step rfl trivial rfl (λK hK=>JL.appC (HF:=H) U37 I239 rfl R_Write.one (Hle.refl _) d0 (λ_ _ h=>h) rfl (SrcF.row 0 U37 rfl a7) (List.cons_ne_nil _ _) f7 f8 rfl rfl (λh6 h7 a8=> ?_))
       obtain⟨a9,b0,rfl⟩:=RowOf.val a8
       refine JL.nil (hK _ _ _ (Hle.refl _) (kept0 [2,3] rfl) ?_)
       refine JB.val (i:=10) [] rfl (R.bldP (vs:=[(0,.slice f k m),(1,.slice a9 a0.length b0)]) (cs:=[.slice f k m,.slice a9 a0.length b0]) Z39 B39 rfl rfl rfl) ?_
       refine JB.one (i:=11) (by kernel_rfl) ?_
       refine JOB.step rfl trivial rfl (λK hK=>JL.pub 0 R_Write.mono rfl a8 (Nat.le_refl _) (λh8 a d1=>JL.forget 0 (JL.callC (vs:=[_]) (args:=[_]) (K:=[]) (rst:=[_,_,_]) E123 rfl rfl rfl picks0 (dev_Twin_ok (Disk.mk c.1 a0) _ (f3.mono (RSl.mono RU8.mono) a) d1 _ f9) rfl (λh9 i0 d2 d3 q b1=> ?_))))
       obtain⟨d4,d5,d6,d7,d8,d9,e0,e1,rfl,rfl,s,e2,v,e3,-⟩:=d3
       replace s:=(Pcs.base s (λp hp=>(b1 p (mem_seg 0 rfl hp)).resolve_left (e2 p hp)))
       replace v:=(RowOf.base (RowOf.mono R_Write.mono (New.call a) v) (λp hp=>(b1 p (mem_seg 1 rfl hp)).resolve_left (e3 p hp)))
       refine JL.nil (hK _ _ _ (a.trans q) (kept0 [3,4] rfl) ?_)
       refine JB.one (i:=12) (by kernel_rfl) ?_
       refine JOB.step rfl trivial rfl (λK hK=>Run.lnz [4] 2 tbo rfl (hK _ _ _ (a.trans q) (kept1 [false,true] [3,0] (by kernel_rfl) rfl) ?_))
       refine JB.val (i:=13) [] rfl (R.assign rfl) ?_
       refine JB.doneN (by kernel_rfl) ?_
       obtain rfl:=Option.some.inj hx
       refine JN.forget 3 (JN.forget 2 (JN.front 1 rfl (JN.front 1 rfl (JN.front 2 rfl ?_))))
       exact JN.cutR ⟨d2,d4,d5,d6,d7,d8,d9,e0,e1,rfl,rfl,rfl,((a.trans q)),s,v⟩ rfl rfl rfl
      ·
       refine JOB.step rfl trivial rfl (λK hK=>JL.bslF (HF:=H) (R:=R_Write) (ls:=[Write.mk b b2]) (vs:=[.agg #[.int .i64 b,.slice x y z]]) U37 I239 rfl rfl (⟨_,_,rfl,rfl,⟨_,rfl,c4⟩,rfl⟩) R_Write.one rfl rfl rfl (by simp[maxLen]) rfl (λh2 h3 a7=> ?_))
       obtain⟨h4,h5,rfl⟩:=RowOf.val a7
       refine JL.nil (hK _ _ _ (Hle.refl _) (kept0 [1,2] rfl) ?_)
       refine JB.one (i:=4) (by kernel_rfl) ?_
       refine JOB.step rfl trivial rfl (λK hK=>JL.conQ' f6 E199 rfl slices_Clip_Write_ok rfl ⟨c8,trivial⟩ ?_)
       intro h0 h1 d0
       refine JL.nil (hK _ _ _ (Hle.refl _) (kept0 [1,2] rfl) ?_)
       refine JB.one (i:=9) (by kernel_rfl) ?_
       refine JOB.step rfl trivial rfl (λK hK=>JL.appC (HF:=H) U37 I239 rfl R_Write.one (Hle.refl _) d0 (λ_ _ h=>h) rfl (SrcF.row 0 U37 rfl a7) (List.cons_ne_nil _ _) f7 f8 rfl rfl (λh6 h7 a8=> ?_))
       obtain⟨a9,b0,rfl⟩:=RowOf.val a8
       refine JL.nil (hK _ _ _ (Hle.refl _) (kept0 [2,3] rfl) ?_)
       refine JB.val (i:=10) [] rfl (R.bldP (vs:=[(0,.slice f k m),(1,.slice a9 a0.length b0)]) (cs:=[.slice f k m,.slice a9 a0.length b0]) Z39 B39 rfl rfl rfl) ?_
       refine JB.one (i:=11) (by kernel_rfl) ?_
       refine JOB.step rfl trivial rfl (λK hK=>JL.pub 0 R_Write.mono rfl a8 (Nat.le_refl _) (λh8 a d1=>JL.forget 0 (JL.callC (vs:=[_]) (args:=[_]) (K:=[]) (rst:=[_,_,_]) E123 rfl rfl rfl picks0 (dev_Twin_ok (Disk.mk c.1 a0) _ (f3.mono (RSl.mono RU8.mono) a) d1 _ f9) rfl (λh9 i0 d2 d3 q b1=> ?_))))
       obtain⟨d4,d5,d6,d7,d8,d9,e0,e1,rfl,rfl,s,e2,v,e3,-⟩:=d3
       replace s:=(Pcs.base s (λp hp=>(b1 p (mem_seg 0 rfl hp)).resolve_left (e2 p hp)))
       replace v:=(RowOf.base (RowOf.mono R_Write.mono (New.call a) v) (λp hp=>(b1 p (mem_seg 1 rfl hp)).resolve_left (e3 p hp)))
       refine JL.nil (hK _ _ _ (a.trans q) (kept0 [3,4] rfl) ?_)
       refine JB.one (i:=12) (by kernel_rfl) ?_
       refine JOB.step rfl trivial rfl (λK hK=>Run.lnz [4] 2 tbo rfl (hK _ _ _ (a.trans q) (kept1 [false,true] [3,0] (by kernel_rfl) rfl) ?_))
       refine JB.val (i:=13) [] rfl (R.assign rfl) ?_
       refine JB.doneN (by kernel_rfl) ?_
       obtain rfl:=Option.some.inj hx
       refine JN.forget 3 (JN.forget 2 (JN.front 1 rfl (JN.front 1 rfl (JN.front 2 rfl ?_))))
       exact JN.cutR ⟨d2,d4,d5,d6,d7,d8,d9,e0,e1,rfl,rfl,rfl,((a.trans q)),s,v⟩ rfl rfl rfl
 ·
  refine JC.draw (so:=[_]) 11 rfl Mixed ⟨⟨0,rfl⟩,trivial⟩ (JA.val ⟨by kernel_rfl,by kernel_rfl⟩ (calm_only _) (i:=1) rfl ⟨by kernel_rfl,by kernel_rfl,rfl⟩ trivial (stab_of (Hle.refl _) ⟨⟨0,rfl⟩,trivial⟩) (R.move rfl) rfl (JA.val ⟨by kernel_rfl,by kernel_rfl⟩ (calm_only _) (i:=3) rfl ⟨by kernel_rfl,by kernel_rfl,rfl⟩ trivial (stab_of (Hle.refl _) ⟨⟨0,rfl⟩,trivial⟩) (R.func (vf:=[]) (vc:=[_]) rfl rfl) rfl (JAA.start [⟨8,8,39,.agg #[.slice none 0 0,.slice none 0 0]⟩] rfl ?_)))
  obtain⟨g0,g1,hx⟩:=bnd_some hx
  obtain⟨k6,g2,hx⟩:=bnd_some hx
  refine JAA.two (i:=0) (j:=2) ⟨⟨_,_,_,rfl,Z39,rfl⟩,trivial⟩ (Hle.refl _) ⟨⟨0,rfl⟩,trivial⟩ rfl (by kernel_rfl) ?_ ?_
  ·
   refine JOA.step rfl trivial rfl (λk7 k8 K hK=>Run.lnz [1] 2 tbo rfl (hK (by repeat constructor) (by repeat constructor) (stab_of (Hle.refl _) ⟨⟨0,rfl⟩,trivial⟩) (JAA.one (i:=2) ⟨⟨_,_,_,rfl,Z39,rfl⟩,trivial⟩ (Hle.refl _) ⟨⟨0,rfl⟩,trivial⟩ rfl (by kernel_rfl) (JOA.step rfl trivial rfl (λk9 l1 K hK=> ?_)))))
   refine JL.conQ' g1 E167 rfl dev_place_ok rfl trivial (JL.nil (hK (by repeat constructor) (by repeat constructor) (stab_of (Hle.refl _) ⟨⟨0,rfl⟩,trivial⟩) (JAA.one (i:=4) ⟨⟨_,_,_,rfl,Z39,rfl⟩,trivial⟩ (Hle.refl _) ⟨⟨0,rfl⟩,trivial⟩ rfl (by kernel_rfl) (JOA.step rfl trivial rfl (λl2 i1 K hK=>JL.callC (vs:=[_,_,_]) (args:=[_,_,_]) (K:=[_]) (rst:=_::i1) E158 rfl rfl rfl (picks 1 rfl picks0) (dev_guarded_ok d g0 d _ b9 c0 b9 c0 _ g2) rfl (λi2 i3 i4 e4 i5 i6=> ?_))))))
   obtain⟨e5,e6,e7,e8,e9,f0,i7,i8,i9,j0,j1,j2,rfl,rfl,rfl,f1,f2,j3,j4,-⟩:=e4
   refine JL.nil (hK (by repeat constructor) (by repeat constructor) (stab_of (Hle.refl _) ⟨⟨1,rfl⟩,trivial⟩) (JAA.val ⟨by kernel_rfl,by kernel_rfl⟩ (calm_only _) (i:=5) rfl (by kernel_rfl) rfl trivial (Hle.refl _) ⟨⟨1,rfl⟩,trivial⟩ (R.move rfl) rfl (JAA.val ⟨by kernel_rfl,by kernel_rfl⟩ (calm_only _) (i:=6) rfl (by kernel_rfl) rfl trivial (Hle.refl _) ⟨⟨1,rfl⟩,trivial⟩ (R.extract rfl rfl) rfl (JAA.val ⟨by kernel_rfl,by kernel_rfl⟩ (calm_only _) (i:=7) rfl (by kernel_rfl) rfl trivial (Hle.refl _) ⟨⟨1,rfl⟩,trivial⟩ (R.extract rfl rfl) rfl (JAA.all ⟨⟨_,_,_,rfl,Z39,rfl⟩,trivial⟩ (Hle.refl _) ⟨⟨1,rfl⟩,trivial⟩ rfl (by kernel_rfl) (λl3 l4=>JA.one (i:=9) (by kernel_rfl) (JO.step rfl trivial rfl (λK hK=> ?_))))))))
   refine Run.lnz [2] 2 tbo rfl (hK _ _ _ (stab_of (Hle.refl _) ⟨⟨1,rfl⟩,trivial⟩) (JA.val ⟨by kernel_rfl,by kernel_rfl⟩ (calm_only _) (i:=10) rfl ⟨by kernel_rfl,by kernel_rfl,rfl⟩ trivial (stab_of (Hle.refl _) ⟨⟨1,rfl⟩,trivial⟩) (R.assign rfl) rfl (JA.doneN (by kernel_rfl) ?_)))
   obtain rfl:=Option.some.inj hx
   refine JN.forget 2 (JN.front 1 rfl (JN.front 1 rfl ?_))
   exact JN.cutR ⟨e5,e6,e7,e8,e9,f0,rfl,rfl,rfl,f1,f2⟩ rfl rfl rfl
  ·
   refine JOA.step rfl trivial rfl (λl5 l6 K hK=>JL.conQ' g1 E167 rfl dev_place_ok rfl trivial (JL.nil (hK (by repeat constructor) (by repeat constructor) (stab_of (Hle.refl _) ⟨⟨0,rfl⟩,trivial⟩) (JAA.one (i:=0) ⟨⟨_,_,_,rfl,Z39,rfl⟩,trivial⟩ (Hle.refl _) ⟨⟨0,rfl⟩,trivial⟩ rfl (by kernel_rfl) (JOA.step rfl trivial rfl (λl7 l8 K hK=> ?_))))))
   refine Run.lnz [1] 2 tbo rfl (hK (by repeat constructor) (by repeat constructor) (stab_of (Hle.refl _) ⟨⟨0,rfl⟩,trivial⟩) (JAA.one (i:=4) ⟨⟨_,_,_,rfl,Z39,rfl⟩,trivial⟩ (Hle.refl _) ⟨⟨0,rfl⟩,trivial⟩ rfl (by kernel_rfl) (JOA.step rfl trivial rfl (λl9 j5 K hK=>JL.callC (vs:=[_,_,_]) (args:=[_,_,_]) (K:=[_]) (rst:=_::j5) E158 rfl rfl rfl (picks 1 rfl picks0) (dev_guarded_ok d g0 d _ b9 c0 b9 c0 _ g2) rfl (λi2 i3 i4 e4 i5 i6=> ?_)))))
   obtain⟨e5,e6,e7,e8,e9,f0,i7,i8,i9,j0,j1,j2,rfl,rfl,rfl,f1,f2,j3,j4,-⟩:=e4
   refine JL.nil (hK (by repeat constructor) (by repeat constructor) (stab_of (Hle.refl _) ⟨⟨1,rfl⟩,trivial⟩) (JAA.val ⟨by kernel_rfl,by kernel_rfl⟩ (calm_only _) (i:=5) rfl (by kernel_rfl) rfl trivial (Hle.refl _) ⟨⟨1,rfl⟩,trivial⟩ (R.move rfl) rfl (JAA.val ⟨by kernel_rfl,by kernel_rfl⟩ (calm_only _) (i:=6) rfl (by kernel_rfl) rfl trivial (Hle.refl _) ⟨⟨1,rfl⟩,trivial⟩ (R.extract rfl rfl) rfl (JAA.val ⟨by kernel_rfl,by kernel_rfl⟩ (calm_only _) (i:=7) rfl (by kernel_rfl) rfl trivial (Hle.refl _) ⟨⟨1,rfl⟩,trivial⟩ (R.extract rfl rfl) rfl (JAA.all ⟨⟨_,_,_,rfl,Z39,rfl⟩,trivial⟩ (Hle.refl _) ⟨⟨1,rfl⟩,trivial⟩ rfl (by kernel_rfl) (λm0 m1=>JA.one (i:=9) (by kernel_rfl) (JO.step rfl trivial rfl (λK hK=> ?_))))))))
   refine Run.lnz [2] 2 tbo rfl (hK _ _ _ (stab_of (Hle.refl _) ⟨⟨1,rfl⟩,trivial⟩) (JA.val ⟨by kernel_rfl,by kernel_rfl⟩ (calm_only _) (i:=10) rfl ⟨by kernel_rfl,by kernel_rfl,rfl⟩ trivial (stab_of (Hle.refl _) ⟨⟨1,rfl⟩,trivial⟩) (R.assign rfl) rfl (JA.doneN (by kernel_rfl) ?_)))
   obtain rfl:=Option.some.inj hx
   refine JN.forget 2 (JN.front 1 rfl (JN.front 1 rfl ?_))
   exact JN.cutR ⟨e5,e6,e7,e8,e9,f0,rfl,rfl,rfl,f1,f2⟩ rfl rfl rfl
end Go.Proofs.YtnahhdmkiffgnaaGreatDoor
