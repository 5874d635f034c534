import Derived.Test.YtgiefadcpnegcaaGreatT2
import Derived.Test.YtgiefadcpnegcaaGreatOwMd
import Derived.Test.YtgiefadcpnegcaaGreatOwSo
import Derived.Test.YtgiefadcpnegcaaGreatS4
/- walks: what the code computes, function by function. -/
set_option linter.unusedSimpArgs false
set_option linter.unusedVariables false
namespace Go.Proofs.YtgiefadcpnegcaaGreat
open Go.Ow Go.RowKit Go.Proofs
set_option maxHeartbeats 8000000
theorem law16_at_ok{a b}:Con Tryz.prog 37 true ([.i a,.w32 b]) (law16_at a b) (λr=>sp_Ptr true r):=by
 intro H r hx
 refine Does.enterC Tryz.func37 rfl rfl ?_
 intro w
 unfold law16_at at hx
 refine Run.cl [] 2 ZB rfl (JL.alloc Z32 rfl (λc d=>Run.lnz_s [0] 11 ZB rfl ?_))
 exact JN.conCQ [0] [] ZB rfl hx rfl rfl
theorem ptr_Check_ok{c}:Con Tryz.prog 29 true (sp_Ptr false c) (ptr_Check c) (λr=> [.i r]):=by
 intro H r hx
 refine Does.enterC Tryz.func29 rfl rfl ?_
 intro w
 unfold ptr_Check at hx
 refine Run.cl [] 2 ZB rfl (Zf rfl rfl (λm p=>Run.ll_s [0] 8 ZB rfl (ZA rfl rfl (R.eqlAgg QU32 QP32 QG32 QF32 rfl rfl (EqF.i (by decide) S3 U3 rfl rfl (EqF.u32 (a:=c.Birth) (b:=(0:UInt32)) (by decide) S27 U27 rfl rfl (EqF.u32 (a:=c.Iv) (b:=(0:UInt32)) (by decide) S27 U27 rfl rfl (EqF.u32 (a:=c.Tag) (b:=(0:UInt32)) (by decide) S27 U27 rfl rfl (EqF.u32 (a:=c.Sum) (b:=(0:UInt32)) (by decide) S27 U27 rfl rfl EqF.nil)))))) ?_)))
 refine Run.lcz_s [] 2 ZB rfl (ZK hx rfl (λd hx=> ?_) (λd hx=> ?_))
 ·
  refine Run.cnz_k [] 7 ZB rfl ?_
  exact ZJ [] rfl hx rfl rfl
 ·
  refine Run.cl_s [0] 9 ZB rfl (JL.gX 9 hx rfl (λf hx=> ?_) (λf hx=> ?_))
  ·
   refine Run.lnz_sk [] 24 ZB rfl ?_
   exact ZJ [] rfl hx rfl rfl
  ·
   refine Run.llz [0] 8 ZB rfl (JL.gX 14 hx rfl (λh hx=> ?_) (λh hx=> ?_))
   ·
    refine Run.lnz_sk [] 19 ZB rfl ?_
    exact ZJ [] rfl hx rfl rfl
   ·
    refine Run.llz [0] 5 ZB rfl (ZA rfl rfl (R.lss32 (a:=c.Birth) (b:=(1:UInt32)) rfl rfl) (Run.llz [] 2 ZB rfl (JL.gX 19 hx rfl (λj hx=> ?_) (λj hx=> ?_))))
    ·
     refine Run.lnz_sk [] 14 ZB rfl ?_
     exact ZJ [] rfl hx rfl rfl
    ·
     refine Run.llz [0] 5 ZB rfl (ZA rfl rfl (R.gtr32 (a:=c.Birth) (b:=(16777215:UInt32)) rfl rfl) (Run.lcz_s [] 3 ZB rfl (ZK hx rfl (λk hx=> ?_) (λk hx=> ?_))))
     ·
      refine Run.cnz_k [] 7 ZB rfl ?_
      exact ZJ [] rfl hx rfl rfl
     ·
      refine Run.cnz_s [] 8 ZB rfl ?_
      exact ZJ [] rfl hx rfl rfl
theorem cmp_isNaN_int_ok{a}:Con Tryz.prog 90 true ([.i a]) (cmp_isNaN_int a) (λr=> [.b r]):=by
 intro H r hx
 refine Does.enterC Tryz.func90 rfl rfl ?_
 intro w
 unfold cmp_isNaN_int at hx
 refine Run.cnz [] 14 ZB rfl ?_
 exact ZJ [] rfl hx rfl rfl
theorem cmp_Compare_int_ok{a b}:Con Tryz.prog 63 true ([.i a,.i b]) (cmp_Compare_int a b) (λr=> [.i r]):=by
 intro H r hx
 refine Does.enterC Tryz.func63 rfl rfl ?_
 intro w
 unfold cmp_Compare_int at hx
 refine Run.cl [] 8 ZB rfl (ZV hx E90 rfl cmp_isNaN_int_ok rfl trivial ?_)
 intro k m hx
 refine Run.ll_s [] 6 ZB rfl (ZV hx E90 rfl cmp_isNaN_int_ok rfl trivial ?_)
 intro p q hx
 refine Run.lc_s [] 9 ZB rfl (ZK hx rfl (λc hx=> ?_) (λc hx=> ?_))
 ·
  refine Run.cc [] 6 ZB rfl (ZK hx rfl (λd hx=> ?_) (λd hx=> ?_))
  ·
   refine Run.cnz_kk [] 8 ZB rfl ?_
   exact ZJ [] rfl hx rfl rfl
  ·
   refine Run.cnz_sk [] 9 ZB rfl ?_
   exact ZJ [] rfl hx rfl rfl
 ·
  refine Run.cc_s [] 8 ZB rfl (ZK hx rfl (λf hx=> ?_) (λf hx=> ?_))
  ·
   refine Run.cnz_k [] 7 ZB rfl ?_
   exact ZJ [] rfl hx rfl rfl
  ·
   refine Run.cc_s [] 10 ZB rfl (ZK hx rfl (λh hx=> ?_) (λh hx=> ?_))
   ·
    refine Run.cnz_k [] 7 ZB rfl ?_
    exact ZJ [] rfl hx rfl rfl
   ·
    refine Run.cc_s [] 10 ZB rfl (ZK hx rfl (λj hx=> ?_) (λj hx=> ?_))
    ·
     refine Run.cnz_k [] 7 ZB rfl ?_
     exact ZJ [] rfl hx rfl rfl
    ·
     refine Run.cnz_s [] 8 ZB rfl ?_
     exact ZJ [] rfl hx rfl rfl
theorem dead_order_ok{a b}:Con Tryz.prog 40 true (sp_Ptr false a++sp_Ptr false b) (dead_order a b) (λr=> [.i r]):=by
 intro H r hx
 refine Does.enterC Tryz.func40 rfl rfl ?_
 intro w
 unfold dead_order at hx
 refine Run.cl [] 2 ZB rfl (Zf rfl rfl (λc d=>Zf rfl rfl (λf h=>Run.ll_s [1,0] 9 ZB rfl (ZV hx E63 rfl cmp_Compare_int_ok rfl trivial ?_))))
 intro j k hx
 refine Run.lnz_s [] 4 ZB rfl ?_
 exact ZJ [] rfl hx rfl rfl
theorem dead_Check_ok{p}:Con Tryz.prog 20 true ([.sl false R_Ptr 5 p]) (dead_Check p) (λr=> [.i r]):=by
 intro H a8 a9 b0 d r hx
 refine Does.enterC Tryz.func20 rfl rfl ?_
 intro w
 unfold dead_Check at hx
 refine Run.cl [] 9 ZB rfl (ZA rfl rfl (ZN U30 rfl (IsSlice.long d)) (Run.lcz_s [] 3 ZB rfl (ZK hx rfl (λs hx=> ?_) (λs hx=> ?_))))
 ·
  refine Run.cnz_k [] 7 ZB rfl ?_
  exact ZJ [] rfl hx rfl rfl
 ·
  refine Run.cl_s [] 6 ZB rfl (ZA rfl rfl (ZN U30 rfl (IsSlice.long d)) (Run.lcz_s [] 3 ZB rfl (Za hx [] [] rfl rfl (λj l0 o0 l o g=>∃q:Unit,l=l0∧o=o0∧H=g∧j=.inl q) (λj b1 hx=> ?_) (λj k hx=> ?_))))
  ·
   rintro _ _ _ ⟨q,rfl,rfl,rfl,rfl⟩
   simp only[Sum.elim_inl]at hx
   refine Run.nnz_s [] 7 ZB rfl ?_
   exact ZJ [] rfl hx rfl rfl
  ·
   refine JC.block (Zi [0,8,9] [] rfl rfl (λl0 o0 h l o g=>l=(10,.int .i64 ((h:Nat):Int))::l0∧o=o0∧H=g) hx ⟨rfl,rfl,rfl⟩ rfl ?_)
   ·
    rintro b2 h _ _ _ ⟨rfl,rfl,rfl⟩ b3 hx f
    unfold dead_Check_l1 at hx
    refine Run.cc [] 6 ZB rfl (ZK hx rfl (λm hx=> ?_) (λm hx=> ?_))
    ·
     refine Run.cl_s [] 7 ZB rfl ?_
     obtain⟨c,v,hx⟩:=ZS hx
     obtain⟨b4,b5,b6,x,y,b7,z⟩:=IsSlice.elem d v
     obtain rfl:=y
     refine ZA rfl rfl (R.ix U30 S32 rfl rfl x) (ZA rfl rfl (R.ldHF 0 S32 rfl z rfl rfl) (JL.alloc Z32 rfl (λb8 b9=>Run.lc_s [0] 5 ZB rfl (JC.drawB (so:=[(_,[])]) 22 rfl Mixed ⟨by kernel_rfl,by kernel_rfl⟩ (kept0 [0] rfl) ?_))))
     refine JB.run 2 [0,1] [0] ZB rfl ?_
     refine JB.val (i:=2) [] rfl (R.eqlAgg QU32 QP32 QG32 QF32 rfl rfl (EqF.i (by decide) S3 U3 rfl rfl (EqF.u32 (a:=c.Birth) (b:=(0:UInt32)) (by decide) S27 U27 rfl rfl (EqF.u32 (a:=c.Iv) (b:=(0:UInt32)) (by decide) S27 U27 rfl rfl (EqF.u32 (a:=c.Tag) (b:=(0:UInt32)) (by decide) S27 U27 rfl rfl (EqF.u32 (a:=c.Sum) (b:=(0:UInt32)) (by decide) S27 U27 rfl rfl EqF.nil)))))) ?_
     refine JB.val (i:=3) [] rfl (R.move rfl) ?_
     refine JB.gX 18 hx rfl (λa0 hx=> ?_) (λa0 hx=> ?_)
     ·
      refine JB.run 18 [4,5,6,7,8,9,10,11,12,13,14,15,16,17,18,19,20,21] [] ZB rfl ?_
      refine JB.doneN (by kernel_rfl) ?_
      refine Run.nnz_sbk [] 10 ZB rfl ?_
      obtain rfl:=ZP f hx
      refine Run.nnz_kb [] 2 ZB rfl ?_
      clear hx;have hx:=k
      simp only[Sum.elim_inl,Sum.elim_inr]at hx
      refine Run.nnz_kk [] 2 ZB rfl ?_
      exact ZJ [] rfl hx rfl rfl
     ·
      refine JB.val (i:=4) [] rfl (R.ldoN 0 (vs:=[.int .i64 c.At,.int .u32 (c.Birth.toNat:Int),.int .u32 (c.Iv.toNat:Int),.int .u32 (c.Tag.toNat:Int),.int .u32 (c.Sum.toNat:Int)]) S32 rfl rfl rfl rfl) ?_
      refine JB.one (i:=5) (by kernel_rfl) ?_
      refine JOB.step rfl ⟨_,_,rfl,rfl,rfl⟩ rfl (λK hK=>ZV hx E29 rfl ptr_Check_ok rfl trivial ?_)
      intro c0 c1 hx
      refine ZW (hK _ _ _ (Hle.refl _) (kept0 [0] rfl) ?_)
      refine JB.run 3 [6,7,8] [] ZB rfl ?_
      refine JB.gX 23 hx rfl (λa1 hx=> ?_) (λa1 hx=> ?_)
      ·
       refine JB.run 13 [9,10,11,12,13,14,15,16,17,18,19,20,21] [] ZB rfl ?_
       refine JB.doneN (by kernel_rfl) ?_
       refine Run.nnz_sbk [] 10 ZB rfl ?_
       obtain rfl:=ZP f hx
       refine Run.nnz_kb [] 2 ZB rfl ?_
       clear hx;have hx:=k
       simp only[Sum.elim_inl,Sum.elim_inr]at hx
       refine Run.nnz_kk [] 2 ZB rfl ?_
       exact ZJ [] rfl hx rfl rfl
      ·
       refine JB.run 3 [9,10,11] [] ZB rfl ?_
       refine JB.gX 26 hx rfl (λa2 hx=> ?_) (λa2 hx=> ?_)
       ·
        refine JB.run 3 [12,13,14] [] ZB rfl ?_
        obtain⟨c2,a3,hx⟩:=ZS hx
        obtain⟨c3,c4,c5,a4,a5,c6,a6⟩:=IsSlice.elem d a3
        obtain rfl:=a5
        refine JB.val (i:=15) [] rfl (R.ix U30 S32 rfl rfl a4) ?_
        refine JB.val (i:=16) [] rfl (R.ldHF 0 S32 rfl a6 rfl rfl) ?_
        refine JB.val (i:=17) [] rfl (R.ldoN 0 (vs:=[.int .i64 c.At,.int .u32 (c.Birth.toNat:Int),.int .u32 (c.Iv.toNat:Int),.int .u32 (c.Tag.toNat:Int),.int .u32 (c.Sum.toNat:Int)]) S32 rfl rfl rfl rfl) ?_
        refine JB.one (i:=18) (by kernel_rfl) ?_
        refine JOB.step rfl ⟨_,_,rfl,rfl,rfl⟩ rfl (λK hK=>ZV hx E40 rfl dead_order_ok rfl trivial ?_)
        intro c7 c8 hx
        refine ZW (hK _ _ _ (Hle.refl _) (kept0 [0] rfl) ?_)
        refine JB.run 3 [19,20,21] [] ZB rfl ?_
        refine JB.doneN (by kernel_rfl) ?_
        refine JN.next (ZK hx rfl (λa7 hx=> ?_) (λa7 hx=> ?_))
        ·
         refine Run.cnz_bk [] 8 ZB rfl ?_
         obtain rfl:=ZP f hx
         refine Run.nnz_kb [] 2 ZB rfl ?_
         clear hx;have hx:=k
         simp only[Sum.elim_inl,Sum.elim_inr]at hx
         refine Run.nnz_kk [] 2 ZB rfl ?_
         exact ZJ [] rfl hx rfl rfl
        ·
         refine Run.clz_bs [] 4 ZB rfl (ZA rfl rfl (R.inc rfl rfl (of_decide_eq_true m) (IsSlice.lenI d)) (Run.lnz [] 2 ZB rfl ?_))
         replace hx:=Zb f hx
         refine JN.forget 0 ?_
         exact ZE ⟨h+1,⟨rfl,rfl,rfl⟩,hx⟩ rfl rfl rfl
       ·
        refine JB.run 10 [12,13,14,15,16,17,18,19,20,21] [] ZB rfl ?_
        refine JB.doneN (by kernel_rfl) ?_
        refine Run.nlz_sbs [] 6 ZB rfl (ZA rfl rfl (R.inc rfl rfl (of_decide_eq_true m) (IsSlice.lenI d)) (Run.lnz [] 2 ZB rfl ?_))
        replace hx:=Zb f hx
        refine JN.forget 0 ?_
        exact ZE ⟨h+1,⟨rfl,rfl,rfl⟩,hx⟩ rfl rfl rfl
    ·
     refine Run.cnz_k [] 2 ZB rfl ?_
     obtain rfl:=ZP f hx
     refine Run.nnz_kb [] 2 ZB rfl ?_
     exact ZE ⟨(),rfl,rfl,rfl,rfl⟩ rfl rfl rfl
theorem slices_Grow_Ptr_ok (d:Int)(H:Heaplet)(r:List Ptr)(hx:slices_Grow_Ptr d=some r):
  Does Tryz.prog 105 #[.slice none 0 0,.int .i64 d] [] H (λu K' H'=>∃ao0:Option Addr,∃n0:Nat,∃cap0:Nat,∃K0:Own,u=.slice ao0 n0 cap0∧K'= [K0]∧H=H'∧RowOf (New H H) R_Ptr 0 32 5 (.slice ao0 n0 cap0) r K0∧(∀p∈K0,p.1∉ids (List.flatten []))∧True):=by
 refine Does.enterL (vs:=[.slice none 0 0,.int .i64 d]) (l:=[(0,.slice none 0 0),(1,.int .i64 d)]) Tryz.func105 rfl rfl ⟨rfl,rfl,trivial⟩ (λw hlt=> ?_)
 unfold slices_Grow_Ptr at hx
 refine Run.cc [] 12 ZB rfl (ZK hx rfl (λa0 hx=> ?_) (λa0 hx=> ?_))
 ·
  refine JC.region ?_
  cases hx
 ·
  refine Run.cl_s [] 7 ZB rfl (ZA rfl rfl (R.capN ⟨_,U30⟩ rfl) (ZA rfl rfl (R.move rfl) (ZA rfl rfl (R.len U30 rfl) (Run.lcz_s [] 11 ZB rfl (Za hx [] [] rfl rfl (λk l0 o0 l o g=>∃f:Option Addr,∃h:Nat,∃i:Nat,∃j:Own,l=(0,.slice f h i)::l0∧o=j::o0∧H=g∧RowOf (New H H) R_Ptr w.heap.size 32 5 (.slice f h i) k j) (λk b0 hx=> ?_) (λk b1 hx=> ?_))))))
  ·
   rintro _ _ _ ⟨f,h,i,j,rfl,rfl,rfl,s⟩
   refine Run.nnz_s [] 8 ZB rfl (ZU (vs:=[.slice f h i]) (K:=[_]) (rst:=[]) (.inl rfl) rfl rfl (Ze rfl rfl) (ZL 0 rfl ZH) ?_)
   obtain rfl:=Option.some.inj hx
   exact⟨f,h,i,j,rfl,rfl,rfl,(ZX (Nat.zero_le _) s),(new_ids s hlt),trivial⟩
  ·
   refine ZK hx rfl (λa1 hx=> ?_) (λa1 hx=> ?_)
   ·
    refine Run.clz [] 3 ZB rfl (ZA rfl rfl (R.capN ⟨_,U30⟩ rfl) (ZA rfl rfl (R.slcN U30 S32 rfl trivial ⟨_,rfl⟩ rfl) (ZA rfl rfl (R.move rfl) ?_)))
    obtain⟨a2,a3,a4,hx⟩:=mks_some hx
    refine JL.appZ (HF:=New H H) (R:=R_Ptr) (y:=Ptr.mk 0 (0:UInt32) (0:UInt32) (0:UInt32) (0:UInt32)) (n:=w64 (d-0)) U30 U3 I32 rfl rfl (λ_=>rfl) R_Ptr.one a3 a4 rfl rfl (λb2 a5 v=> ?_)
    obtain⟨b3,b4,rfl⟩:=RowOf.val v
    refine ZA rfl rfl (R.move rfl) (ZA rfl rfl (R.len U30 rfl) ?_)
    obtain⟨a6,a7,q,hx⟩:=slc_some hx
    obtain⟨b5,x,h1v_11,h2v_11,h3v_11,z⟩:=RowOf.pre v a7 q
    refine ZA rfl rfl (R.slc (cap:=x) (a:=0) (b:=0) (c:=(x:Int)) (m:=a2) (R:=R_Ptr) U30 S32 rfl rfl ⟨_,rfl⟩ (by obtain⟨ao,n,e,_⟩:=h1v_11;exact⟨ao,n,e,rfl⟩) ⟨q.1,q.2.1,h2v_11⟩ h3v_11 (.inl rfl)) ?_
    obtain⟨a8,a9,rfl⟩:=RowOf.val z
    refine Run.lnz [] 2 ZB rfl ?_
    obtain rfl:=Option.some.inj hx
    exact ZE ⟨a8,a6.length,a9,a5,rfl,rfl,rfl,z⟩ rfl rfl rfl
   ·
    refine JC.skip ?_
    obtain rfl:=Option.some.inj hx
    refine ZO ?_
    exact ZE ⟨none,0,0,[],rfl,rfl,rfl,(ZF _ _ _ _ _)⟩ rfl rfl rfl
theorem slices_Concat_Ptr_ok{y}:Con Tryz.prog 82 true ([.sl false (RSl R_Ptr 5) 1 y]) (slices_Concat_Ptr y) (λr=> [.row true R_Ptr 32 5 r]):=by
 intro H d2 d3 d4 a r hx
 refine Does.enterC Tryz.func82 rfl rfl ?_
 intro w
 unfold slices_Concat_Ptr at hx
 refine Run.cl [] 14 ZB rfl (ZA rfl rfl (ZN U148 rfl (IsSlice.long a)) (Run.lcz_s [] 3 ZB rfl (Za hx [0] [] rfl rfl (λc l0 o0 l o g=>l=(3,.int .i64 c)::l0∧o=o0∧H=g) (λc d5 hx=> ?_) (λc d6 hx=> ?_))))
 ·
  rintro _ _ _ ⟨rfl,rfl,rfl⟩
  refine Run.nl_s [] 4 ZB rfl ?_
  obtain⟨d7,a8,hx⟩:=ZM hx
  refine ZQ (vs:=[_,_]) (args:=[_,_]) (K:=[]) (rst:=[]) E105 rfl rfl rfl ZH (slices_Grow_Ptr_ok c _ _ a8) rfl (λd8 d9 e0 a9 e1 b0=> ?_)
  obtain⟨b1,b2,b3,b4,rfl,rfl,rfl,k,b5,-⟩:=a9
  replace k:=(RowOf.base (ZZ (H2:=New H H) R_Ptr.const k) (λp hp=>(b0 p (Zc 0 rfl hp)).resolve_left (b5 p hp)))
  refine Run.ll_s [] 7 ZB rfl (ZA rfl rfl (ZN U148 rfl (IsSlice.long a)) (Run.lcz_s [] 3 ZB rfl (Za hx [] [] rfl rfl (λm l0 o0 l o g=>∃q:Option Addr,∃s:Nat,∃v:Nat,∃x:Own,l=(6,.slice q s v)::l0∧o=x::o0∧H=g∧RowOf (New H H) R_Ptr w.heap.size 32 5 (.slice q s v) m x) (λm e2 hx=> ?_) (λm e3 hx=> ?_))))
  ·
   rintro _ _ _ ⟨q,s,v,x,rfl,rfl,rfl,b6⟩
   refine Run.nnz_s [] 8 ZB rfl ?_
   exact ZJ [0] rfl hx rfl ⟨⟨_,b6⟩,rfl⟩
  ·
   refine JC.block (Zi [25,26] [] rfl rfl (λl0 o0 d l o g=>∃f:Option Addr,∃h:Nat,∃i:Nat,∃j:Own,l=(6,.slice f h i)::(27,.int .i64 ((d.2:Nat):Int))::l0∧o=j::o0∧H=g∧RowOf (New H H) R_Ptr w.heap.size 32 5 (.slice f h i) d.1 j) hx ⟨b1,b2,b3,b4,rfl,rfl,rfl,k⟩ rfl ?_)
   ·
    rintro e4 d _ _ _ ⟨f,h,i,j,rfl,rfl,rfl,z⟩ e5 hx a0
    unfold slices_Concat_Ptr_l2 at hx
    refine Run.cc [] 6 ZB rfl (ZK hx rfl (λa1 hx=> ?_) (λa1 hx=> ?_))
    ·
     refine Run.cl_s [] 6 ZB rfl ?_
     obtain⟨e6,b7,hx⟩:=ZS hx
     obtain⟨e7,e8,e9,b8,b9,f0,c0⟩:=IsSlice.elem a b7
     obtain⟨f1,rfl,a2⟩:=b9
     obtain⟨f2,f3,rfl⟩:=IsSlice.val a2
     refine ZA rfl rfl (R.ix U148 S30 rfl rfl b8) (ZA rfl rfl (R.ldH S30 rfl (c0 0 _ rfl)) (Run.llz_s [] 6 ZB rfl ?_))
     obtain⟨a3,c1,c2,hx⟩:=app_some hx
     refine JL.appF (HF:=(New H H)) 0 U30 I32 rfl rfl z rfl (SrcF.sliceC R_Ptr.const R_Ptr.one U30 a2) c1 c2 rfl (Nat.le_refl _) rfl (λf4 c3 a4=> ?_)
     obtain⟨c4,c5,rfl⟩:=RowOf.val a4
     refine Run.llz_bs [] 5 ZB rfl (ZA rfl rfl (R.inc rfl rfl (of_decide_eq_true a1) (IsSlice.lenI a)) (Run.lnz [] 2 ZB rfl ?_))
     replace hx:=Zb a0 hx
     exact ZE ⟨(a3,d.2+1),⟨c4,a3.length,c5,c3,rfl,rfl,rfl,a4⟩,hx⟩ rfl rfl rfl
    ·
     refine Run.cnz_k [] 2 ZB rfl ?_
     obtain rfl:=ZP a0 hx
     refine Run.nnz_kb [] 2 ZB rfl ?_
     exact ZE ⟨f,h,i,j,rfl,rfl,rfl,z⟩ rfl rfl rfl
 ·
  refine JC.block (Zi [0,9,10] [] rfl rfl (λl0 o0 b l o g=>l=(3,.int .i64 b.1)::(11,.int .i64 ((b.2:Nat):Int))::l0∧o=o0∧H=g) hx ⟨rfl,rfl,rfl⟩ rfl ?_)
  ·
   rintro f5 b _ _ _ ⟨rfl,rfl,rfl⟩ f6 hx a5
   unfold slices_Concat_Ptr_l1 at hx
   refine Run.cc [] 6 ZB rfl (ZK hx rfl (λa6 hx=> ?_) (λa6 hx=> ?_))
   ·
    refine Run.cl_s [] 6 ZB rfl ?_
    obtain⟨c6,c7,hx⟩:=ZS hx
    obtain⟨f7,f8,f9,c8,c9,g0,d0⟩:=IsSlice.elem a c7
    obtain⟨g1,rfl,a7⟩:=c9
    obtain⟨g2,g3,rfl⟩:=IsSlice.val a7
    refine ZA rfl rfl (R.ix U148 S30 rfl rfl c8) (ZA rfl rfl (R.ldH S30 rfl (d0 0 _ rfl)) (Run.ll_s [] 7 ZB rfl (ZA rfl rfl (ZN U30 rfl (IsSlice.long a7)) (Run.lcz_s [] 10 ZB rfl (ZK hx rfl (λd1 hx=> ?_) (λd1 hx=> ?_))))))
    ·
     refine JC.region ?_
     cases hx
    ·
     refine Run.clz_bs [] 4 ZB rfl (ZA rfl rfl (R.inc rfl rfl (of_decide_eq_true a6) (IsSlice.lenI a)) (Run.lnz [] 2 ZB rfl ?_))
     replace hx:=Zb a5 hx
     exact ZE ⟨(w64 (b.1+(c6.length:Int)),b.2+1),⟨rfl,rfl,rfl⟩,hx⟩ rfl rfl rfl
   ·
    refine Run.cnz_k [] 2 ZB rfl ?_
    obtain rfl:=ZP a5 hx
    refine Run.nnz_kb [] 2 ZB rfl ?_
    exact ZE ⟨rfl,rfl,rfl⟩ rfl rfl rfl
theorem slices_SortFunc_Ptr_dead_order_ok (a:List Ptr)(H:Heaplet){ao:Option Addr}{n cap:Nat}{K:Own}(hr:RowOf (New H H) R_Ptr 0 32 5 (.slice ao n cap) a K)(r:List Ptr)(hx:slices_SortFunc_Ptr_dead_order a=some r):
  Does Tryz.prog 83 #[.slice ao n cap,.func (.func 40) #[] #[]] [K] H (λu K' H'=>∃K0:Own,u=.tuple #[]∧K'= [K0]∧H=H'∧RowOf (New H H') R_Ptr 0 32 5 (.slice ao n cap) r K0∧True):=by
 rw[slices_SortFunc_Ptr_dead_order.eq_1]at hx
 split at hx
 case isFalse=>cases hx
 rename_i hlen
 obtain rfl:=Option.some.inj hx
 have h:=sort_does (enc:=enc_Ptr) (R:=R_Ptr) Tryz.sort83 (by decide) Tryz.isAgg32 Tryz.sizeOf32 (λ_ _ _=>Iff.rfl) (λ_=>rfl) enc_Ptr_one (λx y=>(dead_order x y).getD 0) dead_order_swo (g:=40)
  (ZD Tryz.func40 (by kernel_rfl) rfl)
  (λx y=>by
   obtain⟨z,hz⟩:=dead_order_tot x y
   refine Does.mono (dead_order_ok.doesX (H:=λ_ _=>none) (vs:=[.agg (enc_Ptr x).toArray,.agg (enc_Ptr y).toArray]) rfl trivial hz) (λv K' H' hR=> ?_)
   rw[hR.1,hz]
   rfl) (H:=H) hr hlen
 refine Does.mono h (λv K' H' hR=> ?_)
 obtain⟨K1,rfl,rfl,rfl,h1,-⟩:=hR
 exact⟨K1,rfl,rfl,rfl,h1,trivial⟩
theorem slices_Clone_Ptr_ok (b:List Ptr)(H:Heaplet){ao:Option Addr}{n cap:Nat}(hs:IsSlice H R_Ptr 5 (.slice ao n cap) b)(r:List Ptr)(hx:slices_Clone_Ptr b=some r):
  Does Tryz.prog 85 #[.slice ao n cap] [] H (λu K' H'=>∃ao0:Option Addr,∃n0:Nat,∃cap0:Nat,∃K0:Own,u=.slice ao0 n0 cap0∧K'= [K0]∧H=H'∧RowOf (New H H') R_Ptr 0 32 5 (.slice ao0 n0 cap0) r K0∧(∀p∈K0,p.1∉ids (List.flatten []))∧True):=by
 rw[slices_Clone_Ptr.eq_1]at hx
 obtain⟨q,hq,hl,hx⟩:=app_some hx
 obtain rfl:=Option.some.inj hx
 refine Does.enter (vs:=[.slice ao n cap]) (l:=[(0,.slice ao n cap)]) Tryz.func85 rfl rfl ⟨rfl,trivial⟩ (λw=>Run.cl [] 9 ZB rfl (ZA rfl rfl (R.eqlNil U30 rfl rfl) (Run.lcz_s [] 2 ZB rfl ?_)))
 cases ao with
 |none=>
  have hp:=hs.none_nil
  subst hp
  simp only[List.append_nil]at hq
  subst hq
  refine Run.cnz_k [] 8 ZB rfl (ZO (ZU (vs:=[.slice none 0 0]) (K:=[_]) (rst:=[]) (.inl rfl) rfl rfl (Ze rfl rfl) (ZL 0 rfl ZH) ?_))
  exact⟨none,0,0,[],rfl,rfl,rfl,ZF _ _ _ _ _,(λp hp=>by cases hp),trivial⟩
 |some a=>
  refine Run.cl_s [] 5 ZB rfl (JL.bslF (HF:=New H H) (R:=R_Ptr) (ls:=[]) (vs:=[]) U30 I32 rfl rfl rfl R_Ptr.one rfl rfl rfl (by simp[maxLen]) rfl (λv1 K1 h1=> ?_))
  obtain⟨ao1,cap1,rfl⟩:=RowOf.val h1
  refine ZA rfl rfl (R.move rfl) (JL.appF (HF:=New H H) 0 U30 I32 rfl rfl h1 rfl (SrcF.sliceC R_Ptr.const R_Ptr.one U30 hs) hq hl rfl (Nat.le_refl _) rfl (λv2 K2 h2=> ?_))
  obtain⟨ao2,cap2,rfl⟩:=RowOf.val h2
  refine Run.lnz_s [] 4 ZB rfl (ZU (vs:=[.slice ao2 _ cap2]) (K:=[_]) (rst:=[]) (.inl rfl) rfl rfl (Ze rfl rfl) (ZL 0 rfl ZH) ?_)
  exact⟨_,_,_,_,rfl,rfl,rfl,ZX (Nat.zero_le _) h2,(λp hp hm=>by cases hm),trivial⟩
theorem dead_Join_1_ok{a c}:Con Tryz.prog 86 true (sp_Ptr false a++sp_Ptr false c) (dead_Join_1 a c) (λr=> [.b r]):=by
 intro H r hx
 refine Does.enterC Tryz.func86 rfl rfl ?_
 intro w
 unfold dead_Join_1 at hx
 refine Run.cl [] 2 ZB rfl (Zf rfl rfl (λd f=>Zf rfl rfl (λh i=>Run.lnz_s [1,0] 14 ZB rfl ?_)))
 exact ZJ [] rfl hx rfl rfl
theorem slices_CompactFunc_Ptr_ok (a3:List Ptr)(H:Heaplet){j:Option Addr}{p:Nat}{q:Nat}{a4:Own}(f:RowOf H R_Ptr 0 32 5 (.slice j p q) a3 a4)(r:List Ptr)(hx:slices_CompactFunc_Ptr a3=some r):
  Does Tryz.prog 84 #[.slice j p q,.func (.func 86) #[] #[]] [a4] H (λu K' H'=>∃ao0:Option Addr,∃n0:Nat,∃cap0:Nat,∃K0:Own,u=.slice ao0 n0 cap0∧K'= [K0]∧H=H'∧RowOf (New H H) R_Ptr 0 32 5 (.slice ao0 n0 cap0) r K0∧True):=by
 refine Does.enterL (vs:=[.slice j p q,.func (.func 86) #[] #[]]) (l:=[(0,.slice j p q),(1,.func (.func 86) #[] #[])]) Tryz.func84 rfl rfl ⟨rfl,rfl,trivial⟩ (λw hlt=> ?_)
 replace f:=ZZ (H2:=New H H) R_Ptr.const f
 unfold slices_CompactFunc_Ptr at hx
 refine Run.cl [] 9 ZB rfl (ZA rfl rfl (ZN U30 rfl (RowOf.long f)) (Run.lcz_s [] 3 ZB rfl (ZK hx rfl (λd2 hx=> ?_) (λd2 hx=> ?_))))
 ·
  refine Run.cnz_k [] 8 ZB rfl (ZU (vs:=[.slice j p q]) (K:=[_]) (rst:=[]) (.inl rfl) rfl rfl (Ze rfl rfl) (ZL 0 rfl ZH) ?_)
  obtain rfl:=Option.some.inj hx
  exact⟨j,p,q,a4,rfl,rfl,rfl,(ZX (Nat.zero_le _) f),trivial⟩
 ·
  refine Run.cc_s [] 8 ZB rfl (Za hx [0] [0] rfl rfl (λa7 l0 o0 l o g=>∃b6:Unit,l=l0∧o=o0∧H=g∧a7=.inl b6) (λa7 i0 hx=> ?_) (λa7 d3 hx=> ?_))
  ·
   rintro _ _ _ ⟨b6,rfl,rfl,rfl,rfl⟩
   simp only[Sum.elim_inl]at hx
   refine Run.nnz_s [] 8 ZB rfl (ZU (vs:=[.slice j p q]) (K:=[_]) (rst:=[]) (.inl rfl) rfl rfl (Ze rfl rfl) (ZL 0 rfl ZH) ?_)
   obtain rfl:=Option.some.inj hx
   exact⟨j,p,q,a4,rfl,rfl,rfl,(ZX (Nat.zero_le _) f),trivial⟩
  ·
   refine JC.block (Zi [0,1] [0] rfl rfl (λl0 o0 a5 l o g=>l=(5,.int .i64 ((a5:Nat):Int))::l0∧o=o0∧H=g) hx ⟨rfl,rfl,rfl⟩ rfl ?_)
   ·
    rintro i1 a5 _ _ _ ⟨rfl,rfl,rfl⟩ i2 hx a8
    unfold slices_CompactFunc_Ptr_l2 at hx
    refine Run.cl [] 5 ZB rfl (ZA rfl rfl (ZN U30 rfl (RowOf.long f)) (Run.lcz_s [] 3 ZB rfl (ZK hx rfl (λb7 hx=> ?_) (λb7 hx=> ?_))))
    ·
     refine Run.cc_s [] 5 ZB rfl (JC.drawB (so:=[(_,[])]) 11 rfl Mixed ⟨by kernel_rfl,by kernel_rfl⟩ (kept0 [0] rfl) ?_)
     refine JB.run 3 [0,1,2] [] ZB rfl ?_
     obtain⟨s,d4,hx⟩:=ZS hx
     obtain⟨b8,i3,i4,b9,d5,d6,d7,i5,d8⟩:=RowOf.elem f d4
     subst d5
     obtain rfl:=d7
     refine JB.val (i:=3) [] rfl (R.ix U30 S32 rfl rfl d6) ?_
     refine JB.val (i:=4) [] rfl (R.ldoE 0 (cs:=[.int .i64 s.At,.int .u32 (s.Birth.toNat:Int),.int .u32 (s.Iv.toNat:Int),.int .u32 (s.Tag.toNat:Int),.int .u32 (s.Sum.toNat:Int)]) (k:=0) (vs:=[.int .i64 s.At,.int .u32 (s.Birth.toNat:Int),.int .u32 (s.Iv.toNat:Int),.int .u32 (s.Tag.toNat:Int),.int .u32 (s.Sum.toNat:Int)]) S32 rfl rfl d8 rfl rfl) ?_
     refine JB.run 3 [5,6,7] [] ZB rfl ?_
     obtain⟨v,d9,hx⟩:=ZS hx
     obtain⟨e0,i6,i7,e1,e2,e3,e4,i8,e5⟩:=RowOf.elem f d9
     obtain⟨rfl,rfl⟩:b8=e0∧b9=e1:=by simpa using e2
     obtain rfl:=e4
     refine JB.val (i:=8) [] rfl (R.ix U30 S32 rfl rfl e3) ?_
     refine JB.val (i:=9) [] rfl (R.ldoE 0 (cs:=[.int .i64 v.At,.int .u32 (v.Birth.toNat:Int),.int .u32 (v.Iv.toNat:Int),.int .u32 (v.Tag.toNat:Int),.int .u32 (v.Sum.toNat:Int)]) (k:=0) (vs:=[.int .i64 v.At,.int .u32 (v.Birth.toNat:Int),.int .u32 (v.Iv.toNat:Int),.int .u32 (v.Tag.toNat:Int),.int .u32 (v.Sum.toNat:Int)]) S32 rfl rfl e5 rfl rfl) ?_
     refine JB.one (i:=10) (by kernel_rfl) ?_
     refine JOB.step rfl trivial rfl (λK hK=>ZV hx E86 rfl dead_Join_1_ok rfl trivial ?_)
     intro i9 j0 hx
     refine ZW (hK _ _ _ (Hle.refl _) (kept0 [0] rfl) ?_)
     refine JB.doneN (by kernel_rfl) ?_
     refine JN.next (ZK hx rfl (λe6 hx=> ?_) (λe6 hx=> ?_))
     ·
      refine Run.cl [] 4 ZB rfl ?_
      obtain⟨a0,hx⟩:=chk_some hx
      obtain⟨j1,c0,h1v_37,h2v_37,h3v_37,a9,e7⟩:=RowOf.cutv f a0
      refine ZA rfl rfl (R.slc (cap:=c0) (a:=((a5:Nat):Int)) (b:=(a3.length:Int)) (c:=(c0:Int)) (m:=a3) (R:=R_Ptr) U30 S32 rfl ⟨_,rfl⟩ rfl (by obtain⟨ao,n,e,_⟩:=h1v_37;exact⟨ao,n,e,rfl⟩) ⟨a0.1,a0.2.1,h2v_37⟩ h3v_37 (.inl rfl)) ?_
      refine Run.lc_s [] 9 ZB rfl (Za hx [0] [] rfl rfl (λa1 l0 o0 l o g=>∃b0:Own,l=(5,.int .i64 a1.2)::l0∧o=b0::o0∧H=g∧RowOf (New H H) R_Ptr 0 32 5 (.slice j p q) a1.1 b0) (λa1 j2 hx=> ?_) (λa1 j3 hx=> ?_))
      ·
       rintro _ _ _ ⟨b0,rfl,rfl,rfl,c1⟩
       refine Run.nl_s [] 5 ZB rfl ?_
       obtain⟨b1,hx⟩:=chk_some hx
       obtain⟨j4,c2,h1v_47,h2v_47,h3v_47,e8,j5⟩:=RowOf.cutv c1 b1
       refine ZA rfl rfl (R.slc (cap:=c2) (a:=a1.2) (b:=(a1.1.length:Int)) (c:=(c2:Int)) (m:=a1.1) (R:=R_Ptr) U30 S32 rfl ⟨_,rfl⟩ rfl (by obtain⟨ao,n,e,_⟩:=h1v_47;exact⟨ao,n,e,rfl⟩) ⟨b1.1,b1.2.1,h2v_47⟩ h3v_47 (.inl rfl)) ?_
       obtain⟨e9,f0,hx⟩:=clrO_some hx
       refine JL.clearR 0 (y:=Ptr.mk 0 (0:UInt32) (0:UInt32) (0:UInt32) (0:UInt32)) U30 I32 rfl c1 rfl e8 (λ_=>rfl) R_Ptr.one f0 (λf1 f2 j6=>Run.ll_s [] 6 ZB rfl ?_)
       obtain⟨c3,f3,b2,hx⟩:=slc_some hx
       obtain⟨j7,c4,h1v_52,h2v_52,h3v_52,c5⟩:=RowOf.pre f2 f3 b2
       refine ZA rfl rfl (R.slc (cap:=c4) (a:=0) (b:=a1.2) (c:=(c4:Int)) (m:=e9) (R:=R_Ptr) U30 S32 rfl rfl ⟨_,rfl⟩ (by obtain⟨ao,n,e,_⟩:=h1v_52;exact⟨ao,n,e,rfl⟩) ⟨b2.1,b2.2.1,h2v_52⟩ h3v_52 (.inl rfl)) ?_
       obtain⟨c6,c7,rfl⟩:=RowOf.val c5
       refine Run.lnz_sbk [] 6 ZB rfl ?_
       obtain rfl:=ZP a8 hx
       refine Run.nnz_kb [] 2 ZB rfl ?_
       clear hx;have hx:=d3
       simp only[Sum.elim_inl,Sum.elim_inr]at hx
       refine Run.nnz_kk [] 2 ZB rfl (ZU (vs:=[.slice c6 c3.length c7]) (K:=[_]) (rst:=[]) (.inl rfl) rfl rfl (Ze rfl rfl) (ZL 0 rfl ZH) ?_)
       obtain rfl:=Option.some.inj hx
       exact⟨c6,c3.length,c7,f1,rfl,rfl,rfl,(ZX (Nat.zero_le _) c5),trivial⟩
      ·
       refine JC.block (Zi [0,1,6] [] rfl rfl (λl0 o0 d l o g=>∃a6:Own,l=(5,.int .i64 d.2.1)::(7,.int .i64 d.2.2)::l0∧o=a6::o0∧H=g∧RowOf (New H H) R_Ptr 0 32 5 (.slice j p q) d.1 a6) hx ⟨[(b8,.cells b9 32 (0,0))],rfl,rfl,rfl,f⟩ rfl ?_)
       ·
        rintro j8 d _ _ _ ⟨a6,rfl,rfl,rfl,a2⟩ j9 hx b3
        unfold slices_CompactFunc_Ptr_l1 at hx
        refine Run.cl [] 5 ZB rfl (ZA rfl rfl (R.lenE U30 rfl e7) (Run.lcz_s [] 3 ZB rfl (ZK hx rfl (λf4 hx=> ?_) (λf4 hx=> ?_))))
        ·
         refine Run.cc_s [] 5 ZB rfl (JC.drawB (so:=[(_,[])]) 12 rfl Mixed ⟨by kernel_rfl,by kernel_rfl⟩ (kept0 [0] rfl) ?_)
         refine JB.run 3 [0,1,2] [] ZB rfl ?_
         obtain⟨c8,hx⟩:=chk_some hx
         obtain⟨x,f5,hx⟩:=ZS hx
         obtain⟨b4,k0,k1,b5,f6,f7,f8,k2,f9⟩:=RowOf.elem a2 f5
         subst f6
         obtain rfl:=f8
         refine JB.val (i:=3) [] rfl (R.ix U30 S32 rfl rfl (ElemAt.sub a9 f7 (i:=d.2.2) (by have:=a0;have:=c8;omega) (by have:=a0;have:=c8;omega))) ?_
         refine JB.val (i:=4) [] rfl (R.ldoE 0 (cs:=[.int .i64 x.At,.int .u32 (x.Birth.toNat:Int),.int .u32 (x.Iv.toNat:Int),.int .u32 (x.Tag.toNat:Int),.int .u32 (x.Sum.toNat:Int)]) (k:=0) (vs:=[.int .i64 x.At,.int .u32 (x.Birth.toNat:Int),.int .u32 (x.Iv.toNat:Int),.int .u32 (x.Tag.toNat:Int),.int .u32 (x.Sum.toNat:Int)]) S32 rfl rfl f9 rfl rfl) ?_
         refine JB.run 3 [5,6,7] [] ZB rfl ?_
         obtain⟨c9,hx⟩:=chk_some hx
         obtain⟨z,g0,hx⟩:=ZS hx
         obtain⟨g1,k3,k4,g2,g3,g4,g5,k5,g6⟩:=RowOf.elem a2 g0
         obtain⟨rfl,rfl⟩:b4=g1∧b5=g2:=by simpa using g3
         obtain rfl:=g5
         refine JB.val (i:=8) [] rfl (R.ix U30 S32 rfl rfl (ElemAt.sub a9 g4 (i:=w64 (d.2.2-1)) (by have:=a0;have:=c9;omega) (by have:=a0;have:=c9;omega))) ?_
         refine JB.val (i:=9) [] rfl (R.ldoE 0 (cs:=[.int .i64 z.At,.int .u32 (z.Birth.toNat:Int),.int .u32 (z.Iv.toNat:Int),.int .u32 (z.Tag.toNat:Int),.int .u32 (z.Sum.toNat:Int)]) (k:=0) (vs:=[.int .i64 z.At,.int .u32 (z.Birth.toNat:Int),.int .u32 (z.Iv.toNat:Int),.int .u32 (z.Tag.toNat:Int),.int .u32 (z.Sum.toNat:Int)]) S32 rfl rfl g6 rfl rfl) ?_
         refine JB.one (i:=10) (by kernel_rfl) ?_
         refine JOB.step rfl trivial rfl (λK hK=>ZV hx E86 rfl dead_Join_1_ok rfl trivial ?_)
         intro k6 k7 hx
         refine ZW (hK _ _ _ (Hle.refl _) (kept0 [0] rfl) ?_)
         refine JB.val (i:=11) [] rfl (R.not rfl) ?_
         refine JB.doneN (by kernel_rfl) ?_
         refine JN.next (ZK hx rfl (λg7 hx=> ?_) (λg7 hx=> ?_))
         ·
          refine Run.cl [] 6 ZB rfl ?_
          obtain⟨d0,hx⟩:=chk_some hx
          obtain⟨h,g8,hx⟩:=ZS hx
          obtain⟨g9,k8,k9,h0,h1,h2,h3,l1,h4⟩:=RowOf.elem a2 g8
          obtain⟨rfl,rfl⟩:b4=g9∧b5=h0:=by simpa using h1
          obtain rfl:=h3
          refine ZA rfl rfl (R.ix U30 S32 rfl rfl (ElemAt.sub a9 h2 (i:=d.2.2) (by have:=a0;have:=d0;omega) (by have:=a0;have:=d0;omega))) (ZA rfl rfl (R.ldoE 0 (cs:=[.int .i64 h.At,.int .u32 (h.Birth.toNat:Int),.int .u32 (h.Iv.toNat:Int),.int .u32 (h.Tag.toNat:Int),.int .u32 (h.Sum.toNat:Int)]) (k:=0) (vs:=[.int .i64 h.At,.int .u32 (h.Birth.toNat:Int),.int .u32 (h.Iv.toNat:Int),.int .u32 (h.Tag.toNat:Int),.int .u32 (h.Sum.toNat:Int)]) S32 rfl rfl h4 rfl rfl) ?_)
          obtain⟨h5,hx⟩:=chk_some hx
          obtain⟨l2,l3,d1⟩:=RowOf.place a2 h5
          refine ZA rfl rfl (R.ix U30 S32 rfl rfl d1) ?_
          obtain⟨h6,h7,l4,hx⟩:=setI_some hx
          refine JL.stE 0 (k:=d.2.1) (y:=h) S32 rfl a2 rfl d1 rfl rfl (rfl) R_Ptr.one h7 (λh8 h9 l5=>Run.lnz_sbs [] 14 ZB rfl ?_)
          replace hx:=Zb b3 hx
          exact ZE ⟨(h6,w64 (d.2.1+1),w64 (d.2.2+1)),⟨h8,rfl,rfl,rfl,h9⟩,hx⟩ rfl rfl rfl
         ·
          refine Run.cnz_bs [] 8 ZB rfl ?_
          replace hx:=Zb b3 hx
          exact ZE ⟨(d.1,d.2.1,w64 (d.2.2+1)),⟨[(b4,.cells b5 32 (0,0))],rfl,rfl,rfl,a2⟩,hx⟩ rfl rfl rfl
        ·
         refine Run.cnz_k [] 2 ZB rfl ?_
         obtain rfl:=ZP b3 hx
         refine Run.nnz_kb [] 2 ZB rfl ?_
         exact ZE ⟨a6,rfl,rfl,rfl,a2⟩ rfl rfl rfl
     ·
      refine Run.clz_bs [] 5 ZB rfl (ZA rfl rfl (R.inc rfl rfl (of_decide_eq_true b7) (RowOf.lenI f)) (Run.lnz [] 2 ZB rfl ?_))
      replace hx:=Zb a8 hx
      exact ZE ⟨a5+1,⟨rfl,rfl,rfl⟩,hx⟩ rfl rfl rfl
    ·
     refine Run.cnz_k [] 2 ZB rfl ?_
     obtain rfl:=ZP a8 hx
     refine Run.nnz_kb [] 2 ZB rfl ?_
     exact ZE ⟨(),rfl,rfl,rfl,rfl⟩ rfl rfl rfl
theorem dead_Join_ok{c d}:Con Tryz.prog 59 true ([.sl false R_Ptr 5 c,.sl false R_Ptr 5 d]) (dead_Join c d) (λr=> [.row true R_Ptr 32 5 r.1,.i r.2]):=by
 intro H q s v h x y z j r hx
 refine Does.enterC Tryz.func59 rfl rfl ?_
 intro w
 unfold dead_Join at hx
 refine Run.cl [] 10 ZB rfl (ZV hx E20 rfl dead_Check_ok rfl ⟨h,trivial⟩ ?_)
 intro c0 c1 hx
 refine Run.llz [] 2 ZB rfl (JL.gX 10 hx rfl (λa0 hx=> ?_) (λa0 hx=> ?_))
 ·
  refine Run.lnz_sk [] 15 ZB rfl (ZO ?_)
  exact ZJ [0] rfl hx rfl ⟨⟨0,ZF _ _ _ _ _⟩,rfl⟩
 ·
  refine Run.llz [] 3 ZB rfl (ZV hx E20 rfl dead_Check_ok rfl ⟨j,trivial⟩ ?_)
  intro c2 c3 hx
  refine Run.lcz_s [] 5 ZB rfl (ZK hx rfl (λa1 hx=> ?_) (λa1 hx=> ?_))
  ·
   refine Run.cnz_k [] 8 ZB rfl (ZO ?_)
   exact ZJ [0] rfl hx rfl ⟨⟨0,ZF _ _ _ _ _⟩,rfl⟩
  ·
   refine Run.cl_s [] 6 ZB rfl (JL.bslF (HF:=H) (R:=(RSl R_Ptr 5)) (ls:=[c,d]) (vs:=[.slice q s v,.slice x y z]) U148 I30 rfl rfl (⟨_,_,rfl,rfl,⟨_,rfl,h⟩,⟨_,_,rfl,rfl,⟨_,rfl,j⟩,rfl⟩⟩) RSl.one rfl rfl rfl (by simp[maxLen]) rfl (λc4 c5 k=> ?_))
   obtain⟨c6,c7,rfl⟩:=RowOf.val k
   refine JL.conL hx E82 rfl slices_Concat_Ptr_ok rfl (λc8 a2 a3=>⟨(Lent.row' 0 a3 (RSl.mono R_Ptr.mono) a2 rfl k),trivial⟩) (λ_=>⟨R_Ptr.const,trivial⟩) ?_
   intro a4 c9 hx d0 d1 d2 d3 m
   refine Run.ll_s [] 6 ZB rfl ?_
   obtain⟨a5,a6,hx⟩:=ZM hx
   refine ZQ (vs:=[_,_]) (args:=[_,_]) (K:=[_]) (rst:=[_]) E83 rfl rfl rfl (ZL 0 rfl ZH) (slices_SortFunc_Ptr_dead_order_ok a4 _ (ZX (Nat.zero_le _) (ZZ R_Ptr.const m)) _ a6) rfl (λd4 d5 d6 a7 d7 a8=> ?_)
   obtain⟨d8,rfl,rfl,rfl,a,-⟩:=a7
   replace a:=(RowOf.up (ZZ (H2:=New H H) R_Ptr.const a) (λp hp=>a8 p (Zc 0 rfl hp)) (ids_cons (RowOf.ge m) ids_nil))
   refine Run.ll_s [] 6 ZB rfl ?_
   obtain⟨a9,b0,hx⟩:=ZM hx
   refine JL.callL3 (vs:=[_]) E85 rfl rfl (λd9 b1 b2=>slices_Clone_Ptr_ok a5 _ (Lent.row' 0 b2 R_Ptr.mono b1 rfl (a.old R_Ptr.mono)) _ b0) rfl (λ_ _ _ _ b3 b4=> ?_)
   obtain⟨e0,e1,e2,e3,rfl,rfl,rfl,b,-,-⟩:=b3
   replace b:=RowOf.base (ZZ (H2:=New H H) R_Ptr.const b) (λp hp=>b4 p (Zc 0 rfl hp))
   obtain⟨e4,b5,hx⟩:=ZM hx
   refine ZQ (vs:=[_,_]) (args:=[_,_]) (K:=[_]) (rst:=[_,_]) E84 rfl rfl rfl (ZL 0 rfl ZH) (slices_CompactFunc_Ptr_ok a9 _ (ZX (Nat.zero_le _) (ZZ R_Ptr.const b)) _ b5) rfl (λe5 e6 e7 b6 e8 b7=> ?_)
   obtain⟨e9,f0,f1,f2,rfl,rfl,rfl,f,-⟩:=b6
   replace f:=(RowOf.up (ZZ (H2:=New H H) R_Ptr.const f) (λp hp=>b7 p (Zc 0 rfl hp)) (ids_cons (RowOf.ge b) ids_nil))
   refine ZA rfl rfl (ZN U30 rfl (RowOf.long f)) (ZA rfl rfl (R.move rfl) (ZA rfl rfl (ZN U30 rfl (RowOf.long a)) (Run.lcz_s [] 3 ZB rfl (ZK hx rfl (λb8 hx=> ?_) (λb8 hx=> ?_)))))
   ·
    refine Run.cnz_k [] 8 ZB rfl (ZO ?_)
    exact ZJ [0] rfl hx rfl ⟨⟨0,ZF _ _ _ _ _⟩,rfl⟩
   ·
    refine Run.cl_s [] 6 ZB rfl (ZA rfl rfl (ZN U30 rfl (RowOf.long a)) (Run.lcz_s [] 3 ZB rfl (ZK hx rfl (λb9 hx=> ?_) (λb9 hx=> ?_))))
    ·
     refine Run.cnz_k [] 8 ZB rfl (ZO ?_)
     exact ZJ [0] rfl hx rfl ⟨⟨0,ZF _ _ _ _ _⟩,rfl⟩
    ·
     refine Run.cnz_s [] 10 ZB rfl ?_
     exact ZJ [1] rfl hx rfl ⟨⟨_,a⟩,rfl⟩
theorem dead_Add_ok{b a}:Con Tryz.prog 36 true ([.sl false R_Ptr 5 b]++sp_Ptr false a) (dead_Add b a) (λr=> [.row true R_Ptr 32 5 r.1,.i r.2]):=by
 intro H s v x h r hx
 refine Does.enterC Tryz.func36 rfl rfl ?_
 intro w
 unfold dead_Add at hx
 refine Run.cl [] 2 ZB rfl (Zf rfl rfl (λy z=>Run.ll_s [0] 8 ZB rfl (JL.bslF (HF:=(New H H)) (R:=R_Ptr) (ls:=[a]) (vs:=[.agg #[.int .i64 a.At,.int .u32 (a.Birth.toNat:Int),.int .u32 (a.Iv.toNat:Int),.int .u32 (a.Tag.toNat:Int),.int .u32 (a.Sum.toNat:Int)]]) U30 I32 rfl rfl (⟨_,_,rfl,rfl,rfl,rfl⟩) R_Ptr.one rfl rfl rfl (by simp[maxLen]) rfl (λa0 a1 c=> ?_))))
 obtain⟨a2,a3,rfl⟩:=RowOf.val c
 refine JL.conL hx E20 rfl dead_Check_ok rfl (λa4 j k=>⟨(Lent.row' 0 k R_Ptr.mono j rfl (c.old R_Ptr.mono)),trivial⟩) (λ_=>trivial) ?_
 intro a5 a6 hx
 refine Run.lcz_s [] 3 ZB rfl (ZK hx rfl (λm hx=> ?_) (λm hx=> ?_))
 ·
  refine Run.cnz_k [] 8 ZB rfl (ZO ?_)
  exact ZJ [0] rfl hx rfl ⟨⟨0,ZF _ _ _ _ _⟩,rfl⟩
 ·
  refine Run.cl_s [1] 6 ZB rfl (JL.bslF (HF:=(New H H)) (R:=R_Ptr) (ls:=[a]) (vs:=[.agg #[.int .i64 a.At,.int .u32 (a.Birth.toNat:Int),.int .u32 (a.Iv.toNat:Int),.int .u32 (a.Tag.toNat:Int),.int .u32 (a.Sum.toNat:Int)]]) U30 I32 rfl rfl (⟨_,_,rfl,rfl,rfl,rfl⟩) R_Ptr.one rfl rfl rfl (by simp[maxLen]) rfl (λa7 a8 d=> ?_))
  obtain⟨a9,b0,rfl⟩:=RowOf.val d
  refine JL.conL hx E59 rfl dead_Join_ok rfl (λb1 f p=>⟨(IsSlice.mono R_Ptr.mono f h),(Lent.row' 0 p R_Ptr.mono f rfl (d.old R_Ptr.mono)),trivial⟩) (λ_=>⟨R_Ptr.const,trivial⟩) ?_
  intro b2 b3 hx b4 b5 b6 b7 q
  refine Run.lnz_s [] 7 ZB rfl ?_
  exact ZJ [0] rfl hx rfl ⟨⟨_,q⟩,rfl⟩
theorem law16_alive_ok:Con Tryz.prog 14 true ([]) (law16_alive) (λr=> [.b r]):=by
 intro H r hx
 refine Does.enterC Tryz.func14 rfl rfl ?_
 intro w
 unfold law16_alive at hx
 refine Run.cl [] 7 ZB rfl (ZV hx E37 rfl law16_at_ok rfl trivial ?_)
 intro a b6 hx
 refine ZV hx E37 rfl law16_at_ok rfl trivial ?_
 intro c b7 hx
 refine JL.bslF (HF:=(New H H)) (R:=R_Ptr) (ls:=[a,c]) (vs:=[.agg #[.int .i64 a.At,.int .u32 (a.Birth.toNat:Int),.int .u32 (a.Iv.toNat:Int),.int .u32 (a.Tag.toNat:Int),.int .u32 (a.Sum.toNat:Int)],.agg #[.int .i64 c.At,.int .u32 (c.Birth.toNat:Int),.int .u32 (c.Iv.toNat:Int),.int .u32 (c.Tag.toNat:Int),.int .u32 (c.Sum.toNat:Int)]]) U30 I32 rfl rfl (⟨_,_,rfl,rfl,rfl,⟨_,_,rfl,rfl,rfl,rfl⟩⟩) R_Ptr.one rfl rfl rfl (by simp[maxLen]) rfl (λb8 b9 h=> ?_)
 obtain⟨c0,c1,rfl⟩:=RowOf.val h
 refine ZV hx E37 rfl law16_at_ok rfl trivial ?_
 intro c2 c3 hx
 refine JL.conL hx E36 rfl dead_Add_ok rfl (λc4 k m=>⟨(Lent.row' 0 m R_Ptr.mono k rfl (h.old R_Ptr.mono)),trivial⟩) (λ_=>⟨R_Ptr.const,trivial⟩) ?_
 intro c5 c6 hx c7 c8 c9 d0 d
 refine Run.lc_s [] 8 ZB rfl (Za hx [] [] rfl rfl (λf l0 o0 l o g=>l=(0,.bool f)::l0∧o=o0∧H=g) (λf d1 hx=> ?_) (λf d2 hx=> ?_))
 ·
  rintro _ _ _ ⟨rfl,rfl,rfl⟩
  refine Run.nnz_s [] 2 ZB rfl ?_
  exact ZJ [] rfl hx rfl rfl
 ·
  refine Run.clz [] 4 ZB rfl (JL.gX 13 hx rfl (λp hx=> ?_) (λp hx=> ?_))
  ·
   refine Run.llz [] 3 ZB rfl (ZA rfl rfl (ZN U30 rfl (RowOf.long d)) (Run.llz [] 4 ZB rfl (JL.gX 18 hx rfl (λq hx=> ?_) (λq hx=> ?_))))
   ·
    refine Run.llz [] 3 ZB rfl ?_
    obtain⟨d3,s,hx⟩:=ZS hx
    obtain⟨i,d4,d5,j,v,x,y,d6,z⟩:=RowOf.elem d s
    subst v
    obtain rfl:=y
    refine ZA rfl rfl (R.ix U30 S32 rfl rfl x) (Run.llz [] 3 ZB rfl (ZA rfl rfl (R.ldo 0 S3 rfl rfl (z 0 _ rfl)) (Run.llz [] 4 ZB rfl (JL.gX 25 hx rfl (λa0 hx=> ?_) (λa0 hx=> ?_)))))
    ·
     refine Run.llz [] 3 ZB rfl ?_
     obtain⟨d7,a1,hx⟩:=ZS hx
     obtain⟨a2,d8,d9,a3,a4,a5,a6,e0,a7⟩:=RowOf.elem d a1
     obtain⟨rfl,rfl⟩:i=a2∧j=a3:=by simpa using a4
     obtain rfl:=a6
     refine ZA rfl rfl (R.ix U30 S32 rfl rfl a5) (Run.llz [] 3 ZB rfl (ZA rfl rfl (R.ldo 0 S3 rfl rfl (a7 0 _ rfl)) (Run.llz [] 4 ZB rfl (JL.gX 32 hx rfl (λa8 hx=> ?_) (λa8 hx=> ?_)))))
     ·
      refine Run.llz [] 3 ZB rfl ?_
      obtain⟨e1,a9,hx⟩:=ZS hx
      obtain⟨b0,e2,e3,b1,b2,b3,b4,e4,b5⟩:=RowOf.elem d a9
      obtain⟨rfl,rfl⟩:i=b0∧j=b1:=by simpa using b2
      obtain rfl:=b4
      refine ZA rfl rfl (R.ix U30 S32 rfl rfl b3) (Run.llz [] 3 ZB rfl (ZA rfl rfl (R.ldo 0 S3 rfl rfl (b5 0 _ rfl)) (Run.lnz [] 5 ZB rfl ?_)))
      obtain rfl:=Option.some.inj hx
      refine JN.forget 1 (JN.forget 0 ?_)
      exact ZE ⟨rfl,rfl,rfl⟩ rfl rfl rfl
     ·
      refine Run.lnz [] 8 ZB rfl ?_
      obtain rfl:=Option.some.inj hx
      refine JN.forget 1 (JN.forget 0 ?_)
      exact ZE ⟨rfl,rfl,rfl⟩ rfl rfl rfl
    ·
     refine Run.lnz [] 15 ZB rfl ?_
     obtain rfl:=Option.some.inj hx
     refine JN.forget 1 (JN.forget 0 ?_)
     exact ZE ⟨rfl,rfl,rfl⟩ rfl rfl rfl
   ·
    refine Run.lnz [] 22 ZB rfl ?_
    obtain rfl:=Option.some.inj hx
    refine JN.forget 1 (JN.forget 0 ?_)
    exact ZE ⟨rfl,rfl,rfl⟩ rfl rfl rfl
  ·
   refine Run.lnz [] 27 ZB rfl ?_
   obtain rfl:=Option.some.inj hx
   refine JN.forget 1 (JN.forget 0 ?_)
   exact ZE ⟨rfl,rfl,rfl⟩ rfl rfl rfl
theorem ref09_Great_ok{q}:Con Tryz.prog 17 true (sp_Disk false q) (ref09_Great q) (λr=> [.b r]):=by
 intro H b7 b8 b9 f c0 c1 c2 a r hx
 refine Does.enterC Tryz.func17 rfl rfl ?_
 intro w
 unfold ref09_Great at hx
 refine Run.cl [] 2 ZB rfl (Zf rfl rfl (λc3 c4=>Run.lc_s [] 4 ZB rfl (Za hx [1] [0] rfl rfl (λi l0 o0 l o g=>∃s:Unit,l=l0∧o=o0∧H=g∧i=.inl s) (λi c5 hx=> ?_) (λi h hx=> ?_))))
 ·
  rintro _ _ _ ⟨s,rfl,rfl,rfl,rfl⟩
  simp only[Sum.elim_inl]at hx
  refine Run.nc_s [] 12 ZB rfl (Za hx [1] [0] rfl rfl (λj l0 o0 l o g=>l=(3,.int .i64 j)::l0∧o=o0∧H=g) (λj c6 hx=> ?_) (λj c7 hx=> ?_))
  ·
   rintro _ _ _ ⟨rfl,rfl,rfl⟩
   refine Run.nc_s [] 7 ZB rfl (Za hx [] [] rfl rfl (λk l0 o0 l o g=>l=(3,.int .i64 k)::l0∧o=o0∧H=g) (λk c8 hx=> ?_) (λk c9 hx=> ?_))
   ·
    rintro _ _ _ ⟨rfl,rfl,rfl⟩
    refine Run.nnz_s [] 9 ZB rfl ?_
    exact ZJ [] rfl hx rfl rfl
   ·
    refine JC.block (Zi [1] [0] rfl rfl (λl0 o0 c l o g=>l=(3,.int .i64 c.1)::(5,.int .i64 ((c.2:Nat):Int))::l0∧o=o0∧H=g) hx ⟨rfl,rfl,rfl⟩ rfl ?_)
    ·
     rintro d0 c _ _ _ ⟨rfl,rfl,rfl⟩ d1 hx m
     unfold ref09_Great_l2 at hx
     refine Run.cl [0] 6 ZB rfl (ZA rfl rfl (ZN U23 rfl (IsSlice.long a)) (Run.llz [] 2 ZB rfl (JL.gX 52 hx rfl (λv hx=> ?_) (λv hx=> ?_))))
     ·
      refine Run.lcz_s [] 7 ZB rfl (ZK hx rfl (λa0 hx=> ?_) (λa0 hx=> ?_))
      ·
       refine Run.cl_s [0] 9 ZB rfl ?_
       obtain⟨a1,a2,hx⟩:=ZS hx
       obtain⟨d2,d3,d4,a3,a4,d5,a5⟩:=IsSlice.elem a a2
       obtain⟨d6,rfl,x⟩:=a4
       obtain⟨d7,d8,rfl⟩:=IsSlice.val x
       refine ZA rfl rfl (R.ix U23 S78 rfl rfl a3) (ZA rfl rfl (R.fa F78_1 rfl) (ZA rfl rfl (R.ldH S26 rfl (a5 1 _ rfl)) (ZA rfl rfl (ZN U26 rfl (IsSlice.long x)) (Run.llz_bs [] 7 ZB rfl (ZA rfl rfl (R.inc rfl rfl (of_decide_eq_true v) (IsSlice.lenI a)) (Run.lnz [] 2 ZB rfl ?_))))))
       replace hx:=Zb m hx
       exact ZE ⟨(w64 (c.1+(a1.Data.length:Int)),c.2+1),⟨rfl,rfl,rfl⟩,hx⟩ rfl rfl rfl
      ·
       refine Run.cnz_k [] 2 ZB rfl ?_
       obtain rfl:=ZP m hx
       refine Run.nnz_kb [] 2 ZB rfl (JN.forget 0 ?_)
       exact ZE ⟨rfl,rfl,rfl⟩ rfl rfl rfl
     ·
      refine Run.lnz_sk [] 8 ZB rfl ?_
      obtain rfl:=ZP m hx
      refine Run.nnz_kb [] 2 ZB rfl (JN.forget 0 ?_)
      exact ZE ⟨rfl,rfl,rfl⟩ rfl rfl rfl
  ·
   refine JC.block (Zi [1] [0] rfl rfl (λl0 o0 d l o g=>l=(3,.int .i64 d.1)::(4,.int .i64 ((d.2:Nat):Int))::l0∧o=o0∧H=g) hx ⟨rfl,rfl,rfl⟩ rfl ?_)
   ·
    rintro d9 d _ _ _ ⟨rfl,rfl,rfl⟩ e0 hx p
    unfold ref09_Great_l1 at hx
    refine Run.cl [0] 6 ZB rfl (ZA rfl rfl (ZN U22 rfl (IsSlice.long f)) (Run.llz [] 2 ZB rfl (JL.gX 33 hx rfl (λy hx=> ?_) (λy hx=> ?_))))
    ·
     refine Run.lcz_s [] 7 ZB rfl (ZK hx rfl (λa6 hx=> ?_) (λa6 hx=> ?_))
     ·
      refine Run.cl_s [0] 9 ZB rfl ?_
      obtain⟨a7,a8,hx⟩:=ZS hx
      obtain⟨e1,e2,e3,a9,b0,e4,b1⟩:=IsSlice.elem f a8
      obtain⟨e5,rfl,z⟩:=b0
      obtain⟨e6,e7,rfl⟩:=IsSlice.val z
      refine ZA rfl rfl (R.ix U22 S26 rfl rfl a9) (ZA rfl rfl (R.ldH S26 rfl (b1 0 _ rfl)) (ZA rfl rfl (ZN U26 rfl (IsSlice.long z)) (Run.llz_bs [] 7 ZB rfl (ZA rfl rfl (R.inc rfl rfl (of_decide_eq_true y) (IsSlice.lenI f)) (Run.lnz [] 2 ZB rfl ?_)))))
      replace hx:=Zb p hx
      exact ZE ⟨(w64 (d.1+(a7.length:Int)),d.2+1),⟨rfl,rfl,rfl⟩,hx⟩ rfl rfl rfl
     ·
      refine Run.cnz_k [] 2 ZB rfl ?_
      obtain rfl:=ZP p hx
      refine Run.nnz_kb [] 2 ZB rfl ?_
      exact ZE ⟨rfl,rfl,rfl⟩ rfl rfl rfl
    ·
     refine Run.lnz_sk [] 8 ZB rfl ?_
     obtain rfl:=ZP p hx
     refine Run.nnz_kb [] 2 ZB rfl ?_
     exact ZE ⟨rfl,rfl,rfl⟩ rfl rfl rfl
 ·
  refine Run.cl [0] 4 ZB rfl (ZA rfl rfl (ZN U22 rfl (IsSlice.long f)) (Run.llz [] 2 ZB rfl (JL.gX 10 hx rfl (λb2 hx=> ?_) (λb2 hx=> ?_))))
  ·
   refine Run.lnz_s [] 26 ZB rfl ?_
   obtain rfl:=Option.some.inj hx
   clear hx;have hx:=h
   simp only[Sum.elim_inl,Sum.elim_inr]at hx
   refine Run.nnz_kk [] 2 ZB rfl ?_
   exact ZJ [] rfl hx rfl rfl
  ·
   refine Run.llz [0] 5 ZB rfl (ZA rfl rfl (ZN U23 rfl (IsSlice.long a)) (Run.llz [] 4 ZB rfl (JL.gX 15 hx rfl (λb3 hx=> ?_) (λb3 hx=> ?_))))
   ·
    refine Run.llz [0] 5 ZB rfl (ZA rfl rfl (ZN U23 rfl (IsSlice.long a)) (Run.llz [] 6 ZB rfl (JL.gX 22 hx rfl (λb4 hx=> ?_) (λb4 hx=> ?_))))
    ·
     refine Run.lnz_s [] 14 ZB rfl ?_
     obtain rfl:=Option.some.inj hx
     clear hx;have hx:=h
     simp only[Sum.elim_inl,Sum.elim_inr]at hx
     refine Run.nnz_kk [] 2 ZB rfl ?_
     exact ZJ [] rfl hx rfl rfl
    ·
     refine Run.llz [0] 5 ZB rfl (ZA rfl rfl (ZN U23 rfl (IsSlice.long a)) (Run.lcz_s [] 5 ZB rfl (ZK hx rfl (λb5 hx=> ?_) (λb5 hx=> ?_))))
     ·
      refine Run.cnz [] 6 ZB rfl ?_
      obtain rfl:=Option.some.inj hx
      clear hx;have hx:=h
      simp only[Sum.elim_inl,Sum.elim_inr]at hx
      refine Run.nnz_kk [] 2 ZB rfl ?_
      exact ZJ [] rfl hx rfl rfl
     ·
      refine JC.skip ?_
      obtain rfl:=Option.some.inj hx
      exact ZE ⟨(),rfl,rfl,rfl,rfl⟩ rfl rfl rfl
   ·
    refine Run.llz [0] 13 ZB rfl (ZA rfl rfl (ZN U23 rfl (IsSlice.long a)) (Run.lcz_s [] 5 ZB rfl (ZK hx rfl (λb6 hx=> ?_) (λb6 hx=> ?_))))
    ·
     refine Run.cnz [] 6 ZB rfl ?_
     obtain rfl:=Option.some.inj hx
     clear hx;have hx:=h
     simp only[Sum.elim_inl,Sum.elim_inr]at hx
     refine Run.nnz_kk [] 2 ZB rfl ?_
     exact ZJ [] rfl hx rfl rfl
    ·
     refine JC.skip ?_
     obtain rfl:=Option.some.inj hx
     exact ZE ⟨(),rfl,rfl,rfl,rfl⟩ rfl rfl rfl
theorem ref13_Great_ok{c}:Con Tryz.prog 5 true (sp_Store false c) (ref13_Great c) (λr=> [.b r]):=by
 intro H j k m d p q s f v x y h r hx
 refine Does.enterC Tryz.func5 rfl rfl ?_
 intro w
 unfold ref13_Great at hx
 refine Run.cl [] 2 ZB rfl (Zf rfl rfl (λz a0=>Run.lc_s [] 4 ZB rfl (Za hx [] [] rfl rfl (λa l0 o0 l o g=>l=(2,.bool a)::l0∧o=o0∧H=g) (λa a1 hx=> ?_) (λa a2 hx=> ?_))))
 ·
  rintro _ _ _ ⟨rfl,rfl,rfl⟩
  refine Run.nnz_s [] 2 ZB rfl ?_
  exact ZJ [] rfl hx rfl rfl
 ·
  refine Run.clz [0] 3 ZB rfl (ZV hx E17 rfl ref09_Great_ok rfl ⟨d,f,trivial⟩ ?_)
  intro a3 a4 hx
  refine ZA rfl rfl (R.move rfl) (JL.gX 6 hx rfl (λi hx=> ?_) (λi hx=> ?_))
  ·
   refine Run.lnz [] 7 ZB rfl ?_
   obtain rfl:=Option.some.inj hx
   refine JN.forget 0 ?_
   exact ZE ⟨rfl,rfl,rfl⟩ rfl rfl rfl
  ·
   refine Run.llz [0] 5 ZB rfl (ZA rfl rfl (ZN U26 rfl (IsSlice.long h)) (Run.lnz [] 5 ZB rfl ?_))
   obtain rfl:=Option.some.inj hx
   refine JN.forget 0 ?_
   exact ZE ⟨rfl,rfl,rfl⟩ rfl rfl rfl
theorem dev_place_ok{c}:Con Tryz.prog 60 true ([.i c]) (dev_place c) (λr=> [.b r]):=by
 intro H r hx
 refine Does.enterC Tryz.func60 rfl rfl ?_
 intro w
 unfold dev_place at hx
 refine Run.cl [] 8 ZB rfl (ZA rfl rfl (R.cv_i64_u64 U3 U128 rfl) (ZA rfl rfl (R.lss64 (a:=u64i c) (b:=(256:UInt64)) rfl rfl) (Run.lnz_s [] 4 ZB rfl ?_)))
 exact ZJ [] rfl hx rfl rfl
theorem dev_Check_ok{s}:Con Tryz.prog 38 true (sp_Disk false s) (dev_Check s) (λr=> [.i r]):=by
 intro H b2 b3 b4 d b5 b6 b7 a r hx
 refine Does.enterC Tryz.func38 rfl rfl ?_
 intro w
 unfold dev_Check at hx
 refine Run.cl [] 2 ZB rfl (Zf rfl rfl (λb8 b9=>Run.lc_s [] 4 ZB rfl (Za hx [1] [0] rfl rfl (λj l0 o0 l o g=>l=(3,.bool j)::l0∧o=o0∧H=g) (λj c0 hx=> ?_) (λj c1 hx=> ?_))))
 ·
  rintro _ _ _ ⟨rfl,rfl,rfl⟩
  refine Run.nl_s [0] 6 ZB rfl (ZA rfl rfl (ZN U22 rfl (IsSlice.long d)) (Run.lcz_s [] 3 ZB rfl (Za hx [1] [0] rfl rfl (λk l0 o0 l o g=>l=(3,.bool k)::l0∧o=o0∧H=g) (λk c2 hx=> ?_) (λk c3 hx=> ?_))))
  ·
   rintro _ _ _ ⟨rfl,rfl,rfl⟩
   refine Run.nl_s [0] 6 ZB rfl (ZA rfl rfl (ZN U23 rfl (IsSlice.long a)) (Run.lcz_s [] 3 ZB rfl (Za hx [] [] rfl rfl (λm l0 o0 l o g=>l=(3,.bool m)::l0∧o=o0∧H=g) (λm c4 hx=> ?_) (λm c5 hx=> ?_))))
   ·
    rintro _ _ _ ⟨rfl,rfl,rfl⟩
    refine Run.nc_s [] 7 ZB rfl (ZK hx rfl (λb hx=> ?_) (λb hx=> ?_))
    ·
     refine Run.cnz_k [] 7 ZB rfl ?_
     exact ZJ [] rfl hx rfl rfl
    ·
     refine Run.cnz_s [] 8 ZB rfl ?_
     exact ZJ [] rfl hx rfl rfl
   ·
    refine JC.block (JC.forget 0 (Zi [33,34] [] rfl rfl (λl0 o0 c l o g=>l=(3,.bool c.1)::(35,.int .i64 ((c.2:Nat):Int))::l0∧o=o0∧H=g) hx ⟨rfl,rfl,rfl⟩ rfl ?_))
    ·
     rintro c6 c _ _ _ ⟨rfl,rfl,rfl⟩ c7 hx h
     unfold dev_Check_l2 at hx
     refine Run.cc [] 6 ZB rfl (ZK hx rfl (λb hx=> ?_) (λb hx=> ?_))
     ·
      refine Run.cl_s [] 6 ZB rfl ?_
      obtain⟨y,z,hx⟩:=ZS hx
      obtain⟨c8,c9,d0,a0,a1,d1,a2⟩:=IsSlice.elem a z
      obtain⟨d2,rfl,v⟩:=a1
      obtain⟨d3,d4,rfl⟩:=IsSlice.val v
      refine ZA rfl rfl (R.ix U23 S78 rfl rfl a0) (ZA rfl rfl (R.ldHF 0 S78 rfl a2 rfl rfl) (JL.alloc Z78 rfl (λd5 d6=>Run.llz_s [0] 6 ZB rfl (JL.gX 40 hx rfl (λa3 hx=> ?_) (λa3 hx=> ?_)))))
      ·
       refine Run.llz [0] 5 ZB rfl (ZV hx E60 rfl dev_place_ok rfl trivial ?_)
       intro d7 d8 hx
       refine Run.llz [] 2 ZB rfl (JL.gX 45 hx rfl (λa4 hx=> ?_) (λa4 hx=> ?_))
       ·
        refine Run.llz [0] 5 ZB rfl (ZA rfl rfl (ZN U26 rfl (IsSlice.long v)) (Run.llz_bs [] 8 ZB rfl (ZA rfl rfl (R.inc rfl rfl (of_decide_eq_true b) (IsSlice.lenI a)) (Run.lnz [] 2 ZB rfl ?_))))
        replace hx:=Zb h hx
        refine JN.forget 0 ?_
        exact ZE ⟨(decide ((y.Data.length:Int)=256),c.2+1),⟨rfl,rfl,rfl⟩,hx⟩ rfl rfl rfl
       ·
        refine Run.llz_bs [] 10 ZB rfl (ZA rfl rfl (R.inc rfl rfl (of_decide_eq_true b) (IsSlice.lenI a)) (Run.lnz [] 2 ZB rfl ?_))
        replace hx:=Zb h hx
        refine JN.forget 0 ?_
        exact ZE ⟨(false,c.2+1),⟨rfl,rfl,rfl⟩,hx⟩ rfl rfl rfl
      ·
       refine Run.llz_bs [] 15 ZB rfl (ZA rfl rfl (R.inc rfl rfl (of_decide_eq_true b) (IsSlice.lenI a)) (Run.lnz [] 2 ZB rfl ?_))
       replace hx:=Zb h hx
       refine JN.forget 0 ?_
       exact ZE ⟨(false,c.2+1),⟨rfl,rfl,rfl⟩,hx⟩ rfl rfl rfl
     ·
      refine Run.cnz_k [] 2 ZB rfl ?_
      obtain rfl:=ZP h hx
      refine Run.nnz_kb [] 2 ZB rfl ?_
      exact ZE ⟨rfl,rfl,rfl⟩ rfl rfl rfl
  ·
   refine JC.block (Zi [1,19,20] [0] rfl rfl (λl0 o0 f l o g=>l=(3,.bool f.1)::(21,.int .i64 ((f.2:Nat):Int))::l0∧o=o0∧H=g) hx ⟨rfl,rfl,rfl⟩ rfl ?_)
   ·
    rintro d9 f _ _ _ ⟨rfl,rfl,rfl⟩ e0 hx p
    unfold dev_Check_l1 at hx
    refine Run.cc [] 6 ZB rfl (ZK hx rfl (λq hx=> ?_) (λq hx=> ?_))
    ·
     refine Run.cl_s [] 6 ZB rfl ?_
     obtain⟨a5,a6,hx⟩:=ZS hx
     obtain⟨e1,e2,e3,a7,a8,e4,a9⟩:=IsSlice.elem d a6
     obtain⟨e5,rfl,x⟩:=a8
     obtain⟨e6,e7,rfl⟩:=IsSlice.val x
     refine ZA rfl rfl (R.ix U22 S26 rfl rfl a7) (ZA rfl rfl (R.ldH S26 rfl (a9 0 _ rfl)) (Run.llz_s [] 6 ZB rfl (JL.gX 26 hx rfl (λb0 hx=> ?_) (λb0 hx=> ?_))))
     ·
      refine Run.llz [] 3 ZB rfl (ZA rfl rfl (ZN U26 rfl (IsSlice.long x)) (Run.llz_bs [] 8 ZB rfl (ZA rfl rfl (R.inc rfl rfl (of_decide_eq_true q) (IsSlice.lenI d)) (Run.lnz [] 2 ZB rfl ?_))))
      replace hx:=Zb p hx
      exact ZE ⟨(decide ((a5.length:Int)=256),f.2+1),⟨rfl,rfl,rfl⟩,hx⟩ rfl rfl rfl
     ·
      refine Run.llz_bs [] 9 ZB rfl (ZA rfl rfl (R.inc rfl rfl (of_decide_eq_true q) (IsSlice.lenI d)) (Run.lnz [] 2 ZB rfl ?_))
      replace hx:=Zb p hx
      exact ZE ⟨(false,f.2+1),⟨rfl,rfl,rfl⟩,hx⟩ rfl rfl rfl
    ·
     refine Run.cnz_k [] 2 ZB rfl ?_
     obtain rfl:=ZP p hx
     refine Run.nnz_kb [] 2 ZB rfl ?_
     exact ZE ⟨rfl,rfl,rfl⟩ rfl rfl rfl
 ·
  refine Run.clz [0] 3 ZB rfl (ZA rfl rfl (ZN U22 rfl (IsSlice.long d)) (Run.llz [] 2 ZB rfl (JL.gX 12 hx rfl (λb1 hx=> ?_) (λb1 hx=> ?_))))
  ·
   refine Run.llz [0] 5 ZB rfl (ZA rfl rfl (ZN U23 rfl (IsSlice.long a)) (Run.lnz [] 5 ZB rfl ?_))
   obtain rfl:=Option.some.inj hx
   exact ZE ⟨rfl,rfl,rfl⟩ rfl rfl rfl
  ·
   refine Run.lnz [] 7 ZB rfl ?_
   obtain rfl:=Option.some.inj hx
   exact ZE ⟨rfl,rfl,rfl⟩ rfl rfl rfl
theorem slices_Max_byte_ok{h}:Con Tryz.prog 61 true ([.sl false RU8 1 h]) (slices_Max_byte h) (λr=> [.w8 r]):=by
 intro H a1 a2 a3 d r hx
 refine Does.enterC Tryz.func61 rfl rfl ?_
 intro w
 unfold slices_Max_byte at hx
 refine Run.cl [] 9 ZB rfl (ZA rfl rfl (ZN U26 rfl (IsSlice.long d)) (Run.lcz_s [] 3 ZB rfl (ZK hx rfl (λm hx=> ?_) (λm hx=> ?_))))
 ·
  refine JC.region ?_
  cases hx
 ·
  refine Run.cl_s [] 5 ZB rfl ?_
  obtain⟨a4,p,hx⟩:=ZS hx
  obtain⟨a5,a6,a7,q,s,a8,v⟩:=IsSlice.elem d p
  obtain rfl:=s
  refine ZA rfl rfl (R.ix U26 S5 rfl rfl q) (ZA rfl rfl (R.ldH S5 rfl (v 0 _ rfl)) (Run.lc_s [] 9 ZB rfl (Za hx [] [] rfl rfl (λf l0 o0 l o g=>l=(3,.int .u8 (f.toNat:Int))::l0∧o=o0∧H=g) (λf a9 hx=> ?_) (λf b0 hx=> ?_))))
  ·
   rintro _ _ _ ⟨rfl,rfl,rfl⟩
   refine Run.nnz_s [] 8 ZB rfl ?_
   exact ZJ [] rfl hx rfl rfl
  ·
   refine JC.block (Zi [0] [] rfl rfl (λl0 o0 c l o g=>l=(3,.int .u8 (c.1.toNat:Int))::(4,.int .i64 ((c.2:Nat):Int))::l0∧o=o0∧H=g) hx ⟨rfl,rfl,rfl⟩ rfl ?_)
   ·
    rintro b1 c _ _ _ ⟨rfl,rfl,rfl⟩ b2 hx i
    unfold slices_Max_byte_l1 at hx
    refine Run.cl [] 5 ZB rfl (ZA rfl rfl (ZN U26 rfl (IsSlice.long d)) (Run.lcz_s [] 3 ZB rfl (ZK hx rfl (λj hx=> ?_) (λj hx=> ?_))))
    ·
     refine Run.cl_s [] 8 ZB rfl ?_
     obtain⟨k,x,hx⟩:=ZS hx
     obtain⟨b3,b4,b5,y,z,b6,a0⟩:=IsSlice.elem d x
     obtain rfl:=z
     refine ZA rfl rfl (R.ix U26 S5 rfl rfl y) (ZA rfl rfl (R.ldH S5 rfl (a0 0 _ rfl)) (ZA rfl rfl (R.max2b (a:=c.1) (b:=k) rfl rfl) (Run.llz_bs [] 6 ZB rfl (ZA rfl rfl (R.inc rfl rfl (of_decide_eq_true j) (IsSlice.lenI d)) (Run.lnz [] 2 ZB rfl ?_)))))
     replace hx:=Zb i hx
     exact ZE ⟨(maxB c.1 k,c.2+1),⟨rfl,rfl,rfl⟩,hx⟩ rfl rfl rfl
    ·
     refine Run.cnz_k [] 2 ZB rfl ?_
     obtain rfl:=ZP i hx
     refine Run.nnz_kb [] 2 ZB rfl ?_
     exact ZE ⟨rfl,rfl,rfl⟩ rfl rfl rfl
theorem unicode_utf8_RuneCount_ok (a:List UInt8)(H:Heaplet){ao0:Option Addr}{n0 cap0:Nat}(h0:IsSlice H RU8 1 (.slice ao0 n0 cap0) a)(r:Int)(hx:unicode_utf8_RuneCount a=some r):
  Does Tryz.prog 87 #[.slice ao0 n0 cap0] [] H (λu K' H'=>u=.int .i64 r∧K'= []∧H=H'∧True):=by cases hx
theorem bytes_Index_ok (a:List UInt8)(b:List UInt8)(H:Heaplet){ao0:Option Addr}{n0 cap0:Nat}{ao1:Option Addr}{n1 cap1:Nat}(h0:IsSlice H RU8 1 (.slice ao0 n0 cap0) a)(h1:IsSlice H RU8 1 (.slice ao1 n1 cap1) b)(r:Int)(hx:bytes_Index a b=some r):
  Does Tryz.prog 89 #[.slice ao0 n0 cap0,.slice ao1 n1 cap1] [] H (λu K' H'=>u=.int .i64 r∧K'= []∧H=H'∧True):=by cases hx
theorem bytes_Count_ok{h j}:Con Tryz.prog 62 true ([.sl false RU8 1 h,.sl false RU8 1 j]) (bytes_Count h j) (λr=> [.i r]):=by
 intro H a3 a4 a5 k c3 c4 c5 f r hx
 refine Does.enterC Tryz.func62 rfl rfl ?_
 intro w
 unfold bytes_Count at hx
 refine Run.cl [] 9 ZB rfl (ZA rfl rfl (ZN U26 rfl (IsSlice.long f)) (Run.lcz_s [] 3 ZB rfl (ZK hx rfl (λa6 hx=> ?_) (λa6 hx=> ?_))))
 ·
  refine Run.cl [] 3 ZB rfl ?_
  obtain⟨c6,a7,hx⟩:=ZM hx
  refine ZQ (vs:=[_]) (args:=[_]) (K:=[]) (rst:=[]) E87 rfl rfl rfl ZH (unicode_utf8_RuneCount_ok h _ k _ a7) rfl (λc7 c8 c9 a8 d0 d1=> ?_)
  obtain⟨rfl,rfl,rfl,-⟩:=a8
  refine Run.lnz_sk [] 6 ZB rfl ?_
  exact ZJ [] rfl hx rfl rfl
 ·
  refine Run.cl_s [] 6 ZB rfl (ZA rfl rfl (ZN U26 rfl (IsSlice.long f)) (Run.lcz_s [] 3 ZB rfl (ZK hx rfl (λa9 hx=> ?_) (λa9 hx=> ?_))))
  ·
   refine Run.cl [] 4 ZB rfl ?_
   obtain⟨b0,b1,hx⟩:=ZS hx
   obtain⟨d2,d3,d4,b2,b3,d5,b4⟩:=IsSlice.elem f b1
   obtain rfl:=b3
   refine ZA rfl rfl (R.ix U26 S5 rfl rfl b2) (ZA rfl rfl (R.ldH S5 rfl (b4 0 _ rfl)) (ZA rfl rfl (R.countB (m:=h) (c:=b0) Tryz.func88 (by kernel_rfl) rfl (by kernel_rfl) (by kernel_rfl) rfl k rfl) ?_))
   refine Run.lnz_sk [] 5 ZB rfl ?_
   exact ZJ [] rfl hx rfl rfl
  ·
   refine Run.ccz_s [] 7 ZB rfl ?_
   obtain⟨d6,x,hx⟩:=ZM hx
   have b5:=hx;clear hx;have hx:=x;clear x
   refine JC.block (Zi [1] [] rfl rfl (λl0 o0 d l o g=>∃p:Option Addr,∃q:Nat,∃s:Nat,l=(0,.slice p q s)::(5,.int .i64 d.2)::l0∧o=o0∧H=g∧IsSlice H RU8 1 (.slice p q s) d.1) hx ⟨a3,a4,a5,rfl,rfl,rfl,k⟩ rfl ?_)
   ·
    rintro d7 d _ _ _ ⟨p,q,s,rfl,rfl,rfl,y⟩ d8 hx z
    unfold bytes_Count_l1 at hx
    refine Run.cl [] 5 ZB rfl ?_
    obtain⟨b6,b7,hx⟩:=ZM hx
    refine ZQ (vs:=[_,_]) (args:=[_,_]) (K:=[]) (rst:=[]) E89 rfl rfl rfl ZH (bytes_Index_ok d.1 j _ y f _ b7) rfl (λd9 e0 e1 b8 e2 e3=> ?_)
    obtain⟨rfl,rfl,rfl,-⟩:=b8
    refine Run.lc_s [] 10 ZB rfl (ZK hx rfl (λb9 hx=> ?_) (λb9 hx=> ?_))
    ·
     refine Run.cnz_kb [] 9 ZB rfl ?_
     obtain rfl:=ZP z hx
     refine Run.nnz_kb [] 2 ZB rfl ?_
     clear hx;have hx:=b5
     exact ZJ [] rfl hx rfl rfl
    ·
     refine Run.clz_s [] 13 ZB rfl (ZA rfl rfl (ZN U26 rfl (IsSlice.long f)) (ZA rfl rfl (R.add_i rfl rfl) ?_))
     obtain⟨a0,c0,v,hx⟩:=slc_some hx
     obtain⟨e4,a1,h1v_33,h2v_33,h3v_33,a2⟩:=IsSlice.cutv y c0 v
     refine ZA rfl rfl (R.slc (cap:=a1) (a:=w64 (b6+(j.length:Int))) (b:=(d.1.length:Int)) (c:=(a1:Int)) (m:=d.1) (R:=RU8) U26 S5 rfl ⟨_,rfl⟩ rfl (by obtain⟨ao,n,e,_⟩:=h1v_33;exact⟨ao,n,e,rfl⟩) ⟨v.1,v.2.1,h2v_33⟩ h3v_33 (.inl rfl)) ?_
     obtain⟨c1,c2,rfl⟩:=IsSlice.val a2
     refine Run.lnz_b [] 3 ZB rfl ?_
     replace hx:=Zb z hx
     exact ZE ⟨(a0,w64 (d.2+1)),⟨c1,a0.length,c2,rfl,rfl,rfl,a2⟩,hx⟩ rfl rfl rfl
theorem space_Check_ok{d}:Con Tryz.prog 39 true ([.sl false RU8 1 d]) (space_Check d) (λr=> [.i r]):=by
 intro H a1 a2 a3 f r hx
 refine Does.enterC Tryz.func39 rfl rfl ?_
 intro w
 unfold space_Check at hx
 refine Run.cl [] 9 ZB rfl (ZA rfl rfl (ZN U26 rfl (IsSlice.long f)) (Run.llz [] 2 ZB rfl (JL.gX 6 hx rfl (λs hx=> ?_) (λs hx=> ?_))))
 ·
  refine Run.lnz_sk [] 21 ZB rfl ?_
  exact ZJ [] rfl hx rfl rfl
 ·
  refine Run.llz [] 3 ZB rfl (ZV hx E61 rfl slices_Max_byte_ok rfl ⟨f,trivial⟩ ?_)
  intro v a4 hx
  refine JL.gYes rfl rfl rfl (ZA rfl rfl (R.gtr8 (a:=v) (b:=(2:UInt8)) rfl rfl) (Run.llz [] 2 ZB rfl (JL.gX 11 hx rfl (λx hx=> ?_) (λx hx=> ?_))))
  ·
   refine Run.lnz_sk [] 16 ZB rfl ?_
   exact ZJ [] rfl hx rfl rfl
  ·
   refine Run.llz [] 3 ZB rfl ?_
   obtain⟨a5,y,h,hx⟩:=slc_some hx
   obtain⟨a6,j,h1v_11,h2v_11,h3v_11,k⟩:=IsSlice.cutv f y h
   refine ZA rfl rfl (R.slc (cap:=j) (a:=0) (b:=12) (c:=(j:Int)) (m:=d) (R:=RU8) U26 S5 rfl rfl ⟨_,rfl⟩ (by obtain⟨ao,n,e,_⟩:=h1v_11;exact⟨ao,n,e,rfl⟩) ⟨h.1,h.2.1,h2v_11⟩ h3v_11 (.inl rfl)) ?_
   obtain⟨a7,a8,rfl⟩:=IsSlice.val k
   refine JL.gYes rfl rfl rfl (JL.bslF (HF:=(New H H)) (R:=RU8) (ls:=[(1:UInt8)]) (vs:=[.int .u8 ((1:UInt8).toNat:Int)]) U26 I5 rfl rfl (⟨_,_,rfl,rfl,rfl,rfl⟩) RU8.one rfl rfl rfl (by simp[maxLen]) rfl (λa9 b0 p=> ?_))
   obtain⟨b1,b2,rfl⟩:=RowOf.val p
   refine JL.gYes rfl rfl rfl (JL.conL hx E62 rfl bytes_Count_ok rfl (λb3 q z=>⟨(IsSlice.mono RU8.mono q k),(Lent.row' 0 z RU8.mono q rfl (p.old RU8.mono)),trivial⟩) (λ_=>trivial) ?_)
   intro b4 b5 hx
   refine Run.lcz_s [] 5 ZB rfl (ZK hx rfl (λa0 hx=> ?_) (λa0 hx=> ?_))
   ·
    refine Run.cnz_k [] 7 ZB rfl ?_
    exact ZJ [] rfl hx rfl rfl
   ·
    refine Run.cnz_s [] 8 ZB rfl ?_
    exact ZJ [] rfl hx rfl rfl
theorem store_Check_ok{c}:Con Tryz.prog 19 true (sp_Store false c) (store_Check c) (λr=> [.i r]):=by
 intro H s v x d y z a0 f a1 a2 a3 h r hx
 refine Does.enterC Tryz.func19 rfl rfl ?_
 intro w
 unfold store_Check at hx
 refine Run.cl [] 2 ZB rfl (Zf rfl rfl (λa4 a5=>Run.ll_s [0] 8 ZB rfl (ZV hx E38 rfl dev_Check_ok rfl ⟨d,f,trivial⟩ ?_)))
 intro a6 a7 hx
 refine Run.llz [] 2 ZB rfl (JL.gX 7 hx rfl (λj hx=> ?_) (λj hx=> ?_))
 ·
  refine Run.lnz_sk [] 30 ZB rfl ?_
  exact ZJ [] rfl hx rfl rfl
 ·
  refine Run.llz [0] 5 ZB rfl (ZV hx E39 rfl space_Check_ok rfl ⟨h,trivial⟩ ?_)
  intro a8 a9 hx
  refine Run.llz [] 4 ZB rfl (JL.gX 13 hx rfl (λk hx=> ?_) (λk hx=> ?_))
  ·
   refine Run.lnz_sk [] 24 ZB rfl ?_
   exact ZJ [] rfl hx rfl rfl
  ·
   refine Run.llz [0] 5 ZB rfl (ZA rfl rfl (R.lss32 (a:=c.Epoch) (b:=(1:UInt32)) rfl rfl) (Run.llz [] 2 ZB rfl (JL.gX 18 hx rfl (λm hx=> ?_) (λm hx=> ?_))))
   ·
    refine Run.lnz_sk [] 19 ZB rfl ?_
    exact ZJ [] rfl hx rfl rfl
   ·
    refine Run.llz [0] 5 ZB rfl (ZA rfl rfl (R.gtr32 (a:=c.Epoch) (b:=(65535:UInt32)) rfl rfl) (Run.llz [] 2 ZB rfl (JL.gX 23 hx rfl (λp hx=> ?_) (λp hx=> ?_))))
    ·
     refine Run.lnz_sk [] 14 ZB rfl ?_
     exact ZJ [] rfl hx rfl rfl
    ·
     refine Run.llz [0] 5 ZB rfl (ZA rfl rfl (R.gtr32 (a:=c.Count) (b:=(65535:UInt32)) rfl rfl) (Run.lcz_s [] 3 ZB rfl (ZK hx rfl (λq hx=> ?_) (λq hx=> ?_))))
     ·
      refine Run.cnz_k [] 7 ZB rfl ?_
      exact ZJ [] rfl hx rfl rfl
     ·
      refine Run.cnz_s [] 8 ZB rfl ?_
      exact ZJ [] rfl hx rfl rfl
theorem dev_cut_ok (d:List Int)(H:Heaplet){ao:Option Addr}{n cap:Nat}(hs:IsSlice H RInt 1 (.slice ao n cap) d)(r:List (List UInt8))(hx:dev_cut d=some r):
  Does Tryz.prog 64 #[.slice ao n cap] [] H (λu K' H'=>∃ao0:Option Addr,∃n0:Nat,∃cap0:Nat,∃K0:Own,u=.slice ao0 n0 cap0∧K'= [K0]∧H=H'∧Pcs 0 5 26 (.slice ao0 n0 cap0) r K0∧(∀p∈K0,p.1∉ids (List.flatten []))∧True):=by
 unfold dev_cut at hx
 split at hx
 case isFalse=>cases hx
 rename_i hp
 obtain rfl:=Option.some.inj hx
 obtain⟨ns,hns⟩:∃ns,ns=d.map Int.toNat:=⟨_,rfl⟩
 have hpn:d=ns.map (λn:Nat=>(n:Int)):=by
  rw[hns,List.map_map]
  have:∀(q:List Int),(∀n∈q,0≤n)→q=q.map ((λn:Nat=>(n:Int))∘Int.toNat):=by
   intro q
   induction q with
   |nil=>intro _;rfl
   |cons y q ih=>intro h;rw[List.map_cons,←ih (λn hn=>h n (by simp[hn]))];congr 1;have:=h y (by simp);simp only[Function.comp];omega
  exact this _ hp.1
 have hsum:ns.sum≤LIM:=by rw[hns];exact hp.2.1
 have hlen:ns.length≤LIM:=by rw[hns,List.length_map];exact hp.2.2
 have hpl:d.length=ns.length:=by rw[hns,List.length_map]
 have hat:∀i,i<ns.length→∃y:Nat,ns[i]? =some y∧Nth d (i:Int) (y:Int):=λi hi=>by
  refine⟨ns[i],List.getElem?_eq_getElem hi,Int.natCast_nonneg i,?_⟩
  rw[hpn];simp[hi]
 have htk:∀i,(ns.take i).sum≤ns.sum:=λi=>by
  have:=congrArg List.sum (List.take_append_drop i ns)
  rw[List.sum_append]at this;omega
 have hstep:∀i y,ns[i]? =some y→ns.take (i+1)=ns.take i++ [y]:=λi y h=>by rw[List.take_add_one,h];rfl
 have hL:LIM=1099511627776:=rfl
 have hr:(d.map λn=>List.replicate n.toNat (0:UInt8))=ns.map λn=>List.replicate n 0:=by rw[hpn,List.map_map];rfl
 rw[hr]
 clear hr
 obtain⟨ao,cap,e0⟩:=hs.val
 rw[e0]at hs
 simp only[e0]
 rw[hpl]at hs⊢
 refine Does.enterL (vs:=[.slice ao ns.length cap]) (l:=[(0,.slice ao ns.length cap)]) Tryz.func64 rfl rfl ⟨rfl,trivial⟩ (λw hlt=>Run.cc [] 11 ZB rfl ?_)
 -- how many in all
 refine JC.cut (λl o g=>l= [(0,.slice ao ns.length cap),(2,.slice none 0 0),(3,.int .i64 ((ns.sum:Nat):Int))]∧o= []∧H=g) ?_ ?_
 rotate_left
 ·
  refine Run.cl [] 3 ZB rfl (ZA rfl rfl (ZN U35 rfl ⟨_,_,rfl⟩) (Run.lc_s [] 4 ZB rfl (JC.loop (ι:=Nat) (λi=> [(0,.slice ao ns.length cap),(2,.slice none 0 0),(9,.slice ao ns.length cap),(10,.int .i64 (ns.length:Int)),(3,.int .i64 (((ns.take i).sum:Nat):Int)),(11,.int .i64 ((i:Nat):Int))]) (λ_=> []) (λ_=>H) (λi=>i≤ns.length) (λi=>ns.length-i) 0 (Nat.zero_le _) ⟨rfl,rfl,rfl,rfl,rfl,rfl,trivial⟩ rfl rfl ?_)))
  intro i hi
  refine Run.cc [] 6 ZB rfl (JC.condB rfl (λc=> ?_) (λc=> ?_))
  ·
   have hlt':i<ns.length:=by have:=of_decide_eq_true c;omega
   obtain⟨y,hy,hN⟩:=hat i hlt'
   obtain⟨b1,q1,cs1,hE1,hR1,hl1,hc1⟩:=IsSlice.elem hs hN
   obtain rfl:cs1= [.int .i64 (y:Int)]:=hR1
   have hsy:=hstep i y hy
   have hw:w64 ((((ns.take i).sum:Nat):Int)+(y:Int))=(((ns.take (i+1)).sum:Nat):Int):=by
    have h1:=htk (i+1)
    rw[hsy,List.sum_append]at h1⊢
    simp only[List.sum_cons,List.sum_nil,Nat.add_zero]at h1⊢
    rw[Zj (by omega) (by omega)];omega
   refine Run.cl_s [] 6 ZB rfl (ZA rfl rfl (R.ix U35 S3 rfl rfl hE1) (ZA rfl rfl (R.ldH S3 rfl (hc1 0 _ rfl)) (Run.llz_s [] 7 ZB rfl ?_)))
   rw[hw]
   refine Run.llz_bs [] 5 ZB rfl (ZA rfl rfl (R.inc rfl rfl (of_decide_eq_true c) (by omega)) ?_)
   refine Run.lnz [] 2 ZB rfl (JN.again (i:=i) (i+1) hlt' (by omega) ⟨rfl,rfl,rfl,rfl,rfl,rfl,trivial⟩ rfl rfl)
  ·
   have hge:i=ns.length:=by have:=of_decide_eq_false c;omega
   subst hge
   refine Run.cnz_kkb [] 4 ZB rfl ?_
   rw[List.take_length]
   exact JN.cut ⟨rfl,rfl,rfl⟩ ⟨rfl,rfl,rfl,trivial⟩ rfl rfl
 rintro _ _ _ ⟨rfl,rfl,rfl⟩
 refine Run.nl_s [] 4 ZB rfl (JL.mkB U26 I5 rfl rfl hsum rfl rfl (λhb hhb=>Run.lc_s [] 4 ZB rfl (JC.cut (λl o g=>∃(ao2:Option Addr) (n2 cap2:Nat) (Ko:Own),l= [(2,.slice ao2 n2 cap2)]∧o= [Ko,[(hb,.cells (bvs (List.replicate ns.sum 0)).toArray 5 (0,0))]]∧H=g∧RowOf (λ_ _=>none) (RPc hb) w.heap.size 26 1 (.slice ao2 n2 cap2) (offs 0 ns) Ko) ?_ ?_)))
 rotate_left
 ·
  refine Run.cl [] 3 ZB rfl (ZA rfl rfl (ZN U35 rfl ⟨_,_,rfl⟩) (ZA rfl rfl (R.move rfl) (JL.seg0 (Run.lc_s [] 3 ZB rfl ?_))))
  refine JC.loop (ι:=Nat×Nat×Option Addr×Nat×Nat×Own) (λi=> [(21,.slice ao ns.length cap),(22,.int .i64 (ns.length:Int)),(2,.slice i.2.2.1 i.2.2.2.1 i.2.2.2.2.1),(6,.slice (some ⟨hb,i.2.1,none⟩) (ns.sum-(ns.take i.1).sum) (ns.sum-(ns.take i.1).sum)),(23,.int .i64 ((i.1:Nat):Int))])
   (λi=> [i.2.2.2.2.2,[(hb,.cells (bvs (List.replicate ns.sum 0)).toArray 5 (0,0))]]) (λ_=>H)
   (λi=>i.1≤ns.length∧(ns.sum-(ns.take i.1).sum=0∨i.2.1=(ns.take i.1).sum)∧RowOf (λ_ _=>none) (RPc hb) w.heap.size 26 1 (.slice i.2.2.1 i.2.2.2.1 i.2.2.2.2.1) (offs 0 (ns.take i.1)) i.2.2.2.2.2) (λi=>ns.length-i.1) (0,0,none,0,0,[])
   ⟨Nat.zero_le _,.inr rfl,ZF _ _ _ _ _⟩ ⟨rfl,rfl,rfl,rfl,rfl,trivial⟩ rfl rfl ?_
  rintro⟨i,s,ao2,n2,cap2,Ko⟩ ⟨hi,hsi,hout⟩
  dsimp only at hi hsi hout⊢
  refine Run.cc [] 6 ZB rfl (JC.condB rfl (λc=> ?_) (λc=> ?_))
  ·
   have hlt':i<ns.length:=by have:=of_decide_eq_true c;omega
   obtain⟨y,hy,hN⟩:=hat i hlt'
   obtain⟨b1,q1,cs1,hE1,hR1,hl1,hc1⟩:=IsSlice.elem hs hN
   obtain rfl:cs1= [.int .i64 (y:Int)]:=hR1
   have hsy:=hstep i y hy
   have htot:=htk (i+1)
   have hsm:(ns.take (i+1)).sum=(ns.take i).sum+y:=by rw[hsy,List.sum_append];simp
   obtain⟨rem,hrem⟩:∃rem,rem=ns.sum-(ns.take i).sum:=⟨_,rfl⟩
   rw[←hrem]at hsi⊢
   have hyr:y≤rem:=by omega
   have hcy:y=0∨s=(ns.take i).sum:=by
    rcases hsi with h|h
    ·
     left;omega
    ·
     exact .inr h
   have hrem2:ns.sum-(ns.take (i+1)).sum=rem-y:=by omega
   have e31:Value.slice (some ⟨hb,s,none⟩) y y=sliced (some ⟨hb,s,none⟩) (0:Int).toNat (y:Int).toNat (y:Int).toNat 1:=by
    unfold sliced
    simp only[Int.toNat_natCast,Int.toNat_zero,Nat.sub_zero,Option.map_some,Nat.zero_mul,add_lit,Nat.add_zero]
    split<;>rfl
   obtain⟨s2,hs2,e36⟩:∃s2,(rem-y=0∨s2=(ns.take (i+1)).sum)∧Value.slice (some ⟨hb,s2,none⟩) (rem-y) (rem-y)=sliced (some ⟨hb,s,none⟩) (y:Int).toNat (rem:Int).toNat (rem:Int).toNat 1:=by
    unfold sliced
    simp only[Int.toNat_natCast,Option.map_some,add_lit,Nat.mul_one]
    by_cases h:rem=y
    ·
     exact⟨s,.inl (by omega),by rw[if_pos h]⟩
    ·
     refine⟨s+y,.inr ?_,by rw[if_neg h]⟩
     rcases hsi with h'|h'<;>omega
   have hq:offs 0 (ns.take (i+1))=offs 0 (ns.take i)++ [((ns.take i).sum,y)]:=by rw[hsy,offs_append];simp[offs]
   have hll:(offs 0 (ns.take i)).length+ [((ns.take i).sum,y)].length≤LIM:=by rw[offs_length,List.length_take];simp only[List.length_cons,List.length_nil];omega
   refine Run.cl_s [] 6 ZB rfl (ZA rfl rfl (R.ix U35 S3 rfl rfl hE1) (ZA rfl rfl (R.ldH S3 rfl (hc1 0 _ rfl)) (Run.ll_s [] 9 ZB rfl (ZA rfl rfl (R.slc (cap:=rem) (a:=0) (b:=(y:Int)) (c:=(y:Int)) (m:=List.replicate rem (0:UInt8)) (R:=RU8) (v':=.slice (some ⟨hb,s,none⟩) y y) U26 S5 rfl rfl ⟨_,rfl⟩ ⟨_,rfl⟩ ⟨Int.le_refl _,by omega,Int.le_refl _⟩ ⟨some ⟨hb,s,none⟩,by rw[List.length_replicate],by omega,e31⟩ (.inr (λh=>by cases h))) (JL.bslF (HF:=λ_ _=>none) (R:=RPc hb) (ls:=[((ns.take i).sum,y)]) (vs:=[.slice (some ⟨hb,s,none⟩) y y]) U22 I26 rfl rfl (⟨_,_,rfl,rfl,⟨s,rfl,hcy⟩,rfl⟩) (RPc.one hb) rfl rfl rfl (by simp[maxLen]) rfl (λv3 K3 h3=> ?_))))))
   obtain⟨ao3,cap3,rfl⟩:=RowOf.val h3
   refine JL.appF (HF:=λ_ _=>none) 1 U22 I26 rfl rfl hout rfl (SrcF.row 0 U22 rfl h3) hq hll rfl (Nat.le_refl _) rfl (λv4 K4 h4=> ?_)
   obtain⟨ao4,cap4,rfl⟩:=RowOf.val h4
   refine Run.llz_s [] 6 ZB rfl (ZA rfl rfl (R.slc (cap:=rem) (a:=(y:Int)) (b:=(rem:Int)) (c:=(rem:Int)) (m:=List.replicate rem (0:UInt8)) (R:=RU8) (v':=.slice (some ⟨hb,s2,none⟩) (rem-y) (rem-y)) U26 S5 rfl ⟨_,rfl⟩ (by simp) ⟨some ⟨hb,s,none⟩,rem,rfl,rfl⟩ ⟨by omega,by omega,Int.le_refl _⟩ ⟨some ⟨hb,s,none⟩,by rw[List.length_replicate],by omega,e36⟩ (.inl rfl)) ?_)
   refine Run.llz_bs [] 5 ZB rfl (ZA rfl rfl (R.inc rfl rfl (of_decide_eq_true c) (by omega)) ?_)
   refine Run.lnz [] 2 ZB rfl (JN.forget 0 (JN.again (i:=(i,s,ao2,n2,cap2,Ko)) (i+1,s2,ao4,_,cap4,K4) ⟨hlt',by dsimp only;rw[hrem2];exact hs2,h4⟩ (by dsimp only;omega) ⟨rfl,rfl,rfl,by dsimp only;rw[hrem2];rfl,rfl,trivial⟩ rfl rfl))
  ·
   have hge:i=ns.length:=by have:=of_decide_eq_false c;omega
   subst hge
   refine Run.cnz_kkb [] 4 ZB rfl ?_
   rw[List.take_length]at hout
   exact JN.cut ⟨_,_,_,_,rfl,rfl,rfl,hout⟩ ⟨rfl,trivial⟩ rfl rfl
 rintro _ _ _ ⟨ao2,n2,cap2,Ko,rfl,rfl,rfl,hout⟩
 refine Run.nnz_s [] 2 ZB rfl (ZU (vs:=[.slice ao2 n2 cap2]) (K:=[Ko++ [(hb,.cells (bvs (List.replicate ns.sum 0)).toArray 5 (0,0))]]) (rst:=[]) (.inl rfl) rfl rfl (Ze rfl rfl) (by simp) ?_)
 have hflat:(ns.map λn=>List.replicate n (0:UInt8)).flatten=List.replicate ns.sum 0:=by
  clear hat hstep htk hs hout hpn hns hpl hsum hlen
  induction ns with
  |nil=>rfl
  |cons y r ih=>rw[List.map_cons,List.flatten_cons,ih,List.sum_cons,List.replicate_append_replicate]
 have hlens:lens (ns.map λn=>List.replicate n (0:UInt8))=ns:=by unfold lens;rw[List.map_map];simp[Function.comp_def]
 refine⟨ao2,n2,cap2,_,rfl,rfl,rfl,⟨hb,Ko,?_,Nat.zero_le _,?_,?_⟩,(λp hp hm=>by cases hm),trivial⟩
 ·
  rw[hflat]
 ·
  rw[hflat,List.length_replicate];exact lim_max hsum
 ·
  rw[hlens];exact ZX (Nat.zero_le _) hout
theorem bytes_Clone_ok (b:List UInt8)(H:Heaplet){ao:Option Addr}{n cap:Nat}(hs:IsSlice H RU8 1 (.slice ao n cap) b)(r:List UInt8)(hx:bytes_Clone b=some r):
  Does Tryz.prog 42 #[.slice ao n cap] [] H (λu K' H'=>∃ao0:Option Addr,∃n0:Nat,∃cap0:Nat,∃K0:Own,u=.slice ao0 n0 cap0∧K'= [K0]∧H=H'∧RowOf (New H H') RU8 0 5 1 (.slice ao0 n0 cap0) r K0∧(∀p∈K0,p.1∉ids (List.flatten []))∧True):=by
 rw[bytes_Clone.eq_1]at hx
 obtain⟨q,hq,hl,hx⟩:=app_some hx
 obtain rfl:=Option.some.inj hx
 refine Does.enter (vs:=[.slice ao n cap]) (l:=[(0,.slice ao n cap)]) Tryz.func42 rfl rfl ⟨rfl,trivial⟩ (λw=>Run.cl [] 9 ZB rfl (ZA rfl rfl (R.eqlNil U26 rfl rfl) (Run.lcz_s [] 2 ZB rfl ?_)))
 cases ao with
 |none=>
  have hp:=hs.none_nil
  subst hp
  simp only[List.append_nil]at hq
  subst hq
  refine Run.cnz_k [] 8 ZB rfl (ZO (ZU (vs:=[.slice none 0 0]) (K:=[_]) (rst:=[]) (.inl rfl) rfl rfl (Ze rfl rfl) (ZL 0 rfl ZH) ?_))
  exact⟨none,0,0,[],rfl,rfl,rfl,ZF _ _ _ _ _,(λp hp=>by cases hp),trivial⟩
 |some a=>
  refine Run.cl_s [] 5 ZB rfl (JL.bslF (HF:=New H H) (R:=RU8) (ls:=[]) (vs:=[]) U26 I5 rfl rfl rfl RU8.one rfl rfl rfl (by simp[maxLen]) rfl (λv1 K1 h1=> ?_))
  obtain⟨ao1,cap1,rfl⟩:=RowOf.val h1
  refine ZA rfl rfl (R.move rfl) (JL.appF (HF:=New H H) 0 U26 I5 rfl rfl h1 rfl (SrcF.sliceC RU8.const RU8.one U26 hs) hq hl rfl (Nat.le_refl _) rfl (λv2 K2 h2=> ?_))
  obtain⟨ao2,cap2,rfl⟩:=RowOf.val h2
  refine Run.lnz_s [] 4 ZB rfl (ZU (vs:=[.slice ao2 _ cap2]) (K:=[_]) (rst:=[]) (.inl rfl) rfl rfl (Ze rfl rfl) (ZL 0 rfl ZH) ?_)
  exact⟨_,_,_,_,rfl,rfl,rfl,ZX (Nat.zero_le _) h2,(λp hp hm=>by cases hm),trivial⟩
theorem dev_Twin_ok (b9:Disk)(H:Heaplet){y:Option Addr}{z:Nat}{a0:Nat}{a1:Option Addr}{a2:Nat}{a3:Nat}(a:IsSlice H (RSl RU8 1) 1 (.slice y z a0) b9.Blocks)(c0:IsSlice H R_Write 2 (.slice a1 a2 a3) b9.Waits)(r:Disk)(hx:dev_Twin b9=some r):
  Does Tryz.prog 41 #[.agg #[.slice y z a0,.slice a1 a2 a3]] [] H (λu K' H'=>∃ao0:Option Addr,∃n0:Nat,∃cap0:Nat,∃K0:Own,∃ao1:Option Addr,∃n1:Nat,∃cap1:Nat,∃K1:Own,u=.agg #[.slice ao0 n0 cap0,.slice ao1 n1 cap1]∧K'= [K0,K1]∧Pcs 0 5 26 (.slice ao0 n0 cap0) r.Blocks K0∧(∀p∈K0,p.1∉ids (List.flatten []))∧RowOf (New H H') R_Write 0 78 2 (.slice ao1 n1 cap1) r.Waits K1∧(∀p∈K1,p.1∉ids (List.flatten []))∧True):=by
 refine Does.enterL (vs:=[.agg #[.slice y z a0,.slice a1 a2 a3]]) (l:=[(0,.agg #[.slice y z a0,.slice a1 a2 a3])]) Tryz.func41 rfl rfl ⟨rfl,trivial⟩ (λw hlt=> ?_)
 unfold dev_Twin at hx
 refine Run.cl [] 2 ZB rfl (Zf rfl rfl (λk0 k1=>JL.alloc Z25 rfl (λd4 k2=>Run.ll_s [1] 12 ZB rfl (ZA rfl rfl (ZN U22 rfl (IsSlice.long a)) (Run.lcz_s [] 3 ZB rfl (Za hx [1,2] [1,0] rfl rfl (λa4 l0 o0 l o g=>∃c1:Option Addr,∃c2:Nat,∃c3:Nat,∃c4:Own,l=(3,.slice c1 c2 c3)::l0∧o=c4::o0∧H=g∧RowOf (New H H) RInt w.heap.size 3 1 (.slice c1 c2 c3) a4 c4) (λa4 k3 hx=> ?_) (λa4 k4 hx=> ?_)))))))
 ·
  rintro _ _ _ ⟨c1,c2,c3,c4,rfl,rfl,rfl,f7⟩
  refine Run.nl_s [] 4 ZB rfl (JL.pubN 0 RInt.mono rfl f7 (Nat.le_refl _) (λj d5 f8=>JL.forget 0 ?_))
  obtain⟨k5,f9,hx⟩:=ZM hx
  refine ZQ (vs:=[_]) (args:=[_]) (K:=[]) (rst:=[_,_]) E64 rfl rfl rfl ZH (dev_cut_ok a4 _ (f8.old RInt.mono) _ f9) rfl (λk6 k7 k8 g0 k9 g1=> ?_)
  obtain⟨b,c,d,g2,rfl,rfl,rfl,c5,g3,-⟩:=g0
  replace c5:=(Pcs.base c5 (λp hp=>(g1 p (Zc 0 rfl hp)).resolve_left (g3 p hp)))
  refine Run.ll_s [2,1] 9 ZB rfl (ZA rfl rfl (ZN U22 rfl (IsSlice.long a)) (Run.lcz_s [] 3 ZB rfl (Za hx [1,2] [1,2] rfl rfl (λc6 l0 o0 l o g=>∃a5:Own,l=l0∧o=a5::o0∧j=g∧Pcs w.heap.size 5 26 (.slice b c d) c6 a5) (λc6 l1 hx=> ?_) (λc6 l2 hx=> ?_))))
  ·
   rintro _ _ _ ⟨a5,rfl,rfl,rfl,d6⟩
   refine Run.nl_s [1] 6 ZB rfl (ZA rfl rfl (ZN U23 rfl (IsSlice.long c0)) (Run.lcz_s [] 3 ZB rfl (Za hx [2] [0] rfl rfl (λc7 l0 o0 l o g=>∃a6:Heaplet,∃k:Option Addr,∃m:Nat,∃q:Nat,∃a7:Own,l=l0∧o= [(d4,.cells #[.slice b c d,.slice k m q] 25 (0,0))]::a7::o0∧a6=g∧Hle j a6∧RowOf (New H a6) R_Write w.heap.size 78 2 (.slice k m q) c7 a7) (λc7 l3 hx=> ?_) (λc7 l4 hx=> ?_))))
   ·
    rintro _ _ _ ⟨a6,k,m,q,a7,rfl,rfl,rfl,l5,d7⟩
    refine Run.nnz_s [] 2 ZB rfl (ZU (vs:=[.agg #[.slice b c d,.slice k m q]]) (K:=[_,_]) (rst:=[_]) (.inl rfl) rfl rfl (Res.cellN 0 rfl rfl S25 rfl) (ZL 2 rfl (ZL 1 rfl ZH)) ?_)
    obtain rfl:=Option.some.inj hx
    exact⟨b,c,d,a5,k,m,q,a7,rfl,rfl,(Pcs.weak (Nat.zero_le _) d6),(newP_ids d6 hlt),(ZX (Nat.zero_le _) d7),(new_ids d7 hlt),trivial⟩
   ·
    refine JC.block (JC.seg0 (JC.forget 2 (ZR 1 rfl (ZR 1 rfl (ZR 2 rfl (Zi [2,43,44] [2] rfl rfl (λl0 o0 a8 l o g=>∃f:Heaplet,∃a9:Option Addr,∃b0:Nat,∃b1:Nat,∃b2:Own,l=(45,.int .i64 ((a8.2:Nat):Int))::l0∧o= [(d4,.cells #[.slice b c d,.slice a9 b0 b1] 25 (0,0))]::b2::o0∧f=g∧Hle j f∧RowOf (New H f) R_Write w.heap.size 78 2 (.slice a9 b0 b1) a8.1 b2) hx ⟨j,none,0,0,[],rfl,rfl,rfl,(Hle.refl _),(ZF _ _ _ _ _)⟩ rfl ?_))))))
    ·
     rintro l6 a8 _ _ _ ⟨f,a9,b0,b1,b2,rfl,rfl,rfl,c8,d8⟩ l7 hx d9
     unfold dev_Twin_l3 at hx
     refine Run.cc [] 6 ZB rfl (ZK hx rfl (λe0 hx=> ?_) (λe0 hx=> ?_))
     ·
      refine Run.cl_s [] 6 ZB rfl ?_
      obtain⟨s,g4,hx⟩:=ZS hx
      obtain⟨l8,l9,m0,g5,g6,m1,g7⟩:=IsSlice.elem (c0.mono R_Write.mono (d5.trans c8)) g4
      obtain⟨m2,rfl,e1⟩:=g6
      obtain⟨m3,m4,rfl⟩:=IsSlice.val e1
      refine ZA rfl rfl (R.ix U23 S78 rfl rfl g5) (ZA rfl rfl (R.ldHF 0 S78 rfl g7 rfl rfl) (JL.alloc Z78 rfl (λm5 m6=>Run.lcz_s [0] 3 ZB rfl (JC.drawB (so:=[(_,[]),(_,[9,11]),(_,[9]),(_,[])]) 12 rfl Mixed ⟨by kernel_rfl,by kernel_rfl⟩ (kept0 [0,1,2,3] rfl) ?_))))
      refine JB.val (i:=0) [] rfl (R.fa F25_1 rfl) ?_
      refine JB.val (i:=1) [9,10,11] rfl (R.ldo 1 S23 rfl rfl rfl) ?_
      refine JB.run 4 [2,3,4,5] [0,0] ZB rfl ?_
      refine JB.one (i:=6) (by kernel_rfl) ?_
      refine JOB.step rfl trivial rfl (λK hK=> ?_)
      obtain⟨g8,g9,hx⟩:=ZM hx
      refine ZQ (vs:=[_]) (args:=[_]) (K:=[]) (rst:=[_,_,_,_]) E42 rfl rfl rfl ZH (bytes_Clone_ok s.Data _ e1 _ g9) rfl (λm7 m8 m9 h0 n2 h1=> ?_)
      obtain⟨c9,d0,d1,n3,rfl,rfl,rfl,d2,h2,-⟩:=h0
      replace d2:=(RowOf.base (ZZ (H2:=New H f) RU8.const d2) (λp hp=>(h1 p (Zc 0 rfl hp)).resolve_left (h2 p hp)))
      refine ZW (hK _ _ _ (Hle.refl _) (kept0 [1,2,3,4] rfl) ?_)
      refine JB.val (i:=7) [] rfl (R.bldP (vs:=[(0,.int .i64 s.At),(1,.slice c9 d0 d1)]) (cs:=[.int .i64 s.At,.slice c9 d0 d1]) Z78 B78 rfl rfl rfl) ?_
      refine JB.one (i:=8) (by kernel_rfl) ?_
      refine JOB.step rfl trivial rfl (λK hK=>JL.pubN 0 RU8.mono rfl d2 (Nat.le_refl _) (λd3 v h3=>JL.forget 0 (JL.bslF (HF:=(New H d3)) (R:=R_Write) (ls:=[Write.mk s.At g8]) (vs:=[.agg #[.int .i64 s.At,.slice c9 d0 d1]]) U23 I78 rfl rfl (⟨_,_,rfl,rfl,⟨_,rfl,h3⟩,rfl⟩) R_Write.one rfl rfl rfl (by simp[maxLen]) rfl (λn4 n5 e2=> ?_))))
      obtain⟨n6,n7,rfl⟩:=RowOf.val e2
      refine ZW (hK _ _ _ v (kept0 [1,2,3,4] rfl) ?_)
      refine JB.one (i:=9) (by kernel_rfl) ?_
      refine JOB.step rfl trivial rfl (λK hK=> ?_)
      obtain⟨e3,h4,h5,hx⟩:=app_some hx
      refine JL.appF (HF:=(New H d3)) 3 U23 I78 rfl rfl (d8.mono R_Write.mono (New.mono v)) rfl (SrcF.row 0 U23 rfl e2) h4 h5 rfl (Nat.le_refl _) rfl (λn8 h6 e4=> ?_)
      obtain⟨h7,h8,rfl⟩:=RowOf.val e4
      refine ZW (hK _ _ _ v (kept1 [false,true,true,false] [1,0,0,4] (by kernel_rfl) rfl) ?_)
      refine JB.val (i:=10) [] rfl (R.fa F25_1 rfl) ?_
      refine JB.one (i:=11) (by kernel_rfl) ?_
      refine JOB.step rfl trivial rfl (λK hK=>Run.lnz [2] 2 ZB rfl (hK _ _ _ v (kept1 [false,true,true,false] [1,0,0,4] (by kernel_rfl) rfl) ?_))
      refine JB.doneN (by kernel_rfl) ?_
      refine Run.nlz_bs [] 3 ZB rfl (ZA rfl rfl (R.inc rfl rfl (of_decide_eq_true e0) (IsSlice.lenI c0)) (Run.lnz [] 2 ZB rfl ?_))
      replace hx:=Zb d9 hx
      refine JN.forget 1 (JN.forget 0 (ZC 2 rfl (ZC 2 rfl (ZC 2 rfl ?_))))
      exact ZE ⟨(e3,a8.2+1),⟨d3,h7,e3.length,h8,h6,rfl,rfl,rfl,((c8.trans v)),e4⟩,hx⟩ rfl rfl rfl
     ·
      refine Run.cnz_k [] 2 ZB rfl ?_
      obtain rfl:=ZP d9 hx
      refine Run.nnz_kb [] 2 ZB rfl (ZC 2 rfl (ZC 2 rfl (ZC 2 rfl ?_)))
      exact ZE ⟨f,a9,b0,b1,b2,rfl,rfl,rfl,(c8),d8⟩ rfl rfl rfl
  ·
   refine JC.block (ZR 2 rfl (ZR 2 rfl (ZR 2 rfl (Zi [1,2,27,28] [1,2] rfl rfl (λl0 o0 b3 l o g=>∃x:Own,l=(29,.int .i64 ((b3.2:Nat):Int))::l0∧o=x::o0∧j=g∧Pcs w.heap.size 5 26 (.slice b c d) b3.1 x) hx ⟨g2,rfl,rfl,rfl,c5⟩ rfl ?_))))
   ·
    rintro n9 b3 _ _ _ ⟨x,rfl,rfl,rfl,h⟩ o1 hx e5
    unfold dev_Twin_l2 at hx
    refine Run.cc [] 6 ZB rfl (ZK hx rfl (λe6 hx=> ?_) (λe6 hx=> ?_))
    ·
     refine Run.cl_s [] 7 ZB rfl ?_
     obtain⟨o2,h9,hx⟩:=ZS hx
     obtain⟨o3,o4,o5,i0,i1,o6,i2⟩:=IsSlice.elem (a.mono (RSl.mono RU8.mono) d5) h9
     obtain⟨o7,rfl,e7⟩:=i1
     obtain⟨o8,o9,rfl⟩:=IsSlice.val e7
     refine ZA rfl rfl (R.ix U22 S26 rfl rfl i0) (ZA rfl rfl (R.ldH S26 rfl (i2 0 _ rfl)) (Run.llz_s [2] 8 ZB rfl ?_))
     obtain⟨p0,e8,hx⟩:=ZS hx
     obtain⟨p1,p2,p3,p4,i3,i4,i5,i6⟩:=Pcs.at h e8
     refine ZA rfl rfl (R.ix U22 S26 rfl rfl i3) (ZA rfl rfl (R.ldM 0 S26 rfl rfl i4 i5) (ZA rfl rfl (R.move rfl) ?_))
     obtain⟨i7,hx⟩:=chk_some hx
     obtain⟨i8,i9,p5,hx⟩:=setI_some hx
     refine JL.copyP 0 U26 S5 rfl h e8 i6 rfl rfl (Hle.refl _) e7 i7 rfl (λj0 e9=> ?_)
     rw[←i9]at e9
     refine Run.llz_bs [] 4 ZB rfl (ZA rfl rfl (R.inc rfl rfl (of_decide_eq_true e6) (IsSlice.lenI a)) (Run.lnz [] 2 ZB rfl ?_))
     replace hx:=Zb e5 hx
     refine ZC 2 rfl (ZC 2 rfl (ZC 2 rfl ?_))
     exact ZE ⟨(i8,b3.2+1),⟨j0,rfl,rfl,rfl,e9⟩,hx⟩ rfl rfl rfl
    ·
     refine Run.cnz_k [] 2 ZB rfl ?_
     obtain rfl:=ZP e5 hx
     refine Run.nnz_kb [] 2 ZB rfl (ZC 2 rfl (ZC 2 rfl (ZC 2 rfl ?_)))
     exact ZE ⟨x,rfl,rfl,rfl,h⟩ rfl rfl rfl
 ·
  refine JC.block (JC.seg0 (ZR 1 rfl (ZR 2 rfl (ZR 2 rfl (Zi [1,2,11,12] [1,2] rfl rfl (λl0 o0 b4 l o g=>∃b5:Option Addr,∃b6:Nat,∃b7:Nat,∃b8:Own,l=(3,.slice b5 b6 b7)::(13,.int .i64 ((b4.2:Nat):Int))::l0∧o=b8::o0∧H=g∧RowOf (New H H) RInt w.heap.size 3 1 (.slice b5 b6 b7) b4.1 b8) hx ⟨none,0,0,[],rfl,rfl,rfl,(ZF _ _ _ _ _)⟩ rfl ?_)))))
  ·
   rintro p6 b4 _ _ _ ⟨b5,b6,b7,b8,rfl,rfl,rfl,f0⟩ p7 hx f1
   unfold dev_Twin_l1 at hx
   refine Run.cc [] 6 ZB rfl (ZK hx rfl (λf2 hx=> ?_) (λf2 hx=> ?_))
   ·
    refine Run.cl_s [] 6 ZB rfl ?_
    obtain⟨f3,j1,hx⟩:=ZS hx
    obtain⟨p8,p9,q0,j2,j3,q1,j4⟩:=IsSlice.elem a j1
    obtain⟨q2,rfl,f4⟩:=j3
    obtain⟨q3,q4,rfl⟩:=IsSlice.val f4
    refine ZA rfl rfl (R.ix U22 S26 rfl rfl j2) (ZA rfl rfl (R.ldH S26 rfl (j4 0 _ rfl)) (Run.llz_s [] 6 ZB rfl (ZA rfl rfl (ZN U26 rfl (IsSlice.long f4)) (JL.bslF (HF:=(New H H)) (R:=RInt) (ls:=[(f3.length:Int)]) (vs:=[.int .i64 (f3.length:Int)]) U35 I3 rfl rfl (⟨_,_,rfl,rfl,rfl,rfl⟩) RInt.one rfl rfl rfl (by simp[maxLen]) rfl (λq5 x h=> ?_)))))
    obtain⟨q6,q7,rfl⟩:=RowOf.val h
    obtain⟨f5,j5,j6,hx⟩:=app_some hx
    refine JL.appF (HF:=(New H H)) 1 U35 I3 rfl rfl f0 rfl (SrcF.row 0 U35 rfl h) j5 j6 rfl (Nat.le_refl _) rfl (λq8 j7 f6=> ?_)
    obtain⟨j8,j9,rfl⟩:=RowOf.val f6
    refine Run.llz_bs [] 5 ZB rfl (ZA rfl rfl (R.inc rfl rfl (of_decide_eq_true f2) (IsSlice.lenI a)) (Run.lnz [] 2 ZB rfl ?_))
    replace hx:=Zb f1 hx
    refine JN.forget 0 (ZC 2 rfl (ZC 2 rfl (ZC 2 rfl ?_)))
    exact ZE ⟨(f5,b4.2+1),⟨j8,f5.length,j9,j7,rfl,rfl,rfl,f6⟩,hx⟩ rfl rfl rfl
   ·
    refine Run.cnz_k [] 2 ZB rfl ?_
    obtain rfl:=ZP f1 hx
    refine Run.nnz_kb [] 2 ZB rfl (ZC 2 rfl (ZC 2 rfl (ZC 2 rfl ?_)))
    exact ZE ⟨b5,b6,b7,b8,rfl,rfl,rfl,f0⟩ rfl rfl rfl
theorem store_Twin_ok (b:Store)(H:Heaplet){c2:Option Addr}{c3:Nat}{c4:Nat}{c5:Option Addr}{c6:Nat}{c7:Nat}{c8:Option Addr}{c9:Nat}{d0:Nat}(d4:IsSlice H (RSl RU8 1) 1 (.slice c2 c3 c4) b.Disk.Blocks)(d5:IsSlice H R_Write 2 (.slice c5 c6 c7) b.Disk.Waits)(d6:IsSlice H RU8 1 (.slice c8 c9 d0) b.Space)(r:Store)(hx:store_Twin b=some r):
  Does Tryz.prog 21 #[.agg #[.slice c2 c3 c4,.slice c5 c6 c7,.slice c8 c9 d0,.int .u32 (b.Epoch.toNat:Int),.int .u32 (b.Count.toNat:Int)]] [] H (λu K' H'=>∃ao0:Option Addr,∃n0:Nat,∃cap0:Nat,∃K0:Own,∃ao1:Option Addr,∃n1:Nat,∃cap1:Nat,∃K1:Own,∃ao2:Option Addr,∃n2:Nat,∃cap2:Nat,∃K2:Own,u=.agg #[.slice ao0 n0 cap0,.slice ao1 n1 cap1,.slice ao2 n2 cap2,.int .u32 (r.Epoch.toNat:Int),.int .u32 (r.Count.toNat:Int)]∧K'= [K0,K1,K2]∧Pcs 0 5 26 (.slice ao0 n0 cap0) r.Disk.Blocks K0∧(∀p∈K0,p.1∉ids (List.flatten []))∧RowOf (New H H') R_Write 0 78 2 (.slice ao1 n1 cap1) r.Disk.Waits K1∧(∀p∈K1,p.1∉ids (List.flatten []))∧RowOf (New H H') RU8 0 5 1 (.slice ao2 n2 cap2) r.Space K2∧(∀p∈K2,p.1∉ids (List.flatten []))∧True):=by
 refine Does.enterL (vs:=[.agg #[.slice c2 c3 c4,.slice c5 c6 c7,.slice c8 c9 d0,.int .u32 (b.Epoch.toNat:Int),.int .u32 (b.Count.toNat:Int)]]) (l:=[(0,.agg #[.slice c2 c3 c4,.slice c5 c6 c7,.slice c8 c9 d0,.int .u32 (b.Epoch.toNat:Int),.int .u32 (b.Count.toNat:Int)])]) Tryz.func21 rfl rfl ⟨rfl,trivial⟩ (λw hlt=> ?_)
 unfold store_Twin at hx
 refine Run.cl [] 2 ZB rfl (Zf rfl rfl (λe8 e9=>JL.alloc Z29 rfl (λf0 f1=>Run.lc_s [] 3 ZB rfl (Za hx [1,2] [0] rfl rfl (λm l0 o0 l o g=>∃q:Heaplet,∃s:Option Addr,∃v:Nat,∃x:Nat,∃d1:Own,∃y:Option Addr,∃z:Nat,∃a0:Nat,∃d2:Own,∃a1:Option Addr,∃a2:Nat,∃a3:Nat,∃d3:Own,l=l0∧o= [(e8,.cells #[.slice s v x,.slice y z a0,.slice a1 a2 a3,.int .u32 (b.Epoch.toNat:Int),.int .u32 (b.Count.toNat:Int)] 29 (0,0))]::d1::d2::d3::o0∧q=g∧Hle H q∧Pcs w.heap.size 5 26 (.slice s v x) m.1 d1∧RowOf (New H q) R_Write w.heap.size 78 2 (.slice y z a0) m.2.1 d2∧RowOf (New H q) RU8 w.heap.size 5 1 (.slice a1 a2 a3) m.2.2 d3) (λm f2 hx=> ?_) (λm f3 hx=> ?_)))))
 ·
  rintro _ _ _ ⟨q,s,v,x,d1,y,z,a0,d2,a1,a2,a3,d3,rfl,rfl,rfl,f4,d9,e0,e1⟩
  refine Run.nnz_s [0,4] 8 ZB rfl (ZU (vs:=[.agg #[.slice s v x,.slice y z a0,.slice a1 a2 a3,.int .u32 (b.Epoch.toNat:Int),.int .u32 (b.Count.toNat:Int)]]) (K:=[_,_,_]) (rst:=[_,_]) (.inl rfl) rfl rfl (Res.cellN 4 rfl rfl S29 rfl) (ZL 1 rfl (ZL 1 rfl (ZL 1 rfl ZH))) ?_)
  obtain rfl:=Option.some.inj hx
  exact⟨s,v,x,d1,y,z,a0,d2,a1,a2,a3,d3,rfl,rfl,(Pcs.weak (Nat.zero_le _) d9),(newP_ids d9 hlt),(ZX (Nat.zero_le _) e0),(new_ids e0 hlt),(ZX (Nat.zero_le _) e1),(new_ids e1 hlt),trivial⟩
 ·
  refine JC.draw (so:=[_]) 10 rfl Mixed ⟨⟨0,rfl⟩,trivial⟩ (JA.val ⟨by kernel_rfl,by kernel_rfl⟩ (ZI _) (i:=0) rfl ⟨by kernel_rfl,by kernel_rfl,rfl⟩ trivial (ZG (Hle.refl _) ⟨⟨0,rfl⟩,trivial⟩) (R.fa F29_0 rfl) rfl (JA.val ⟨by kernel_rfl,by kernel_rfl⟩ (ZI _) (i:=3) rfl ⟨by kernel_rfl,by kernel_rfl,rfl⟩ trivial (ZG (Hle.refl _) ⟨⟨0,rfl⟩,trivial⟩) (R.fa F29_1 rfl) rfl ?_))
  obtain⟨f5,d7,hx⟩:=ZM hx
  obtain⟨f6,d8,hx⟩:=ZM hx
  refine JA.two (i:=1) (j:=4) (by kernel_rfl) ?_ ?_
  ·
   refine JO.step rfl trivial rfl (λK hK=>Run.lnz [1] 2 ZB rfl (hK _ _ _ (ZG (Hle.refl _) ⟨⟨0,rfl⟩,trivial⟩) (JA.two (i:=2) (j:=4) (by kernel_rfl) ?_ ?_)))
   ·
    refine JO.step rfl trivial rfl (λK hK=>ZQ (vs:=[_]) (args:=[_]) (K:=[]) (rst:=[_,_]) E41 rfl rfl rfl ZH (dev_Twin_ok (Disk.mk b.Disk.Blocks b.Disk.Waits) _ d4 d5 _ d7) rfl (λe2 e3 h a4 a k=> ?_))
    obtain⟨a5,a6,a7,a8,a9,b0,b1,b2,rfl,rfl,c,b3,d,b4,-⟩:=a4
    replace c:=(Pcs.base c (λp hp=>(k p (Zc 0 rfl hp)).resolve_left (b3 p hp)))
    replace d:=(RowOf.base (RowOf.mono R_Write.mono (New.call (Hle.refl _)) d) (λp hp=>(k p (Zc 1 rfl hp)).resolve_left (b4 p hp)))
    refine ZW (hK _ _ _ (ZG a ⟨⟨2,rfl⟩,trivial⟩) (JA.one (i:=4) (by kernel_rfl) (JO.step rfl trivial rfl (λK hK=> ?_))))
    refine Run.lnz [3] 2 ZB rfl (hK _ _ _ (ZG a ⟨⟨2,rfl⟩,trivial⟩) (JA.val ⟨by kernel_rfl,by kernel_rfl⟩ (ZI _) (i:=6) rfl ⟨by kernel_rfl,by kernel_rfl,rfl⟩ trivial (ZG a ⟨⟨2,rfl⟩,trivial⟩) (R.fa F29_0 rfl) rfl (JA.one (i:=5) (by kernel_rfl) (JO.step rfl trivial rfl (λK hK=>ZQ (vs:=[_]) (args:=[_]) (K:=[]) (rst:=[_,_,_,_]) E42 rfl rfl rfl ZH (bytes_Clone_ok b.Space _ (d6.mono RU8.mono a) _ d8) rfl (λe4 e5 e6 b5 e7 b6=> ?_))))))
    obtain⟨b7,b8,b9,c0,rfl,rfl,rfl,f,c1,-⟩:=b5
    replace f:=(RowOf.base (ZZ (H2:=New H h) RU8.const f) (λp hp=>(b6 p (Zc 0 rfl hp)).resolve_left (c1 p hp)))
    refine ZW (hK _ _ _ (ZG a ⟨⟨3,rfl⟩,trivial⟩) (JA.one (i:=7) (by kernel_rfl) (JO.step rfl trivial rfl (λK hK=> ?_))))
    refine Run.lnz [4] 2 ZB rfl (hK _ _ _ (ZG a ⟨⟨3,rfl⟩,trivial⟩) (JA.val ⟨by kernel_rfl,by kernel_rfl⟩ (ZI _) (i:=8) rfl ⟨by kernel_rfl,by kernel_rfl,rfl⟩ trivial (ZG a ⟨⟨3,rfl⟩,trivial⟩) (R.fa F29_1 rfl) rfl (JA.one (i:=9) (by kernel_rfl) (JO.step rfl trivial rfl (λK hK=> ?_)))))
    refine Run.lnz [4] 2 ZB rfl (hK _ _ _ (ZG a ⟨⟨3,rfl⟩,trivial⟩) (JA.doneN (by kernel_rfl) ?_))
    obtain rfl:=Option.some.inj hx
    refine ZC 3 rfl (ZC 1 rfl (ZC 3 rfl (ZC 3 rfl (ZC 4 rfl ?_))))
    exact ZE ⟨h,a5,a6,a7,a8,a9,b0,b1,b2,b7,b8,b9,c0,rfl,rfl,rfl,(a),c,d,f⟩ rfl rfl rfl
   ·
    refine JO.step rfl trivial rfl (λK hK=>Run.lnz [1] 2 ZB rfl (hK _ _ _ (ZG (Hle.refl _) ⟨⟨0,rfl⟩,trivial⟩) (JA.one (i:=2) (by kernel_rfl) (JO.step rfl trivial rfl (λK hK=>ZQ (vs:=[_]) (args:=[_]) (K:=[]) (rst:=[_,_]) E41 rfl rfl rfl ZH (dev_Twin_ok (Disk.mk b.Disk.Blocks b.Disk.Waits) _ d4 d5 _ d7) rfl (λe2 e3 h a4 a k=> ?_))))))
    obtain⟨a5,a6,a7,a8,a9,b0,b1,b2,rfl,rfl,c,b3,d,b4,-⟩:=a4
    replace c:=(Pcs.base c (λp hp=>(k p (Zc 0 rfl hp)).resolve_left (b3 p hp)))
    replace d:=(RowOf.base (RowOf.mono R_Write.mono (New.call (Hle.refl _)) d) (λp hp=>(k p (Zc 1 rfl hp)).resolve_left (b4 p hp)))
    refine ZW (hK _ _ _ (ZG a ⟨⟨2,rfl⟩,trivial⟩) (JA.val ⟨by kernel_rfl,by kernel_rfl⟩ (ZI _) (i:=6) rfl ⟨by kernel_rfl,by kernel_rfl,rfl⟩ trivial (ZG a ⟨⟨2,rfl⟩,trivial⟩) (R.fa F29_0 rfl) rfl (JA.one (i:=5) (by kernel_rfl) (JO.step rfl trivial rfl (λK hK=>ZQ (vs:=[_]) (args:=[_]) (K:=[]) (rst:=[_,_,_,_]) E42 rfl rfl rfl ZH (bytes_Clone_ok b.Space _ (d6.mono RU8.mono a) _ d8) rfl (λe4 e5 e6 b5 e7 b6=> ?_))))))
    obtain⟨b7,b8,b9,c0,rfl,rfl,rfl,f,c1,-⟩:=b5
    replace f:=(RowOf.base (ZZ (H2:=New H h) RU8.const f) (λp hp=>(b6 p (Zc 0 rfl hp)).resolve_left (c1 p hp)))
    refine ZW (hK _ _ _ (ZG a ⟨⟨3,rfl⟩,trivial⟩) (JA.one (i:=7) (by kernel_rfl) (JO.step rfl trivial rfl (λK hK=> ?_))))
    refine Run.lnz [4] 2 ZB rfl (hK _ _ _ (ZG a ⟨⟨3,rfl⟩,trivial⟩) (JA.val ⟨by kernel_rfl,by kernel_rfl⟩ (ZI _) (i:=8) rfl ⟨by kernel_rfl,by kernel_rfl,rfl⟩ trivial (ZG a ⟨⟨3,rfl⟩,trivial⟩) (R.fa F29_1 rfl) rfl (JA.one (i:=9) (by kernel_rfl) (JO.step rfl trivial rfl (λK hK=> ?_)))))
    refine Run.lnz [4] 2 ZB rfl (hK _ _ _ (ZG a ⟨⟨3,rfl⟩,trivial⟩) (JA.doneN (by kernel_rfl) ?_))
    obtain rfl:=Option.some.inj hx
    refine ZC 3 rfl (ZC 1 rfl (ZC 3 rfl (ZC 3 rfl (ZC 4 rfl ?_))))
    exact ZE ⟨h,a5,a6,a7,a8,a9,b0,b1,b2,b7,b8,b9,c0,rfl,rfl,rfl,(a),c,d,f⟩ rfl rfl rfl
  ·
   refine JO.step rfl trivial rfl (λK hK=>Run.lnz [1] 2 ZB rfl (hK _ _ _ (ZG (Hle.refl _) ⟨⟨0,rfl⟩,trivial⟩) (JA.one (i:=1) (by kernel_rfl) (JO.step rfl trivial rfl (λK hK=> ?_)))))
   refine Run.lnz [1] 2 ZB rfl (hK _ _ _ (ZG (Hle.refl _) ⟨⟨0,rfl⟩,trivial⟩) (JA.one (i:=2) (by kernel_rfl) (JO.step rfl trivial rfl (λK hK=>ZQ (vs:=[_]) (args:=[_]) (K:=[]) (rst:=[_,_]) E41 rfl rfl rfl ZH (dev_Twin_ok (Disk.mk b.Disk.Blocks b.Disk.Waits) _ d4 d5 _ d7) rfl (λe2 e3 h a4 a k=> ?_)))))
   obtain⟨a5,a6,a7,a8,a9,b0,b1,b2,rfl,rfl,c,b3,d,b4,-⟩:=a4
   replace c:=(Pcs.base c (λp hp=>(k p (Zc 0 rfl hp)).resolve_left (b3 p hp)))
   replace d:=(RowOf.base (RowOf.mono R_Write.mono (New.call (Hle.refl _)) d) (λp hp=>(k p (Zc 1 rfl hp)).resolve_left (b4 p hp)))
   refine ZW (hK _ _ _ (ZG a ⟨⟨2,rfl⟩,trivial⟩) (JA.val ⟨by kernel_rfl,by kernel_rfl⟩ (ZI _) (i:=6) rfl ⟨by kernel_rfl,by kernel_rfl,rfl⟩ trivial (ZG a ⟨⟨2,rfl⟩,trivial⟩) (R.fa F29_0 rfl) rfl (JA.one (i:=5) (by kernel_rfl) (JO.step rfl trivial rfl (λK hK=>ZQ (vs:=[_]) (args:=[_]) (K:=[]) (rst:=[_,_,_,_]) E42 rfl rfl rfl ZH (bytes_Clone_ok b.Space _ (d6.mono RU8.mono a) _ d8) rfl (λe4 e5 e6 b5 e7 b6=> ?_))))))
   obtain⟨b7,b8,b9,c0,rfl,rfl,rfl,f,c1,-⟩:=b5
   replace f:=(RowOf.base (ZZ (H2:=New H h) RU8.const f) (λp hp=>(b6 p (Zc 0 rfl hp)).resolve_left (c1 p hp)))
   refine ZW (hK _ _ _ (ZG a ⟨⟨3,rfl⟩,trivial⟩) (JA.one (i:=7) (by kernel_rfl) (JO.step rfl trivial rfl (λK hK=> ?_))))
   refine Run.lnz [4] 2 ZB rfl (hK _ _ _ (ZG a ⟨⟨3,rfl⟩,trivial⟩) (JA.val ⟨by kernel_rfl,by kernel_rfl⟩ (ZI _) (i:=8) rfl ⟨by kernel_rfl,by kernel_rfl,rfl⟩ trivial (ZG a ⟨⟨3,rfl⟩,trivial⟩) (R.fa F29_1 rfl) rfl (JA.one (i:=9) (by kernel_rfl) (JO.step rfl trivial rfl (λK hK=> ?_)))))
   refine Run.lnz [4] 2 ZB rfl (hK _ _ _ (ZG a ⟨⟨3,rfl⟩,trivial⟩) (JA.doneN (by kernel_rfl) ?_))
   obtain rfl:=Option.some.inj hx
   refine ZC 3 rfl (ZC 1 rfl (ZC 3 rfl (ZC 3 rfl (ZC 4 rfl ?_))))
   exact ZE ⟨h,a5,a6,a7,a8,a9,b0,b1,b2,b7,b8,b9,c0,rfl,rfl,rfl,(a),c,d,f⟩ rfl rfl rfl
theorem slices_Chunk_Ptr_ok (b:List Ptr)(a:Int)(H:Heaplet){ao:Option Addr}{n cap:Nat}(hs:IsSlice H R_Ptr 5 (.slice ao n cap) b)(r:Unit)(hx:slices_Chunk_Ptr b a=some r):
  Does Tryz.prog 25 #[.slice ao n cap,.int .i64 a] [] H (λu K' H'=>∃b2 b3:Nat,u=.func (.func 45) #[] #[.pointer (some ⟨b2,0,none⟩),.pointer (some ⟨b3,0,none⟩)]∧K'= []∧H' b2 0=some (.slice ao n cap)∧H' b3 0=some (.int .i64 a)∧(1≤a∧a≤1099511627776∧b.length≤LIM)∧True):=by
 unfold slices_Chunk_Ptr at hx
 split at hx
 case isFalse=>cases hx
 rename_i hp
 refine Does.enter (vs:=[.slice ao n cap,.int .i64 a]) (l:=[(0,.slice ao n cap),(1,.int .i64 a)]) Tryz.func25 rfl rfl ⟨rfl,rfl,trivial⟩ (λw=>Run.cl [] 2 ZB rfl (Zf rfl rfl (λb2 hb2=>Zf rfl rfl (λb3 hb3=>Run.lc_s [0] 10 ZB rfl (JC.condB rfl (λc=> ?_) (λc=> ?_))))))
 ·
  exact absurd (of_decide_eq_true c) (by omega)
 refine Run.cnz_s [] 9 ZB rfl (JN.pubBox 0 rfl hb3 (λH1 hle1 hc1=>JN.forget 0 (JN.pubBox 0 rfl hb2 (λH2 hle2 hc2=>JN.forget 0 (JN.out1 (.inl rfl) rfl rfl rfl ?_)))))
 exact⟨_,_,rfl,rfl,hc2 0 _ rfl,hle2 _ _ _ (hc1 0 _ rfl),hp,trivial⟩
theorem slices_Chunk_Ptr_it (m:List Ptr)(N:Int)(hN:1≤N∧N≤1099511627776∧m.length≤LIM)(H:Heaplet){v:Value}{b2 b3:Nat}(hs:IsSlice H R_Ptr 5 v m)(hb2:H b2 0=some v)(hb3:H b3 0=some (.int .i64 N)):
  IterL Tryz.prog 45 #[.pointer (some ⟨b2,0,none⟩),.pointer (some ⟨b3,0,none⟩)] H (λH' args (y:List Ptr)=>∃ao:Option Addr,args= #[.slice ao y.length y.length]∧IsSlice H' R_Ptr 5 (.slice ao y.length y.length) y) (chunks N.toNat m.length m):=by
 intro lr I X o hY hI
 obtain⟨hN1,hN2,hml⟩:=hN
 unfold LIM at hml
 obtain⟨ao,cap,rfl⟩:=hs.val
 show Does Tryz.prog 45 #[.func (.yield lr) #[] #[],.pointer (some ⟨b2,0,none⟩),.pointer (some ⟨b3,0,none⟩)] o H _
 refine Does.enter (vs:=[.func (.yield lr) #[] #[],.pointer (some ⟨b2,0,none⟩),.pointer (some ⟨b3,0,none⟩)]) (l:=[(0,.func (.yield lr) #[] #[]),(1,.pointer (some ⟨b2,0,none⟩)),(2,.pointer (some ⟨b3,0,none⟩))]) Tryz.func45 rfl rfl ⟨rfl,rfl,rfl,trivial⟩ (λw=>Run.cc [] 6 ZB rfl ?_)
 refine JC.loop (ι:=Nat×Nat×List (List Ptr)×List Own×Heaplet) (λi=> [(0,.func (.yield lr) #[] #[]),(1,.pointer (some ⟨b2,0,none⟩)),(2,.pointer (some ⟨b3,0,none⟩)),(4,.int .i64 ((i.1:Nat):Int))]) (λi=>i.2.2.2.1) (λi=>i.2.2.2.2)
  (λi=>i.1≤2199023255552∧m.length≤i.1+i.2.1∧i.2.2.1++chunks N.toNat i.2.1 (m.drop i.1)=chunks N.toNat m.length m∧I i.2.2.1 i.2.2.2.1 i.2.2.2.2∧Hle H i.2.2.2.2) (λi=>m.length+1-i.1) (0,m.length,[],o,H) (⟨by omega,by simp,by simp,hI,Hle.refl _⟩) ⟨rfl,rfl,rfl,rfl,trivial⟩ rfl rfl ?_
 rintro⟨i,f,pre,o2,H2⟩ hI0
 dsimp only at hI0⊢
 obtain⟨hi2,hf,hpre,hI2,hle⟩:=hI0
 have hb2':=hle _ _ _ hb2
 have hb3':=hle _ _ _ hb3
 have hs2:=IsSlice.mono R_Ptr.mono hle hs
 refine Run.cl [] 4 ZB rfl (ZA rfl rfl (R.ldH S30 rfl hb2') (ZA rfl rfl (ZN U30 rfl (IsSlice.long hs2)) (Run.lcz_s [] 3 ZB rfl (JC.condB rfl (λc=> ?_) (λc=> ?_)))))
 ·
  have hlt:i<m.length:=by have:=of_decide_eq_true c;omega
  have hne:m.drop i≠[]:=λh=>by have:=List.drop_eq_nil_iff.1 h;omega
  obtain⟨f',rfl⟩:∃f',f=f'+1:=⟨f-1,by omega⟩
  rw[chunks_step hne,List.drop_drop]at hpre
  obtain⟨e,he⟩:∃e:Int,e=min N ((m.length:Int)-i):=⟨_,rfl⟩
  have hcut:(m.drop i).take N.toNat=cut m (i:Int) ((i:Int)+e):=by
   unfold cut
   rw[Int.toNat_natCast]
   by_cases h:N≤(m.length:Int)-i
   ·
    rw[show((i:Int)+e).toNat-i=N.toNat by omega]
   ·
    rw[List.take_of_length_le (by rw[List.length_drop];omega),List.take_of_length_le (by rw[List.length_drop];omega)]
  refine Run.cc_s [] 5 ZB rfl ?_
  obtain⟨v1,c1,h1,h2,h3,hs1⟩:=IsSlice.cutv (m':=cut m (i:Int) (m.length:Int)) hs2 rfl ⟨by omega,by omega,Int.le_refl _⟩
  have hl1:((cut m (i:Int) (m.length:Int)).length:Int)=(m.length:Int)-i:=cut_length (by omega) (by omega) (Int.le_refl _)
  refine JC.draw (so:=[]) 7 rfl Mixed trivial (JA.val ⟨by kernel_rfl,by kernel_rfl⟩ (ZI _) (i:=0) rfl ⟨by kernel_rfl,by kernel_rfl,rfl⟩ trivial (ZG (Hle.refl _) trivial) (R.ldH S3 rfl hb3') rfl (JA.val ⟨by kernel_rfl,by kernel_rfl⟩ (ZI _) (i:=1) rfl ⟨by kernel_rfl,by kernel_rfl,rfl⟩ trivial (ZG (Hle.refl _) trivial) (R.ldH S30 rfl hb2') rfl (JA.val ⟨by kernel_rfl,by kernel_rfl⟩ (ZI _) (i:=2) rfl ⟨by kernel_rfl,by kernel_rfl,rfl⟩ trivial (ZG (Hle.refl _) trivial) (R.move rfl) rfl (JA.val ⟨by kernel_rfl,by kernel_rfl⟩ (ZI _) (i:=3) rfl ⟨by kernel_rfl,by kernel_rfl,rfl⟩ trivial (ZG (Hle.refl _) trivial) (R.slc (cap:=c1) (a:=(i:Int)) (b:=(m.length:Int)) (c:=(c1:Int)) (m:=m) (R:=R_Ptr) U30 S32 rfl ⟨_,rfl⟩ rfl (by obtain⟨ao,n,e,_⟩:=h1;exact⟨ao,n,e,rfl⟩) ⟨by omega,by omega,h2⟩ h3 (.inl rfl)) rfl (JA.val ⟨by kernel_rfl,by kernel_rfl⟩ (ZI _) (i:=4) rfl ⟨by kernel_rfl,by kernel_rfl,rfl⟩ trivial (ZG (Hle.refl _) trivial) (R.lenE U30 rfl ⟨_,IsSlice.long hs1,hl1⟩) rfl (JA.val ⟨by kernel_rfl,by kernel_rfl⟩ (ZI _) (i:=5) rfl ⟨by kernel_rfl,by kernel_rfl,rfl⟩ trivial (ZG (Hle.refl _) trivial) (R.min2 rfl rfl) rfl ?_))))))
  rw[←he]
  refine JA.val ⟨by kernel_rfl,by kernel_rfl⟩ (ZI _) (i:=6) rfl ⟨by kernel_rfl,by kernel_rfl,rfl⟩ trivial (ZG (Hle.refl _) trivial) (R.assign rfl) rfl (JA.doneN (by kernel_rfl) (JN.next ?_))
  have hw:w64 ((i:Int)+e)=(i:Int)+e:=Zj (by omega) (by omega)
  obtain⟨v2,c2,ao2,g1,g2,hs3⟩:=IsSlice.cutc (m':=(m.drop i).take N.toNat) hs2 hcut ⟨by omega,by omega,by omega⟩
  subst g2
  refine Run.cl [] 3 ZB rfl (ZA rfl rfl (R.ldH S30 rfl hb2') (Run.llz [] 4 ZB rfl ?_))
  rw[hw]
  refine Run.llz [] 3 ZB rfl ?_
  rw[hw]
  refine ZA rfl rfl (R.slc (cap:=c2) (a:=(i:Int)) (b:=(i:Int)+e) (c:=(i:Int)+e) (m:=m) (R:=R_Ptr) U30 S32 rfl ⟨_,rfl⟩ ⟨_,rfl⟩ ⟨_,rfl⟩ ⟨by omega,by omega,Int.le_refl _⟩ g1 (.inr (λh=>by cases h))) (JL.yield (vs:=[_]) (mine:=[]) ((m.drop i).take N.toNat) hY rfl rfl hI2 (⟨⟨ao2,rfl,hs3⟩,_,by rw[←hpre]⟩) rfl rfl (λo17 H17 hle17 hI17=> ?_) (λo17 H17 hle17 hX17=> ?_))
  ·
   refine Run.llz_sbs [] 9 ZB rfl (ZA rfl rfl (R.ldH S3 rfl (hle17 _ _ _ hb3')) (Run.lnz [] 3 ZB rfl ?_))
   have hw2:w64 ((i:Int)+N)=((i+N.toNat:Nat):Int):=by rw[Zj (by omega) (by omega)];omega
   refine JN.again (i:=(i,f'+1,pre,o2,H2)) (i+N.toNat,f',pre++ [(m.drop i).take N.toNat],o17,H17) (by
    refine⟨?_,?_,?_,hI17,hle.trans hle17⟩
    ·
     simp only;omega
    ·
     simp only;omega
    ·
     simp only[List.append_assoc,List.singleton_append];exact hpre) (by simp only;omega) (by exact⟨rfl,rfl,rfl,by show some _=some _;rw[hw2],trivial⟩) rfl rfl
  ·
   refine Run.lnz_sbk [] 7 ZB rfl (Run.nnz_kb [] 2 ZB rfl (JN.out0 (.inl rfl) rfl rfl ?_))
   exact⟨hle.trans hle17,.inr ⟨_,⟨chunks N.toNat f' (m.drop (i+N.toNat)),by rw[←hpre];simp⟩,hX17⟩⟩
 ·
  have hge:m.length≤i:=by have:=of_decide_eq_false c;omega
  refine Run.cnz_kkb [] 4 ZB rfl (JN.out0 (.inr rfl) rfl rfl (⟨hle,.inl ⟨pre,?_,hI2⟩⟩))
  rw[←hpre,List.drop_eq_nil_of_le hge,chunks_nil,List.append_nil]
theorem ptr_sizes_ok:Con Tryz.prog 65 true ([]) (ptr_sizes) (λr=> [.st 5,.i r.e0,.i r.e1,.i r.e2,.i r.e3,.i r.e4]):=by
 intro H r hx
 refine Does.enterC Tryz.func65 rfl rfl ?_
 intro w
 unfold ptr_sizes at hx
 refine Run.cl [] 2 ZB rfl (JL.alloc Z103 rfl (λa b=>Run.ll_s [] 4 ZB rfl (ZA rfl rfl (R.bldA (vs:=[(0,.int .i64 1),(1,.int .i64 3),(2,.int .i64 4),(3,.int .i64 4),(4,.int .i64 4)]) (cells:=#[.int .i64 1,.int .i64 3,.int .i64 4,.int .i64 4,.int .i64 4]) Z103 B103 rfl rfl rfl rfl) (Run.lnz_s [0] 4 ZB rfl ?_))))
 exact JN.conCQ [0] [] ZB rfl hx rfl rfl
theorem code_sized_ok{c}:Con Tryz.prog 91 true ([.i c]) (code_sized c) (λr=> [.b r]):=by
 intro H r hx
 refine Does.enterC Tryz.func91 rfl rfl ?_
 intro w
 unfold code_sized at hx
 refine Run.cc [] 6 ZB rfl (Za hx [] [] rfl rfl (λa l0 o0 l o g=>l=(2,.bool a)::l0∧o=o0∧H=g) (λa f hx=> ?_) (λa h hx=> ?_))
 ·
  rintro _ _ _ ⟨rfl,rfl,rfl⟩
  refine Run.nnz_s [] 2 ZB rfl ?_
  exact ZJ [] rfl hx rfl rfl
 ·
  refine Run.clz [] 4 ZB rfl (JL.gX 5 hx rfl (λd hx=> ?_) (λd hx=> ?_))
  ·
   refine Run.lnz [] 7 ZB rfl ?_
   obtain rfl:=Option.some.inj hx
   exact ZE ⟨rfl,rfl,rfl⟩ rfl rfl rfl
  ·
   refine Run.lnz [] 5 ZB rfl ?_
   obtain rfl:=Option.some.inj hx
   exact ZE ⟨rfl,rfl,rfl⟩ rfl rfl rfl
theorem code_Put_ok{v h}:Con Tryz.prog 66 true ([.i v,.i h]) (code_Put v h) (λr=> [.row true RU8 5 1 r.1,.i r.2]):=by
 intro H r hx
 refine Does.enterC Tryz.func66 rfl rfl ?_
 intro w
 unfold code_Put at hx
 refine Run.cl [] 10 ZB rfl (ZV hx E91 rfl code_sized_ok rfl trivial ?_)
 intro b2 b3 hx
 refine Run.llz [] 2 ZB rfl (JL.gX 10 hx rfl (λa1 hx=> ?_) (λa1 hx=> ?_))
 ·
  refine Run.lnz_sk [] 21 ZB rfl (ZO ?_)
  exact ZJ [0] rfl hx rfl ⟨⟨0,ZF _ _ _ _ _⟩,rfl⟩
 ·
  refine Run.llz [] 6 ZB rfl (JL.gX 14 hx rfl (λa2 hx=> ?_) (λa2 hx=> ?_))
  ·
   refine Run.lnz_sk [] 17 ZB rfl (ZO ?_)
   exact ZJ [0] rfl hx rfl ⟨⟨0,ZF _ _ _ _ _⟩,rfl⟩
  ·
   refine Run.llz [] 7 ZB rfl ?_
   obtain⟨a3,hx⟩:=chk_some hx
   refine ZA rfl rfl (R.shl_i (n:=(w64 (8*h))) rfl rfl a3) (Run.lcz_s [] 5 ZB rfl (ZK hx rfl (λa4 hx=> ?_) (λa4 hx=> ?_)))
   ·
    refine Run.cnz_k [] 8 ZB rfl (ZO ?_)
    exact ZJ [0] rfl hx rfl ⟨⟨0,ZF _ _ _ _ _⟩,rfl⟩
   ·
    refine Run.cc_s [] 8 ZB rfl (Za hx [] [] rfl rfl (λj l0 o0 l o g=>∃k:Option Addr,∃m:Nat,∃p:Nat,∃q:Own,l=(6,.slice k m p)::l0∧o=q::o0∧H=g∧RowOf (New H H) RU8 w.heap.size 5 1 (.slice k m p) j q) (λj b4 hx=> ?_) (λj b5 hx=> ?_))
    ·
     rintro _ _ _ ⟨k,m,p,q,rfl,rfl,rfl,a5⟩
     refine Run.nnz_s [] 9 ZB rfl ?_
     exact ZJ [0] rfl hx rfl ⟨⟨_,a5⟩,rfl⟩
    ·
     refine JC.block (JC.seg0 (Zi [1] [] rfl rfl (λl0 o0 a l o g=>∃b:Option Addr,∃c:Nat,∃d:Nat,∃f:Own,l=(0,.int .i64 a.1)::(6,.slice b c d)::l0∧o=f::o0∧H=g∧RowOf (New H H) RU8 w.heap.size 5 1 (.slice b c d) a.2 f) hx ⟨none,0,0,[],rfl,rfl,rfl,(ZF _ _ _ _ _)⟩ rfl ?_))
     ·
      rintro b6 a _ _ _ ⟨b,c,d,f,rfl,rfl,rfl,s⟩ b7 hx x
      unfold code_Put_l1 at hx
      refine Run.cl [] 4 ZB rfl (ZA rfl rfl (ZN U26 rfl (RowOf.long s)) (Run.lcz_s [] 4 ZB rfl (ZK hx rfl (λa6 hx=> ?_) (λa6 hx=> ?_))))
      ·
       refine Run.cl_s [] 7 ZB rfl (ZA rfl rfl (R.cv_i64_u8 U3 U5 rfl) (JL.bslF (HF:=(New H H)) (R:=RU8) (ls:=[u8i a.1]) (vs:=[.int .u8 ((u8i a.1).toNat:Int)]) U26 I5 rfl rfl (⟨_,_,rfl,rfl,rfl,rfl⟩) RU8.one rfl rfl rfl (by simp[maxLen]) rfl (λb8 b9 y=> ?_)))
       obtain⟨c0,c1,rfl⟩:=RowOf.val y
       obtain⟨z,a7,a8,hx⟩:=app_some hx
       refine JL.appF (HF:=(New H H)) 1 U26 I5 rfl rfl s rfl (SrcF.row 0 U26 rfl y) a7 a8 rfl (Nat.le_refl _) rfl (λc2 a9 a0=> ?_)
       obtain⟨b0,b1,rfl⟩:=RowOf.val a0
       refine Run.llz_bs [] 6 ZB rfl (ZA rfl rfl (R.quo_i rfl rfl (by decide)) ?_)
       refine Run.lnz [] 2 ZB rfl ?_
       replace hx:=Zb x hx
       refine JN.forget 0 ?_
       exact ZE ⟨(w64 (a.1.tdiv 256),z),⟨b0,z.length,b1,a9,rfl,rfl,rfl,a0⟩,hx⟩ rfl rfl rfl
      ·
       refine Run.cnz_k [] 2 ZB rfl ?_
       obtain rfl:=ZP x hx
       refine Run.nnz_kb [] 2 ZB rfl ?_
       exact ZE ⟨b,c,d,f,rfl,rfl,rfl,s⟩ rfl rfl rfl
theorem ptr_Write_ok{b}:Con Tryz.prog 43 true (sp_Ptr false b) (ptr_Write b) (λr=> [.row true RU8 5 1 r.1,.i r.2]):=by
 intro H r hx
 refine Does.enterC Tryz.func43 rfl rfl ?_
 intro w
 unfold ptr_Write at hx
 refine Run.cl [] 2 ZB rfl (Zf rfl rfl (λb2 b3=>Run.ll_s [0] 8 ZB rfl (ZV hx E29 rfl ptr_Check_ok rfl trivial ?_)))
 intro b4 b5 hx
 refine Run.lcz_s [] 9 ZB rfl (ZK hx rfl (λa2 hx=> ?_) (λa2 hx=> ?_))
 ·
  refine Run.cnz_k [] 9 ZB rfl (ZO ?_)
  exact ZJ [0] rfl hx rfl ⟨⟨0,ZF _ _ _ _ _⟩,rfl⟩
 ·
  refine Run.cl_s [0,0] 8 ZB rfl (ZA rfl rfl (R.cv_u32_i64 (a:=b.Birth) U27 U3 rfl) (Run.llz [0] 2 ZB rfl (ZA rfl rfl (R.cv_u32_i64 (a:=b.Iv) U27 U3 rfl) (Run.llz [0] 2 ZB rfl (ZA rfl rfl (R.cv_u32_i64 (a:=b.Tag) U27 U3 rfl) (Run.llz [0] 2 ZB rfl (ZA rfl rfl (R.cv_u32_i64 (a:=b.Sum) U27 U3 rfl) (ZA rfl rfl (R.bldA (vs:=[(0,.int .i64 b.At),(1,.int .i64 (b.Birth.toNat:Int)),(2,.int .i64 (b.Iv.toNat:Int)),(3,.int .i64 (b.Tag.toNat:Int)),(4,.int .i64 (b.Sum.toNat:Int))]) (cells:=#[.int .i64 b.At,.int .i64 (b.Birth.toNat:Int),.int .i64 (b.Iv.toNat:Int),.int .i64 (b.Tag.toNat:Int),.int .i64 (b.Sum.toNat:Int)]) Z103 B103 rfl rfl rfl rfl) (JL.alloc Z103 rfl (λb6 b7=>Run.ll_s [0] 6 ZB rfl (ZV hx E65 rfl ptr_sizes_ok rfl trivial ?_)))))))))))
  intro a3 b8 hx
  refine Run.lcz_s [] 3 ZB rfl (Za hx [] [] rfl rfl (λk l0 o0 l o g=>∃m:Option Addr,∃p:Nat,∃q:Nat,∃s:Own,l=(2,.slice m p q)::l0∧o=s::o0∧H=g∧RowOf (New H H) RU8 w.heap.size 5 1 (.slice m p q) k s) (λk b9 hx=> ?_) (λk c0 hx=> ?_))
  ·
   rintro _ _ _ ⟨m,p,q,s,rfl,rfl,rfl,a4⟩
   refine Run.nnz_s [] 9 ZB rfl ?_
   exact ZJ [0] rfl hx rfl ⟨⟨_,a4⟩,rfl⟩
  ·
   refine JC.block (JC.seg0 (JC.forget 2 (ZR 1 rfl (ZR 1 rfl (Zi [5,30] [1] rfl rfl (λl0 o0 c l o g=>∃d:Option Addr,∃f:Nat,∃h:Nat,∃j:Own,l=(2,.slice d f h)::(31,.int .i64 ((c.2:Nat):Int))::l0∧o=j::o0∧H=g∧RowOf (New H H) RU8 w.heap.size 5 1 (.slice d f h) c.1 j) hx ⟨none,0,0,[],rfl,rfl,rfl,(ZF _ _ _ _ _)⟩ rfl ?_)))))
   ·
    rintro c1 c _ _ _ ⟨d,f,h,j,rfl,rfl,rfl,v⟩ c2 hx x
    unfold ptr_Write_l1 at hx
    refine Run.cc [] 6 ZB rfl (ZK hx rfl (λy hx=> ?_) (λy hx=> ?_))
    ·
     refine Run.cl_s [] 7 ZB rfl ?_
     obtain⟨c3,a5,hx⟩:=ZS hx
     refine ZA rfl rfl (R.idxA (enc:=(λa:Int=>Value.int .i64 a)) (L:=a3.l) U103 S3 rfl rfl rfl rfl rfl a5) (Run.ll_s [] 7 ZB rfl ?_)
     obtain⟨c4,z,hx⟩:=ZS hx
     refine ZA rfl rfl (R.ixAd (L:=(A5.mk b.At (b.Birth.toNat:Int) (b.Iv.toNat:Int) (b.Tag.toNat:Int) (b.Sum.toNat:Int)).l) U103 S3 rfl rfl rfl z) (ZA rfl rfl (R.ldoA (enc:=(λa:Int=>Value.int .i64 a)) (L:=(A5.mk b.At (b.Birth.toNat:Int) (b.Iv.toNat:Int) (b.Tag.toNat:Int) (b.Sum.toNat:Int)).l) 1 S3 rfl rfl rfl z) (ZA rfl rfl (R.move rfl) (ZV hx E66 rfl code_Put_ok rfl trivial ?_)))
     intro c5 c6 hx c7 c8 c9 d0 a6
     refine Run.llz_s [] 10 ZB rfl ?_
     obtain⟨a0,a7,a8,hx⟩:=app_some hx
     refine JL.appF (HF:=(New H H)) 1 U26 I5 rfl rfl v rfl (SrcF.row 0 U26 rfl a6) a7 a8 rfl (Nat.le_refl _) rfl (λd1 a9 a1=> ?_)
     obtain⟨b0,b1,rfl⟩:=RowOf.val a1
     refine Run.llz_bs [] 5 ZB rfl (ZA rfl rfl (R.inc rfl rfl (of_decide_eq_true y) (by decide)) ?_)
     refine Run.lnz [] 2 ZB rfl ?_
     replace hx:=Zb x hx
     refine JN.forget 0 (ZC 1 rfl (ZC 1 rfl ?_))
     exact ZE ⟨(a0,c.2+1),⟨b0,a0.length,b1,a9,rfl,rfl,rfl,a1⟩,hx⟩ rfl rfl rfl
    ·
     refine Run.cnz_k [] 2 ZB rfl ?_
     obtain rfl:=ZP x hx
     refine Run.nnz_kb [] 2 ZB rfl (JN.forget 1 ?_)
     exact ZE ⟨d,f,h,j,rfl,rfl,rfl,v⟩ rfl rfl rfl
theorem ptr_Row_ok{y}:Con Tryz.prog 23 true ([.sl false R_Ptr 5 y]) (ptr_Row y) (λr=> [.row true RU8 5 1 r.1,.i r.2]):=by
 intro H c8 c9 d0 j r hx
 refine Does.enterC Tryz.func23 rfl rfl ?_
 intro w
 unfold ptr_Row at hx
 refine Run.cl [] 10 ZB rfl (ZA rfl rfl (ZN U30 rfl (IsSlice.long j)) (Run.lcz_s [] 3 ZB rfl (ZK hx rfl (λa5 hx=> ?_) (λa5 hx=> ?_))))
 ·
  refine Run.cnz_k [] 8 ZB rfl (ZO ?_)
  exact ZJ [0] rfl hx rfl ⟨⟨0,ZF _ _ _ _ _⟩,rfl⟩
 ·
  refine Run.cl_s [] 4 ZB rfl (JL.mkS (HF:=New H H) (N:=256) U26 I5 rfl rfl (by decide) rfl (λd1 a6 z a7=> ?_))
  obtain⟨a8,a9,rfl⟩:=RowOf.val z
  refine Run.ll_s [] 7 ZB rfl (ZA rfl rfl (ZN U30 rfl (IsSlice.long j)) (Run.lcz_s [] 3 ZB rfl (Za hx [] [] rfl rfl (λv l0 o0 l o g=>∃k:List UInt8,∃m:Option Addr,∃p:Nat,∃q:Nat,∃s:Own,l=(4,.slice m p q)::l0∧o=s::o0∧H=g∧v=.inl k∧RowOf (New H H) RU8 w.heap.size 5 1 (.slice m p q) k s∧Spare (.slice m p q) s 256) (λv d2 hx=> ?_) (λv b0 hx=> ?_))))
  ·
   rintro _ _ _ ⟨k,m,p,q,s,rfl,rfl,rfl,rfl,b1,b2⟩
   simp only[Sum.elim_inl]at hx
   refine Run.nl_s [] 4 ZB rfl ?_
   obtain⟨d3,b3,b4,hx⟩:=extO_some hx
   obtain⟨d4,h1v_16,b5⟩:=RowOf.spare b1 b2 b3 b4
   refine ZA rfl rfl (R.slcS (b:=256) (N:=256) (n:=(k).length) U26 S5 rfl ⟨_,rfl⟩ (by omega) h1v_16) ?_
   refine Run.lnz_s [] 5 ZB rfl ?_
   exact ZJ [0] rfl hx rfl ⟨⟨_,b5⟩,rfl⟩
  ·
   refine JC.block (Zi [13,14] [] rfl rfl (λl0 o0 a l o g=>∃c:Option Addr,∃d:Nat,∃f:Nat,∃h:Own,l=(4,.slice c d f)::(15,.int .i64 ((a.2:Nat):Int))::l0∧o=h::o0∧H=g∧RowOf (New H H) RU8 w.heap.size 5 1 (.slice c d f) a.1 h∧Spare (.slice c d f) h 256) hx ⟨a8,([]:List UInt8).length,a9,a6,rfl,rfl,rfl,z,a7⟩ rfl ?_)
   ·
    rintro d5 a _ _ _ ⟨c,d,f,h,rfl,rfl,rfl,a0,a1⟩ d6 hx x
    unfold ptr_Row_l1 at hx
    refine Run.cc [] 6 ZB rfl (ZK hx rfl (λa2 hx=> ?_) (λa2 hx=> ?_))
    ·
     refine Run.cl_s [] 6 ZB rfl ?_
     obtain⟨d7,b6,hx⟩:=ZS hx
     obtain⟨d8,d9,e0,b7,b8,e1,b9⟩:=IsSlice.elem j b6
     obtain rfl:=b8
     refine ZA rfl rfl (R.ix U30 S32 rfl rfl b7) (ZA rfl rfl (R.ldHF 0 S32 rfl b9 rfl rfl) (JL.alloc Z32 rfl (λe2 e3=>Run.ll_s [0,0] 6 ZB rfl (ZV hx E43 rfl ptr_Write_ok rfl trivial ?_))))
     intro e4 e5 hx e6 e7 e8 e9 c0
     refine Run.lc_s [] 14 ZB rfl (ZK hx rfl (λc1 hx=> ?_) (λc1 hx=> ?_))
     ·
      refine Run.cnz_kbk [] 11 ZB rfl ?_
      obtain rfl:=ZP x hx
      refine Run.nnz_kb [] 2 ZB rfl ?_
      clear hx;have hx:=b0
      simp only[Sum.elim_inl,Sum.elim_inr]at hx
      refine Run.nnz_kk [] 2 ZB rfl (ZO ?_)
      exact ZJ [0] rfl hx rfl ⟨⟨0,ZF _ _ _ _ _⟩,rfl⟩
     ·
      refine Run.clz_s [] 5 ZB rfl ?_
      obtain⟨a3,c2,c3,hx⟩:=appN_some hx
      refine JL.appS (HF:=(New H H)) 2 U26 I5 rfl rfl a0 a1 rfl (SrcF.row 0 U26 rfl c0) c2 c3 rfl (λf0 c4 a4 c5=> ?_)
      obtain⟨c6,c7,rfl⟩:=RowOf.val a4
      refine Run.llz_bs [] 5 ZB rfl (ZA rfl rfl (R.inc rfl rfl (of_decide_eq_true a2) (IsSlice.lenI j)) (Run.lnz [] 2 ZB rfl ?_))
      replace hx:=Zb x hx
      refine JN.forget 1 (JN.forget 0 ?_)
      exact ZE ⟨(a3,a.2+1),⟨c6,a3.length,c7,c4,rfl,rfl,rfl,a4,c5⟩,hx⟩ rfl rfl rfl
    ·
     refine Run.cnz_k [] 2 ZB rfl ?_
     obtain rfl:=ZP x hx
     refine Run.nnz_kb [] 2 ZB rfl ?_
     exact ZE ⟨a.1,c,d,f,h,rfl,rfl,rfl,rfl,a0,a1⟩ rfl rfl rfl
theorem store_asked_ok{k c m p}:Con Tryz.prog 67 true (sp_Store false k++ [.w32 c,.i m,.sl false (RSl RU8 1) 1 p]) (store_asked k c m p) (λr=> [.i r]):=by
 intro H a9 b0 b1 x b2 b3 b4 y b5 b6 b7 z b8 b9 c0 f r hx
 refine Does.enterC Tryz.func67 rfl rfl ?_
 intro w
 unfold store_asked at hx
 refine Run.cl [] 2 ZB rfl (Zf rfl rfl (λc1 c2=>Run.ll_s [0] 7 ZB rfl (ZV hx E19 rfl store_Check_ok rfl ⟨x,y,z,trivial⟩ ?_)))
 intro c3 c4 hx
 refine Run.lcz_s [] 9 ZB rfl (ZK hx rfl (λa0 hx=> ?_) (λa0 hx=> ?_))
 ·
  refine Run.cnz_k [] 8 ZB rfl ?_
  exact ZJ [] rfl hx rfl rfl
 ·
  refine Run.cl_s [] 6 ZB rfl (ZA rfl rfl (R.lss32 (a:=c) (b:=(1:UInt32)) rfl rfl) (ZA rfl rfl (R.move rfl) (JL.gX 19 hx rfl (λa1 hx=> ?_) (λa1 hx=> ?_))))
  ·
   refine Run.lnz_sk [] 13 ZB rfl ?_
   exact ZJ [] rfl hx rfl rfl
  ·
   refine Run.llz [] 3 ZB rfl (ZA rfl rfl (R.gtr32 (a:=c) (b:=(16777215:UInt32)) rfl rfl) (Run.lcz_s [] 3 ZB rfl (ZK hx rfl (λa2 hx=> ?_) (λa2 hx=> ?_))))
   ·
    refine Run.cnz_k [] 7 ZB rfl ?_
    exact ZJ [] rfl hx rfl rfl
   ·
    refine Run.cl_s [] 6 ZB rfl (ZA rfl rfl (ZN U22 rfl (IsSlice.long f)) (Run.lcz_s [] 3 ZB rfl (Za hx [] [] rfl rfl (λh l0 o0 l o g=>∃q:Unit,l=l0∧o=o0∧H=g∧h=.inl q) (λh c5 hx=> ?_) (λh a3 hx=> ?_))))
    ·
     rintro _ _ _ ⟨q,rfl,rfl,rfl,rfl⟩
     simp only[Sum.elim_inl]at hx
     refine Run.nnz_s [] 7 ZB rfl ?_
     exact ZJ [] rfl hx rfl rfl
    ·
     refine JC.block (JC.forget 0 (Zi [23,24] [] rfl rfl (λl0 o0 d l o g=>l=(2,.int .i64 d.1)::(25,.int .i64 ((d.2:Nat):Int))::l0∧o=o0∧H=g) hx ⟨rfl,rfl,rfl⟩ rfl ?_))
     ·
      rintro c6 d _ _ _ ⟨rfl,rfl,rfl⟩ c7 hx j
      unfold store_asked_l1 at hx
      refine Run.cc [] 6 ZB rfl (ZK hx rfl (λs hx=> ?_) (λs hx=> ?_))
      ·
       refine Run.cl_s [] 6 ZB rfl ?_
       obtain⟨c8,a4,hx⟩:=ZS hx
       obtain⟨c9,d0,d1,a5,a6,d2,a7⟩:=IsSlice.elem f a4
       obtain⟨d3,rfl,v⟩:=a6
       obtain⟨d4,d5,rfl⟩:=IsSlice.val v
       refine ZA rfl rfl (R.ix U22 S26 rfl rfl a5) (ZA rfl rfl (R.ldH S26 rfl (a7 0 _ rfl)) (Run.ll_s [] 7 ZB rfl (ZA rfl rfl (ZN U26 rfl (IsSlice.long v)) (Run.lcz_s [] 4 ZB rfl (ZK hx rfl (λa8 hx=> ?_) (λa8 hx=> ?_))))))
       ·
        refine Run.cnz_kbk [] 9 ZB rfl ?_
        obtain rfl:=ZP j hx
        refine Run.nnz_kb [] 2 ZB rfl ?_
        clear hx;have hx:=a3
        simp only[Sum.elim_inl,Sum.elim_inr]at hx
        refine Run.nnz_kk [] 2 ZB rfl ?_
        exact ZJ [] rfl hx rfl rfl
       ·
        refine Run.clz_sbs [] 8 ZB rfl (ZA rfl rfl (R.inc rfl rfl (of_decide_eq_true s) (IsSlice.lenI f)) (Run.lnz [] 2 ZB rfl ?_))
        replace hx:=Zb j hx
        exact ZE ⟨(256,d.2+1),⟨rfl,rfl,rfl⟩,hx⟩ rfl rfl rfl
      ·
       refine Run.cnz_k [] 2 ZB rfl ?_
       obtain rfl:=ZP j hx
       refine Run.nnz_kb [] 2 ZB rfl ?_
       exact ZE ⟨(),rfl,rfl,rfl,rfl⟩ rfl rfl rfl
theorem space_free_ok (d:List UInt8)(H:Heaplet){a:Option Addr}{b:Nat}{c:Nat}(i:IsSlice H RU8 1 (.slice a b c) d)(r:(Int×List UInt8))(hx:space_free d=some r):
  Does Tryz.prog 114 #[.slice a b c] [] H (λu K' H'=>∃b0:Nat,∃b1:Nat,∃ao2:Option Addr,∃n2:Nat,∃cap2:Nat,u=.func (.func 140) #[] #[.pointer (some ⟨b0,0,none⟩),.pointer (some ⟨b1,0,none⟩)]∧K'= [[(b0,.cells #[.int .i64 r.1] 3 (0,0))],[(b1,.cells #[.slice ao2 n2 cap2] 26 (0,0))]]∧H=H'∧IsSlice H RU8 1 (.slice ao2 n2 cap2) r.2∧True):=by
 refine Does.enterL (vs:=[.slice a b c]) (l:=[(0,.slice a b c)]) Tryz.func114 rfl rfl ⟨rfl,trivial⟩ (λw hlt=> ?_)
 unfold space_free at hx
 refine Run.cl [] 2 ZB rfl (Zf rfl rfl (λf j=>Run.ll_s [] 5 ZB rfl (JL.alloc Z3 rfl (λh k=>Run.lnz_s [0] 10 ZB rfl (ZU (vs:=[.func (.func 140) #[] #[.pointer (some ⟨h,0,none⟩),.pointer (some ⟨f,0,none⟩)]]) (K:=[_,_]) (rst:=[]) (.inl rfl) rfl rfl (Ze rfl rfl) (ZL 0 rfl (ZL 0 rfl ZH)) ?_)))))
 obtain rfl:=Option.some.inj hx
 exact⟨h,f,a,b,c,rfl,rfl,rfl,i,trivial⟩
theorem space_free_1_ok (s:Int)(v:List UInt8)(H:Heaplet){c:Nat}{d:Nat}{h:Option Addr}{i:Nat}{j:Nat}(k:IsSlice H RU8 1 (.slice h i j) v)(r:Int×Int×List UInt8)(hx:space_free_1 s v=some r):
  Does Tryz.prog 140 #[.pointer (some ⟨c,0,none⟩),.pointer (some ⟨d,0,none⟩)] [[(c,.cells #[.int .i64 s] 3 (0,0))],[(d,.cells #[.slice h i j] 26 (0,0))]] H (λu K' H'=>∃ao0:Option Addr,∃n0:Nat,∃cap0:Nat,u=.int .i64 r.1∧K'= [[(c,.cells #[.int .i64 r.2.1] 3 (0,0))],[(d,.cells #[.slice ao0 n0 cap0] 26 (0,0))]]∧H=H'∧IsSlice H RU8 1 (.slice ao0 n0 cap0) r.2.2∧True):=by
 refine Does.enterL (vs:=[.pointer (some ⟨c,0,none⟩),.pointer (some ⟨d,0,none⟩)]) (l:=[(0,.pointer (some ⟨c,0,none⟩)),(1,.pointer (some ⟨d,0,none⟩))]) Tryz.func140 rfl rfl ⟨rfl,rfl,trivial⟩ (λw hlt=> ?_)
 unfold space_free_1 at hx
 refine Run.cc [0,0] 13 ZB rfl (Za hx [0,1] [1] rfl rfl (λm l0 o0 l o g=>∃p:Int,l=l0∧o= [(c,.cells #[.int .i64 p] 3 (0,0))]::o0∧H=g∧m=.inl p) (λm a5 hx=> ?_) (λm x hx=> ?_))
 ·
  rintro _ _ _ ⟨p,rfl,rfl,rfl,rfl⟩
  simp only[Sum.elim_inl]at hx
  refine Run.nnz_s [] 7 ZB rfl (ZU (vs:=[.int .i64 (-1)]) (K:=[_,_]) (rst:=[]) (.inl rfl) rfl rfl (Ze rfl rfl) (ZL 0 rfl (ZL 0 rfl ZH)) ?_)
  obtain rfl:=Option.some.inj hx
  exact⟨h,i,j,rfl,rfl,rfl,k,trivial⟩
 ·
  refine JC.block (ZR 1 rfl (ZR 1 rfl (Zi [0,1] [1] rfl rfl (λl0 o0 f l o g=>l=l0∧o= [(c,.cells #[.int .i64 f] 3 (0,0))]::o0∧H=g) hx ⟨rfl,rfl,rfl⟩ rfl ?_)))
  ·
   rintro a6 f _ _ _ ⟨rfl,rfl,rfl⟩ a7 hx q
   unfold space_free_1_l1 at hx
   refine Run.cl [0,1] 5 ZB rfl (ZA rfl rfl (ZN U26 rfl (IsSlice.long k)) (Run.lcz_s [] 3 ZB rfl (ZK hx rfl (λy hx=> ?_) (λy hx=> ?_))))
   ·
    refine Run.cl_s [1,0] 8 ZB rfl ?_
    obtain⟨z,a0,hx⟩:=ZS hx
    obtain⟨a8,a9,b0,a1,a2,b1,a3⟩:=IsSlice.elem k a0
    obtain rfl:=a2
    refine ZA rfl rfl (R.ix U26 S5 rfl rfl a1) (ZA rfl rfl (R.ldH S5 rfl (a3 0 _ rfl)) (ZA rfl rfl (R.eql8 (a:=z) (b:=(0:UInt8)) rfl rfl) (Run.lcz_s [] 2 ZB rfl (ZK hx rfl (λa4 hx=> ?_) (λa4 hx=> ?_)))))
    ·
     refine Run.cnz_bk [0] 9 ZB rfl ?_
     obtain rfl:=ZP q hx
     refine Run.nnz_kb [] 2 ZB rfl ?_
     clear hx;have hx:=x
     simp only[Sum.elim_inl,Sum.elim_inr]at hx
     refine Run.nnz_kk [] 2 ZB rfl (ZU (vs:=[.int .i64 f]) (K:=[_,_]) (rst:=[]) (.inl rfl) rfl rfl (Ze rfl rfl) (ZL 0 rfl (ZL 0 rfl ZH)) ?_)
     obtain rfl:=Option.some.inj hx
     exact⟨h,i,j,rfl,rfl,rfl,k,trivial⟩
    ·
     refine Run.cnz_bs [0,0] 8 ZB rfl ?_
     replace hx:=Zb q hx
     refine ZC 1 rfl (ZC 1 rfl ?_)
     exact ZE ⟨w64 (f+1),⟨rfl,rfl,rfl⟩,hx⟩ rfl rfl rfl
   ·
    refine Run.cnz_k [] 2 ZB rfl ?_
    obtain rfl:=ZP q hx
    refine Run.nnz_kb [] 2 ZB rfl (ZC 1 rfl (ZC 1 rfl ?_))
    exact ZE ⟨f,rfl,rfl,rfl,rfl⟩ rfl rfl rfl
theorem space_Take_ok{a}:Con Tryz.prog 92 true ([.sl false RU8 1 a]) (space_Take a) (λr=> [.row true RU8 5 1 r.1,.i r.2.1,.i r.2.2]):=by
 intro H a9 b0 b1 c r hx
 refine Does.enterC Tryz.func92 rfl rfl ?_
 intro w
 unfold space_Take at hx
 refine Run.cl [] 11 ZB rfl (ZV hx E39 rfl space_Check_ok rfl ⟨c,trivial⟩ ?_)
 intro b2 b3 hx
 refine Run.lcz_s [] 9 ZB rfl (ZK hx rfl (λm hx=> ?_) (λm hx=> ?_))
 ·
  refine Run.cnz_k [] 10 ZB rfl (ZO ?_)
  exact ZJ [0] rfl hx rfl ⟨⟨0,ZF _ _ _ _ _⟩,rfl⟩
 ·
  refine Run.cl_s [] 6 ZB rfl ?_
  obtain⟨d,q,hx⟩:=ZM hx
  refine ZQ (vs:=[_]) (args:=[_]) (K:=[]) (rst:=[]) E114 rfl rfl rfl ZH (space_free_ok a _ c _ q) rfl (λb4 b5 b6 s b7 f=> ?_)
  obtain⟨b8,b9,c0,c1,c2,rfl,rfl,rfl,v,-⟩:=s
  have c3:=(f _ (Zc 0 rfl (List.mem_singleton.2 rfl))).resolve_left (λh=>by cases h)
  have c4:=(f _ (Zc 1 rfl (List.mem_singleton.2 rfl))).resolve_left (λh=>by cases h)
  obtain⟨x,z,hx⟩:=ZM hx
  refine ZQ (vs:=[]) (args:=[_,_]) (K:=[_,_]) (rst:=[]) E140 rfl rfl rfl (ZL 0 rfl (ZL 0 rfl ZH)) (space_free_1_ok d.1 d.2 _ v _ z) rfl (λc5 c6 c7 a0 c8 c9=> ?_)
  obtain⟨d0,d1,d2,rfl,rfl,rfl,d3,-⟩:=a0
  refine Run.lcz_s [] 9 ZB rfl (ZK hx rfl (λa1 hx=> ?_) (λa1 hx=> ?_))
  ·
   refine Run.cnz_k [] 9 ZB rfl (ZO ?_)
   exact ZJ [0] rfl hx rfl ⟨⟨0,ZF _ _ _ _ _⟩,rfl⟩
  ·
   refine Run.cl_s [] 5 ZB rfl ?_
   obtain⟨d4,a2,hx⟩:=ZM hx
   refine ZQ (vs:=[_]) (args:=[_]) (K:=[]) (rst:=[_,_]) E42 rfl rfl rfl ZH (bytes_Clone_ok a _ c _ a2) rfl (λd5 d6 d7 a3 d8 a4=> ?_)
   obtain⟨d9,e0,e1,e2,rfl,rfl,rfl,b,a5,-⟩:=a3
   replace b:=(RowOf.base (ZZ (H2:=New H H) RU8.const b) (λp hp=>(a4 p (Zc 0 rfl hp)).resolve_left (a5 p hp)))
   refine Run.ll_s [] 7 ZB rfl ?_
   obtain⟨a6,hx⟩:=chk_some hx
   obtain⟨e3,e4,j⟩:=RowOf.place b a6
   refine ZA rfl rfl (R.ix U26 S5 rfl rfl j) ?_
   obtain⟨e5,a7,e6,hx⟩:=setI_some hx
   refine JL.stE 0 (k:=x.1) (y:=(1:UInt8)) S5 rfl b rfl j rfl rfl (rfl) RU8.one a7 (λe7 a8 e8=>Run.lnz_s [] 12 ZB rfl ?_)
   exact ZJ [0] rfl hx rfl ⟨⟨_,a8⟩,rfl⟩
theorem dev_Write_1_ok (j:Disk)(H:Heaplet){a:Nat}{b:Option Addr}{c:Nat}{d:Nat}{f:Option Addr}{h:Nat}{i:Nat}(k:IsSlice H (RSl RU8 1) 1 (.slice b c d) j.Blocks)(m:IsSlice H R_Write 2 (.slice f h i) j.Waits)(r:Disk×Disk)(hx:dev_Write_1 j=some r):
  Does Tryz.prog 115 #[.pointer (some ⟨a,0,none⟩)] [[(a,.cells #[.slice b c d,.slice f h i] 25 (0,0))]] H (λu K' H'=>∃ao0:Option Addr,∃n0:Nat,∃cap0:Nat,∃ao1:Option Addr,∃n1:Nat,∃cap1:Nat,∃ao2:Option Addr,∃n2:Nat,∃cap2:Nat,∃ao3:Option Addr,∃n3:Nat,∃cap3:Nat,u=.agg #[.slice ao2 n2 cap2,.slice ao3 n3 cap3]∧K'= [[(a,.cells #[.slice ao0 n0 cap0,.slice ao1 n1 cap1] 25 (0,0))]]∧H=H'∧IsSlice H (RSl RU8 1) 1 (.slice ao0 n0 cap0) r.2.Blocks∧IsSlice H R_Write 2 (.slice ao1 n1 cap1) r.2.Waits∧IsSlice H (RSl RU8 1) 1 (.slice ao2 n2 cap2) r.1.Blocks∧IsSlice H R_Write 2 (.slice ao3 n3 cap3) r.1.Waits∧True):=by
 refine Does.enterL (vs:=[.pointer (some ⟨a,0,none⟩)]) (l:=[(0,.pointer (some ⟨a,0,none⟩))]) Tryz.func115 rfl rfl ⟨rfl,trivial⟩ (λw hlt=> ?_)
 unfold dev_Write_1 at hx
 refine Run.cl [] 2 ZB rfl (JL.alloc Z25 rfl (λp q=>Run.lnz_s [1,0] 9 ZB rfl (ZU (vs:=[.agg #[.slice b c d,.slice f h i]]) (K:=[_]) (rst:=[_]) (.inl rfl) rfl rfl (Res.cellN 0 rfl rfl S25 rfl) (ZL 1 rfl ZH) ?_)))
 obtain rfl:=Option.some.inj hx
 exact⟨b,c,d,f,h,i,b,c,d,f,h,i,rfl,rfl,rfl,k,m,k,m,trivial⟩
end Go.Proofs.YtgiefadcpnegcaaGreat
