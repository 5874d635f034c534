import Derived.Test.YtgiefadcpnegcaaGreatW2p1
/- walks: what the code computes, function by function. -/
set_option linter.unusedSimpArgs false
set_option linter.unusedVariables false
namespace Go.Proofs.YtgiefadcpnegcaaGreat
open Go.Ow Go.RowKit Go.Proofs
set_option maxHeartbeats 8000000
theorem dead_Load_ok{d9 k}:Con Tryz.prog 9 false (sp_Store false d9++sp_Ptr false k) (dead_Load d9 k) (λr=> [.row true R_Ptr 32 5 r.1,.row true RInt 3 1 r.2.1,.i r.2.2]):=by
 intro H h7 h8 h9 c0 i0 i1 i2 c1 i3 i4 i5 c2 r hx
 refine Does.enterDC Tryz.func9 rfl rfl ?_
 intro w
 unfold dead_Load at hx
 refine Run.cl [] 2 ZB rfl (Zf rfl rfl (λi6 i7=>Zf rfl rfl (λi8 i9=>JL.alloc Z30 rfl (λc j0=>JL.alloc Z35 rfl (λd j1=>JL.alloc Z36 rfl (λf j2=>Run.ll_s [4] 6 ZB rfl (ZV hx E19 rfl store_Check_ok rfl ⟨c0,c1,c2,trivial⟩ ?_)))))))
 intro j3 j4 hx
 refine Run.llz [] 2 ZB rfl (JL.gX 14 hx rfl (λf5 hx=> ?_) (λf5 hx=> ?_))
 ·
  refine Run.lnz_sk [2,1,0] 16 ZB rfl (JN.early (.inl rfl) (ZO (ZO ?_)))
  exact JN.conC [4,3,2] [0,0] ZB rfl hx rfl ⟨⟨0,ZF _ _ _ _ _⟩,⟨0,ZF _ _ _ _ _⟩,rfl⟩
 ·
  refine Run.llz [3] 3 ZB rfl (ZV hx E29 rfl ptr_Check_ok rfl trivial ?_)
  intro j5 j6 hx
  refine Run.lcz_s [] 5 ZB rfl (ZK hx rfl (λf6 hx=> ?_) (λf6 hx=> ?_))
  ·
   refine Run.cnz_k [2,1,0] 9 ZB rfl (JN.early (.inl rfl) (ZO (ZO ?_)))
   exact JN.conC [4,3,2] [0,0] ZB rfl hx rfl ⟨⟨0,ZF _ _ _ _ _⟩,⟨0,ZF _ _ _ _ _⟩,rfl⟩
  ·
   refine Run.cl_s [3] 7 ZB rfl (ZA rfl rfl (R.eqlAgg QU32 QP32 QG32 QF32 rfl rfl (EqF.i (by decide) S3 U3 rfl rfl (EqF.u32 (a:=k.Birth) (b:=(0:UInt32)) (by decide) S27 U27 rfl rfl (EqF.u32 (a:=k.Iv) (b:=(0:UInt32)) (by decide) S27 U27 rfl rfl (EqF.u32 (a:=k.Tag) (b:=(0:UInt32)) (by decide) S27 U27 rfl rfl (EqF.u32 (a:=k.Sum) (b:=(0:UInt32)) (by decide) S27 U27 rfl rfl EqF.nil)))))) ?_)
   refine Run.lcz_s [] 2 ZB rfl (ZK hx rfl (λf7 hx=> ?_) (λf7 hx=> ?_))
   ·
    refine Run.cnz_k [2,1,0] 9 ZB rfl (JN.early (.inl rfl) (ZO (ZO ?_)))
    exact JN.conC [4,3,2] [0,0] ZB rfl hx rfl ⟨⟨0,ZF _ _ _ _ _⟩,⟨0,ZF _ _ _ _ _⟩,rfl⟩
   ·
    refine Run.cl_s [] 5 ZB rfl (JL.defer rfl rfl (Run.ll_s [4,3] 6 ZB rfl (JL.conP hx E31 rfl dead_read_ok rfl ⟨c0,c1,c2,trivial⟩ (λe0 hx j7 j8=> ?_) ?_)))
    ·
     simp only[pnk_inr]at hx
     refine JN.passP (JN.leaveD (K:=[[(c,.cells #[.slice none 0 0] 30 (0,0))],[(d,.cells #[.slice none 0 0] 35 (0,0))],[(f,.cells #[.int .i64 0] 36 (0,0))]]) (K':=[[(c,.cells #[.slice none 0 0] 30 (0,0))],[(d,.cells #[.slice none 0 0] 35 (0,0))],[(f,.cells #[.int .i64 e0] 36 (0,0))]]) (rst:=[_,_]) (some e0) ⟨rfl,rfl,rfl,rfl,rfl⟩ rfl rfl E30 (.inr ⟨_,rfl,rfl⟩) (ZL 2 rfl (ZL 1 rfl (ZL 0 rfl ZH))) dead_Load_1_P (ZO (ZO ?_)))
     exact JN.conC [2,3,4] [0,0] ZB rfl hx rfl ⟨⟨0,ZF _ _ _ _ _⟩,⟨0,ZF _ _ _ _ _⟩,rfl⟩
    intro j9 k0 hx c3 c4 k1 k2 k3 a6
    simp only[pnk_inl]at hx
    refine Run.ll_s [] 7 ZB rfl (ZA rfl rfl (ZN U30 rfl (IsSlice.long a6)) (Run.lcz_s [] 3 ZB rfl (Za hx [3,4,5,6] [3,0] rfl rfl (λc5 l0 o0 l o g=>∃b1:List Ptr×List Int,∃p:Heaplet,∃s:Option Addr,∃v:Nat,∃x:Nat,∃c6:Own,∃b2:Option Addr,∃b3:Nat,∃b4:Nat,∃c7:Own,l=l0∧o= [(c,.cells #[.slice s v x] 30 (0,0))]::c6:: [(d,.cells #[.slice b2 b3 b4] 35 (0,0))]::c7::o0∧p=g∧c5=.inl b1∧Hle c3 p∧RowOf (New H p) R_Ptr w.heap.size 32 5 (.slice s v x) b1.1 c6∧RowOf (New H p) RInt w.heap.size 3 1 (.slice b2 b3 b4) b1.2 c7) (λc5 k4 hx=> ?_) (λc5 e1 hx=> ?_))))
    ·
     rintro _ _ _ ⟨b1,p,s,v,x,c6,b2,b3,b4,c7,rfl,rfl,rfl,rfl,k5,e2,f8⟩
     simp only[Sum.elim_inl]at hx
     refine Run.nl_s [0] 4 ZB rfl (JL.conL hx E20 rfl dead_Check_ok rfl (λk6 f9 g0=>⟨(Lent.row' 1 g0 R_Ptr.mono f9 rfl (e2.old R_Ptr.mono)),trivial⟩) (λ_=>trivial) ?_)
     intro k7 k8 hx
     refine ZA rfl rfl (R.neq_i rfl rfl) (JL.must hx E32 rfl dead_must_M (λg1 hx k9 l1=> ?_) (λg1 hx=> ?_))
     ·
      refine JN.passP (JN.leaveD (K:=[[(c,.cells #[.slice s v x] 30 (0,0))],[(d,.cells #[.slice b2 b3 b4] 35 (0,0))],[(f,.cells #[.int .i64 0] 36 (0,0))]]) (K':=[[(c,.cells #[.slice none 0 0] 30 (0,0))],[(d,.cells #[.slice none 0 0] 35 (0,0))],[(f,.cells #[.int .i64 8] 36 (0,0))]]) (rst:=[_,_,_]) (some 8) ⟨rfl,rfl,rfl,rfl,rfl⟩ rfl rfl E30 (.inr ⟨_,rfl,rfl⟩) (ZL 0 rfl (ZL 1 rfl (ZL 3 rfl ZH))) dead_Load_1_P (ZO (ZO ?_)))
      exact JN.conC [2,3,4] [0,0] ZB rfl hx rfl ⟨⟨0,ZF _ _ _ _ _⟩,⟨0,ZF _ _ _ _ _⟩,rfl⟩
     ·
      refine Run.lc_s [] 3 ZB rfl (JC.drawB (so:=[(_,[6]),(_,[]),(_,[5,7]),(_,[5]),(_,[]),(_,[8])]) 9 rfl Mixed ⟨by kernel_rfl,by kernel_rfl⟩ (kept0 [0,1,2,3,4,5] rfl) ?_)
      refine JB.val (i:=0) [6] rfl (R.ldo 0 S30 rfl rfl rfl) ?_
      refine JB.val (i:=1) [5,6,7] rfl (R.ldo 2 S35 rfl rfl rfl) ?_
      refine JB.run 2 [2,3] [1] ZB rfl ?_
      refine JB.one (i:=4) (by kernel_rfl) ?_
      refine JOB.step rfl trivial rfl (λK hK=>JL.bslF (HF:=(New H p)) (R:=RInt) (ls:=[k.At]) (vs:=[.int .i64 k.At]) U35 I3 rfl rfl (⟨_,_,rfl,rfl,rfl,rfl⟩) RInt.one rfl rfl rfl (by simp[maxLen]) rfl (λl2 l3 e3=> ?_))
      obtain⟨l4,l5,rfl⟩:=RowOf.val e3
      refine ZW (hK _ _ _ (Hle.refl _) (kept0 [1,2,3,4,5,6] rfl) ?_)
      refine JB.one (i:=5) (by kernel_rfl) ?_
      refine JOB.step rfl trivial rfl (λK hK=> ?_)
      obtain⟨e4,g2,g3,hx⟩:=app_some hx
      refine JL.appF (HF:=(New H p)) 4 U35 I3 rfl rfl f8 rfl (SrcF.row 0 U35 rfl e3) g2 g3 rfl (Nat.le_refl _) rfl (λl6 l7 e5=> ?_)
      obtain⟨e6,e7,rfl⟩:=RowOf.val e5
      refine ZW (hK _ _ _ (Hle.refl _) (kept1 [false,false,true,true,false,false] [1,2,0,0,5,6] (by kernel_rfl) rfl) ?_)
      refine JB.one (i:=6) (by kernel_rfl) ?_
      refine JOB.step rfl trivial rfl (λK hK=>Run.lnz [1] 2 ZB rfl (hK _ _ _ (Hle.refl _) (kept1 [true,false,true,true,false,false] [0,2,0,0,5,6] (by kernel_rfl) rfl) ?_))
      refine JB.one (i:=7) (by kernel_rfl) ?_
      refine JOB.step rfl trivial rfl (λK hK=>Run.lnz [3] 2 ZB rfl (hK _ _ _ (Hle.refl _) (kept1 [true,false,true,true,false,false] [0,2,0,0,5,6] (by kernel_rfl) rfl) ?_))
      refine JB.one (i:=8) (by kernel_rfl) ?_
      refine JOB.step rfl trivial rfl (λK hK=>Run.lnz [6] 2 ZB rfl (hK _ _ _ (Hle.refl _) (kept1 [true,false,true,true,false,true] [0,2,0,0,5,0] (by kernel_rfl) rfl) ?_))
      refine JB.doneN (by kernel_rfl) ?_
      refine Run.nnz_s [] 2 ZB rfl (JN.leaveD (K:=[[(c,.cells #[.slice s v x] 30 (0,0))],[(d,.cells #[.slice e6 e4.length e7] 35 (0,0))],[(f,.cells #[.int .i64 0] 36 (0,0))]]) (K':=[[(c,.cells #[.slice s v x] 30 (0,0))],[(d,.cells #[.slice e6 e4.length e7] 35 (0,0))],[(f,.cells #[.int .i64 0] 36 (0,0))]]) (rst:=[_,_,_,_]) (none) ⟨rfl,rfl,rfl,rfl,rfl⟩ rfl rfl E30 (.inl ⟨rfl,.inl rfl⟩) (ZL 1 rfl (ZL 2 rfl (ZL 4 rfl ZH))) dead_Load_1_D ?_)
      exact JN.conC [0,1,2] [4,4] ZB rfl hx rfl ⟨⟨_,e2⟩,⟨_,e5⟩,rfl⟩
    ·
     refine JC.block (JC.seg0 (JC.seg0 (ZR 2 rfl (ZR 5 rfl (ZR 6 rfl (ZR 3 rfl (ZR 5 rfl (ZR 5 rfl (ZR 6 rfl (Zi [2,3,4,5,6,7,26,27] [4,5,6] rfl rfl (λl0 o0 m l o g=>∃y:Heaplet,∃z:Option Addr,∃a0:Nat,∃a1:Nat,∃b5:Own,∃a2:Option Addr,∃a3:Nat,∃a4:Nat,∃b6:Own,l=(28,.int .i64 ((m.2.2:Nat):Int))::l0∧o= [(c,.cells #[.slice z a0 a1] 30 (0,0))]::b5:: [(d,.cells #[.slice a2 a3 a4] 35 (0,0))]::b6::o0∧y=g∧Hle c3 y∧RowOf (New H y) R_Ptr w.heap.size 32 5 (.slice z a0 a1) m.1 b5∧RowOf (New H y) RInt w.heap.size 3 1 (.slice a2 a3 a4) m.2.1 b6) hx ⟨c3,none,0,0,[],none,0,0,[],rfl,rfl,rfl,(Hle.refl _),(ZF _ _ _ _ _),(ZF _ _ _ _ _)⟩ rfl ?_))))))))))
     ·
      rintro l8 m _ _ _ ⟨y,z,a0,a1,b5,a2,a3,a4,b6,rfl,rfl,rfl,q,c8,c9⟩ l9 hx a7
      unfold dead_Load_l1 at hx
      refine Run.cc [] 6 ZB rfl (ZK hx rfl (λd0 hx=> ?_) (λd0 hx=> ?_))
      ·
       refine Run.cl_s [] 7 ZB rfl ?_
       obtain⟨b7,g4,hx⟩:=ZS hx
       obtain⟨m0,m1,m2,g5,g6,m3,g7⟩:=IsSlice.elem (a6.mono R_Ptr.mono (New.mono q)) g4
       obtain rfl:=g6
       refine ZA rfl rfl (R.ix U30 S32 rfl rfl g5) (ZA rfl rfl (R.ldHF 0 S32 rfl (λj u e=>New.le _ _ _ _ _ (g7 j u e)) rfl rfl) (JL.alloc Z32 rfl (λm4 m5=>Run.ll_s [0,5,0] 8 ZB rfl (JL.conP hx E31 rfl dead_read_ok rfl ⟨(c0.mono (RSl.mono RU8.mono) (c4.trans q)),(c1.mono R_Write.mono (c4.trans q)),(c2.mono RU8.mono (c4.trans q)),trivial⟩ (λe8 hx m6 m7=> ?_) ?_))))
       ·
        simp only[pnk_inr]at hx
        refine JN.passP (JN.blkP (JN.passP ?_))
        obtain rfl:=ZP a7 hx
        refine JN.passP (JN.blkP ?_)
        clear hx;have hx:=e1
        simp only[Sum.elim_inl,Sum.elim_inr]at hx
        refine JN.passP (JN.passP (JN.leaveD (K:=[[(c,.cells #[.slice z a0 a1] 30 (0,0))],[(d,.cells #[.slice a2 a3 a4] 35 (0,0))],[(f,.cells #[.int .i64 0] 36 (0,0))]]) (K':=[[(c,.cells #[.slice none 0 0] 30 (0,0))],[(d,.cells #[.slice none 0 0] 35 (0,0))],[(f,.cells #[.int .i64 e8] 36 (0,0))]]) (rst:=[_,_,_,_,_]) (some e8) ⟨rfl,rfl,rfl,rfl,rfl⟩ rfl rfl E30 (.inr ⟨_,rfl,rfl⟩) (ZL 1 rfl (ZL 2 rfl (ZL 5 rfl ZH))) dead_Load_1_P (ZO (ZO ?_))))
        exact JN.conC [2,3,4] [0,0] ZB rfl hx rfl ⟨⟨0,ZF _ _ _ _ _⟩,⟨0,ZF _ _ _ _ _⟩,rfl⟩
       intro m8 m9 hx h a5 n0 n1 n2 d1
       simp only[pnk_inl]at hx
       refine Run.lc_s [] 4 ZB rfl (Za hx [2,3,4,5,6,7,9,10,26,27,28] [5,6,1,2,3,4,7,0] rfl rfl (λd2 l0 o0 l o g=>∃e9:Unit,l=l0∧o=o0∧h=g∧d2=.inl e9) (λd2 n3 hx=> ?_) (λd2 g8 hx=> ?_))
       ·
        rintro _ _ _ ⟨e9,rfl,rfl,rfl,rfl⟩
        simp only[Sum.elim_inl]at hx
        refine JN.next (JC.drawB (so:=[(_,[]),(_,[]),(_,[2,8]),(_,[2]),(_,[7,9]),(_,[7]),(_,[]),(_,[])]) 10 rfl Mixed ⟨by kernel_rfl,by kernel_rfl⟩ (kept0 [0,1,2,3,4,5,6,7] rfl) ?_)
        refine JB.val (i:=0) [2,7,8] rfl (R.ldo 2 S30 rfl rfl rfl) ?_
        refine JB.val (i:=1) [] rfl (R.move rfl) ?_
        refine JB.val (i:=3) [7,8,9] rfl (R.ldo 2 S35 rfl rfl rfl) ?_
        refine JB.run 2 [4,5] [3] ZB rfl ?_
        obtain⟨b8,f0,f1,hx⟩:=app_some hx
        obtain⟨b9,f2,f3,hx⟩:=app_some hx
        refine JB.two (i:=2) (j:=6) (by kernel_rfl) ?_ ?_
        ·
         refine JOB.step rfl trivial rfl (λK hK=>JL.appF (HF:=(New H h)) 3 U30 I32 rfl rfl (c8.mono R_Ptr.mono (New.mono a5)) rfl (SrcF.slice R_Ptr.one U30 (New.le _ _) d1) f0 f1 rfl (Nat.le_refl _) rfl (λg9 d3 a8=> ?_))
         obtain⟨d4,d5,rfl⟩:=RowOf.val a8
         refine ZW (hK _ _ _ (Hle.refl _) (kept1 [false,false,true,true,false,false,false,false] [0,1,0,0,4,5,6,7] (by kernel_rfl) rfl) ?_)
         refine JB.one (i:=6) (by kernel_rfl) ?_
         refine JOB.step rfl trivial rfl (λK hK=>JL.bslF (HF:=(New H h)) (R:=RInt) (ls:=[b7.At]) (vs:=[.int .i64 b7.At]) U35 I3 rfl rfl (⟨_,_,rfl,rfl,rfl,rfl⟩) RInt.one rfl rfl rfl (by simp[maxLen]) rfl (λh0 h1 a9=> ?_))
         obtain⟨h2,h3,rfl⟩:=RowOf.val a9
         refine ZW (hK _ _ _ (Hle.refl _) (kept1 [false,false,true,true,false,false,false,false] [1,2,0,0,5,6,7,8] (by kernel_rfl) rfl) ?_)
         refine JB.one (i:=7) (by kernel_rfl) ?_
         refine JOB.step rfl trivial rfl (λK hK=>JL.appF (HF:=(New H h)) 6 U35 I3 rfl rfl (c9.mono RInt.mono (New.mono a5)) rfl (SrcF.row 0 U35 rfl a9) f2 f3 rfl (Nat.le_refl _) rfl (λh4 d6 b0=> ?_))
         obtain⟨d7,d8,rfl⟩:=RowOf.val b0
         refine ZW (hK _ _ _ (Hle.refl _) (kept1 [false,false,true,true,true,true,false,false] [1,2,0,0,0,0,7,8] (by kernel_rfl) rfl) ?_)
         refine JB.one (i:=8) (by kernel_rfl) ?_
         refine JOB.step rfl trivial rfl (λK hK=>Run.lnz [3] 2 ZB rfl (hK _ _ _ (Hle.refl _) (kept1 [false,false,true,true,true,true,false,false] [1,2,0,0,0,0,7,8] (by kernel_rfl) rfl) ?_))
         refine JB.one (i:=9) (by kernel_rfl) ?_
         refine JOB.step rfl trivial rfl (λK hK=>Run.lnz [5] 2 ZB rfl (hK _ _ _ (Hle.refl _) (kept1 [false,false,true,true,true,true,false,false] [1,2,0,0,0,0,7,8] (by kernel_rfl) rfl) ?_))
         refine JB.doneN (by kernel_rfl) ?_
         refine Run.nlz_bs [] 3 ZB rfl (ZA rfl rfl (R.inc rfl rfl (of_decide_eq_true d0) (IsSlice.lenI a6)) (Run.lnz [] 2 ZB rfl ?_))
         replace hx:=Zb a7 hx
         refine JN.forget 8 (JN.forget 0 (ZC 6 rfl (ZC 2 rfl (ZC 2 rfl (ZC 6 rfl (ZC 6 rfl (ZC 6 rfl (ZC 6 rfl ?_))))))))
         exact ZE ⟨(b8,b9,m.2.2+1),⟨h,d4,b8.length,d5,d3,d7,b9.length,d8,d6,rfl,rfl,rfl,((q.trans a5)),a8,b0⟩,hx⟩ rfl rfl rfl
        ·
         refine JOB.step rfl trivial rfl (λK hK=>JL.bslF (HF:=(New H h)) (R:=RInt) (ls:=[b7.At]) (vs:=[.int .i64 b7.At]) U35 I3 rfl rfl (⟨_,_,rfl,rfl,rfl,rfl⟩) RInt.one rfl rfl rfl (by simp[maxLen]) rfl (λh0 h1 a9=> ?_))
         obtain⟨h2,h3,rfl⟩:=RowOf.val a9
         refine ZW (hK _ _ _ (Hle.refl _) (kept0 [1,2,3,4,5,6,7,8] rfl) ?_)
         refine JB.one (i:=2) (by kernel_rfl) ?_
         refine JOB.step rfl trivial rfl (λK hK=>JL.appF (HF:=(New H h)) 4 U30 I32 rfl rfl (c8.mono R_Ptr.mono (New.mono a5)) rfl (SrcF.slice R_Ptr.one U30 (New.le _ _) d1) f0 f1 rfl (Nat.le_refl _) rfl (λg9 d3 a8=> ?_))
         obtain⟨d4,d5,rfl⟩:=RowOf.val a8
         refine ZW (hK _ _ _ (Hle.refl _) (kept1 [false,false,true,true,false,false,false,false] [1,2,0,0,5,6,7,8] (by kernel_rfl) rfl) ?_)
         refine JB.one (i:=7) (by kernel_rfl) ?_
         refine JOB.step rfl trivial rfl (λK hK=>JL.appF (HF:=(New H h)) 6 U35 I3 rfl rfl (c9.mono RInt.mono (New.mono a5)) rfl (SrcF.row 0 U35 rfl a9) f2 f3 rfl (Nat.le_refl _) rfl (λh4 d6 b0=> ?_))
         obtain⟨d7,d8,rfl⟩:=RowOf.val b0
         refine ZW (hK _ _ _ (Hle.refl _) (kept1 [false,false,true,true,true,true,false,false] [1,2,0,0,0,0,7,8] (by kernel_rfl) rfl) ?_)
         refine JB.one (i:=8) (by kernel_rfl) ?_
         refine JOB.step rfl trivial rfl (λK hK=>Run.lnz [3] 2 ZB rfl (hK _ _ _ (Hle.refl _) (kept1 [false,false,true,true,true,true,false,false] [1,2,0,0,0,0,7,8] (by kernel_rfl) rfl) ?_))
         refine JB.one (i:=9) (by kernel_rfl) ?_
         refine JOB.step rfl trivial rfl (λK hK=>Run.lnz [5] 2 ZB rfl (hK _ _ _ (Hle.refl _) (kept1 [false,false,true,true,true,true,false,false] [1,2,0,0,0,0,7,8] (by kernel_rfl) rfl) ?_))
         refine JB.doneN (by kernel_rfl) ?_
         refine Run.nlz_bs [] 3 ZB rfl (ZA rfl rfl (R.inc rfl rfl (of_decide_eq_true d0) (IsSlice.lenI a6)) (Run.lnz [] 2 ZB rfl ?_))
         replace hx:=Zb a7 hx
         refine JN.forget 8 (JN.forget 0 (ZC 6 rfl (ZC 2 rfl (ZC 2 rfl (ZC 6 rfl (ZC 6 rfl (ZC 6 rfl (ZC 6 rfl ?_))))))))
         exact ZE ⟨(b8,b9,m.2.2+1),⟨h,d4,b8.length,d5,d3,d7,b9.length,d8,d6,rfl,rfl,rfl,((q.trans a5)),a8,b0⟩,hx⟩ rfl rfl rfl
       ·
        refine Run.clz [] 2 ZB rfl (ZA rfl rfl (ZN U30 rfl (IsSlice.long d1)) (Run.llz [] 2 ZB rfl (JL.gX 39 hx rfl (λh5 hx=> ?_) (λh5 hx=> ?_))))
        ·
         refine Run.llz [] 5 ZB rfl (ZA rfl rfl (ZN U30 rfl (IsSlice.long a6)) (Run.llz [] 5 ZB rfl (JL.must hx E32 rfl dead_must_M (λh6 hx n4 n5=> ?_) (λh6 hx=> ?_))))
         ·
          obtain rfl:=Option.some.inj hx
          clear hx;have hx:=g8
          simp only[Sum.elim_inl,Sum.elim_inr]at hx
          refine JN.passP (JN.passP (JN.blkP (JN.passP ?_)))
          obtain rfl:=ZP a7 hx
          refine JN.passP (JN.blkP ?_)
          clear hx;have hx:=e1
          simp only[Sum.elim_inl,Sum.elim_inr]at hx
          refine JN.passP (JN.passP (JN.leaveD (K:=[[(c,.cells #[.slice z a0 a1] 30 (0,0))],[(d,.cells #[.slice a2 a3 a4] 35 (0,0))],[(f,.cells #[.int .i64 0] 36 (0,0))]]) (K':=[[(c,.cells #[.slice none 0 0] 30 (0,0))],[(d,.cells #[.slice none 0 0] 35 (0,0))],[(f,.cells #[.int .i64 8] 36 (0,0))]]) (rst:=[_,_,_,_,_]) (some 8) ⟨rfl,rfl,rfl,rfl,rfl⟩ rfl rfl E30 (.inr ⟨_,rfl,rfl⟩) (ZL 1 rfl (ZL 2 rfl (ZL 5 rfl ZH))) dead_Load_1_P (ZO (ZO ?_))))
          exact JN.conC [2,3,4] [0,0] ZB rfl hx rfl ⟨⟨0,ZF _ _ _ _ _⟩,⟨0,ZF _ _ _ _ _⟩,rfl⟩
         ·
          refine ZW ?_
          obtain rfl:=Option.some.inj hx
          refine ZC 7 rfl (ZC 5 rfl (ZC 5 rfl (ZC 5 rfl (ZC 5 rfl (ZC 7 rfl (ZC 7 rfl ?_))))))
          exact ZE ⟨(),rfl,rfl,rfl,rfl⟩ rfl rfl rfl
        ·
         refine Run.llz [] 6 ZB rfl (JL.must hx E32 rfl dead_must_M (λf4 hx n6 n7=> ?_) (λf4 hx=> ?_))
         ·
          cases f4
         ·
          refine ZW ?_
          obtain rfl:=Option.some.inj hx
          refine ZC 7 rfl (ZC 5 rfl (ZC 5 rfl (ZC 5 rfl (ZC 5 rfl (ZC 7 rfl (ZC 7 rfl ?_))))))
          exact ZE ⟨(),rfl,rfl,rfl,rfl⟩ rfl rfl rfl
      ·
       refine Run.cnz_k [] 2 ZB rfl ?_
       obtain rfl:=ZP a7 hx
       refine Run.nnz_kb [] 2 ZB rfl (JN.forget 4 (ZC 5 rfl (ZC 5 rfl (ZC 5 rfl (ZC 5 rfl (ZC 5 rfl (ZC 5 rfl ?_)))))))
       exact ZE ⟨(m.1,m.2.1),y,z,a0,a1,b5,a2,a3,a4,b6,rfl,rfl,rfl,rfl,(q),c8,c9⟩ rfl rfl rfl
theorem law16_same_ok{p q}:Con Tryz.prog 15 true ([.sl false R_Ptr 5 p,.sl false R_Ptr 5 q]) (law16_same p q) (λr=> [.b r]):=by
 intro H a8 a9 b0 c b1 b2 b3 j r hx
 refine Does.enterC Tryz.func15 rfl rfl ?_
 intro w
 unfold law16_same at hx
 refine Run.cc [] 11 ZB rfl (Za hx [0,1] [] rfl rfl (λk l0 o0 l o g=>∃s:Unit,l=l0∧o=o0∧H=g∧k=.inl s) (λk b4 hx=> ?_) (λk x hx=> ?_))
 ·
  rintro _ _ _ ⟨s,rfl,rfl,rfl,rfl⟩
  simp only[Sum.elim_inl]at hx
  refine Run.nl_s [] 4 ZB rfl (ZA rfl rfl (ZN U30 rfl (IsSlice.long c)) (ZA rfl rfl (R.move rfl) (ZA rfl rfl (ZN U30 rfl (IsSlice.long j)) (Run.lnz_s [] 5 ZB rfl ?_))))
  exact ZJ [] rfl hx rfl rfl
 ·
  refine JC.block (Zi [0,1] [] rfl rfl (λl0 o0 m l o g=>l=(5,.int .i64 ((m:Nat):Int))::l0∧o=o0∧H=g) hx ⟨rfl,rfl,rfl⟩ rfl ?_)
  ·
   rintro b5 m _ _ _ ⟨rfl,rfl,rfl⟩ b6 hx d
   unfold law16_same_l1 at hx
   refine Run.cl [] 5 ZB rfl (ZA rfl rfl (ZN U30 rfl (IsSlice.long c)) (Run.llz [] 2 ZB rfl (JL.gX 10 hx rfl (λv hx=> ?_) (λv hx=> ?_))))
   ·
    refine Run.llz [] 5 ZB rfl (ZA rfl rfl (ZN U30 rfl (IsSlice.long j)) (Run.lcz_s [] 5 ZB rfl (ZK hx rfl (λy hx=> ?_) (λy hx=> ?_))))
    ·
     refine Run.cc_s [] 5 ZB rfl (JC.drawB (so:=[]) 9 rfl Mixed ⟨by kernel_rfl,by kernel_rfl⟩ (kept0 [] rfl) ?_)
     refine JB.run 2 [0,1] [] ZB rfl ?_
     obtain⟨f,z,hx⟩:=ZS hx
     obtain⟨b7,b8,b9,a0,a1,c0,a2⟩:=IsSlice.elem c z
     obtain rfl:=a1
     refine JB.val (i:=2) [] rfl (R.ix U30 S32 rfl rfl a0) ?_
     refine JB.val (i:=3) [] rfl (R.ldHF 0 S32 rfl a2 rfl rfl) ?_
     refine JB.run 2 [4,5] [] ZB rfl ?_
     obtain⟨h,a3,hx⟩:=ZS hx
     obtain⟨c1,c2,c3,a4,a5,c4,a6⟩:=IsSlice.elem j a3
     obtain rfl:=a5
     refine JB.val (i:=6) [] rfl (R.ix U30 S32 rfl rfl a4) ?_
     refine JB.val (i:=7) [] rfl (R.ldHF 0 S32 rfl a6 rfl rfl) ?_
     refine JB.val (i:=8) [] rfl (R.neqAgg QU32 QP32 QG32 QF32 rfl rfl (EqF.i (by decide) S3 U3 rfl rfl (EqF.u32 (a:=f.Birth) (b:=h.Birth) (by decide) S27 U27 rfl rfl (EqF.u32 (a:=f.Iv) (b:=h.Iv) (by decide) S27 U27 rfl rfl (EqF.u32 (a:=f.Tag) (b:=h.Tag) (by decide) S27 U27 rfl rfl (EqF.u32 (a:=f.Sum) (b:=h.Sum) (by decide) S27 U27 rfl rfl EqF.nil)))))) ?_
     refine JB.doneN (by kernel_rfl) ?_
     refine JN.next (ZK hx rfl (λa7 hx=> ?_) (λa7 hx=> ?_))
     ·
      refine Run.cnz_bk [] 8 ZB rfl ?_
      obtain rfl:=ZP d hx
      refine Run.nnz_kb [] 2 ZB rfl ?_
      clear hx;have hx:=x
      simp only[Sum.elim_inl,Sum.elim_inr]at hx
      refine Run.nnz_kk [] 2 ZB rfl ?_
      exact ZJ [] rfl hx rfl rfl
     ·
      refine Run.clz_bs [] 5 ZB rfl (ZA rfl rfl (R.inc rfl rfl (of_decide_eq_true v) (IsSlice.lenI c)) (Run.lnz [] 2 ZB rfl ?_))
      replace hx:=Zb d hx
      exact ZE ⟨m+1,⟨rfl,rfl,rfl⟩,hx⟩ rfl rfl rfl
    ·
     refine Run.cnz_k [] 2 ZB rfl ?_
     obtain rfl:=ZP d hx
     refine Run.nnz_kb [] 2 ZB rfl ?_
     exact ZE ⟨(),rfl,rfl,rfl,rfl⟩ rfl rfl rfl
   ·
    refine Run.lnz_sk [] 10 ZB rfl ?_
    obtain rfl:=ZP d hx
    refine Run.nnz_kb [] 2 ZB rfl ?_
    exact ZE ⟨(),rfl,rfl,rfl,rfl⟩ rfl rfl rfl
theorem law16_rows_ok{a}:Con Tryz.prog 16 true ([.i a]) (law16_rows a) (λr=> [.i r]):=by
 intro H r hx
 refine Does.enterC Tryz.func16 rfl rfl ?_
 intro w
 unfold law16_rows at hx
 refine Run.cc [] 12 ZB rfl (ZK hx rfl (λb hx=> ?_) (λb hx=> ?_))
 ·
  refine Run.cnz_k [] 7 ZB rfl ?_
  exact ZJ [] rfl hx rfl rfl
 ·
  refine Run.cl_s [] 6 ZB rfl (ZA rfl rfl (R.quo_i rfl rfl (by decide)) ?_)
  refine Run.lnz_s [] 5 ZB rfl ?_
  exact ZJ [] rfl hx rfl rfl
theorem law16_DeadBack_ok (d:Store)(k:UInt32)(d9:List Ptr)(H:Heaplet){p:Option Addr}{q:Nat}{s:Nat}{v:Option Addr}{x:Nat}{y:Nat}{z:Option Addr}{a0:Nat}{a1:Nat}{c4:Option Addr}{c5:Nat}{c6:Nat}(e0:IsSlice H (RSl RU8 1) 1 (.slice p q s) d.Disk.Blocks)(e1:IsSlice H R_Write 2 (.slice v x y) d.Disk.Waits)(d4:IsSlice H RU8 1 (.slice z a0 a1) d.Space)(c7:IsSlice H R_Ptr 5 (.slice c4 c5 c6) d9)(r:Bool)(hx:law16_DeadBack d k d9=some r):
  Does Tryz.prog 4 #[.agg #[.slice p q s,.slice v x y,.slice z a0 a1,.int .u32 (d.Epoch.toNat:Int),.int .u32 (d.Count.toNat:Int)],.int .u32 (k.toNat:Int),.slice c4 c5 c6] [] H (λu K' H'=>u=.bool r∧K'= []∧True):=by
 refine Does.enterL (vs:=[.agg #[.slice p q s,.slice v x y,.slice z a0 a1,.int .u32 (d.Epoch.toNat:Int),.int .u32 (d.Count.toNat:Int)],.int .u32 (k.toNat:Int),.slice c4 c5 c6]) (l:=[(0,.agg #[.slice p q s,.slice v x y,.slice z a0 a1,.int .u32 (d.Epoch.toNat:Int),.int .u32 (d.Count.toNat:Int)]),(1,.int .u32 (k.toNat:Int)),(2,.slice c4 c5 c6)]) Tryz.func4 rfl rfl ⟨rfl,rfl,rfl,trivial⟩ (λw hlt=> ?_)
 unfold law16_DeadBack at hx
 refine Run.cl [] 2 ZB rfl (Zf rfl rfl (λf m5=>Run.ll_s [] 5 ZB rfl (ZV hx E14 rfl law16_alive_ok rfl trivial ?_)))
 intro a2 m6 hx
 refine Run.ll_s [0] 7 ZB rfl (ZV hx E5 rfl ref13_Great_ok rfl ⟨e0,e1,d4,trivial⟩ ?_)
 intro m7 m8 hx
 refine ZA rfl rfl (R.move rfl) (JL.gX 19 hx rfl (λe9 hx=> ?_) (λe9 hx=> ?_))
 ·
  refine Run.lnz_sk [] 15 ZB rfl (ZU (vs:=[.bool a2]) (K:=[]) (rst:=[_]) (.inl rfl) rfl rfl (Ze rfl rfl) ZH ?_)
  obtain rfl:=Option.some.inj hx
  exact⟨rfl,rfl,trivial⟩
 ·
  refine Run.llz [] 3 ZB rfl (ZA rfl rfl (ZN U30 rfl (IsSlice.long c7)) (Run.lcz_s [] 5 ZB rfl (ZK hx rfl (λf0 hx=> ?_) (λf0 hx=> ?_))))
  ·
   refine Run.cnz_k [] 8 ZB rfl (ZU (vs:=[.bool a2]) (K:=[]) (rst:=[_]) (.inl rfl) rfl rfl (Ze rfl rfl) ZH ?_)
   obtain rfl:=Option.some.inj hx
   exact⟨rfl,rfl,trivial⟩
  ·
   refine Run.cl_s [0] 7 ZB rfl (JL.con hx E7 rfl dead_Lay_v3_ok rfl ⟨e0,e1,d4,c7,trivial⟩ ?_)
   intro c m9 hx c8 e2 a3 a4 a5 f1 a6 a7 a8 a9 f2 b0 b1 b2 b3 d5 b4 b5 b6 b7 m
   refine Run.llz [] 5 ZB rfl (JL.alloc Z29 rfl (λh n0=>JL.alloc Z32 rfl (λj n1=>Run.lc_s [1,0] 13 ZB rfl (ZK hx rfl (λf3 hx=> ?_) (λf3 hx=> ?_)))))
   ·
    refine JC.seq (Za hx [] [] rfl rfl (λc9 l0 o0 l o g=>l=(6,.bool c9)::l0∧o=o0∧c8=g) (λc9 n2 hx=> ?_) (λc9 n3 hx=> ?_))
    ·
     rintro _ _ _ ⟨rfl,rfl,rfl⟩
     refine Run.nnz_sk [] 3 ZB rfl (ZU (vs:=[.bool c9]) (K:=[]) (rst:=[]) (.inl rfl) rfl rfl (Ze rfl rfl) ZH ?_)
     obtain rfl:=Option.some.inj hx
     exact⟨rfl,rfl,trivial⟩
    ·
     refine Run.clz [] 3 ZB rfl (JL.gX 37 hx rfl (λf4 hx=> ?_) (λf4 hx=> ?_))
     ·
      refine Run.llz [1] 5 ZB rfl (ZA rfl rfl (ZN U26 rfl (RowOf.long d5)) (Run.llz [] 4 ZB rfl (JL.gX 43 hx rfl (λf5 hx=> ?_) (λf5 hx=> ?_))))
      ·
       refine Run.llz [] 3 ZB rfl (ZA rfl rfl (ZN U35 rfl (RowOf.long m)) (Run.lnz [] 5 ZB rfl ?_))
       obtain rfl:=Option.some.inj hx
       refine JN.forget 5 (JN.forget 4 (JN.forget 3 (JN.forget 2 (JN.forget 1 (JN.forget 0 ?_)))))
       exact ZE ⟨rfl,rfl,rfl⟩ rfl rfl rfl
      ·
       refine Run.lnz [] 6 ZB rfl ?_
       obtain rfl:=Option.some.inj hx
       refine JN.forget 5 (JN.forget 4 (JN.forget 3 (JN.forget 2 (JN.forget 1 (JN.forget 0 ?_)))))
       exact ZE ⟨rfl,rfl,rfl⟩ rfl rfl rfl
     ·
      refine Run.lnz [] 12 ZB rfl ?_
      obtain rfl:=Option.some.inj hx
      refine JN.forget 5 (JN.forget 4 (JN.forget 3 (JN.forget 2 (JN.forget 1 (JN.forget 0 ?_)))))
      exact ZE ⟨rfl,rfl,rfl⟩ rfl rfl rfl
   ·
    refine Run.cl_s [1,0] 6 ZB rfl (JL.conL hx E9 rfl dead_Load_ok rfl (λn4 d6 e3=>⟨(IsSlice.mono (RSl.mono RU8.mono) d6 (f1.old (RSl.mono RU8.mono))),(Lent.row' 2 e3 R_Write.mono d6 rfl (f2.old R_Write.mono)),(Lent.row' 3 e3 RU8.mono d6 rfl (d5.old RU8.mono)),trivial⟩) (λ_=>⟨R_Ptr.const,RInt.const,trivial⟩) ?_)
    intro n5 n6 hx n7 n8 n9 d0 f6 b8 b9 c0 c1 e4
    refine Run.ll_s [] 15 ZB rfl (JL.gX 57 hx rfl (λf7 hx=> ?_) (λf7 hx=> ?_))
    ·
     refine Run.lcz_s [] 22 ZB rfl (JC.tidy (l':=[(1,.int .u32 (k.toNat:Int)),(3,.pointer (some ⟨f,0,none⟩)),(6,.bool false),(7,.bool a2),(8,.pointer (some ⟨h,0,none⟩)),(9,.pointer (some ⟨j,0,none⟩)),(10,.slice b4 b5 b6),(13,.slice b8 b9 c0),(77,.bool true)]) (own':=[d0,c1,[(j,.cells #[.int .i64 c.2.1.At,.int .u32 (c.2.1.Birth.toNat:Int),.int .u32 (c.2.1.Iv.toNat:Int),.int .u32 (c.2.1.Tag.toNat:Int),.int .u32 (c.2.1.Sum.toNat:Int)] 32 (0,0))],[(h,.cells #[.slice a3 a4 a5,.slice a6 a7 a8,.slice b0 b1 b2,.int .u32 (c.1.Epoch.toNat:Int),.int .u32 (c.1.Count.toNat:Int)] 29 (0,0))],a9,b3,b7,[(f,.cells #[.slice p q s,.slice v x y,.slice z a0 a1,.int .u32 (d.Epoch.toNat:Int),.int .u32 (d.Count.toNat:Int)] 29 (0,0))]]) ⟨rfl,rfl,rfl,rfl,rfl,rfl,rfl,rfl,rfl,trivial⟩ rfl (JC.tidyP (l':=[(1,.int .u32 (k.toNat:Int)),(3,.pointer (some ⟨f,0,none⟩)),(6,.bool false),(7,.bool a2),(8,.pointer (some ⟨h,0,none⟩)),(9,.pointer (some ⟨j,0,none⟩)),(10,.slice b4 b5 b6),(13,.slice b8 b9 c0),(77,.bool true)]) (own':=[c1,[(j,.cells #[.int .i64 c.2.1.At,.int .u32 (c.2.1.Birth.toNat:Int),.int .u32 (c.2.1.Iv.toNat:Int),.int .u32 (c.2.1.Tag.toNat:Int),.int .u32 (c.2.1.Sum.toNat:Int)] 32 (0,0))],[(h,.cells #[.slice a3 a4 a5,.slice a6 a7 a8,.slice b0 b1 b2,.int .u32 (c.1.Epoch.toNat:Int),.int .u32 (c.1.Count.toNat:Int)] 29 (0,0))],a9,b3,b7,[(f,.cells #[.slice p q s,.slice v x y,.slice z a0 a1,.int .u32 (d.Epoch.toNat:Int),.int .u32 (d.Count.toNat:Int)] 29 (0,0))]]) (rst:=[_]) ⟨rfl,rfl,rfl,rfl,rfl,rfl,rfl,rfl,rfl,trivial⟩ (ZL 1 rfl (ZL 1 rfl (ZL 1 rfl (ZL 1 rfl (ZL 1 rfl (ZL 1 rfl (ZL 1 rfl ZH))))))) (Run.cnz_k [] 8 ZB rfl (ZU (vs:=[.bool false]) (K:=[]) (rst:=[_,_,_,_,_,_,_]) (.inl rfl) rfl rfl (Ze rfl rfl) ZH ?_))))
     obtain rfl:=Option.some.inj hx
     exact⟨rfl,rfl,trivial⟩
    ·
     refine Run.llz [] 5 ZB rfl (JL.conL hx E15 rfl law16_same_ok rfl (λo1 e5 f8=>⟨(IsSlice.mono R_Ptr.mono e5 (c7.mono R_Ptr.mono e2)),(Lent.row' 0 f8 R_Ptr.mono e5 rfl (f6.old R_Ptr.mono)),trivial⟩) (λ_=>trivial) ?_)
     intro o2 o3 hx
     refine Run.llz [] 4 ZB rfl (JL.gX 63 hx rfl (λf9 hx=> ?_) (λf9 hx=> ?_))
     ·
      refine Run.lcz_s [] 16 ZB rfl (JC.tidy (l':=[(1,.int .u32 (k.toNat:Int)),(3,.pointer (some ⟨f,0,none⟩)),(6,.bool false),(7,.bool a2),(8,.pointer (some ⟨h,0,none⟩)),(9,.pointer (some ⟨j,0,none⟩)),(10,.slice b4 b5 b6),(13,.slice b8 b9 c0),(77,.bool true)]) (own':=[d0,c1,[(j,.cells #[.int .i64 c.2.1.At,.int .u32 (c.2.1.Birth.toNat:Int),.int .u32 (c.2.1.Iv.toNat:Int),.int .u32 (c.2.1.Tag.toNat:Int),.int .u32 (c.2.1.Sum.toNat:Int)] 32 (0,0))],[(h,.cells #[.slice a3 a4 a5,.slice a6 a7 a8,.slice b0 b1 b2,.int .u32 (c.1.Epoch.toNat:Int),.int .u32 (c.1.Count.toNat:Int)] 29 (0,0))],a9,b3,b7,[(f,.cells #[.slice p q s,.slice v x y,.slice z a0 a1,.int .u32 (d.Epoch.toNat:Int),.int .u32 (d.Count.toNat:Int)] 29 (0,0))]]) ⟨rfl,rfl,rfl,rfl,rfl,rfl,rfl,rfl,rfl,trivial⟩ rfl (JC.tidyP (l':=[(1,.int .u32 (k.toNat:Int)),(3,.pointer (some ⟨f,0,none⟩)),(6,.bool false),(7,.bool a2),(8,.pointer (some ⟨h,0,none⟩)),(9,.pointer (some ⟨j,0,none⟩)),(10,.slice b4 b5 b6),(13,.slice b8 b9 c0),(77,.bool true)]) (own':=[c1,[(j,.cells #[.int .i64 c.2.1.At,.int .u32 (c.2.1.Birth.toNat:Int),.int .u32 (c.2.1.Iv.toNat:Int),.int .u32 (c.2.1.Tag.toNat:Int),.int .u32 (c.2.1.Sum.toNat:Int)] 32 (0,0))],[(h,.cells #[.slice a3 a4 a5,.slice a6 a7 a8,.slice b0 b1 b2,.int .u32 (c.1.Epoch.toNat:Int),.int .u32 (c.1.Count.toNat:Int)] 29 (0,0))],a9,b3,b7,[(f,.cells #[.slice p q s,.slice v x y,.slice z a0 a1,.int .u32 (d.Epoch.toNat:Int),.int .u32 (d.Count.toNat:Int)] 29 (0,0))]]) (rst:=[_]) ⟨rfl,rfl,rfl,rfl,rfl,rfl,rfl,rfl,rfl,trivial⟩ (ZL 1 rfl (ZL 1 rfl (ZL 1 rfl (ZL 1 rfl (ZL 1 rfl (ZL 1 rfl (ZL 1 rfl ZH))))))) (Run.cnz_k [] 8 ZB rfl (ZU (vs:=[.bool false]) (K:=[]) (rst:=[_,_,_,_,_,_,_]) (.inl rfl) rfl rfl (Ze rfl rfl) ZH ?_))))
      obtain rfl:=Option.some.inj hx
      exact⟨rfl,rfl,trivial⟩
     ·
      refine Run.llz [] 3 ZB rfl (ZA rfl rfl (ZN U35 rfl (RowOf.long m)) (Run.llz [] 3 ZB rfl (ZA rfl rfl (ZN U35 rfl (RowOf.long e4)) (Run.llz [] 4 ZB rfl (JL.gX 70 hx rfl (λg0 hx=> ?_) (λg0 hx=> ?_))))))
      ·
       refine Run.lcz_s [] 9 ZB rfl (JC.tidy (l':=[(1,.int .u32 (k.toNat:Int)),(3,.pointer (some ⟨f,0,none⟩)),(6,.bool false),(7,.bool a2),(8,.pointer (some ⟨h,0,none⟩)),(9,.pointer (some ⟨j,0,none⟩)),(10,.slice b4 b5 b6),(13,.slice b8 b9 c0),(77,.bool true)]) (own':=[d0,c1,[(j,.cells #[.int .i64 c.2.1.At,.int .u32 (c.2.1.Birth.toNat:Int),.int .u32 (c.2.1.Iv.toNat:Int),.int .u32 (c.2.1.Tag.toNat:Int),.int .u32 (c.2.1.Sum.toNat:Int)] 32 (0,0))],[(h,.cells #[.slice a3 a4 a5,.slice a6 a7 a8,.slice b0 b1 b2,.int .u32 (c.1.Epoch.toNat:Int),.int .u32 (c.1.Count.toNat:Int)] 29 (0,0))],a9,b3,b7,[(f,.cells #[.slice p q s,.slice v x y,.slice z a0 a1,.int .u32 (d.Epoch.toNat:Int),.int .u32 (d.Count.toNat:Int)] 29 (0,0))]]) ⟨rfl,rfl,rfl,rfl,rfl,rfl,rfl,rfl,rfl,trivial⟩ rfl (JC.tidyP (l':=[(1,.int .u32 (k.toNat:Int)),(3,.pointer (some ⟨f,0,none⟩)),(6,.bool false),(7,.bool a2),(8,.pointer (some ⟨h,0,none⟩)),(9,.pointer (some ⟨j,0,none⟩)),(10,.slice b4 b5 b6),(13,.slice b8 b9 c0),(77,.bool true)]) (own':=[c1,[(j,.cells #[.int .i64 c.2.1.At,.int .u32 (c.2.1.Birth.toNat:Int),.int .u32 (c.2.1.Iv.toNat:Int),.int .u32 (c.2.1.Tag.toNat:Int),.int .u32 (c.2.1.Sum.toNat:Int)] 32 (0,0))],[(h,.cells #[.slice a3 a4 a5,.slice a6 a7 a8,.slice b0 b1 b2,.int .u32 (c.1.Epoch.toNat:Int),.int .u32 (c.1.Count.toNat:Int)] 29 (0,0))],a9,b3,b7,[(f,.cells #[.slice p q s,.slice v x y,.slice z a0 a1,.int .u32 (d.Epoch.toNat:Int),.int .u32 (d.Count.toNat:Int)] 29 (0,0))]]) (rst:=[_]) ⟨rfl,rfl,rfl,rfl,rfl,rfl,rfl,rfl,rfl,trivial⟩ (ZL 1 rfl (ZL 1 rfl (ZL 1 rfl (ZL 1 rfl (ZL 1 rfl (ZL 1 rfl (ZL 1 rfl ZH))))))) (Run.cnz_k [] 8 ZB rfl (ZU (vs:=[.bool false]) (K:=[]) (rst:=[_,_,_,_,_,_,_]) (.inl rfl) rfl rfl (Ze rfl rfl) ZH ?_))))
       obtain rfl:=Option.some.inj hx
       exact⟨rfl,rfl,trivial⟩
      ·
       refine Run.llz [] 3 ZB rfl (ZA rfl rfl (ZN U35 rfl (RowOf.long m)) (Run.llz [] 3 ZB rfl (ZA rfl rfl (ZN U30 rfl (IsSlice.long c7)) (JL.gYes rfl rfl rfl (ZV hx E16 rfl law16_rows_ok rfl trivial ?_)))))
       intro e6 o4 hx
       refine Run.lcz_s [] 5 ZB rfl (JC.tidy (l':=[(1,.int .u32 (k.toNat:Int)),(3,.pointer (some ⟨f,0,none⟩)),(6,.bool false),(7,.bool a2),(8,.pointer (some ⟨h,0,none⟩)),(9,.pointer (some ⟨j,0,none⟩)),(10,.slice b4 b5 b6),(13,.slice b8 b9 c0),(77,.bool (!decide ((c.2.2.1.length:Int)=e6)))]) (own':=[d0,c1,[(j,.cells #[.int .i64 c.2.1.At,.int .u32 (c.2.1.Birth.toNat:Int),.int .u32 (c.2.1.Iv.toNat:Int),.int .u32 (c.2.1.Tag.toNat:Int),.int .u32 (c.2.1.Sum.toNat:Int)] 32 (0,0))],[(h,.cells #[.slice a3 a4 a5,.slice a6 a7 a8,.slice b0 b1 b2,.int .u32 (c.1.Epoch.toNat:Int),.int .u32 (c.1.Count.toNat:Int)] 29 (0,0))],a9,b3,b7,[(f,.cells #[.slice p q s,.slice v x y,.slice z a0 a1,.int .u32 (d.Epoch.toNat:Int),.int .u32 (d.Count.toNat:Int)] 29 (0,0))]]) ⟨rfl,rfl,rfl,rfl,rfl,rfl,rfl,rfl,rfl,trivial⟩ rfl (JC.tidyP (l':=[(1,.int .u32 (k.toNat:Int)),(3,.pointer (some ⟨f,0,none⟩)),(6,.bool false),(7,.bool a2),(8,.pointer (some ⟨h,0,none⟩)),(9,.pointer (some ⟨j,0,none⟩)),(10,.slice b4 b5 b6),(13,.slice b8 b9 c0),(77,.bool (!decide ((c.2.2.1.length:Int)=e6)))]) (own':=[c1,[(j,.cells #[.int .i64 c.2.1.At,.int .u32 (c.2.1.Birth.toNat:Int),.int .u32 (c.2.1.Iv.toNat:Int),.int .u32 (c.2.1.Tag.toNat:Int),.int .u32 (c.2.1.Sum.toNat:Int)] 32 (0,0))],[(h,.cells #[.slice a3 a4 a5,.slice a6 a7 a8,.slice b0 b1 b2,.int .u32 (c.1.Epoch.toNat:Int),.int .u32 (c.1.Count.toNat:Int)] 29 (0,0))],a9,b3,b7,[(f,.cells #[.slice p q s,.slice v x y,.slice z a0 a1,.int .u32 (d.Epoch.toNat:Int),.int .u32 (d.Count.toNat:Int)] 29 (0,0))]]) (rst:=[_]) ⟨rfl,rfl,rfl,rfl,rfl,rfl,rfl,rfl,rfl,trivial⟩ (ZL 1 rfl (ZL 1 rfl (ZL 1 rfl (ZL 1 rfl (ZL 1 rfl (ZL 1 rfl (ZL 1 rfl ZH))))))) (ZK hx rfl (λg1 hx=> ?_) (λg1 hx=> ?_))))
       ·
        refine Run.cnz_k [] 7 ZB rfl (ZU (vs:=[.bool false]) (K:=[]) (rst:=[_,_,_,_,_,_,_]) (.inl rfl) rfl rfl (Ze rfl rfl) ZH ?_)
        obtain rfl:=Option.some.inj hx
        exact⟨rfl,rfl,trivial⟩
       ·
        refine Run.cc_s [] 8 ZB rfl (Za hx [1,7,9,10] [1,5] rfl rfl (λd7 l0 o0 l o g=>∃e7:Unit,l=l0∧o=o0∧c8=g∧d7=.inl e7) (λd7 o5 hx=> ?_) (λd7 c3 hx=> ?_))
        ·
         rintro _ _ _ ⟨e7,rfl,rfl,rfl,rfl⟩
         simp only[Sum.elim_inl]at hx
         refine Run.nc_s [] 2 ZB rfl (Za hx [] [] rfl rfl (λd1 l0 o0 l o g=>l=(6,.bool d1)::l0∧o=o0∧c8=g) (λd1 o6 hx=> ?_) (λd1 o7 hx=> ?_))
         ·
          rintro _ _ _ ⟨rfl,rfl,rfl⟩
          refine Run.nnz_s [] 2 ZB rfl (ZU (vs:=[.bool d1]) (K:=[]) (rst:=[]) (.inl rfl) rfl rfl (Ze rfl rfl) ZH ?_)
          obtain rfl:=Option.some.inj hx
          exact⟨rfl,rfl,trivial⟩
         ·
          refine JC.drawB (so:=[(_,[]),(_,[])]) 24 rfl Mixed ⟨by kernel_rfl,by kernel_rfl⟩ (kept0 [0,1] rfl) ?_
          refine JB.run 2 [0,1] [] ZB rfl ?_
          refine JB.gX 130 hx rfl (λg2 hx=> ?_) (λg2 hx=> ?_)
          ·
           refine JB.val (i:=2) [] rfl (R.move rfl) ?_
           refine JB.val (i:=3) [] rfl (ZN U35 rfl (RowOf.long m)) ?_
           refine JB.run 2 [4,5] [] ZB rfl ?_
           refine JB.gX 134 hx rfl (λg3 hx=> ?_) (λg3 hx=> ?_)
           ·
            refine JB.run 18 [6,7,8,9,10,11,12,13,14,15,16,17,18,19,20,21,22,23] [] ZB rfl ?_
            refine JB.doneN (by kernel_rfl) ?_
            obtain rfl:=Option.some.inj hx
            refine JN.forget 1 (JN.forget 0 ?_)
            exact ZE ⟨rfl,rfl,rfl⟩ rfl rfl rfl
           ·
            refine JB.run 2 [6,7] [] ZB rfl ?_
            refine JB.val (i:=8) [] rfl (ZN U35 rfl (RowOf.long m)) ?_
            refine JB.val (i:=9) [] rfl (R.sub_i rfl rfl) ?_
            obtain⟨o8,g4,hx⟩:=ZS hx
            obtain⟨o9,p0,p1,p2,g5,g6,g7,p3,g8⟩:=RowOf.elem m g4
            subst g5
            obtain rfl:=g7
            refine JB.val (i:=10) [] rfl (R.ix U35 S3 rfl rfl g6) ?_
            refine JB.val (i:=11) [] rfl (R.ldo 1 S3 rfl rfl (g8 0 _ rfl)) ?_
            refine JB.run 4 [12,13,14,15] [0] ZB rfl ?_
            refine JB.gX 144 hx rfl (λg9 hx=> ?_) (λg9 hx=> ?_)
            ·
             refine JB.run 3 [16,17,18] [0] ZB rfl ?_
             refine JB.val (i:=19) [] rfl (R.eql32 (a:=c.2.1.Birth) (b:=k) rfl rfl) ?_
             refine JB.run 4 [20,21,22,23] [] ZB rfl ?_
             refine JB.doneN (by kernel_rfl) ?_
             obtain rfl:=Option.some.inj hx
             refine JN.forget 1 (JN.forget 0 ?_)
             exact ZE ⟨rfl,rfl,rfl⟩ rfl rfl rfl
            ·
             refine JB.run 8 [16,17,18,19,20,21,22,23] [] ZB rfl ?_
             refine JB.doneN (by kernel_rfl) ?_
             obtain rfl:=Option.some.inj hx
             refine JN.forget 1 (JN.forget 0 ?_)
             exact ZE ⟨rfl,rfl,rfl⟩ rfl rfl rfl
          ·
           refine JB.run 22 [2,3,4,5,6,7,8,9,10,11,12,13,14,15,16,17,18,19,20,21,22,23] [] ZB rfl ?_
           refine JB.doneN (by kernel_rfl) ?_
           obtain rfl:=Option.some.inj hx
           refine JN.forget 1 (JN.forget 0 ?_)
           exact ZE ⟨rfl,rfl,rfl⟩ rfl rfl rfl
        ·
         refine JC.block (ZR 5 rfl (ZR 2 rfl (ZR 5 rfl (ZR 5 rfl (ZR 5 rfl (ZR 6 rfl (Zi [1,3,7,8,9,10,13] [0,1,2,3,4,5,6] rfl rfl (λl0 o0 d8 l o g=>l=(15,.int .i64 ((d8:Nat):Int))::l0∧o=o0∧c8=g) hx ⟨rfl,rfl,rfl⟩ rfl ?_)))))))
         ·
          rintro p4 d8 _ _ _ ⟨rfl,rfl,rfl⟩ p5 hx c2
          unfold law16_DeadBack_l1 at hx
          refine Run.cl [] 5 ZB rfl (ZA rfl rfl (ZN U35 rfl (RowOf.long m)) (Run.lcz_s [] 3 ZB rfl (ZK hx rfl (λe8 hx=> ?_) (λe8 hx=> ?_))))
          ·
           refine Run.cc_s [] 5 ZB rfl (JC.drawB (so:=[(_,[]),(_,[]),(_,[]),(_,[]),(_,[]),(_,[]),(_,[])]) 45 rfl Mixed ⟨by kernel_rfl,by kernel_rfl⟩ (kept0 [0,1,2,3,4,5,6] rfl) ?_)
           refine JB.run 2 [0,1] [] ZB rfl ?_
           obtain⟨p6,h0,hx⟩:=ZS hx
           obtain⟨d2,p7,p8,d3,h1,h2,h3,p9,h4⟩:=RowOf.elem m h0
           subst h1
           obtain rfl:=h3
           refine JB.val (i:=2) [] rfl (R.ix U35 S3 rfl rfl h2) ?_
           refine JB.val (i:=3) [] rfl (R.ldo 5 S3 rfl rfl (h4 0 _ rfl)) ?_
           refine JB.run 2 [4,5] [] ZB rfl ?_
           obtain⟨q0,h5,hx⟩:=ZS hx
           obtain⟨q1,q2,q3,q4,h6,h7,h8,q5,h9⟩:=RowOf.elem e4 h5
           subst h6
           obtain rfl:=h8
           refine JB.val (i:=6) [] rfl (R.ix U35 S3 rfl rfl h7) ?_
           refine JB.val (i:=7) [] rfl (R.ldo 6 S3 rfl rfl (h9 0 _ rfl)) ?_
           refine JB.run 2 [8,9] [] ZB rfl ?_
           refine JB.gX 93 hx rfl (λi0 hx=> ?_) (λi0 hx=> ?_)
           ·
            refine JB.run 35 [10,11,12,13,14,15,16,17,18,19,20,21,22,23,24,25,26,27,28,29,30,31,32,33,34,35,36,37,38,39,40,41,42,43,44] [] ZB rfl ?_
            refine JB.doneN (by kernel_rfl) ?_
            refine Run.nnz_sbk [] 10 ZB rfl ?_
            obtain rfl:=ZP c2 hx
            refine Run.nnz_kb [] 2 ZB rfl ?_
            clear hx;have hx:=c3
            simp only[Sum.elim_inl,Sum.elim_inr]at hx
            refine Run.nnz_kk [] 2 ZB rfl (ZU (vs:=[.bool false]) (K:=[]) (rst:=[_,_,_,_,_,_,_]) (.inl rfl) rfl rfl (Ze rfl rfl) ZH ?_)
            obtain rfl:=Option.some.inj hx
            exact⟨rfl,rfl,trivial⟩
           ·
            refine JB.run 2 [10,11] [] ZB rfl ?_
            obtain⟨q6,i1,hx⟩:=ZS hx
            obtain⟨i2,q7,q8,i3,i4,i5,i6,q9,i7⟩:=RowOf.elem m i1
            obtain⟨rfl,rfl⟩:d2=i2∧d3=i3:=by simpa using i4
            obtain rfl:=i6
            refine JB.val (i:=12) [] rfl (R.ix U35 S3 rfl rfl i5) ?_
            refine JB.val (i:=13) [] rfl (R.ldo 5 S3 rfl rfl (i7 0 _ rfl)) ?_
            refine JB.run 3 [14,15,16] [] ZB rfl ?_
            refine JB.gX 100 hx rfl (λi8 hx=> ?_) (λi8 hx=> ?_)
            ·
             refine JB.run 28 [17,18,19,20,21,22,23,24,25,26,27,28,29,30,31,32,33,34,35,36,37,38,39,40,41,42,43,44] [] ZB rfl ?_
             refine JB.doneN (by kernel_rfl) ?_
             refine Run.nnz_sbk [] 10 ZB rfl ?_
             obtain rfl:=ZP c2 hx
             refine Run.nnz_kb [] 2 ZB rfl ?_
             clear hx;have hx:=c3
             simp only[Sum.elim_inl,Sum.elim_inr]at hx
             refine Run.nnz_kk [] 2 ZB rfl (ZU (vs:=[.bool false]) (K:=[]) (rst:=[_,_,_,_,_,_,_]) (.inl rfl) rfl rfl (Ze rfl rfl) ZH ?_)
             obtain rfl:=Option.some.inj hx
             exact⟨rfl,rfl,trivial⟩
            ·
             refine JB.run 2 [17,18] [] ZB rfl ?_
             obtain⟨r0,i9,hx⟩:=ZS hx
             obtain⟨j0,r1,r2,j1,j2,j3,j4,r3,j5⟩:=RowOf.elem m i9
             obtain⟨rfl,rfl⟩:d2=j0∧d3=j1:=by simpa using j2
             obtain rfl:=j4
             refine JB.val (i:=19) [] rfl (R.ix U35 S3 rfl rfl j3) ?_
             refine JB.val (i:=20) [] rfl (R.ldo 5 S3 rfl rfl (j5 0 _ rfl)) ?_
             refine JB.run 3 [21,22,23] [] ZB rfl ?_
             refine JB.gX 107 hx rfl (λj6 hx=> ?_) (λj6 hx=> ?_)
             ·
              refine JB.run 21 [24,25,26,27,28,29,30,31,32,33,34,35,36,37,38,39,40,41,42,43,44] [] ZB rfl ?_
              refine JB.doneN (by kernel_rfl) ?_
              refine Run.nnz_sbk [] 10 ZB rfl ?_
              obtain rfl:=ZP c2 hx
              refine Run.nnz_kb [] 2 ZB rfl ?_
              clear hx;have hx:=c3
              simp only[Sum.elim_inl,Sum.elim_inr]at hx
              refine Run.nnz_kk [] 2 ZB rfl (ZU (vs:=[.bool false]) (K:=[]) (rst:=[_,_,_,_,_,_,_]) (.inl rfl) rfl rfl (Ze rfl rfl) ZH ?_)
              obtain rfl:=Option.some.inj hx
              exact⟨rfl,rfl,trivial⟩
             ·
              refine JB.run 4 [24,25,26,27] [0] ZB rfl ?_
              obtain⟨r4,j7,hx⟩:=ZS hx
              obtain⟨j8,r5,r6,j9,k0,k1,k2,r7,k3⟩:=RowOf.elem m j7
              obtain⟨rfl,rfl⟩:d2=j8∧d3=j9:=by simpa using k0
              obtain rfl:=k2
              refine JB.val (i:=28) [] rfl (R.ix U35 S3 rfl rfl k1) ?_
              refine JB.val (i:=29) [] rfl (R.ldo 5 S3 rfl rfl (k3 0 _ rfl)) ?_
              obtain⟨k4,k5,hx⟩:=ZS hx
              obtain⟨r8,r9,s0,k6,k7,s1,k8⟩:=IsSlice.elem (d4.mono RU8.mono e2) k5
              obtain rfl:=k7
              refine JB.val (i:=30) [] rfl (R.ix U26 S5 rfl rfl k6) ?_
              refine JB.val (i:=31) [] rfl (R.ldH S5 rfl (k8 0 _ rfl)) ?_
              refine JB.val (i:=32) [] rfl (R.neq8 (a:=k4) (b:=(0:UInt8)) rfl rfl) ?_
              refine JB.run 2 [33,34] [] ZB rfl ?_
              refine JB.gX 118 hx rfl (λk9 hx=> ?_) (λk9 hx=> ?_)
              ·
               refine JB.run 10 [35,36,37,38,39,40,41,42,43,44] [] ZB rfl ?_
               refine JB.doneN (by kernel_rfl) ?_
               refine Run.nnz_sbk [] 10 ZB rfl ?_
               obtain rfl:=ZP c2 hx
               refine Run.nnz_kb [] 2 ZB rfl ?_
               clear hx;have hx:=c3
               simp only[Sum.elim_inl,Sum.elim_inr]at hx
               refine Run.nnz_kk [] 2 ZB rfl (ZU (vs:=[.bool false]) (K:=[]) (rst:=[_,_,_,_,_,_,_]) (.inl rfl) rfl rfl (Ze rfl rfl) ZH ?_)
               obtain rfl:=Option.some.inj hx
               exact⟨rfl,rfl,trivial⟩
              ·
               refine JB.run 4 [35,36,37,38] [1] ZB rfl ?_
               obtain⟨s2,l1,hx⟩:=ZS hx
               obtain⟨l2,s3,s4,l3,l4,l5,l6,s5,l7⟩:=RowOf.elem m l1
               obtain⟨rfl,rfl⟩:d2=l2∧d3=l3:=by simpa using l4
               obtain rfl:=l6
               refine JB.val (i:=39) [] rfl (R.ix U35 S3 rfl rfl l5) ?_
               refine JB.val (i:=40) [] rfl (R.ldo 5 S3 rfl rfl (l7 0 _ rfl)) ?_
               obtain⟨l8,l9,hx⟩:=ZS hx
               obtain⟨s6,s7,s8,s9,m0,m1,m2,t0,m3⟩:=RowOf.elem d5 l9
               subst m0
               obtain rfl:=m2
               refine JB.val (i:=41) [] rfl (R.ix U26 S5 rfl rfl m1) ?_
               refine JB.val (i:=42) [] rfl (R.ldo 3 S5 rfl rfl (m3 0 _ rfl)) ?_
               refine JB.val (i:=43) [] rfl (R.neq8 (a:=l8) (b:=(1:UInt8)) rfl rfl) ?_
               refine JB.val (i:=44) [] rfl (R.pickF rfl rfl) ?_
               refine JB.doneN (by kernel_rfl) ?_
               refine JN.next (ZK hx rfl (λm4 hx=> ?_) (λm4 hx=> ?_))
               ·
                refine Run.cnz_bk [] 8 ZB rfl ?_
                obtain rfl:=ZP c2 hx
                refine Run.nnz_kb [] 2 ZB rfl ?_
                clear hx;have hx:=c3
                simp only[Sum.elim_inl,Sum.elim_inr]at hx
                refine Run.nnz_kk [] 2 ZB rfl (ZU (vs:=[.bool false]) (K:=[]) (rst:=[_,_,_,_,_,_,_]) (.inl rfl) rfl rfl (Ze rfl rfl) ZH ?_)
                obtain rfl:=Option.some.inj hx
                exact⟨rfl,rfl,trivial⟩
               ·
                refine Run.clz_bs [] 5 ZB rfl (ZA rfl rfl (R.inc rfl rfl (of_decide_eq_true e8) (RowOf.lenI m)) (Run.lnz [] 2 ZB rfl ?_))
                replace hx:=Zb c2 hx
                refine ZC 6 rfl (ZC 6 rfl (ZC 6 rfl (ZC 6 rfl (ZC 6 rfl (ZC 6 rfl (ZC 6 rfl ?_))))))
                exact ZE ⟨d8+1,⟨rfl,rfl,rfl⟩,hx⟩ rfl rfl rfl
          ·
           refine Run.cnz_k [] 2 ZB rfl ?_
           obtain rfl:=ZP c2 hx
           refine Run.nnz_kb [] 2 ZB rfl (JN.forget 6 (JN.forget 3 (JN.forget 2 (JN.forget 1 (JN.forget 0 (ZC 1 rfl (ZC 1 rfl ?_)))))))
           exact ZE ⟨(),rfl,rfl,rfl,rfl⟩ rfl rfl rfl
end Go.Proofs.YtgiefadcpnegcaaGreat
