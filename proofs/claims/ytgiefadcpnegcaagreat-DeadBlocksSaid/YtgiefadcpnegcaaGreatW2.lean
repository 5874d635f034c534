import Derived.Test.YtgiefadcpnegcaaGreatW2p2
/- walks: what the code computes, function by function. -/
set_option linter.unusedSimpArgs false
set_option linter.unusedVariables false
namespace Go.Proofs.YtgiefadcpnegcaaGreat
open Go.Ow Go.RowKit Go.Proofs
set_option maxHeartbeats 8000000
theorem ref16_Loaded_ok{b8 k}:Con Tryz.prog 34 false (sp_Store false b8++sp_Ptr false k) (ref16_Loaded b8 k) (λr=> [.row true R_Ptr 32 5 r.1,.row true RInt 3 1 r.2.1,.i r.2.2]):=by
 intro H h1 h2 h3 b9 h4 h5 h6 c0 h7 h8 h9 c1 r hx
 refine Does.enterC Tryz.func34 rfl rfl ?_
 intro w
 unfold ref16_Loaded at hx
 refine Run.cl [] 2 ZB rfl (ZY rfl rfl (λi0 i1=>ZY rfl rfl (λi2 i3=>Run.ll_s [0] 9 ZB rfl (ZK hx E56 rfl ref10_None_ok rfl trivial ?_))))
 intro i4 i5 hx
 refine Run.lcz_s [] 2 ZB rfl (ZJ hx rfl (λd4 hx=> ?_) (λd4 hx=> ?_))
 ·
  refine Run.cnz_k [] 9 ZB rfl (ZL (ZL ?_))
  exact JN.con [0,0] rfl hx rfl ⟨⟨0,ZF _ _ _ _ _⟩,⟨0,ZF _ _ _ _ _⟩,rfl⟩
 ·
  refine Run.cl_s [1,0] 6 ZB rfl (ZK hx E57 rfl ref16_seen_ok rfl ⟨b9,c0,c1,trivial⟩ ?_)
  intro i6 i7 hx i8 i9 j0 j1 d5
  refine Run.lc_s [] 14 ZB rfl (ZJ hx rfl (λd6 hx=> ?_) (λd6 hx=> ?_))
  ·
   refine Run.cnz_k [] 10 ZB rfl (ZL (ZL ?_))
   exact JN.con [0,0] rfl hx rfl ⟨⟨0,ZF _ _ _ _ _⟩,⟨0,ZF _ _ _ _ _⟩,rfl⟩
  ·
   refine Run.cl_s [] 5 ZB rfl (JL.pubN 0 R_Ptr.mono rfl d5 (Nat.le_refl _) (λa3 a4 d7=>JL.forget 0 (ZK hx E58 rfl ref16_trim_ok rfl ⟨(d7.old R_Ptr.mono),trivial⟩ ?_)))
   intro j2 j3 hx j4 j5 j6 a
   refine Run.ll_s [] 13 ZB rfl (Zi 36 hx rfl (λd8 hx=> ?_) (λd8 hx=> ?_))
   ·
    refine Run.lnz_sk [] 16 ZB rfl (ZL (ZL ?_))
    exact JN.con [0,0] rfl hx rfl ⟨⟨0,ZF _ _ _ _ _⟩,⟨0,ZF _ _ _ _ _⟩,rfl⟩
   ·
    refine Run.llz [] 3 ZB rfl (ZA rfl rfl (ZQ U30 rfl (IsSlice.long a)) (Run.lcz_s [] 5 ZB rfl (ZJ hx rfl (λd9 hx=> ?_) (λd9 hx=> ?_))))
    ·
     refine Run.cnz_k [] 9 ZB rfl (ZL (ZL ?_))
     exact JN.con [0,0] rfl hx rfl ⟨⟨0,ZF _ _ _ _ _⟩,⟨0,ZF _ _ _ _ _⟩,rfl⟩
    ·
     refine Run.cc_s [] 18 ZB rfl (ZV hx [3] [0] rfl rfl (λa5 l0 o0 l o g=>∃m:List Ptr×List Int,∃b:Heaplet,∃a6:Option Addr,∃a7:Nat,∃a8:Nat,∃a9:Own,∃b0:Option Addr,∃b1:Nat,∃b2:Nat,∃b3:Own,l=(11,.slice a6 a7 a8)::(12,.slice b0 b1 b2)::l0∧o=a9::b3::o0∧b=g∧a5=.inl m∧Hle a3 b∧RowOf (New H b) R_Ptr w.heap.size 32 5 (.slice a6 a7 a8) m.1 a9∧RowOf (New H b) RInt w.heap.size 3 1 (.slice b0 b1 b2) m.2 b3) (λa5 j7 hx=> ?_) (λa5 p hx=> ?_))
     ·
      rintro _ _ _ ⟨m,b,a6,a7,a8,a9,b0,b1,b2,b3,rfl,rfl,rfl,rfl,j8,c2,e0⟩
      simp only[Sum.elim_inl]at hx
      refine Run.nl_s [] 5 ZB rfl (JL.conL hx E27 rfl ref16_May_ok rfl (λj9 e1 e2=>⟨(Lent.row' 0 e2 R_Ptr.mono e1 rfl (c2.old R_Ptr.mono)),trivial⟩) (λ_=>trivial) ?_)
      intro k0 k1 hx
      refine Run.lcz_s [] 3 ZB rfl (ZJ hx rfl (λe3 hx=> ?_) (λe3 hx=> ?_))
      ·
       refine Run.cnz_k [] 9 ZB rfl (ZL (ZL ?_))
       exact JN.con [0,0] rfl hx rfl ⟨⟨0,ZF _ _ _ _ _⟩,⟨0,ZF _ _ _ _ _⟩,rfl⟩
      ·
       refine Run.cl_s [2] 8 ZB rfl (Zt (HF:=(New H b)) (R:=RInt) (ls:=[k.At]) (vs:=[.int .i64 k.At]) U35 I3 rfl rfl (⟨_,_,rfl,rfl,rfl,rfl⟩) RInt.one rfl rfl rfl (by simp[maxLen]) rfl (λk2 k3 c3=> ?_))
       obtain⟨k4,k5,rfl⟩:=RowOf.val c3
       obtain⟨k6,e4,e5,hx⟩:=Zc hx
       refine Zk (HF:=(New H b)) 2 U35 I3 rfl rfl e0 rfl (SrcF.row 0 U35 rfl c3) e4 e5 rfl (Nat.le_refl _) rfl (λk7 k8 c4=> ?_)
       obtain⟨k9,l1,rfl⟩:=RowOf.val c4
       refine Run.lnz_s [] 6 ZB rfl ?_
       exact JN.con [1,1] rfl hx rfl ⟨⟨_,c2⟩,⟨_,c4⟩,rfl⟩
     ·
      refine JC.block (JC.seg0 (JC.seg0 (ZS 2 rfl (ZS 3 rfl (ZS 2 rfl (ZS 3 rfl (ZZ [2,3,9] [2,3] rfl rfl (λl0 o0 c l o g=>∃f:Heaplet,∃q:Option Addr,∃s:Nat,∃v:Nat,∃x:Own,∃y:Option Addr,∃z:Nat,∃a0:Nat,∃a1:Own,l=(11,.slice q s v)::(12,.slice y z a0)::(13,.int .i64 ((c.2.2:Nat):Int))::l0∧o=x::a1::o0∧f=g∧Hle a3 f∧RowOf (New H f) R_Ptr w.heap.size 32 5 (.slice q s v) c.1 x∧RowOf (New H f) RInt w.heap.size 3 1 (.slice y z a0) c.2.1 a1) hx ⟨a3,none,0,0,[],none,0,0,[],rfl,rfl,rfl,(Hle.refl _),(ZF _ _ _ _ _),(ZF _ _ _ _ _)⟩ rfl ?_)))))))
      ·
       rintro l2 c _ _ _ ⟨f,q,s,v,x,y,z,a0,a1,rfl,rfl,rfl,d,c5,c6⟩ l3 hx h
       unfold ref16_Loaded_l1 at hx
       refine Run.cl [] 5 ZB rfl (ZA rfl rfl (ZQ U30 rfl (IsSlice.long a)) (Run.lcz_s [] 3 ZB rfl (ZJ hx rfl (λb4 hx=> ?_) (λb4 hx=> ?_))))
       ·
        refine Run.cc_s [] 5 ZB rfl (Zn (so:=[(_,[]),(_,[]),(_,[]),(_,[])]) 11 rfl Mixed ⟨by kernel_rfl,by kernel_rfl⟩ (Zb [0,1,2,3] rfl) ?_)
        refine JB.run 3 [0,1,2] [2] ZB rfl ?_
        obtain⟨l4,e6,hx⟩:=ZR hx
        obtain⟨l5,l6,l7,e7,e8,l8,e9⟩:=IsSlice.elem (a.mono R_Ptr.mono d) e6
        obtain rfl:=e8
        refine JB.val (i:=3) [] rfl (R.ix U30 S32 rfl rfl e7) ?_
        refine JB.val (i:=4) [] rfl (R.ldHF 0 S32 rfl e9 rfl rfl) ?_
        refine JB.one (i:=5) (by kernel_rfl) ?_
        refine JOB.step rfl trivial rfl (λK hK=>ZK hx E57 rfl ref16_seen_ok rfl ⟨(b9.mono (RSl.mono RU8.mono) (a4.trans d)),(c0.mono R_Write.mono (a4.trans d)),(c1.mono RU8.mono (a4.trans d)),trivial⟩ ?_)
        intro l9 m0 hx m1 m2 m3 m4 f0
        refine ZN (hK _ _ _ (Hle.refl _) (Zb [1,2,3,4] rfl) ?_)
        refine JB.run 5 [6,7,8,9,10] [] ZB rfl ?_
        refine JB.doneN (by kernel_rfl) ?_
        refine Run.nc_s [] 8 ZB rfl (ZJ hx rfl (λf1 hx=> ?_) (λf1 hx=> ?_))
        ·
         refine Run.cnz_kbk [] 12 ZB rfl ?_
         obtain rfl:=ZP h hx
         refine Run.nnz_kb [] 2 ZB rfl ?_
         clear hx;have hx:=p
         simp only[Sum.elim_inl,Sum.elim_inr]at hx
         refine Run.nnz_kk [] 2 ZB rfl (ZL (ZL ?_))
         exact JN.con [0,0] rfl hx rfl ⟨⟨0,ZF _ _ _ _ _⟩,⟨0,ZF _ _ _ _ _⟩,rfl⟩
        ·
         refine Run.cl_s [] 5 ZB rfl (JL.pubN 0 R_Ptr.mono rfl f0 (Nat.le_refl _) (λj a2 f2=>JL.forget 0 (ZK hx E58 rfl ref16_trim_ok rfl ⟨(f2.old R_Ptr.mono),trivial⟩ ?_)))
         intro m5 m6 hx m7 m8 m9 b5
         refine Run.lc_s [] 8 ZB rfl (ZV hx [2,3,9,11,12,13,16] [2,3,0,1] rfl rfl (λb6 l0 o0 l o g=>∃c7:Unit,l=l0∧o=o0∧j=g∧b6=.inl c7) (λb6 n0 hx=> ?_) (λb6 b7 hx=> ?_))
         ·
          rintro _ _ _ ⟨c7,rfl,rfl,rfl,rfl⟩
          simp only[Sum.elim_inl]at hx
          refine Run.nl_s [] 5 ZB rfl ?_
          obtain⟨c8,f3,f4,hx⟩:=Zc hx
          refine Zk (HF:=(New H j)) 2 U30 I32 rfl rfl (c5.mono R_Ptr.mono (New.mono a2)) rfl (SrcF.sliceC R_Ptr.const R_Ptr.one U30 b5) f3 f4 rfl (Nat.le_refl _) rfl (λn1 f5 c9=> ?_)
          obtain⟨f6,f7,rfl⟩:=RowOf.val c9
          refine Run.llz_s [] 7 ZB rfl ?_
          obtain⟨d0,f8,hx⟩:=ZR hx
          obtain⟨n2,n3,n4,f9,g0,n5,g1⟩:=IsSlice.elem (a.mono R_Ptr.mono (d.trans a2)) f8
          obtain rfl:=g0
          refine ZA rfl rfl (R.ix U30 S32 rfl rfl f9) (ZA rfl rfl (R.fa F32_0 rfl) (ZA rfl rfl (R.ldH S3 rfl (g1 0 _ rfl)) (Zt (HF:=(New H j)) (R:=RInt) (ls:=[d0.At]) (vs:=[.int .i64 d0.At]) U35 I3 rfl rfl (⟨_,_,rfl,rfl,rfl,rfl⟩) RInt.one rfl rfl rfl (by simp[maxLen]) rfl (λn6 n7 d1=> ?_))))
          obtain⟨n8,n9,rfl⟩:=RowOf.val d1
          obtain⟨d2,g2,g3,hx⟩:=Zc hx
          refine Zk (HF:=(New H j)) 4 U35 I3 rfl rfl (c6.mono RInt.mono (New.mono a2)) rfl (SrcF.row 0 U35 rfl d1) g2 g3 rfl (Nat.le_refl _) rfl (λo1 g4 d3=> ?_)
          obtain⟨g5,g6,rfl⟩:=RowOf.val d3
          refine Run.llz_bs [] 6 ZB rfl (ZA rfl rfl (Zr rfl rfl (of_decide_eq_true b4) (IsSlice.lenI a)) (Run.lnz [] 2 ZB rfl ?_))
          replace hx:=ZU h hx
          refine JN.forget 0 (ZC 1 rfl (ZC 1 rfl (ZC 3 rfl (ZC 3 rfl ?_))))
          exact ZE ⟨(c8,d2,c.2.2+1),⟨j,f6,c8.length,f7,f5,g5,d2.length,g6,g4,rfl,rfl,rfl,((d.trans a2)),c9,d3⟩,hx⟩ rfl rfl rfl
         ·
          refine Run.cl [] 5 ZB rfl (Zi 66 hx rfl (λg7 hx=> ?_) (λg7 hx=> ?_))
          ·
           refine Run.lnz_s [] 27 ZB rfl ?_
           obtain rfl:=Option.some.inj hx
           clear hx;have hx:=b7
           simp only[Sum.elim_inl,Sum.elim_inr]at hx
           refine Run.nnz_kkb [] 3 ZB rfl (JN.passR ?_)
           obtain rfl:=ZP h hx
           refine Run.nnz_kb [] 2 ZB rfl ?_
           clear hx;have hx:=p
           simp only[Sum.elim_inl,Sum.elim_inr]at hx
           refine Run.nnz_kk [] 2 ZB rfl (ZL (ZL ?_))
           exact JN.con [0,0] rfl hx rfl ⟨⟨0,ZF _ _ _ _ _⟩,⟨0,ZF _ _ _ _ _⟩,rfl⟩
          ·
           refine Run.llz [] 3 ZB rfl (ZA rfl rfl (ZQ U30 rfl (IsSlice.long b5)) (Run.llz [] 4 ZB rfl (Zi 71 hx rfl (λg8 hx=> ?_) (λg8 hx=> ?_))))
           ·
            refine Run.lnz_s [] 22 ZB rfl ?_
            obtain rfl:=Option.some.inj hx
            clear hx;have hx:=b7
            simp only[Sum.elim_inl,Sum.elim_inr]at hx
            refine Run.nnz_kkb [] 3 ZB rfl (JN.passR ?_)
            obtain rfl:=ZP h hx
            refine Run.nnz_kb [] 2 ZB rfl ?_
            clear hx;have hx:=p
            simp only[Sum.elim_inl,Sum.elim_inr]at hx
            refine Run.nnz_kk [] 2 ZB rfl (ZL (ZL ?_))
            exact JN.con [0,0] rfl hx rfl ⟨⟨0,ZF _ _ _ _ _⟩,⟨0,ZF _ _ _ _ _⟩,rfl⟩
           ·
            refine Run.llz [] 3 ZB rfl (ZA rfl rfl (Zr rfl rfl (of_decide_eq_true b4) (IsSlice.lenI a)) (Run.llz [] 3 ZB rfl (ZA rfl rfl (ZQ U30 rfl (IsSlice.long a)) (Run.llz [] 4 ZB rfl (Zi 77 hx rfl (λg9 hx=> ?_) (λg9 hx=> ?_))))))
            ·
             refine Run.llz [] 3 ZB rfl (ZA rfl rfl (ZQ U30 rfl (IsSlice.long b5)) (Run.lcz_s [] 7 ZB rfl (ZJ hx rfl (λh0 hx=> ?_) (λh0 hx=> ?_))))
             ·
              refine Run.cnz [] 8 ZB rfl ?_
              obtain rfl:=Option.some.inj hx
              clear hx;have hx:=b7
              simp only[Sum.elim_inl,Sum.elim_inr]at hx
              refine Run.nnz_kkb [] 3 ZB rfl (JN.passR ?_)
              obtain rfl:=ZP h hx
              refine Run.nnz_kb [] 2 ZB rfl ?_
              clear hx;have hx:=p
              simp only[Sum.elim_inl,Sum.elim_inr]at hx
              refine Run.nnz_kk [] 2 ZB rfl (ZL (ZL ?_))
              exact JN.con [0,0] rfl hx rfl ⟨⟨0,ZF _ _ _ _ _⟩,⟨0,ZF _ _ _ _ _⟩,rfl⟩
             ·
              refine JC.skip ?_
              obtain rfl:=Option.some.inj hx
              refine ZC 1 rfl (ZC 1 rfl (ZC 3 rfl (ZC 3 rfl ?_)))
              exact ZE ⟨(),rfl,rfl,rfl,rfl⟩ rfl rfl rfl
            ·
             refine Run.lnz_s [] 10 ZB rfl ?_
             obtain rfl:=Option.some.inj hx
             refine ZC 1 rfl (ZC 1 rfl (ZC 3 rfl (ZC 3 rfl ?_)))
             exact ZE ⟨(),rfl,rfl,rfl,rfl⟩ rfl rfl rfl
       ·
        refine Run.cnz_k [] 2 ZB rfl ?_
        obtain rfl:=ZP h hx
        refine Run.nnz_kb [] 2 ZB rfl (JN.forget 2 (ZC 2 rfl (ZC 2 rfl (ZC 2 rfl ?_))))
        exact ZE ⟨(c.1,c.2.1),f,q,s,v,x,y,z,a0,a1,rfl,rfl,rfl,rfl,(d),c5,c6⟩ rfl rfl rfl
theorem ref16_Load_ok{a b}:Con Tryz.prog 10 false (sp_Store false a++sp_Ptr false b) (ref16_Load a b) (λr=> [.row true R_Ptr 32 5 r.1,.row true RInt 3 1 r.2.1,.i r.2.2]):=by
 intro H p q s c v x y d z a0 a1 f r hx
 refine Does.enterC Tryz.func10 rfl rfl ?_
 intro w
 unfold ref16_Load at hx
 refine Run.cl [] 2 ZB rfl (ZY rfl rfl (λa2 a3=>ZY rfl rfl (λa4 a5=>Run.ll_s [1] 9 ZB rfl (ZK hx E26 rfl ref13_May_ok rfl ⟨c,d,f,trivial⟩ ?_))))
 intro a6 a7 hx
 refine Run.llz [] 2 ZB rfl (Zi 10 hx rfl (λh hx=> ?_) (λh hx=> ?_))
 ·
  refine Run.lnz_sk [] 16 ZB rfl (ZL (ZL ?_))
  exact JN.con [0,0] rfl hx rfl ⟨⟨0,ZF _ _ _ _ _⟩,⟨0,ZF _ _ _ _ _⟩,rfl⟩
 ·
  refine Run.llz [0] 3 ZB rfl (ZK hx E33 rfl ref10_May_ok rfl trivial ?_)
  intro a8 a9 hx
  refine Run.lcz_s [] 5 ZB rfl (ZJ hx rfl (λj hx=> ?_) (λj hx=> ?_))
  ·
   refine Run.cnz_k [] 9 ZB rfl (ZL (ZL ?_))
   exact JN.con [0,0] rfl hx rfl ⟨⟨0,ZF _ _ _ _ _⟩,⟨0,ZF _ _ _ _ _⟩,rfl⟩
  ·
   refine Run.cl_s [1,0] 6 ZB rfl (JL.con hx E34 rfl ref16_Loaded_ok rfl ⟨c,d,f,trivial⟩ ?_)
   intro b0 b1 hx b2 b3 b4 b5 b6 b7 k b8 b9 c0 c1 m
   refine Run.lnz_s [] 9 ZB rfl ?_
   exact JN.con [0,0] rfl hx rfl ⟨⟨_,k⟩,⟨_,m⟩,rfl⟩
theorem ref09_Same_ok{v x}:Con Tryz.prog 35 true (sp_Disk false v++sp_Disk false x) (ref09_Same v x) (λr=> [.b r]):=by
 intro H c9 d0 d1 h d2 d3 d4 f d5 d6 d7 y d8 d9 e0 z r hx
 refine Does.enterC Tryz.func35 rfl rfl ?_
 intro w
 unfold ref09_Same at hx
 refine Run.cl [] 2 ZB rfl (ZY rfl rfl (λe1 e2=>ZY rfl rfl (λe3 e4=>Run.ll_s [1] 8 ZB rfl (ZA rfl rfl (ZQ U22 rfl (IsSlice.long h)) (Run.llz [0] 2 ZB rfl (ZA rfl rfl (ZQ U22 rfl (IsSlice.long y)) (Run.llz [] 2 ZB rfl (Zi 17 hx rfl (λa4 hx=> ?_) (λa4 hx=> ?_)))))))))
 ·
  refine Run.lnz_sk [] 18 ZB rfl ?_
  exact ZI [] rfl hx rfl rfl
 ·
  refine Run.llz [1] 5 ZB rfl (ZA rfl rfl (ZQ U23 rfl (IsSlice.long f)) (Run.llz [0] 5 ZB rfl (ZA rfl rfl (ZQ U23 rfl (IsSlice.long z)) (Run.lcz_s [] 5 ZB rfl (ZJ hx rfl (λa5 hx=> ?_) (λa5 hx=> ?_))))))
  ·
   refine Run.cnz_k [] 7 ZB rfl ?_
   exact ZI [] rfl hx rfl rfl
  ·
   refine Run.cc_s [] 13 ZB rfl (ZV hx [2,3] [1,0] rfl rfl (λm l0 o0 l o g=>l=(5,.int .i64 m)::l0∧o=o0∧H=g) (λm e5 hx=> ?_) (λm e6 hx=> ?_))
   ·
    rintro _ _ _ ⟨rfl,rfl,rfl⟩
    refine Run.nc_s [] 7 ZB rfl (ZV hx [] [] rfl rfl (λp l0 o0 l o g=>l=(5,.int .i64 p)::l0∧o=o0∧H=g) (λp e7 hx=> ?_) (λp e8 hx=> ?_))
    ·
     rintro _ _ _ ⟨rfl,rfl,rfl⟩
     refine Run.nnz_s [] 9 ZB rfl ?_
     exact ZI [] rfl hx rfl rfl
    ·
     refine JC.block (ZS 1 rfl (ZS 1 rfl (ZZ [2,3] [0,1] rfl rfl (λl0 o0 c l o g=>l=(5,.int .i64 c.1)::(7,.int .i64 ((c.2:Nat):Int))::l0∧o=o0∧H=g) hx ⟨rfl,rfl,rfl⟩ rfl ?_)))
     ·
      rintro e9 c _ _ _ ⟨rfl,rfl,rfl⟩ f0 hx j
      unfold ref09_Same_l2 at hx
      refine Run.cl [0] 6 ZB rfl (ZA rfl rfl (ZQ U23 rfl (IsSlice.long f)) (Run.lcz_s [] 3 ZB rfl (ZJ hx rfl (λk hx=> ?_) (λk hx=> ?_))))
      ·
       refine Run.cl_s [0] 9 ZB rfl ?_
       obtain⟨a6,a7,hx⟩:=ZR hx
       obtain⟨f1,f2,f3,a8,a9,f4,b0⟩:=IsSlice.elem f a7
       obtain⟨f5,rfl,a0⟩:=a9
       obtain⟨f6,f7,rfl⟩:=IsSlice.val a0
       refine ZA rfl rfl (R.ix U23 S78 rfl rfl a8) (ZA rfl rfl (R.ldHF 0 S78 rfl b0 rfl rfl) (JL.alloc Z78 rfl (λf8 f9=>Run.ll_s [0,2] 8 ZB rfl ?_)))
       obtain⟨b1,b2,hx⟩:=ZR hx
       obtain⟨g0,g1,g2,b3,b4,g3,b5⟩:=IsSlice.elem z b2
       obtain⟨g4,rfl,a1⟩:=b4
       obtain⟨g5,g6,rfl⟩:=IsSlice.val a1
       refine ZA rfl rfl (R.ix U23 S78 rfl rfl b3) (ZA rfl rfl (R.ldHF 0 S78 rfl b5 rfl rfl) (JL.alloc Z78 rfl (λg7 g8=>Run.ll_s [0,1,0] 11 ZB rfl (Zi 70 hx rfl (λb6 hx=> ?_) (λb6 hx=> ?_)))))
       ·
        refine Run.llz_sbs [] 20 ZB rfl (ZA rfl rfl (Zr rfl rfl (of_decide_eq_true k) (IsSlice.lenI f)) (Run.lnz [] 2 ZB rfl ?_))
        replace hx:=ZU j hx
        refine JN.forget 1 (JN.forget 0 (ZC 1 rfl (ZC 1 rfl ?_)))
        exact ZE ⟨(w64 (c.1+1),c.2+1),⟨rfl,rfl,rfl⟩,hx⟩ rfl rfl rfl
       ·
        refine Run.llz [1] 5 ZB rfl (ZA rfl rfl (R.toStr U26 U5 U9 rfl a0) (Run.llz [0] 5 ZB rfl (ZA rfl rfl (R.toStr U26 U5 U9 rfl a1) (JL.gYes rfl rfl rfl (ZA rfl rfl (R.neqStr (a:=a6.Data) (b:=b1.Data) rfl rfl) (Run.lcz_s [] 3 ZB rfl (ZJ hx rfl (λb7 hx=> ?_) (λb7 hx=> ?_))))))))
        ·
         refine Run.clz_bs [] 9 ZB rfl (ZA rfl rfl (Zr rfl rfl (of_decide_eq_true k) (IsSlice.lenI f)) (Run.lnz [] 2 ZB rfl ?_))
         replace hx:=ZU j hx
         refine JN.forget 1 (JN.forget 0 (ZC 1 rfl (ZC 1 rfl ?_)))
         exact ZE ⟨(w64 (c.1+1),c.2+1),⟨rfl,rfl,rfl⟩,hx⟩ rfl rfl rfl
        ·
         refine Run.clz_bs [] 5 ZB rfl (ZA rfl rfl (Zr rfl rfl (of_decide_eq_true k) (IsSlice.lenI f)) (Run.lnz [] 2 ZB rfl ?_))
         replace hx:=ZU j hx
         refine JN.forget 1 (JN.forget 0 (ZC 1 rfl (ZC 1 rfl ?_)))
         exact ZE ⟨(c.1,c.2+1),⟨rfl,rfl,rfl⟩,hx⟩ rfl rfl rfl
      ·
       refine Run.cnz_k [] 2 ZB rfl ?_
       obtain rfl:=ZP j hx
       refine Run.nnz_kb [] 2 ZB rfl (JN.forget 1 (JN.forget 0 ?_))
       exact ZE ⟨rfl,rfl,rfl⟩ rfl rfl rfl
   ·
    refine JC.block (ZS 1 rfl (ZZ [2,3] [0,1] rfl rfl (λl0 o0 d l o g=>l=(5,.int .i64 d.1)::(6,.int .i64 ((d.2:Nat):Int))::l0∧o=o0∧H=g) hx ⟨rfl,rfl,rfl⟩ rfl ?_))
    ·
     rintro g9 d _ _ _ ⟨rfl,rfl,rfl⟩ h0 hx q
     unfold ref09_Same_l1 at hx
     refine Run.cl [0] 6 ZB rfl (ZA rfl rfl (ZQ U22 rfl (IsSlice.long h)) (Run.lcz_s [] 3 ZB rfl (ZJ hx rfl (λs hx=> ?_) (λs hx=> ?_))))
     ·
      refine Run.cc_s [] 5 ZB rfl (Zn (so:=[(_,[]),(_,[])]) 13 rfl Mixed ⟨by kernel_rfl,by kernel_rfl⟩ (Zb [0,1] rfl) ?_)
      refine JB.run 3 [0,1,2] [0] ZB rfl ?_
      obtain⟨b8,b9,hx⟩:=ZR hx
      obtain⟨h1,h2,h3,c0,c1,h4,c2⟩:=IsSlice.elem h b9
      obtain⟨h5,rfl,a2⟩:=c1
      obtain⟨h6,h7,rfl⟩:=IsSlice.val a2
      refine JB.val (i:=3) [] rfl (R.ix U22 S26 rfl rfl c0) ?_
      refine JB.val (i:=4) [] rfl (R.ldH S26 rfl (c2 0 _ rfl)) ?_
      refine JB.val (i:=5) [] rfl (R.toStr U26 U5 U9 rfl a2) ?_
      refine JB.run 3 [6,7,8] [1] ZB rfl ?_
      obtain⟨c3,c4,hx⟩:=ZR hx
      obtain⟨h8,h9,i0,c5,c6,i1,c7⟩:=IsSlice.elem y c4
      obtain⟨i2,rfl,a3⟩:=c6
      obtain⟨i3,i4,rfl⟩:=IsSlice.val a3
      refine JB.val (i:=9) [] rfl (R.ix U22 S26 rfl rfl c5) ?_
      refine JB.val (i:=10) [] rfl (R.ldH S26 rfl (c7 0 _ rfl)) ?_
      refine JB.val (i:=11) [] rfl (R.toStr U26 U5 U9 rfl a3) ?_
      refine JB.val (i:=12) [] rfl (R.neqStr (a:=b8) (b:=c3) rfl rfl) ?_
      refine JB.doneN (by kernel_rfl) ?_
      refine JN.next (ZJ hx rfl (λc8 hx=> ?_) (λc8 hx=> ?_))
      ·
       refine Run.clz_bs [] 9 ZB rfl (ZA rfl rfl (Zr rfl rfl (of_decide_eq_true s) (IsSlice.lenI h)) (Run.lnz [] 2 ZB rfl ?_))
       replace hx:=ZU q hx
       refine ZC 1 rfl (ZC 1 rfl ?_)
       exact ZE ⟨(w64 (d.1+1),d.2+1),⟨rfl,rfl,rfl⟩,hx⟩ rfl rfl rfl
      ·
       refine Run.clz_bs [] 5 ZB rfl (ZA rfl rfl (Zr rfl rfl (of_decide_eq_true s) (IsSlice.lenI h)) (Run.lnz [] 2 ZB rfl ?_))
       replace hx:=ZU q hx
       refine ZC 1 rfl (ZC 1 rfl ?_)
       exact ZE ⟨(d.1,d.2+1),⟨rfl,rfl,rfl⟩,hx⟩ rfl rfl rfl
     ·
      refine Run.cnz_k [] 2 ZB rfl ?_
      obtain rfl:=ZP q hx
      refine Run.nnz_kb [] 2 ZB rfl (ZC 1 rfl (ZC 1 rfl ?_))
      exact ZE ⟨rfl,rfl,rfl⟩ rfl rfl rfl
theorem ref13_Same_ok{c d}:Con Tryz.prog 11 true (sp_Store false c++sp_Store false d) (ref13_Same c d) (λr=> [.b r]):=by
 intro H x y z h a0 a1 a2 i a3 a4 a5 j a6 a7 a8 k a9 b0 b1 m b2 b3 b4 p r hx
 refine Does.enterC Tryz.func11 rfl rfl ?_
 intro w
 unfold ref13_Same at hx
 refine Run.cl [] 2 ZB rfl (ZY rfl rfl (λb5 b6=>ZY rfl rfl (λb7 b8=>Run.lc_s [] 4 ZB rfl (ZV hx [] [] rfl rfl (λf l0 o0 l o g=>l=(4,.bool f)::l0∧o=o0∧H=g) (λf b9 hx=> ?_) (λf c0 hx=> ?_)))))
 ·
  rintro _ _ _ ⟨rfl,rfl,rfl⟩
  refine Run.nnz_s [] 2 ZB rfl ?_
  exact ZI [] rfl hx rfl rfl
 ·
  refine Run.clz [1,0] 5 ZB rfl (ZK hx E35 rfl ref09_Same_ok rfl ⟨h,i,k,m,trivial⟩ ?_)
  intro c1 c2 hx
  refine ZA rfl rfl (Zd rfl) (Zi 10 hx rfl (λq hx=> ?_) (λq hx=> ?_))
  ·
   refine Run.llz [1] 5 ZB rfl (ZA rfl rfl (R.toStr U26 U5 U9 rfl j) (Run.llz [0] 5 ZB rfl (ZA rfl rfl (R.toStr U26 U5 U9 rfl p) (JL.gYes rfl rfl rfl (ZA rfl rfl (R.eqlStr (a:=c.Space) (b:=d.Space) rfl rfl) (Run.llz [] 2 ZB rfl (Zi 19 hx rfl (λs hx=> ?_) (λs hx=> ?_))))))))
   ·
    refine Run.llz [1,0] 9 ZB rfl (ZA rfl rfl (R.eql32 (a:=c.Epoch) (b:=d.Epoch) rfl rfl) (Run.llz [] 2 ZB rfl (Zi 26 hx rfl (λv hx=> ?_) (λv hx=> ?_))))
    ·
     refine Run.llz [1,0] 9 ZB rfl (ZA rfl rfl (R.eql32 (a:=c.Count) (b:=d.Count) rfl rfl) (Run.lnz [] 3 ZB rfl ?_))
     obtain rfl:=Option.some.inj hx
     refine JN.forget 1 (JN.forget 0 ?_)
     exact ZE ⟨rfl,rfl,rfl⟩ rfl rfl rfl
    ·
     refine Run.lnz [] 8 ZB rfl ?_
     obtain rfl:=Option.some.inj hx
     refine JN.forget 1 (JN.forget 0 ?_)
     exact ZE ⟨rfl,rfl,rfl⟩ rfl rfl rfl
   ·
    refine Run.lnz [] 15 ZB rfl ?_
    obtain rfl:=Option.some.inj hx
    refine JN.forget 1 (JN.forget 0 ?_)
    exact ZE ⟨rfl,rfl,rfl⟩ rfl rfl rfl
  ·
   refine Run.lnz [] 24 ZB rfl ?_
   obtain rfl:=Option.some.inj hx
   refine JN.forget 1 (JN.forget 0 ?_)
   exact ZE ⟨rfl,rfl,rfl⟩ rfl rfl rfl
theorem ref12_Same_ok{h j}:Con Tryz.prog 12 true ([.sl false RInt 1 h,.sl false RInt 1 j]) (ref12_Same h j) (λr=> [.b r]):=by
 intro H a5 a6 a7 a a8 a9 b0 k r hx
 refine Does.enterC Tryz.func12 rfl rfl ?_
 intro w
 unfold ref12_Same at hx
 refine Run.cl [] 9 ZB rfl (ZA rfl rfl (ZQ U35 rfl (IsSlice.long a)) (ZA rfl rfl (Zd rfl) (ZA rfl rfl (ZQ U35 rfl (IsSlice.long k)) (Run.lcz_s [] 3 ZB rfl (ZJ hx rfl (λq hx=> ?_) (λq hx=> ?_))))))
 ·
  refine Run.cnz_k [] 7 ZB rfl ?_
  exact ZI [] rfl hx rfl rfl
 ·
  refine Run.cc_s [] 8 ZB rfl (ZV hx [] [] rfl rfl (λc l0 o0 l o g=>∃m:Unit,l=l0∧o=o0∧H=g∧c=.inl m) (λc b1 hx=> ?_) (λc s hx=> ?_))
  ·
   rintro _ _ _ ⟨m,rfl,rfl,rfl,rfl⟩
   simp only[Sum.elim_inl]at hx
   refine Run.nnz_s [] 7 ZB rfl ?_
   exact ZI [] rfl hx rfl rfl
  ·
   refine JC.block (ZZ [0,1] [] rfl rfl (λl0 o0 d l o g=>l=(5,.int .i64 ((d:Nat):Int))::l0∧o=o0∧H=g) hx ⟨rfl,rfl,rfl⟩ rfl ?_)
   ·
    rintro b2 d _ _ _ ⟨rfl,rfl,rfl⟩ b3 hx f
    unfold ref12_Same_l1 at hx
    refine Run.cl [] 5 ZB rfl (ZA rfl rfl (ZQ U35 rfl (IsSlice.long a)) (Run.lcz_s [] 3 ZB rfl (ZJ hx rfl (λp hx=> ?_) (λp hx=> ?_))))
    ·
     refine Run.cc_s [] 5 ZB rfl (Zn (so:=[]) 9 rfl Mixed ⟨by kernel_rfl,by kernel_rfl⟩ (Zb [] rfl) ?_)
     refine JB.run 2 [0,1] [] ZB rfl ?_
     obtain⟨b4,v,hx⟩:=ZR hx
     obtain⟨b5,b6,b7,x,y,b8,z⟩:=IsSlice.elem a v
     obtain rfl:=y
     refine JB.val (i:=2) [] rfl (R.ix U35 S3 rfl rfl x) ?_
     refine JB.val (i:=3) [] rfl (R.ldH S3 rfl (z 0 _ rfl)) ?_
     refine JB.run 2 [4,5] [] ZB rfl ?_
     obtain⟨b9,a0,hx⟩:=ZR hx
     obtain⟨c0,c1,c2,a1,a2,c3,a3⟩:=IsSlice.elem k a0
     obtain rfl:=a2
     refine JB.val (i:=6) [] rfl (R.ix U35 S3 rfl rfl a1) ?_
     refine JB.val (i:=7) [] rfl (R.ldH S3 rfl (a3 0 _ rfl)) ?_
     refine JB.val (i:=8) [] rfl (R.neq_i rfl rfl) ?_
     refine JB.doneN (by kernel_rfl) ?_
     refine JN.next (ZJ hx rfl (λa4 hx=> ?_) (λa4 hx=> ?_))
     ·
      refine Run.cnz_bk [] 8 ZB rfl ?_
      obtain rfl:=ZP f hx
      refine Run.nnz_kb [] 2 ZB rfl ?_
      clear hx;have hx:=s
      simp only[Sum.elim_inl,Sum.elim_inr]at hx
      refine Run.nnz_kk [] 2 ZB rfl ?_
      exact ZI [] rfl hx rfl rfl
     ·
      refine Run.clz_bs [] 5 ZB rfl (ZA rfl rfl (Zr rfl rfl (of_decide_eq_true p) (IsSlice.lenI a)) (Run.lnz [] 2 ZB rfl ?_))
      replace hx:=ZU f hx
      exact ZE ⟨d+1,⟨rfl,rfl,rfl⟩,hx⟩ rfl rfl rfl
    ·
     refine Run.cnz_k [] 2 ZB rfl ?_
     obtain rfl:=ZP f hx
     refine Run.nnz_kb [] 2 ZB rfl ?_
     exact ZE ⟨(),rfl,rfl,rfl,rfl⟩ rfl rfl rfl
theorem ref10_Same_ok{m p}:Con Tryz.prog 13 true ([.sl false R_Ptr 5 m,.sl false R_Ptr 5 p]) (ref10_Same m p) (λr=> [.b r]):=by
 intro H a8 a9 b0 c b1 b2 b3 q r hx
 refine Does.enterC Tryz.func13 rfl rfl ?_
 intro w
 unfold ref10_Same at hx
 refine Run.cl [] 9 ZB rfl (ZA rfl rfl (ZQ U30 rfl (IsSlice.long c)) (ZA rfl rfl (Zd rfl) (ZA rfl rfl (ZQ U30 rfl (IsSlice.long q)) (Run.lcz_s [] 3 ZB rfl (ZJ hx rfl (λx hx=> ?_) (λx hx=> ?_))))))
 ·
  refine Run.cnz_k [] 7 ZB rfl ?_
  exact ZI [] rfl hx rfl rfl
 ·
  refine Run.cc_s [] 8 ZB rfl (ZV hx [] [] rfl rfl (λh l0 o0 l o g=>∃s:Unit,l=l0∧o=o0∧H=g∧h=.inl s) (λh b4 hx=> ?_) (λh y hx=> ?_))
  ·
   rintro _ _ _ ⟨s,rfl,rfl,rfl,rfl⟩
   simp only[Sum.elim_inl]at hx
   refine Run.nnz_s [] 7 ZB rfl ?_
   exact ZI [] rfl hx rfl rfl
  ·
   refine JC.block (ZZ [0,1] [] rfl rfl (λl0 o0 j l o g=>l=(5,.int .i64 ((j:Nat):Int))::l0∧o=o0∧H=g) hx ⟨rfl,rfl,rfl⟩ rfl ?_)
   ·
    rintro b5 j _ _ _ ⟨rfl,rfl,rfl⟩ b6 hx k
    unfold ref10_Same_l1 at hx
    refine Run.cl [] 5 ZB rfl (ZA rfl rfl (ZQ U30 rfl (IsSlice.long c)) (Run.lcz_s [] 3 ZB rfl (ZJ hx rfl (λv hx=> ?_) (λv hx=> ?_))))
    ·
     refine Run.cc_s [] 5 ZB rfl (Zn (so:=[]) 9 rfl Mixed ⟨by kernel_rfl,by kernel_rfl⟩ (Zb [] rfl) ?_)
     refine JB.run 2 [0,1] [] ZB rfl ?_
     obtain⟨d,z,hx⟩:=ZR hx
     obtain⟨b7,b8,b9,a0,a1,c0,a2⟩:=IsSlice.elem c z
     obtain rfl:=a1
     refine JB.val (i:=2) [] rfl (R.ix U30 S32 rfl rfl a0) ?_
     refine JB.val (i:=3) [] rfl (R.ldHF 0 S32 rfl a2 rfl rfl) ?_
     refine JB.run 2 [4,5] [] ZB rfl ?_
     obtain⟨f,a3,hx⟩:=ZR hx
     obtain⟨c1,c2,c3,a4,a5,c4,a6⟩:=IsSlice.elem q a3
     obtain rfl:=a5
     refine JB.val (i:=6) [] rfl (R.ix U30 S32 rfl rfl a4) ?_
     refine JB.val (i:=7) [] rfl (R.ldHF 0 S32 rfl a6 rfl rfl) ?_
     refine JB.val (i:=8) [] rfl (R.neqAgg QU32 QP32 QG32 QF32 rfl rfl (EqF.i (by decide) S3 U3 rfl rfl (EqF.u32 (a:=d.Birth) (b:=f.Birth) (by decide) S27 U27 rfl rfl (EqF.u32 (a:=d.Iv) (b:=f.Iv) (by decide) S27 U27 rfl rfl (EqF.u32 (a:=d.Tag) (b:=f.Tag) (by decide) S27 U27 rfl rfl (EqF.u32 (a:=d.Sum) (b:=f.Sum) (by decide) S27 U27 rfl rfl EqF.nil)))))) ?_
     refine JB.doneN (by kernel_rfl) ?_
     refine JN.next (ZJ hx rfl (λa7 hx=> ?_) (λa7 hx=> ?_))
     ·
      refine Run.cnz_bk [] 8 ZB rfl ?_
      obtain rfl:=ZP k hx
      refine Run.nnz_kb [] 2 ZB rfl ?_
      clear hx;have hx:=y
      simp only[Sum.elim_inl,Sum.elim_inr]at hx
      refine Run.nnz_kk [] 2 ZB rfl ?_
      exact ZI [] rfl hx rfl rfl
     ·
      refine Run.clz_bs [] 5 ZB rfl (ZA rfl rfl (Zr rfl rfl (of_decide_eq_true v) (IsSlice.lenI c)) (Run.lnz [] 2 ZB rfl ?_))
      replace hx:=ZU k hx
      exact ZE ⟨j+1,⟨rfl,rfl,rfl⟩,hx⟩ rfl rfl rfl
    ·
     refine Run.cnz_k [] 2 ZB rfl ?_
     obtain rfl:=ZP k hx
     refine Run.nnz_kb [] 2 ZB rfl ?_
     exact ZE ⟨(),rfl,rfl,rfl,rfl⟩ rfl rfl rfl
theorem law16_DeadBlocks_ok (d:Store)(c5:UInt32)(l9:List Ptr)(c:Ptr)(H:Heaplet){z:Option Addr}{a0:Nat}{a1:Nat}{a2:Option Addr}{a3:Nat}{a4:Nat}{a5:Option Addr}{a6:Nat}{a7:Nat}{a8:Option Addr}{a9:Nat}{b0:Nat}(h6:IsSlice H (RSl RU8 1) 1 (.slice z a0 a1) d.Disk.Blocks)(h7:IsSlice H R_Write 2 (.slice a2 a3 a4) d.Disk.Waits)(h8:IsSlice H RU8 1 (.slice a5 a6 a7) d.Space)(h9:IsSlice H R_Ptr 5 (.slice a8 a9 b0) l9)(r:Bool)(hx:law16_DeadBlocks d c5 l9 c=some r):
  Does Tryz.prog 3 #[.agg #[.slice z a0 a1,.slice a2 a3 a4,.slice a5 a6 a7,.int .u32 (d.Epoch.toNat:Int),.int .u32 (d.Count.toNat:Int)],.int .u32 (c5.toNat:Int),.slice a8 a9 b0,.agg #[.int .i64 c.At,.int .u32 (c.Birth.toNat:Int),.int .u32 (c.Iv.toNat:Int),.int .u32 (c.Tag.toNat:Int),.int .u32 (c.Sum.toNat:Int)]] [] H (λu K' H'=>u=.bool r∧K'= []∧True):=by
 refine Does.enterL (vs:=[.agg #[.slice z a0 a1,.slice a2 a3 a4,.slice a5 a6 a7,.int .u32 (d.Epoch.toNat:Int),.int .u32 (d.Count.toNat:Int)],.int .u32 (c5.toNat:Int),.slice a8 a9 b0,.agg #[.int .i64 c.At,.int .u32 (c.Birth.toNat:Int),.int .u32 (c.Iv.toNat:Int),.int .u32 (c.Tag.toNat:Int),.int .u32 (c.Sum.toNat:Int)]]) (l:=[(0,.agg #[.slice z a0 a1,.slice a2 a3 a4,.slice a5 a6 a7,.int .u32 (d.Epoch.toNat:Int),.int .u32 (d.Count.toNat:Int)]),(1,.int .u32 (c5.toNat:Int)),(2,.slice a8 a9 b0),(3,.agg #[.int .i64 c.At,.int .u32 (c.Birth.toNat:Int),.int .u32 (c.Iv.toNat:Int),.int .u32 (c.Tag.toNat:Int),.int .u32 (c.Sum.toNat:Int)])]) Tryz.func3 rfl rfl ⟨rfl,rfl,rfl,rfl,trivial⟩ (λw hlt=> ?_)
 unfold law16_DeadBlocks at hx
 refine Run.cl [] 2 ZB rfl (ZY rfl rfl (λm y1=>ZY rfl rfl (λb1 y2=>Run.ll_s [1] 7 ZB rfl (ZK hx E5 rfl ref13_Great_ok rfl ⟨h6,h7,h8,trivial⟩ ?_))))
 intro y3 y4 hx
 refine ZA rfl rfl (Zd rfl) (Zi 28 hx rfl (λr3 hx=> ?_) (λr3 hx=> ?_))
 ·
  refine Run.lnz_sk [] 14 ZB rfl (Zj (vs:=[.bool true]) (K:=[]) (rst:=[_,_]) (.inl rfl) rfl rfl (Res.tmp rfl rfl) ZM ?_)
  obtain rfl:=Option.some.inj hx
  exact⟨rfl,rfl,trivial⟩
 ·
  refine Run.llz [] 3 ZB rfl (ZA rfl rfl (ZQ U30 rfl (IsSlice.long h9)) (Run.lcz_s [] 5 ZB rfl (ZJ hx rfl (λr4 hx=> ?_) (λr4 hx=> ?_))))
  ·
   refine Run.cnz_k [] 7 ZB rfl (Zj (vs:=[.bool true]) (K:=[]) (rst:=[_,_]) (.inl rfl) rfl rfl (Res.tmp rfl rfl) ZM ?_)
   obtain rfl:=Option.some.inj hx
   exact⟨rfl,rfl,trivial⟩
  ·
   refine Run.cl_s [1] 5 ZB rfl (JL.con hx E6 rfl ref13_Twin_ok rfl ⟨h6,h7,h8,trivial⟩ ?_)
   intro q y5 hx r5 f0 b2 b3 b4 g5 r6 b5 b6 b7 e7 r7 b8 b9 c0 d2 r8
   refine ZA rfl rfl (Zd rfl) (JL.seg0 ?_)
   obtain⟨c1,r9,s0,hx⟩:=Zc hx
   refine Zk (HF:=(New H r5)) 0 U30 I32 rfl rfl (ZF _ R_Ptr _ _ _) rfl (SrcF.sliceC R_Ptr.const R_Ptr.one U30 (h9.mono R_Ptr.mono f0)) r9 s0 rfl (Nat.le_refl _) rfl (λy6 m0 m1=> ?_)
   obtain⟨c2,c3,rfl⟩:=RowOf.val m1
   refine JL.alloc Z29 rfl (λs y7=>Run.lcz_s [0] 4 ZB rfl (JC.tidy (l':=[(1,.int .u32 (c5.toNat:Int)),(2,.slice a8 a9 b0),(4,.pointer (some ⟨m,0,none⟩)),(7,.pointer (some ⟨b1,0,none⟩)),(8,.bool false),(9,.pointer (some ⟨s,0,none⟩)),(10,.slice c2 c1.length c3)]) (own':=[[(s,.cells #[.slice b2 b3 b4,.slice b5 b6 b7,.slice b8 b9 c0,.int .u32 (q.Epoch.toNat:Int),.int .u32 (q.Count.toNat:Int)] 29 (0,0))],m0,g5,e7,d2,[(b1,.cells #[.int .i64 c.At,.int .u32 (c.Birth.toNat:Int),.int .u32 (c.Iv.toNat:Int),.int .u32 (c.Tag.toNat:Int),.int .u32 (c.Sum.toNat:Int)] 32 (0,0))],[(m,.cells #[.slice z a0 a1,.slice a2 a3 a4,.slice a5 a6 a7,.int .u32 (d.Epoch.toNat:Int),.int .u32 (d.Count.toNat:Int)] 29 (0,0))]]) ⟨rfl,rfl,rfl,rfl,rfl,rfl,rfl,trivial⟩ rfl (JC.tidyP (l':=[(1,.int .u32 (c5.toNat:Int)),(2,.slice a8 a9 b0),(4,.pointer (some ⟨m,0,none⟩)),(7,.pointer (some ⟨b1,0,none⟩)),(8,.bool false),(9,.pointer (some ⟨s,0,none⟩)),(10,.slice c2 c1.length c3)]) (own':=[[(s,.cells #[.slice b2 b3 b4,.slice b5 b6 b7,.slice b8 b9 c0,.int .u32 (q.Epoch.toNat:Int),.int .u32 (q.Count.toNat:Int)] 29 (0,0))],m0,g5,e7,d2,[(b1,.cells #[.int .i64 c.At,.int .u32 (c.Birth.toNat:Int),.int .u32 (c.Iv.toNat:Int),.int .u32 (c.Tag.toNat:Int),.int .u32 (c.Sum.toNat:Int)] 32 (0,0))],[(m,.cells #[.slice z a0 a1,.slice a2 a3 a4,.slice a5 a6 a7,.int .u32 (d.Epoch.toNat:Int),.int .u32 (d.Count.toNat:Int)] 29 (0,0))]]) (rst:=[]) ⟨rfl,rfl,rfl,rfl,rfl,rfl,rfl,trivial⟩ (ZO 0 rfl (ZO 0 rfl (ZO 0 rfl (ZO 0 rfl (ZO 0 rfl (ZO 0 rfl (ZO 0 rfl ZM))))))) (JC.pubN 1 R_Ptr.mono rfl m1 (Nat.le_refl _) (λy8 e3 s1=>JC.forget 1 (JC.tidy (l':=[(1,.int .u32 (c5.toNat:Int)),(2,.slice a8 a9 b0),(4,.pointer (some ⟨m,0,none⟩)),(7,.pointer (some ⟨b1,0,none⟩)),(8,.bool false),(9,.pointer (some ⟨s,0,none⟩)),(10,.slice c2 c1.length c3)]) (own':=[[(s,.cells #[.slice b2 b3 b4,.slice b5 b6 b7,.slice b8 b9 c0,.int .u32 (q.Epoch.toNat:Int),.int .u32 (q.Count.toNat:Int)] 29 (0,0))],g5,e7,d2,[(b1,.cells #[.int .i64 c.At,.int .u32 (c.Birth.toNat:Int),.int .u32 (c.Iv.toNat:Int),.int .u32 (c.Tag.toNat:Int),.int .u32 (c.Sum.toNat:Int)] 32 (0,0))],[(m,.cells #[.slice z a0 a1,.slice a2 a3 a4,.slice a5 a6 a7,.int .u32 (d.Epoch.toNat:Int),.int .u32 (d.Count.toNat:Int)] 29 (0,0))]]) ⟨rfl,rfl,rfl,rfl,rfl,rfl,rfl,trivial⟩ rfl (JC.tidyP (l':=[(1,.int .u32 (c5.toNat:Int)),(2,.slice a8 a9 b0),(4,.pointer (some ⟨m,0,none⟩)),(7,.pointer (some ⟨b1,0,none⟩)),(8,.bool false),(9,.pointer (some ⟨s,0,none⟩)),(10,.slice c2 c1.length c3)]) (own':=[[(s,.cells #[.slice b2 b3 b4,.slice b5 b6 b7,.slice b8 b9 c0,.int .u32 (q.Epoch.toNat:Int),.int .u32 (q.Count.toNat:Int)] 29 (0,0))],g5,e7,d2,[(b1,.cells #[.int .i64 c.At,.int .u32 (c.Birth.toNat:Int),.int .u32 (c.Iv.toNat:Int),.int .u32 (c.Tag.toNat:Int),.int .u32 (c.Sum.toNat:Int)] 32 (0,0))],[(m,.cells #[.slice z a0 a1,.slice a2 a3 a4,.slice a5 a6 a7,.int .u32 (d.Epoch.toNat:Int),.int .u32 (d.Count.toNat:Int)] 29 (0,0))]]) (rst:=[]) ⟨rfl,rfl,rfl,rfl,rfl,rfl,rfl,trivial⟩ (ZO 0 rfl (ZO 0 rfl (ZO 0 rfl (ZO 0 rfl (ZO 0 rfl (ZO 0 rfl ZM)))))) (JC.pubN 1 (RSl.mono RU8.mono) rfl (r6.mono (RSl.mono RU8.mono) (New.mono e3)) (Nat.le_refl _) (λy9 e4 s2=>JC.forget 1 (JC.tidy (l':=[(1,.int .u32 (c5.toNat:Int)),(2,.slice a8 a9 b0),(4,.pointer (some ⟨m,0,none⟩)),(7,.pointer (some ⟨b1,0,none⟩)),(8,.bool false),(9,.pointer (some ⟨s,0,none⟩)),(10,.slice c2 c1.length c3)]) (own':=[[(s,.cells #[.slice b2 b3 b4,.slice b5 b6 b7,.slice b8 b9 c0,.int .u32 (q.Epoch.toNat:Int),.int .u32 (q.Count.toNat:Int)] 29 (0,0))],e7,d2,[(b1,.cells #[.int .i64 c.At,.int .u32 (c.Birth.toNat:Int),.int .u32 (c.Iv.toNat:Int),.int .u32 (c.Tag.toNat:Int),.int .u32 (c.Sum.toNat:Int)] 32 (0,0))],[(m,.cells #[.slice z a0 a1,.slice a2 a3 a4,.slice a5 a6 a7,.int .u32 (d.Epoch.toNat:Int),.int .u32 (d.Count.toNat:Int)] 29 (0,0))]]) ⟨rfl,rfl,rfl,rfl,rfl,rfl,rfl,trivial⟩ rfl (JC.tidyP (l':=[(1,.int .u32 (c5.toNat:Int)),(2,.slice a8 a9 b0),(4,.pointer (some ⟨m,0,none⟩)),(7,.pointer (some ⟨b1,0,none⟩)),(8,.bool false),(9,.pointer (some ⟨s,0,none⟩)),(10,.slice c2 c1.length c3)]) (own':=[[(s,.cells #[.slice b2 b3 b4,.slice b5 b6 b7,.slice b8 b9 c0,.int .u32 (q.Epoch.toNat:Int),.int .u32 (q.Count.toNat:Int)] 29 (0,0))],e7,d2,[(b1,.cells #[.int .i64 c.At,.int .u32 (c.Birth.toNat:Int),.int .u32 (c.Iv.toNat:Int),.int .u32 (c.Tag.toNat:Int),.int .u32 (c.Sum.toNat:Int)] 32 (0,0))],[(m,.cells #[.slice z a0 a1,.slice a2 a3 a4,.slice a5 a6 a7,.int .u32 (d.Epoch.toNat:Int),.int .u32 (d.Count.toNat:Int)] 29 (0,0))]]) (rst:=[]) ⟨rfl,rfl,rfl,rfl,rfl,rfl,rfl,trivial⟩ (ZO 0 rfl (ZO 0 rfl (ZO 0 rfl (ZO 0 rfl (ZO 0 rfl ZM))))) (JC.pubN 1 R_Write.mono rfl (r7.mono R_Write.mono (New.mono (e3.trans e4))) (Nat.le_refl _) (λz0 e5 s3=>JC.forget 1 (JC.tidy (l':=[(1,.int .u32 (c5.toNat:Int)),(2,.slice a8 a9 b0),(4,.pointer (some ⟨m,0,none⟩)),(7,.pointer (some ⟨b1,0,none⟩)),(8,.bool false),(9,.pointer (some ⟨s,0,none⟩)),(10,.slice c2 c1.length c3)]) (own':=[[(s,.cells #[.slice b2 b3 b4,.slice b5 b6 b7,.slice b8 b9 c0,.int .u32 (q.Epoch.toNat:Int),.int .u32 (q.Count.toNat:Int)] 29 (0,0))],d2,[(b1,.cells #[.int .i64 c.At,.int .u32 (c.Birth.toNat:Int),.int .u32 (c.Iv.toNat:Int),.int .u32 (c.Tag.toNat:Int),.int .u32 (c.Sum.toNat:Int)] 32 (0,0))],[(m,.cells #[.slice z a0 a1,.slice a2 a3 a4,.slice a5 a6 a7,.int .u32 (d.Epoch.toNat:Int),.int .u32 (d.Count.toNat:Int)] 29 (0,0))]]) ⟨rfl,rfl,rfl,rfl,rfl,rfl,rfl,trivial⟩ rfl (JC.tidyP (l':=[(1,.int .u32 (c5.toNat:Int)),(2,.slice a8 a9 b0),(4,.pointer (some ⟨m,0,none⟩)),(7,.pointer (some ⟨b1,0,none⟩)),(8,.bool false),(9,.pointer (some ⟨s,0,none⟩)),(10,.slice c2 c1.length c3)]) (own':=[[(s,.cells #[.slice b2 b3 b4,.slice b5 b6 b7,.slice b8 b9 c0,.int .u32 (q.Epoch.toNat:Int),.int .u32 (q.Count.toNat:Int)] 29 (0,0))],d2,[(b1,.cells #[.int .i64 c.At,.int .u32 (c.Birth.toNat:Int),.int .u32 (c.Iv.toNat:Int),.int .u32 (c.Tag.toNat:Int),.int .u32 (c.Sum.toNat:Int)] 32 (0,0))],[(m,.cells #[.slice z a0 a1,.slice a2 a3 a4,.slice a5 a6 a7,.int .u32 (d.Epoch.toNat:Int),.int .u32 (d.Count.toNat:Int)] 29 (0,0))]]) (rst:=[]) ⟨rfl,rfl,rfl,rfl,rfl,rfl,rfl,trivial⟩ (ZO 0 rfl (ZO 0 rfl (ZO 0 rfl (ZO 0 rfl ZM)))) (JC.pubN 1 RU8.mono rfl (r8.mono RU8.mono (New.mono (e3.trans (e4.trans e5)))) (Nat.le_refl _) (λc9 e6 s4=>JC.forget 1 (JC.tidy (l':=[(1,.int .u32 (c5.toNat:Int)),(2,.slice a8 a9 b0),(4,.pointer (some ⟨m,0,none⟩)),(7,.pointer (some ⟨b1,0,none⟩)),(8,.bool false),(9,.pointer (some ⟨s,0,none⟩)),(10,.slice c2 c1.length c3)]) (own':=[[(s,.cells #[.slice b2 b3 b4,.slice b5 b6 b7,.slice b8 b9 c0,.int .u32 (q.Epoch.toNat:Int),.int .u32 (q.Count.toNat:Int)] 29 (0,0))],[(b1,.cells #[.int .i64 c.At,.int .u32 (c.Birth.toNat:Int),.int .u32 (c.Iv.toNat:Int),.int .u32 (c.Tag.toNat:Int),.int .u32 (c.Sum.toNat:Int)] 32 (0,0))],[(m,.cells #[.slice z a0 a1,.slice a2 a3 a4,.slice a5 a6 a7,.int .u32 (d.Epoch.toNat:Int),.int .u32 (d.Count.toNat:Int)] 29 (0,0))]]) ⟨rfl,rfl,rfl,rfl,rfl,rfl,rfl,trivial⟩ rfl (JC.tidyP (l':=[(1,.int .u32 (c5.toNat:Int)),(2,.slice a8 a9 b0),(4,.pointer (some ⟨m,0,none⟩)),(7,.pointer (some ⟨b1,0,none⟩)),(8,.bool false),(9,.pointer (some ⟨s,0,none⟩)),(10,.slice c2 c1.length c3)]) (own':=[[(s,.cells #[.slice b2 b3 b4,.slice b5 b6 b7,.slice b8 b9 c0,.int .u32 (q.Epoch.toNat:Int),.int .u32 (q.Count.toNat:Int)] 29 (0,0))],[(b1,.cells #[.int .i64 c.At,.int .u32 (c.Birth.toNat:Int),.int .u32 (c.Iv.toNat:Int),.int .u32 (c.Tag.toNat:Int),.int .u32 (c.Sum.toNat:Int)] 32 (0,0))],[(m,.cells #[.slice z a0 a1,.slice a2 a3 a4,.slice a5 a6 a7,.int .u32 (d.Epoch.toNat:Int),.int .u32 (d.Count.toNat:Int)] 29 (0,0))]]) (rst:=[]) ⟨rfl,rfl,rfl,rfl,rfl,rfl,rfl,trivial⟩ (ZO 0 rfl (ZO 0 rfl (ZO 0 rfl ZM))) ?_)))))))))))))))))))
   have m2:=(h9.mono R_Ptr.mono (f0.trans (e3.trans (e4.trans (e5.trans e6)))))
   have m3:=((s1.mono R_Ptr.mono (New.mono (e4.trans (e5.trans e6)))).old R_Ptr.mono)
   have i0:=(h6.mono (RSl.mono RU8.mono) (f0.trans (e3.trans (e4.trans (e5.trans e6)))))
   have i1:=(h7.mono R_Write.mono (f0.trans (e3.trans (e4.trans (e5.trans e6)))))
   have i2:=(h8.mono RU8.mono (f0.trans (e3.trans (e4.trans (e5.trans e6)))))
   have i3:=((s2.mono (RSl.mono RU8.mono) (New.mono (e5.trans e6))).old (RSl.mono RU8.mono))
   have i4:=((s3.mono R_Write.mono (New.mono e6)).old R_Write.mono)
   have i5:=(s4.old RU8.mono)
   refine JC.root (λz1 z2 s5 hlt=>Run.cl [0] 5 ZB rfl ?_)
   obtain⟨f,s6,hx⟩:=ZT hx
   refine ZX (vs:=[_,_,_]) (args:=[_,_,_]) (K:=[]) (rst:=[_,_,_]) E7 rfl rfl rfl ZM (dead_Lay_v2_ok.doesX rfl ⟨i3,i4,i5,m3,trivial⟩ s6) rfl (λz3 z4 m4 s7 d1 i6=> ?_)
   obtain⟨d3,d4,d5,g6,d6,d7,d8,g7,g8,d9,e0,e1,e8,g9,m5,m6,m7,i7,i8,rfl,rfl,-⟩:=s7
   replace g8:=(RowOf.base (RowOf.mono R_Write.mono (New.call (Hle.refl _)) g8) (λp hp=>(i6 p (Ze 0 rfl hp)).resolve_left (λh=>by cases h)))
   replace g9:=(RowOf.base (Zh (H2:=New c9 m4) RU8.const g9) (λp hp=>(i6 p (Ze 1 rfl hp)).resolve_left (λh=>by cases h)))
   replace i8:=(RowOf.base (Zh (H2:=New c9 m4) RInt.const i8) (λp hp=>(i6 p (Ze 2 rfl hp)).resolve_left (λh=>by cases h)))
   replace g6:=IsSlice.mono (RSl.mono RU8.mono) (New.call (Hle.refl _)) g6
   refine Run.llz [] 5 ZB rfl (JL.alloc Z29 rfl (λc4 z5=>JL.alloc Z32 rfl (λf1 z6=>Run.ll_s [1,0,7] 11 ZB rfl ?_)))
   obtain⟨x,s8,hx⟩:=ZT hx
   refine ZX (vs:=[_,_,_]) (args:=[_,_,_]) (K:=[]) (rst:=[_,_,_,_,_,_,_,_]) E8 rfl rfl rfl ZM (ref16_Lay_ok.doesX rfl ⟨(i0.mono (RSl.mono RU8.mono) d1),(i1.mono R_Write.mono d1),(i2.mono RU8.mono d1),(m2.mono R_Ptr.mono d1),trivial⟩ s8) rfl (λz7 z8 s9 t0 c7 t1=> ?_)
   obtain⟨i9,j0,j1,t2,j2,j3,j4,t3,j5,j6,j7,t4,m8,m9,n0,j8,j9,rfl,rfl,-⟩:=t0
   replace j9:=(RowOf.base (Zh (H2:=New c9 s9) RInt.const j9) (λp hp=>(t1 p (Ze 0 rfl hp)).resolve_left (λh=>by cases h)))
   refine Run.llz [] 5 ZB rfl (JL.alloc Z29 rfl (λf2 z9=>JL.alloc Z32 rfl (λf3 a00=>Run.ll_s [1,0,8,9] 10 ZB rfl ?_)))
   obtain⟨n1,t5,hx⟩:=ZT hx
   refine ZX (vs:=[_,_]) (args:=[_,_]) (K:=[]) (rst:=[_,_,_,_,_,_,_,_,_,_,_]) E9 rfl rfl rfl ZM (dead_Load_ok.doesX rfl ⟨(i3.mono (RSl.mono RU8.mono) (d1.trans c7)),(i4.mono R_Write.mono (d1.trans c7)),(i5.mono RU8.mono (d1.trans c7)),trivial⟩ t5) rfl (λa01 a02 n2 t6 c6 n3=> ?_)
   obtain⟨n4,n5,n6,k0,k1,n7,n8,n9,k2,k3,rfl,rfl,-⟩:=t6
   replace k1:=(RowOf.base (Zh (H2:=New c9 n2) R_Ptr.const k1) (λp hp=>(n3 p (Ze 0 rfl hp)).resolve_left (λh=>by cases h)))
   replace k3:=(RowOf.base (Zh (H2:=New c9 n2) RInt.const k3) (λp hp=>(n3 p (Ze 1 rfl hp)).resolve_left (λh=>by cases h)))
   refine Run.ll_s [12,11] 13 ZB rfl ?_
   obtain⟨o1,t7,hx⟩:=ZT hx
   refine ZX (vs:=[_,_]) (args:=[_,_]) (K:=[]) (rst:=[_,_,_,_,_,_,_,_,_,_,_,_,_]) E10 rfl rfl rfl ZM (ref16_Load_ok.doesX rfl ⟨(i0.mono (RSl.mono RU8.mono) (d1.trans (c7.trans c6))),(i1.mono R_Write.mono (d1.trans (c7.trans c6))),(i2.mono RU8.mono (d1.trans (c7.trans c6))),trivial⟩ t7) rfl (λa03 a04 o2 t8 c8 o3=> ?_)
   obtain⟨o4,o5,o6,k4,k5,o7,o8,o9,k6,k7,rfl,rfl,-⟩:=t8
   replace k5:=(RowOf.base (Zh (H2:=New c9 o2) R_Ptr.const k5) (λp hp=>(o3 p (Ze 0 rfl hp)).resolve_left (λh=>by cases h)))
   replace k7:=(RowOf.base (Zh (H2:=New c9 o2) RInt.const k7) (λp hp=>(o3 p (Ze 1 rfl hp)).resolve_left (λh=>by cases h)))
   refine Run.lcz_s [] 9 ZB rfl (JC.tidy (l':=[(2,.slice a8 a9 b0),(4,.pointer (some ⟨m,0,none⟩)),(8,.bool false),(9,.pointer (some ⟨s,0,none⟩)),(10,.slice c2 c1.length c3),(11,.pointer (some ⟨c4,0,none⟩)),(12,.pointer (some ⟨f1,0,none⟩)),(13,.slice m5 m6 m7),(14,.int .i64 f.2.2.2),(15,.pointer (some ⟨f2,0,none⟩)),(16,.pointer (some ⟨f3,0,none⟩)),(17,.slice m8 m9 n0),(18,.int .i64 x.2.2.2),(19,.slice n4 n5 n6),(20,.slice n7 n8 n9),(21,.int .i64 n1.2.2),(22,.slice o4 o5 o6),(23,.slice o7 o8 o9),(24,.int .i64 o1.2.2)]) (own':=[k4,k6,k0,k2,[(f3,.cells #[.int .i64 x.2.1.At,.int .u32 (x.2.1.Birth.toNat:Int),.int .u32 (x.2.1.Iv.toNat:Int),.int .u32 (x.2.1.Tag.toNat:Int),.int .u32 (x.2.1.Sum.toNat:Int)] 32 (0,0))],[(f2,.cells #[.slice i9 j0 j1,.slice j2 j3 j4,.slice j5 j6 j7,.int .u32 (x.1.Epoch.toNat:Int),.int .u32 (x.1.Count.toNat:Int)] 29 (0,0))],j8,[(f1,.cells #[.int .i64 f.2.1.At,.int .u32 (f.2.1.Birth.toNat:Int),.int .u32 (f.2.1.Iv.toNat:Int),.int .u32 (f.2.1.Tag.toNat:Int),.int .u32 (f.2.1.Sum.toNat:Int)] 32 (0,0))],[(c4,.cells #[.slice d3 d4 d5,.slice d6 d7 d8,.slice d9 e0 e1,.int .u32 (f.1.Epoch.toNat:Int),.int .u32 (f.1.Count.toNat:Int)] 29 (0,0))],g7,e8,i7,[(s,.cells #[.slice b2 b3 b4,.slice b5 b6 b7,.slice b8 b9 c0,.int .u32 (q.Epoch.toNat:Int),.int .u32 (q.Count.toNat:Int)] 29 (0,0))],[(b1,.cells #[.int .i64 c.At,.int .u32 (c.Birth.toNat:Int),.int .u32 (c.Iv.toNat:Int),.int .u32 (c.Tag.toNat:Int),.int .u32 (c.Sum.toNat:Int)] 32 (0,0))],[(m,.cells #[.slice z a0 a1,.slice a2 a3 a4,.slice a5 a6 a7,.int .u32 (d.Epoch.toNat:Int),.int .u32 (d.Count.toNat:Int)] 29 (0,0))]]) ⟨rfl,rfl,rfl,rfl,rfl,rfl,rfl,rfl,rfl,rfl,rfl,rfl,rfl,rfl,rfl,rfl,rfl,rfl,rfl,trivial⟩ rfl (JC.tidyP (l':=[(2,.slice a8 a9 b0),(4,.pointer (some ⟨m,0,none⟩)),(8,.bool false),(9,.pointer (some ⟨s,0,none⟩)),(10,.slice c2 c1.length c3),(11,.pointer (some ⟨c4,0,none⟩)),(12,.pointer (some ⟨f1,0,none⟩)),(13,.slice m5 m6 m7),(14,.int .i64 f.2.2.2),(15,.pointer (some ⟨f2,0,none⟩)),(16,.pointer (some ⟨f3,0,none⟩)),(17,.slice m8 m9 n0),(18,.int .i64 x.2.2.2),(19,.slice n4 n5 n6),(20,.slice n7 n8 n9),(21,.int .i64 n1.2.2),(22,.slice o4 o5 o6),(23,.slice o7 o8 o9),(24,.int .i64 o1.2.2)]) (own':=[k4,k6,k0,k2,[(f3,.cells #[.int .i64 x.2.1.At,.int .u32 (x.2.1.Birth.toNat:Int),.int .u32 (x.2.1.Iv.toNat:Int),.int .u32 (x.2.1.Tag.toNat:Int),.int .u32 (x.2.1.Sum.toNat:Int)] 32 (0,0))],[(f2,.cells #[.slice i9 j0 j1,.slice j2 j3 j4,.slice j5 j6 j7,.int .u32 (x.1.Epoch.toNat:Int),.int .u32 (x.1.Count.toNat:Int)] 29 (0,0))],j8,[(f1,.cells #[.int .i64 f.2.1.At,.int .u32 (f.2.1.Birth.toNat:Int),.int .u32 (f.2.1.Iv.toNat:Int),.int .u32 (f.2.1.Tag.toNat:Int),.int .u32 (f.2.1.Sum.toNat:Int)] 32 (0,0))],[(c4,.cells #[.slice d3 d4 d5,.slice d6 d7 d8,.slice d9 e0 e1,.int .u32 (f.1.Epoch.toNat:Int),.int .u32 (f.1.Count.toNat:Int)] 29 (0,0))],g7,e8,i7,[(s,.cells #[.slice b2 b3 b4,.slice b5 b6 b7,.slice b8 b9 c0,.int .u32 (q.Epoch.toNat:Int),.int .u32 (q.Count.toNat:Int)] 29 (0,0))],[(m,.cells #[.slice z a0 a1,.slice a2 a3 a4,.slice a5 a6 a7,.int .u32 (d.Epoch.toNat:Int),.int .u32 (d.Count.toNat:Int)] 29 (0,0))]]) (rst:=[_]) ⟨rfl,rfl,rfl,rfl,rfl,rfl,rfl,rfl,rfl,rfl,rfl,rfl,rfl,rfl,rfl,rfl,rfl,rfl,rfl,trivial⟩ (ZO 0 rfl (ZO 0 rfl (ZO 0 rfl (ZO 0 rfl (ZO 0 rfl (ZO 0 rfl (ZO 0 rfl (ZO 0 rfl (ZO 0 rfl (ZO 0 rfl (ZO 0 rfl (ZO 0 rfl (ZO 0 rfl (ZO 1 rfl ZM)))))))))))))) (Run.cl [8,5] 5 ZB rfl ?_)))
   obtain⟨t9,u0,hx⟩:=ZT hx
   refine JL.callL2 (vs:=[_,_]) (v:=.bool t9) E11 rfl rfl (λa05 e9 p0=>Does.mono (ref13_Same_ok.doesX rfl ⟨(IsSlice.mono (RSl.mono RU8.mono) e9 ((g6.mono (RSl.mono RU8.mono) (New.mono (c7.trans (c6.trans c8)))).old (RSl.mono RU8.mono))),(Lent.row' 9 p0 R_Write.mono e9 rfl ((g8.mono R_Write.mono (New.mono (c7.trans (c6.trans c8)))).old R_Write.mono)),(Lent.row' 10 p0 RU8.mono e9 rfl ((g9.mono RU8.mono (New.mono (c7.trans (c6.trans c8)))).old RU8.mono)),(IsSlice.mono (RSl.mono RU8.mono) e9 (t2.mono (RSl.mono RU8.mono) (c6.trans c8))),(IsSlice.mono R_Write.mono e9 (t3.mono R_Write.mono (c6.trans c8))),(IsSlice.mono RU8.mono e9 (t4.mono RU8.mono (c6.trans c8))),trivial⟩ u0) (λ_ _ _ h=>h.1)) rfl (Run.llz [] 2 ZB rfl (Zi 73 hx rfl (λu1 hx=> ?_) (λu1 hx=> ?_)))
   ·
    refine Run.lnz_sk [] 42 ZB rfl (Zj (vs:=[.bool false]) (K:=[]) (rst:=[_,_,_,_,_,_,_,_,_,_,_,_,_,_]) (.inl rfl) rfl rfl (Res.tmp rfl rfl) ZM ?_)
    obtain rfl:=Option.some.inj hx
    exact⟨rfl,rfl,trivial⟩
   ·
    refine Run.llz [7,4] 5 ZB rfl (ZA rfl rfl (R.neqAgg QU32 QP32 QG32 QF32 rfl rfl (EqF.i (by decide) S3 U3 rfl rfl (EqF.u32 (a:=f.2.1.Birth) (b:=x.2.1.Birth) (by decide) S27 U27 rfl rfl (EqF.u32 (a:=f.2.1.Iv) (b:=x.2.1.Iv) (by decide) S27 U27 rfl rfl (EqF.u32 (a:=f.2.1.Tag) (b:=x.2.1.Tag) (by decide) S27 U27 rfl rfl (EqF.u32 (a:=f.2.1.Sum) (b:=x.2.1.Sum) (by decide) S27 U27 rfl rfl EqF.nil)))))) ?_)
    refine Run.llz [] 2 ZB rfl (Zi 78 hx rfl (λu2 hx=> ?_) (λu2 hx=> ?_))
    ·
     refine Run.lnz_sk [] 37 ZB rfl (Zj (vs:=[.bool false]) (K:=[]) (rst:=[_,_,_,_,_,_,_,_,_,_,_,_,_,_]) (.inl rfl) rfl rfl (Res.tmp rfl rfl) ZM ?_)
     obtain rfl:=Option.some.inj hx
     exact⟨rfl,rfl,trivial⟩
    ·
     refine Run.llz [] 5 ZB rfl ?_
     obtain⟨u3,u4,hx⟩:=ZT hx
     refine JL.callL2 (vs:=[_,_]) (v:=.bool u3) E12 rfl rfl (λa06 p1 p2=>Does.mono (ref12_Same_ok.doesX rfl ⟨(Lent.row' 11 p2 RInt.mono p1 rfl ((i8.mono RInt.mono (New.mono (c7.trans (c6.trans c8)))).old RInt.mono)),(Lent.row' 6 p2 RInt.mono p1 rfl ((j9.mono RInt.mono (New.mono (c6.trans c8))).old RInt.mono)),trivial⟩ u4) (λ_ _ _ h=>h.1)) rfl (Run.llz [] 4 ZB rfl (Zi 84 hx rfl (λu5 hx=> ?_) (λu5 hx=> ?_)))
     ·
      refine Run.lnz_sk [] 31 ZB rfl (Zj (vs:=[.bool false]) (K:=[]) (rst:=[_,_,_,_,_,_,_,_,_,_,_,_,_,_]) (.inl rfl) rfl rfl (Res.tmp rfl rfl) ZM ?_)
      obtain rfl:=Option.some.inj hx
      exact⟨rfl,rfl,trivial⟩
     ·
      refine Run.llz [] 8 ZB rfl (Zi 89 hx rfl (λu6 hx=> ?_) (λu6 hx=> ?_))
      ·
       refine Run.lnz_sk [] 26 ZB rfl (Zj (vs:=[.bool false]) (K:=[]) (rst:=[_,_,_,_,_,_,_,_,_,_,_,_,_,_]) (.inl rfl) rfl rfl (Res.tmp rfl rfl) ZM ?_)
       obtain rfl:=Option.some.inj hx
       exact⟨rfl,rfl,trivial⟩
      ·
       refine Run.llz [] 5 ZB rfl ?_
       obtain⟨u7,u9,hx⟩:=ZT hx
       refine JL.callL2 (vs:=[_,_]) (v:=.bool u7) E13 rfl rfl (λa07 p3 p4=>Does.mono (ref10_Same_ok.doesX rfl ⟨(Lent.row' 2 p4 R_Ptr.mono p3 rfl ((k1.mono R_Ptr.mono (New.mono c8)).old R_Ptr.mono)),(Lent.row' 0 p4 R_Ptr.mono p3 rfl (k5.old R_Ptr.mono)),trivial⟩ u9) (λ_ _ _ h=>h.1)) rfl (Run.llz [] 4 ZB rfl (Zi 95 hx rfl (λv0 hx=> ?_) (λv0 hx=> ?_)))
       ·
        refine Run.lnz_sk [] 20 ZB rfl (Zj (vs:=[.bool false]) (K:=[]) (rst:=[_,_,_,_,_,_,_,_,_,_,_,_,_,_]) (.inl rfl) rfl rfl (Res.tmp rfl rfl) ZM ?_)
        obtain rfl:=Option.some.inj hx
        exact⟨rfl,rfl,trivial⟩
       ·
        refine Run.llz [] 5 ZB rfl ?_
        obtain⟨v1,v2,hx⟩:=ZT hx
        refine JL.callL2 (vs:=[_,_]) (v:=.bool v1) E12 rfl rfl (λa08 p5 p6=>Does.mono (ref12_Same_ok.doesX rfl ⟨(Lent.row' 3 p6 RInt.mono p5 rfl ((k3.mono RInt.mono (New.mono c8)).old RInt.mono)),(Lent.row' 1 p6 RInt.mono p5 rfl (k7.old RInt.mono)),trivial⟩ v2) (λ_ _ _ h=>h.1)) rfl (Run.llz [] 4 ZB rfl (Zi 101 hx rfl (λv3 hx=> ?_) (λv3 hx=> ?_)))
        ·
         refine Run.lnz_sk [] 14 ZB rfl (Zj (vs:=[.bool false]) (K:=[]) (rst:=[_,_,_,_,_,_,_,_,_,_,_,_,_,_]) (.inl rfl) rfl rfl (Res.tmp rfl rfl) ZM ?_)
         obtain rfl:=Option.some.inj hx
         exact⟨rfl,rfl,trivial⟩
        ·
         refine Run.lcz_s [] 9 ZB rfl (ZJ hx rfl (λv4 hx=> ?_) (λv4 hx=> ?_))
         ·
          refine Run.cnz_k [] 7 ZB rfl (Zj (vs:=[.bool false]) (K:=[]) (rst:=[_,_,_,_,_,_,_,_,_,_,_,_,_,_]) (.inl rfl) rfl rfl (Res.tmp rfl rfl) ZM ?_)
          obtain rfl:=Option.some.inj hx
          exact⟨rfl,rfl,trivial⟩
         ·
          refine Run.ccz_s [] 2 ZB rfl (JC.tidy (l':=[(2,.slice a8 a9 b0),(4,.pointer (some ⟨m,0,none⟩)),(8,.bool false),(9,.pointer (some ⟨s,0,none⟩)),(10,.slice c2 c1.length c3),(11,.pointer (some ⟨c4,0,none⟩))]) (own':=[k4,k6,k0,k2,[(f3,.cells #[.int .i64 x.2.1.At,.int .u32 (x.2.1.Birth.toNat:Int),.int .u32 (x.2.1.Iv.toNat:Int),.int .u32 (x.2.1.Tag.toNat:Int),.int .u32 (x.2.1.Sum.toNat:Int)] 32 (0,0))],[(f2,.cells #[.slice i9 j0 j1,.slice j2 j3 j4,.slice j5 j6 j7,.int .u32 (x.1.Epoch.toNat:Int),.int .u32 (x.1.Count.toNat:Int)] 29 (0,0))],j8,[(f1,.cells #[.int .i64 f.2.1.At,.int .u32 (f.2.1.Birth.toNat:Int),.int .u32 (f.2.1.Iv.toNat:Int),.int .u32 (f.2.1.Tag.toNat:Int),.int .u32 (f.2.1.Sum.toNat:Int)] 32 (0,0))],[(c4,.cells #[.slice d3 d4 d5,.slice d6 d7 d8,.slice d9 e0 e1,.int .u32 (f.1.Epoch.toNat:Int),.int .u32 (f.1.Count.toNat:Int)] 29 (0,0))],g7,e8,i7,[(s,.cells #[.slice b2 b3 b4,.slice b5 b6 b7,.slice b8 b9 c0,.int .u32 (q.Epoch.toNat:Int),.int .u32 (q.Count.toNat:Int)] 29 (0,0))],[(m,.cells #[.slice z a0 a1,.slice a2 a3 a4,.slice a5 a6 a7,.int .u32 (d.Epoch.toNat:Int),.int .u32 (d.Count.toNat:Int)] 29 (0,0))]]) ⟨rfl,rfl,rfl,rfl,rfl,rfl,trivial⟩ rfl (JC.tidyP (l':=[(2,.slice a8 a9 b0),(4,.pointer (some ⟨m,0,none⟩)),(8,.bool false),(9,.pointer (some ⟨s,0,none⟩)),(10,.slice c2 c1.length c3),(11,.pointer (some ⟨c4,0,none⟩))]) (own':=[[(c4,.cells #[.slice d3 d4 d5,.slice d6 d7 d8,.slice d9 e0 e1,.int .u32 (f.1.Epoch.toNat:Int),.int .u32 (f.1.Count.toNat:Int)] 29 (0,0))],g7,e8,[(s,.cells #[.slice b2 b3 b4,.slice b5 b6 b7,.slice b8 b9 c0,.int .u32 (q.Epoch.toNat:Int),.int .u32 (q.Count.toNat:Int)] 29 (0,0))],[(m,.cells #[.slice z a0 a1,.slice a2 a3 a4,.slice a5 a6 a7,.int .u32 (d.Epoch.toNat:Int),.int .u32 (d.Count.toNat:Int)] 29 (0,0))]]) (rst:=[_,_,_,_,_,_,_,_,_]) ⟨rfl,rfl,rfl,rfl,rfl,rfl,trivial⟩ (ZO 8 rfl (ZO 8 rfl (ZO 8 rfl (ZO 9 rfl (ZO 9 rfl ZM))))) (JC.pubN 1 R_Write.mono rfl (g8.mono R_Write.mono (New.mono (c7.trans (c6.trans c8)))) (Nat.le_refl _) (λa09 p7 v5=>JC.forget 1 (JC.tidy (l':=[(2,.slice a8 a9 b0),(4,.pointer (some ⟨m,0,none⟩)),(8,.bool false),(9,.pointer (some ⟨s,0,none⟩)),(10,.slice c2 c1.length c3),(11,.pointer (some ⟨c4,0,none⟩))]) (own':=[[(c4,.cells #[.slice d3 d4 d5,.slice d6 d7 d8,.slice d9 e0 e1,.int .u32 (f.1.Epoch.toNat:Int),.int .u32 (f.1.Count.toNat:Int)] 29 (0,0))],e8,[(s,.cells #[.slice b2 b3 b4,.slice b5 b6 b7,.slice b8 b9 c0,.int .u32 (q.Epoch.toNat:Int),.int .u32 (q.Count.toNat:Int)] 29 (0,0))],[(m,.cells #[.slice z a0 a1,.slice a2 a3 a4,.slice a5 a6 a7,.int .u32 (d.Epoch.toNat:Int),.int .u32 (d.Count.toNat:Int)] 29 (0,0))]]) ⟨rfl,rfl,rfl,rfl,rfl,rfl,trivial⟩ rfl (JC.tidyP (l':=[(2,.slice a8 a9 b0),(4,.pointer (some ⟨m,0,none⟩)),(8,.bool false),(9,.pointer (some ⟨s,0,none⟩)),(10,.slice c2 c1.length c3),(11,.pointer (some ⟨c4,0,none⟩))]) (own':=[[(c4,.cells #[.slice d3 d4 d5,.slice d6 d7 d8,.slice d9 e0 e1,.int .u32 (f.1.Epoch.toNat:Int),.int .u32 (f.1.Count.toNat:Int)] 29 (0,0))],e8,[(s,.cells #[.slice b2 b3 b4,.slice b5 b6 b7,.slice b8 b9 c0,.int .u32 (q.Epoch.toNat:Int),.int .u32 (q.Count.toNat:Int)] 29 (0,0))],[(m,.cells #[.slice z a0 a1,.slice a2 a3 a4,.slice a5 a6 a7,.int .u32 (d.Epoch.toNat:Int),.int .u32 (d.Count.toNat:Int)] 29 (0,0))]]) (rst:=[]) ⟨rfl,rfl,rfl,rfl,rfl,rfl,trivial⟩ (ZO 0 rfl (ZO 0 rfl (ZO 0 rfl (ZO 0 rfl ZM)))) (JC.pubN 1 RU8.mono rfl (g9.mono RU8.mono (New.mono (c7.trans (c6.trans (c8.trans p7))))) (Nat.le_refl _) (λp8 p9 v6=>JC.forget 1 (JC.tidy (l':=[(2,.slice a8 a9 b0),(4,.pointer (some ⟨m,0,none⟩)),(8,.bool false),(9,.pointer (some ⟨s,0,none⟩)),(10,.slice c2 c1.length c3),(11,.pointer (some ⟨c4,0,none⟩))]) (own':=[[(c4,.cells #[.slice d3 d4 d5,.slice d6 d7 d8,.slice d9 e0 e1,.int .u32 (f.1.Epoch.toNat:Int),.int .u32 (f.1.Count.toNat:Int)] 29 (0,0))],[(s,.cells #[.slice b2 b3 b4,.slice b5 b6 b7,.slice b8 b9 c0,.int .u32 (q.Epoch.toNat:Int),.int .u32 (q.Count.toNat:Int)] 29 (0,0))],[(m,.cells #[.slice z a0 a1,.slice a2 a3 a4,.slice a5 a6 a7,.int .u32 (d.Epoch.toNat:Int),.int .u32 (d.Count.toNat:Int)] 29 (0,0))]]) ⟨rfl,rfl,rfl,rfl,rfl,rfl,trivial⟩ rfl (JC.tidyP (l':=[(2,.slice a8 a9 b0),(4,.pointer (some ⟨m,0,none⟩)),(8,.bool false),(9,.pointer (some ⟨s,0,none⟩)),(10,.slice c2 c1.length c3),(11,.pointer (some ⟨c4,0,none⟩))]) (own':=[[(c4,.cells #[.slice d3 d4 d5,.slice d6 d7 d8,.slice d9 e0 e1,.int .u32 (f.1.Epoch.toNat:Int),.int .u32 (f.1.Count.toNat:Int)] 29 (0,0))],[(s,.cells #[.slice b2 b3 b4,.slice b5 b6 b7,.slice b8 b9 c0,.int .u32 (q.Epoch.toNat:Int),.int .u32 (q.Count.toNat:Int)] 29 (0,0))],[(m,.cells #[.slice z a0 a1,.slice a2 a3 a4,.slice a5 a6 a7,.int .u32 (d.Epoch.toNat:Int),.int .u32 (d.Count.toNat:Int)] 29 (0,0))]]) (rst:=[]) ⟨rfl,rfl,rfl,rfl,rfl,rfl,trivial⟩ (ZO 0 rfl (ZO 0 rfl (ZO 0 rfl ZM))) ?_))))))))))
          have q0:=(g6.mono (RSl.mono RU8.mono) (New.mono (c7.trans (c6.trans (c8.trans (p7.trans p9))))))
          have a0a:=(v5.mono R_Write.mono (New.mono p9))
          have f4:=v6
          refine JC.thaw s5 (λv7 v8=>Run.cc [] 6 ZB rfl (ZV hx [2,4,9,10] [3,2] rfl rfl (λq1 l0 o0 l o g=>∃k8:Own,l=l0∧o=k8::o0∧c9=g∧TH (New c9 p8) k8) (λq1 a0b hx=> ?_) (λq1 a0c hx=> ?_)))
          ·
           rintro _ _ _ ⟨k8,rfl,rfl,rfl,a0d⟩
           refine Run.nc_s [] 2 ZB rfl (ZV hx [] [0] rfl rfl (λh0 l0 o0 l o g=>l=(8,.bool h0)::l0∧o=o0∧c9=g) (λh0 a0e hx=> ?_) (λh0 a0f hx=> ?_))
           ·
            rintro _ _ _ ⟨rfl,rfl,rfl⟩
            refine Run.nnz_s [] 2 ZB rfl (Zj (vs:=[.bool h0]) (K:=[]) (rst:=[_]) (.inl rfl) rfl rfl (Res.tmp rfl rfl) ZM ?_)
            obtain rfl:=Option.some.inj hx
            exact⟨rfl,rfl,trivial⟩
           ·
            refine Run.clz [2,1] 3 ZB rfl ?_
            obtain⟨a0g,v9,hx⟩:=ZT hx
            refine ZX (vs:=[_,_]) (args:=[_,_]) (K:=[]) (rst:=[_,_,_]) E11 rfl rfl rfl ZM (ref13_Same_ok.doesX rfl ⟨i3,i4,i5,i0,i1,i2,trivial⟩ v9) rfl (λa0h a0i a0j w0 a0k a0l=> ?_)
            obtain⟨rfl,rfl,rfl⟩:=w0
            refine ZA rfl rfl (Zd rfl) (Zi 136 hx rfl (λw1 hx=> ?_) (λw1 hx=> ?_))
            ·
             refine Run.llz [] 5 ZB rfl ?_
             obtain⟨a0m,w2,hx⟩:=ZT hx
             refine ZX (vs:=[_,_]) (args:=[_,_]) (K:=[]) (rst:=[_,_,_]) E13 rfl rfl rfl ZM (ref10_Same_ok.doesX rfl ⟨m3,m2,trivial⟩ w2) rfl (λa0n a0o a0p w3 a0q a0r=> ?_)
             obtain⟨rfl,rfl,rfl⟩:=w3
             refine Run.lnz [] 3 ZB rfl ?_
             obtain rfl:=Option.some.inj hx
             refine JN.forget 2 (JN.forget 1 ?_)
             exact ZE ⟨rfl,rfl,rfl⟩ rfl rfl rfl
            ·
             refine Run.lnz [] 6 ZB rfl ?_
             obtain rfl:=Option.some.inj hx
             refine JN.forget 2 (JN.forget 1 ?_)
             exact ZE ⟨rfl,rfl,rfl⟩ rfl rfl rfl
          ·
           refine JC.block (ZS 1 rfl (ZS 2 rfl (ZS 3 rfl (ZS 3 rfl (ZZ [2,4,9,10,11] [1,2,3] rfl rfl (λl0 o0 f5 l o g=>∃h1:Own,l=(25,.int .i64 ((f5:Nat):Int))::l0∧o=h1::o0∧c9=g∧TH (New c9 p8) h1) hx ⟨v7,rfl,rfl,rfl,v8⟩ rfl ?_)))))
           ·
            rintro a0s f5 _ _ _ ⟨h1,rfl,rfl,rfl,q2⟩ a0t hx h2
            unfold law16_DeadBlocks_l1 at hx
            refine Run.cl [3] 6 ZB rfl (ZA rfl rfl (ZQ U26 rfl (IsSlice.long f4)) (Run.lcz_s [] 3 ZB rfl (ZJ hx rfl (λh3 hx=> ?_) (λh3 hx=> ?_))))
            ·
             refine Run.cl_s [3] 9 ZB rfl ?_
             obtain⟨w4,w5,hx⟩:=ZR hx
             obtain⟨a0u,a0v,a0w,w6,w7,a0x,w8⟩:=IsSlice.elem f4 w5
             obtain rfl:=w7
             refine ZA rfl rfl (R.ix U26 S5 rfl rfl w6) (JL.stT 0 S5 rfl q2 (w8 0 _ rfl) rfl rfl ⟨_,_,rfl⟩ (Kin.u8 (y:=w4) (a:=(9:UInt8))) (λa0y d0=>Run.lcz_s [] 2 ZB rfl (Zn (so:=[(_,[16]),(_,[]),(_,[]),(_,[])]) 17 rfl Mixed ⟨by kernel_rfl,by kernel_rfl⟩ (Zb [0,1,2,3] rfl) ?_)))
             refine JB.run 4 [0,1,2,3] [2] ZB rfl ?_
             obtain⟨a0z,w9,hx⟩:=ZR hx
             obtain⟨a10,a11,a12,x0,x1,a13,k9⟩:=IsSlice.elem q0 w9
             obtain⟨a14,rfl,h4⟩:=x1
             obtain⟨a15,a16,rfl⟩:=IsSlice.val h4
             refine JB.val (i:=4) [] rfl (R.ix U22 S26 rfl rfl x0) ?_
             refine JB.run 4 [6,7,8,9] [2] ZB rfl ?_
             obtain⟨a17,x2,hx⟩:=ZR hx
             obtain⟨a18,a19,a1a,x3,x4,a1b,q3⟩:=IsSlice.elem q0 x2
             obtain⟨a1c,rfl,l1⟩:=x4
             obtain⟨a1d,a1e,rfl⟩:=IsSlice.val l1
             refine JB.val (i:=10) [] rfl (R.ix U22 S26 rfl rfl x3) ?_
             obtain⟨l2,q4,hx⟩:=ZR hx
             obtain⟨l3,l4,hx⟩:=ZR hx
             refine JB.two (i:=5) (j:=11) (by kernel_rfl) ?_ ?_
             ·
              refine JOB.step rfl trivial rfl (λK hK=> ?_)
              obtain⟨q5,q6,f6,f7⟩:=TH.exact d0 (k9 0 _ rfl) (by intro k n e;cases e)
              refine ZA rfl rfl (R.ldM 0 S26 rfl rfl f6 f7) (ZN (hK _ _ _ (Hle.refl _) (Zb [0,1,2,3] rfl) ?_))
              refine JB.one (i:=11) (by kernel_rfl) ?_
              refine JOB.step rfl trivial rfl (λK hK=> ?_)
              obtain⟨x5,x6,l5,l6⟩:=TH.exact d0 (q3 0 _ rfl) (by intro k n e;cases e)
              refine ZA rfl rfl (R.ldM 0 S26 rfl rfl l5 l6) (ZN (hK _ _ _ (Hle.refl _) (Zb [0,1,2,3] rfl) ?_))
              obtain⟨x7,x8,x9,l7,l8,y0,h5⟩:=IsSlice.elem l1 q4
              obtain rfl:=l8
              refine JB.val (i:=12) [] rfl (R.ix U26 S5 rfl rfl l7) ?_
              refine JB.one (i:=13) (by kernel_rfl) ?_
              refine JOB.step rfl trivial rfl (λK hK=> ?_)
              obtain⟨e2,q7,q8,f8,f9⟩:=TH.u8 (y:=l2) d0 (h5 0 _ rfl)
              refine ZA rfl rfl (R.ldM 0 S5 rfl rfl f8 f9) (ZN (hK _ _ _ (Hle.refl _) (Zb [0,1,2,3] rfl) ?_))
              refine JB.val (i:=14) [] rfl (R.add8 (a:=e2) (b:=(1:UInt8)) rfl rfl) ?_
              obtain⟨q9,r0,r1,g0,g1,r2,g2⟩:=IsSlice.elem h4 l4
              obtain rfl:=g1
              refine JB.val (i:=15) [] rfl (R.ix U26 S5 rfl rfl g0) ?_
              refine JB.one (i:=16) (by kernel_rfl) ?_
              refine JOB.step rfl trivial rfl (λK hK=>JL.stT 0 S5 rfl d0 (g2 0 _ rfl) rfl rfl ⟨_,_,rfl⟩ (Kin.u8 (y:=l3) (a:=e2+(1:UInt8))) (λg3 g4=>ZN (hK _ _ _ (Hle.refl _) (Zu [true,false,false,false] [0,1,2,3] (by kernel_rfl) rfl) ?_)))
              refine JB.doneN (by kernel_rfl) ?_
              refine Run.nlz_bs [] 4 ZB rfl (ZA rfl rfl (Zr rfl rfl (of_decide_eq_true h3) (IsSlice.lenI f4)) (Run.lnz [] 2 ZB rfl ?_))
              replace hx:=ZU h2 hx
              refine ZC 3 rfl (ZC 3 rfl (ZC 3 rfl (ZC 3 rfl ?_)))
              exact ZE ⟨f5+1,⟨g3,rfl,rfl,rfl,g4⟩,hx⟩ rfl rfl rfl
             ·
              refine JOB.step rfl trivial rfl (λK hK=> ?_)
              obtain⟨x5,x6,l5,l6⟩:=TH.exact d0 (q3 0 _ rfl) (by intro k n e;cases e)
              refine ZA rfl rfl (R.ldM 0 S26 rfl rfl l5 l6) (ZN (hK _ _ _ (Hle.refl _) (Zb [0,1,2,3] rfl) ?_))
              obtain⟨x7,x8,x9,l7,l8,y0,h5⟩:=IsSlice.elem l1 q4
              obtain rfl:=l8
              refine JB.val (i:=12) [] rfl (R.ix U26 S5 rfl rfl l7) ?_
              refine JB.two (i:=5) (j:=13) (by kernel_rfl) ?_ ?_
              ·
               refine JOB.step rfl trivial rfl (λK hK=> ?_)
               obtain⟨q5,q6,f6,f7⟩:=TH.exact d0 (k9 0 _ rfl) (by intro k n e;cases e)
               refine ZA rfl rfl (R.ldM 0 S26 rfl rfl f6 f7) (ZN (hK _ _ _ (Hle.refl _) (Zb [0,1,2,3] rfl) ?_))
               refine JB.one (i:=13) (by kernel_rfl) ?_
               refine JOB.step rfl trivial rfl (λK hK=> ?_)
               obtain⟨e2,q7,q8,f8,f9⟩:=TH.u8 (y:=l2) d0 (h5 0 _ rfl)
               refine ZA rfl rfl (R.ldM 0 S5 rfl rfl f8 f9) (ZN (hK _ _ _ (Hle.refl _) (Zb [0,1,2,3] rfl) ?_))
               refine JB.val (i:=14) [] rfl (R.add8 (a:=e2) (b:=(1:UInt8)) rfl rfl) ?_
               obtain⟨q9,r0,r1,g0,g1,r2,g2⟩:=IsSlice.elem h4 l4
               obtain rfl:=g1
               refine JB.val (i:=15) [] rfl (R.ix U26 S5 rfl rfl g0) ?_
               refine JB.one (i:=16) (by kernel_rfl) ?_
               refine JOB.step rfl trivial rfl (λK hK=>JL.stT 0 S5 rfl d0 (g2 0 _ rfl) rfl rfl ⟨_,_,rfl⟩ (Kin.u8 (y:=l3) (a:=e2+(1:UInt8))) (λg3 g4=>ZN (hK _ _ _ (Hle.refl _) (Zu [true,false,false,false] [0,1,2,3] (by kernel_rfl) rfl) ?_)))
               refine JB.doneN (by kernel_rfl) ?_
               refine Run.nlz_bs [] 4 ZB rfl (ZA rfl rfl (Zr rfl rfl (of_decide_eq_true h3) (IsSlice.lenI f4)) (Run.lnz [] 2 ZB rfl ?_))
               replace hx:=ZU h2 hx
               refine ZC 3 rfl (ZC 3 rfl (ZC 3 rfl (ZC 3 rfl ?_)))
               exact ZE ⟨f5+1,⟨g3,rfl,rfl,rfl,g4⟩,hx⟩ rfl rfl rfl
              ·
               refine JOB.step rfl trivial rfl (λK hK=> ?_)
               obtain⟨e2,q7,q8,f8,f9⟩:=TH.u8 (y:=l2) d0 (h5 0 _ rfl)
               refine ZA rfl rfl (R.ldM 0 S5 rfl rfl f8 f9) (ZN (hK _ _ _ (Hle.refl _) (Zb [0,1,2,3] rfl) ?_))
               refine JB.val (i:=14) [] rfl (R.add8 (a:=e2) (b:=(1:UInt8)) rfl rfl) ?_
               refine JB.one (i:=5) (by kernel_rfl) ?_
               refine JOB.step rfl trivial rfl (λK hK=> ?_)
               obtain⟨q5,q6,f6,f7⟩:=TH.exact d0 (k9 0 _ rfl) (by intro k n e;cases e)
               refine ZA rfl rfl (R.ldM 0 S26 rfl rfl f6 f7) (ZN (hK _ _ _ (Hle.refl _) (Zb [0,1,2,3] rfl) ?_))
               obtain⟨q9,r0,r1,g0,g1,r2,g2⟩:=IsSlice.elem h4 l4
               obtain rfl:=g1
               refine JB.val (i:=15) [] rfl (R.ix U26 S5 rfl rfl g0) ?_
               refine JB.one (i:=16) (by kernel_rfl) ?_
               refine JOB.step rfl trivial rfl (λK hK=>JL.stT 0 S5 rfl d0 (g2 0 _ rfl) rfl rfl ⟨_,_,rfl⟩ (Kin.u8 (y:=l3) (a:=e2+(1:UInt8))) (λg3 g4=>ZN (hK _ _ _ (Hle.refl _) (Zu [true,false,false,false] [0,1,2,3] (by kernel_rfl) rfl) ?_)))
               refine JB.doneN (by kernel_rfl) ?_
               refine Run.nlz_bs [] 4 ZB rfl (ZA rfl rfl (Zr rfl rfl (of_decide_eq_true h3) (IsSlice.lenI f4)) (Run.lnz [] 2 ZB rfl ?_))
               replace hx:=ZU h2 hx
               refine ZC 3 rfl (ZC 3 rfl (ZC 3 rfl (ZC 3 rfl ?_)))
               exact ZE ⟨f5+1,⟨g3,rfl,rfl,rfl,g4⟩,hx⟩ rfl rfl rfl
            ·
             refine Run.cnz_k [] 2 ZB rfl ?_
             obtain rfl:=ZP h2 hx
             refine Run.nnz_kb [] 2 ZB rfl (JN.forget 3 (ZC 2 rfl (ZC 2 rfl (ZC 2 rfl ?_))))
             exact ZE ⟨h1,rfl,rfl,rfl,q2⟩ rfl rfl rfl
end Go.Proofs.YtgiefadcpnegcaaGreat
