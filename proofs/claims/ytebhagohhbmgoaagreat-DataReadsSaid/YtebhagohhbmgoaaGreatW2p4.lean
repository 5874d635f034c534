import Derived.Test.YtebhagohhbmgoaaGreatW2p3
/- walks: what the code computes, function by function. -/
set_option linter.unusedSimpArgs false
set_option linter.unusedVariables false
namespace Go.Proofs.YtebhagohhbmgoaaGreat
open Go.Ow Go.RowKit Go.Proofs
set_option maxHeartbeats 8000000
theorem ref17_May_ok{c}:Con Tryz.prog 93 true (sp_Pool false c) (ref17_May c) (λr=> [.b r]):=by
 intro H a0 a1 a2 a3 a4 a5 a6 a7 a8 a9 b0 k b1 b2 b3 f b4 b5 b6 h b7 b8 b9 c0 c1 c2 c3 c4 c5 c6 c7 d2 r hx
 refine Does.enterC Tryz.func93 rfl rfl ?_
 intro w
 unfold ref17_May at hx
 refine Run.cl [] 2 ZB rfl (ZV rfl rfl (λm i0=>Run.lc_s [] 5 ZB rfl (Zh (so:=[(_,[])]) 24 rfl Mixed ⟨by kernel_rfl,by kernel_rfl⟩ (ZX [0] rfl) ?_)))
 refine JB.run 2 [0,1] [0] ZB rfl ?_
 refine JB.one (i:=2) (by kernel_rfl) ?_
 refine JOB.step rfl trivial rfl (λK hK=>ZI hx E45 rfl ref13_May_ok rfl ⟨a3,a7,k,trivial⟩ ?_)
 intro i1 i2 hx
 refine JL.nil (hK _ _ _ (Hle.refl _) (ZX [0] rfl) ?_)
 refine JB.run 2 [3,4] [] ZB rfl ?_
 refine JB.gX 10 hx rfl (λd3 hx=> ?_) (λd3 hx=> ?_)
 ·
  refine JB.run 19 [5,6,7,8,9,10,11,12,13,14,15,16,17,18,19,20,21,22,23] [] ZB rfl ?_
  refine JB.doneN (by kernel_rfl) ?_
  refine Run.nnz_sk [] 9 ZB rfl ?_
  exact ZD [] rfl hx rfl rfl
 ·
  refine JB.run 2 [5,6] [0] ZB rfl ?_
  refine JB.val (i:=7) [] rfl (R.gtr32 (a:=c.Gen) (b:=(16777215:UInt32)) rfl rfl) ?_
  refine JB.run 2 [8,9] [] ZB rfl ?_
  refine JB.gX 15 hx rfl (λd4 hx=> ?_) (λd4 hx=> ?_)
  ·
   refine JB.run 14 [10,11,12,13,14,15,16,17,18,19,20,21,22,23] [] ZB rfl ?_
   refine JB.doneN (by kernel_rfl) ?_
   refine Run.nnz_sk [] 9 ZB rfl ?_
   exact ZD [] rfl hx rfl rfl
  ·
   refine JB.run 2 [10,11] [0] ZB rfl ?_
   refine JB.one (i:=12) (by kernel_rfl) ?_
   refine JOB.step rfl ⟨_,_,rfl,rfl,rfl⟩ rfl (λK hK=>ZI hx E46 rfl ref10_May_ok rfl trivial ?_)
   intro i3 i4 hx
   refine JL.nil (hK _ _ _ (Hle.refl _) (ZX [0] rfl) ?_)
   refine JB.run 3 [13,14,15] [] ZB rfl ?_
   refine JB.gX 21 hx rfl (λd5 hx=> ?_) (λd5 hx=> ?_)
   ·
    refine JB.run 8 [16,17,18,19,20,21,22,23] [] ZB rfl ?_
    refine JB.doneN (by kernel_rfl) ?_
    refine Run.nnz_sk [] 9 ZB rfl ?_
    exact ZD [] rfl hx rfl rfl
   ·
    refine JB.run 4 [16,17,19,20] [0,0] ZB rfl ?_
    refine JB.val (i:=21) [] rfl (R.eql32 (a:=c.Gen) (b:=(0:UInt32)) rfl rfl) ?_
    refine JB.one (i:=18) (by kernel_rfl) ?_
    refine JOB.step rfl ⟨_,_,rfl,rfl,rfl⟩ rfl (λK hK=>ZI hx E52 rfl ref10_None_ok rfl trivial ?_)
    intro i5 i6 hx
    refine JL.nil (hK _ _ _ (Hle.refl _) (ZX [0] rfl) ?_)
    refine JB.val (i:=22) [] rfl (R.neqBool U4 rfl rfl) ?_
    refine JB.val (i:=23) [] rfl (R.pickF rfl rfl) ?_
    refine JB.doneN (by kernel_rfl) ?_
    refine Zw (ZG hx rfl (λd6 hx=> ?_) (λd6 hx=> ?_))
    ·
     refine Run.cnz_k [] 7 ZB rfl ?_
     exact ZD [] rfl hx rfl rfl
    ·
     refine Run.cc_s [] 8 ZB rfl (ZO hx [1] [0] rfl rfl (λs l0 o0 l o g=>∃c8:Unit,l=l0∧o=o0∧H=g∧s=.inl c8) (λs i7 hx=> ?_) (λs j hx=> ?_))
     ·
      rintro _ _ _ ⟨c8,rfl,rfl,rfl,rfl⟩
      simp only[Sum.elim_inl]at hx
      refine Run.nl_s [0] 6 ZB rfl (ZI hx E151 rfl ref17_mayLines_ok rfl ⟨h,trivial⟩ ?_)
      intro i8 i9 hx
      refine Run.llz [] 2 ZB rfl (ZQ 75 hx rfl (λd7 hx=> ?_) (λd7 hx=> ?_))
      ·
       refine Run.lnz_sk [] 46 ZB rfl ?_
       exact ZD [] rfl hx rfl rfl
      ·
       refine Run.llz [0] 5 ZB rfl (ZI hx E152 rfl ref17_mayKeys_ok rfl ⟨c0,trivial⟩ ?_)
       intro j0 j1 hx
       refine Run.llz [] 4 ZB rfl (ZQ 81 hx rfl (λd8 hx=> ?_) (λd8 hx=> ?_))
       ·
        refine Run.lnz_sk [] 40 ZB rfl ?_
        exact ZD [] rfl hx rfl rfl
       ·
        refine Run.llz [0] 5 ZB rfl (ZI hx E152 rfl ref17_mayKeys_ok rfl ⟨c4,trivial⟩ ?_)
        intro j2 j3 hx
        refine Run.llz [] 4 ZB rfl (ZQ 87 hx rfl (λv hx=> ?_) (λv hx=> ?_))
        ·
         refine Run.lnz_sk [] 34 ZB rfl ?_
         exact ZD [] rfl hx rfl rfl
        ·
         refine Run.llz [0] 3 ZB rfl (ZI hx E153 rfl ref17_mayChanges_ok rfl ⟨a3,a7,k,f,h,c0,c4,d2,trivial⟩ ?_)
         intro j4 j5 hx
         refine Run.llz [] 4 ZB rfl (ZQ 92 hx rfl (λd9 hx=> ?_) (λd9 hx=> ?_))
         ·
          refine Run.lnz_sk [] 29 ZB rfl ?_
          exact ZD [] rfl hx rfl rfl
         ·
          refine Run.llz [0] 8 ZB rfl (ZQ 97 hx rfl (λe0 hx=> ?_) (λe0 hx=> ?_))
          ·
           refine Run.lnz_sk [] 24 ZB rfl ?_
           exact ZD [] rfl hx rfl rfl
          ·
           refine Run.llz [0] 8 ZB rfl (ZQ 102 hx rfl (λe1 hx=> ?_) (λe1 hx=> ?_))
           ·
            refine Run.lnz_sk [] 19 ZB rfl ?_
            exact ZD [] rfl hx rfl rfl
           ·
            refine Run.llz [0] 8 ZB rfl (ZQ 107 hx rfl (λe2 hx=> ?_) (λe2 hx=> ?_))
            ·
             refine Run.lnz_sk [] 14 ZB rfl ?_
             exact ZD [] rfl hx rfl rfl
            ·
             refine Run.lcz_s [0] 9 ZB rfl (JC.tidy (l':=[(1,.pointer (some ⟨m,0,none⟩)),(111,.bool (decide (256<c.NextId)))]) (own':=[[(m,.cells #[.slice a0 a1 a2,.slice a4 a5 a6,.slice a8 a9 b0,.int .u32 (c.Store.Epoch.toNat:Int),.int .u32 (c.Store.Count.toNat:Int),.int .u32 (c.Gen.toNat:Int),.int .i64 c.Root.At,.int .u32 (c.Root.Birth.toNat:Int),.int .u32 (c.Root.Iv.toNat:Int),.int .u32 (c.Root.Tag.toNat:Int),.int .u32 (c.Root.Sum.toNat:Int),.slice b1 b2 b3,.slice b4 b5 b6,.slice b7 b8 b9,.slice c1 c2 c3,.slice c5 c6 c7,.int .i64 c.Logged,.int .i64 c.NextId,.int .u32 (c.NextGuid.toNat:Int)] 55 (0,0))]]) ⟨rfl,rfl,trivial⟩ rfl (JC.tidyP (l':=[(1,.pointer (some ⟨m,0,none⟩)),(111,.bool (decide (256<c.NextId)))]) (own':=[[(m,.cells #[.slice a0 a1 a2,.slice a4 a5 a6,.slice a8 a9 b0,.int .u32 (c.Store.Epoch.toNat:Int),.int .u32 (c.Store.Count.toNat:Int),.int .u32 (c.Gen.toNat:Int),.int .i64 c.Root.At,.int .u32 (c.Root.Birth.toNat:Int),.int .u32 (c.Root.Iv.toNat:Int),.int .u32 (c.Root.Tag.toNat:Int),.int .u32 (c.Root.Sum.toNat:Int),.slice b1 b2 b3,.slice b4 b5 b6,.slice b7 b8 b9,.slice c1 c2 c3,.slice c5 c6 c7,.int .i64 c.Logged,.int .i64 c.NextId,.int .u32 (c.NextGuid.toNat:Int)] 55 (0,0))]]) (rst:=[]) ⟨rfl,rfl,trivial⟩ (Ze 0 rfl ZT) (ZG hx rfl (λe3 hx=> ?_) (λe3 hx=> ?_))))
             ·
              refine Run.cnz_k [] 7 ZB rfl ?_
              exact ZD [] rfl hx rfl rfl
             ·
              refine Run.cc_s [] 8 ZB rfl (ZO hx [] [] rfl rfl (λx l0 o0 l o g=>∃c9:Unit,l=l0∧o=o0∧H=g∧x=.inl c9) (λx j6 hx=> ?_) (λx d0 hx=> ?_))
              ·
               rintro _ _ _ ⟨c9,rfl,rfl,rfl,rfl⟩
               simp only[Sum.elim_inl]at hx
               refine Run.nnz_s [] 7 ZB rfl ?_
               exact ZD [] rfl hx rfl rfl
              ·
               refine JC.block (ZS [1] [0] rfl rfl (λl0 o0 y l o g=>l=(5,.int .i64 ((y:Nat):Int))::l0∧o=o0∧H=g) hx ⟨rfl,rfl,rfl⟩ rfl ?_)
               ·
                rintro j7 y _ _ _ ⟨rfl,rfl,rfl⟩ j8 hx p
                unfold ref17_May_l2 at hx
                refine Run.cl [0] 6 ZB rfl (ZA rfl rfl (ZM U52 rfl (IsSlice.long h)) (Run.lcz_s [] 3 ZB rfl (ZG hx rfl (λd1 hx=> ?_) (λd1 hx=> ?_))))
                ·
                 refine Run.cc_s [] 5 ZB rfl (Zh (so:=[(_,[])]) 20 rfl Mixed ⟨by kernel_rfl,by kernel_rfl⟩ (ZX [0] rfl) ?_)
                 refine JB.run 3 [0,1,2] [0] ZB rfl ?_
                 obtain⟨j9,e4,hx⟩:=ZJ hx
                 obtain⟨k0,k1,k2,e5,e6,k3,e7⟩:=IsSlice.elem h e4
                 obtain⟨k4,rfl,e8⟩:=e6
                 obtain⟨k5,k6,rfl⟩:=IsSlice.val e8
                 refine JB.val (i:=3) [] rfl (Zd U52 S99 rfl rfl e5) ?_
                 refine JB.val (i:=4) [] rfl (R.fa F99_0 rfl) ?_
                 refine JB.val (i:=5) [] rfl (ZY S3 rfl (e7 0 _ rfl)) ?_
                 refine JB.run 4 [6,7,8,9] [0] ZB rfl ?_
                 refine JB.gX 128 hx rfl (λe9 hx=> ?_) (λe9 hx=> ?_)
                 ·
                  refine JB.run 10 [10,11,12,13,14,15,16,17,18,19] [] ZB rfl ?_
                  refine JB.doneN (by kernel_rfl) ?_
                  refine Run.nnz_sbk [] 10 ZB rfl ?_
                  obtain rfl:=ZH p hx
                  refine Run.nnz_kb [] 2 ZB rfl ?_
                  clear hx;have hx:=d0
                  simp only[Sum.elim_inl,Sum.elim_inr]at hx
                  refine Run.nnz_kk [] 2 ZB rfl ?_
                  exact ZD [] rfl hx rfl rfl
                 ·
                  refine JB.run 3 [10,11,12] [0] ZB rfl ?_
                  obtain⟨f0,f1,hx⟩:=ZJ hx
                  obtain⟨k7,k8,k9,f2,f3,l1,f4⟩:=IsSlice.elem h f1
                  obtain⟨l2,rfl,f5⟩:=f3
                  obtain⟨l3,l4,rfl⟩:=IsSlice.val f5
                  refine JB.val (i:=13) [] rfl (Zd U52 S99 rfl rfl f2) ?_
                  refine JB.val (i:=14) [] rfl (R.fa F99_5 rfl) ?_
                  refine JB.val (i:=15) [] rfl (ZY S27 rfl (f4 5 _ rfl)) ?_
                  refine JB.run 2 [16,17] [0] ZB rfl ?_
                  refine JB.val (i:=18) [] rfl (R.geq32 (a:=f0.Guid) (b:=c.NextGuid) rfl rfl) ?_
                  refine JB.val (i:=19) [] rfl (R.pickF rfl rfl) ?_
                  refine JB.doneN (by kernel_rfl) ?_
                  refine Zw (ZG hx rfl (λf6 hx=> ?_) (λf6 hx=> ?_))
                  ·
                   refine Run.cnz_bk [] 8 ZB rfl ?_
                   obtain rfl:=ZH p hx
                   refine Run.nnz_kb [] 2 ZB rfl ?_
                   clear hx;have hx:=d0
                   simp only[Sum.elim_inl,Sum.elim_inr]at hx
                   refine Run.nnz_kk [] 2 ZB rfl ?_
                   exact ZD [] rfl hx rfl rfl
                  ·
                   refine Run.clz_bs [] 5 ZB rfl (ZA rfl rfl (Zi rfl rfl (of_decide_eq_true d1) (IsSlice.lenI h)) (Run.lnz [] 2 ZB rfl ?_))
                   replace hx:=ZP p hx
                   exact ZC ⟨y+1,⟨rfl,rfl,rfl⟩,hx⟩ rfl rfl rfl
                ·
                 refine Run.cnz_k [] 2 ZB rfl ?_
                 obtain rfl:=ZH p hx
                 refine Run.nnz_kb [] 2 ZB rfl (JN.forget 0 ?_)
                 exact ZC ⟨(),rfl,rfl,rfl,rfl⟩ rfl rfl rfl
     ·
      refine JC.block (ZS [1] [0] rfl rfl (λl0 o0 q l o g=>l=(3,.int .i64 ((q:Nat):Int))::l0∧o=o0∧H=g) hx ⟨rfl,rfl,rfl⟩ rfl ?_)
      ·
       rintro l5 q _ _ _ ⟨rfl,rfl,rfl⟩ l6 hx d
       unfold ref17_May_l1 at hx
       refine Run.cl [0] 6 ZB rfl (ZA rfl rfl (ZM U51 rfl (IsSlice.long f)) (Run.lcz_s [] 3 ZB rfl (ZG hx rfl (λz hx=> ?_) (λz hx=> ?_))))
       ·
        refine Run.cl_s [0] 9 ZB rfl ?_
        obtain⟨l7,f7,hx⟩:=ZJ hx
        obtain⟨l8,l9,m0,f8,f9,m1,g0⟩:=IsSlice.elem f f7
        obtain rfl:=f9
        refine ZA rfl rfl (Zd U51 S3 rfl rfl f8) (ZA rfl rfl (ZY S3 rfl (g0 0 _ rfl)) (Run.ll_s [] 8 ZB rfl (ZQ 44 hx rfl (λg1 hx=> ?_) (λg1 hx=> ?_))))
        ·
         refine Run.lnz_sbk [] 37 ZB rfl ?_
         obtain rfl:=ZH d hx
         refine Run.nnz_kb [] 2 ZB rfl ?_
         clear hx;have hx:=j
         simp only[Sum.elim_inl,Sum.elim_inr]at hx
         refine Run.nnz_kk [] 2 ZB rfl ?_
         exact ZD [] rfl hx rfl rfl
        ·
         refine Run.llz [] 6 ZB rfl (ZQ 48 hx rfl (λv hx=> ?_) (λv hx=> ?_))
         ·
          refine Run.lnz_sbk [] 33 ZB rfl ?_
          obtain rfl:=ZH d hx
          refine Run.nnz_kb [] 2 ZB rfl ?_
          clear hx;have hx:=j
          simp only[Sum.elim_inl,Sum.elim_inr]at hx
          refine Run.nnz_kk [] 2 ZB rfl ?_
          exact ZD [] rfl hx rfl rfl
         ·
          refine Run.llz [] 6 ZB rfl (ZQ 51 hx rfl (λg2 hx=> ?_) (λg2 hx=> ?_))
          ·
           refine Run.llz [0] 11 ZB rfl ?_
           obtain⟨m2,g3,hx⟩:=ZJ hx
           obtain⟨m3,m4,m5,g4,g5,m6,g6⟩:=IsSlice.elem f g3
           obtain rfl:=g5
           refine ZA rfl rfl (Zd U51 S3 rfl rfl g4) (Zq rfl rfl rfl (ZA rfl rfl (ZY S3 rfl (g6 0 _ rfl)) (Run.llz [] 6 ZB rfl (ZQ 62 hx rfl (λg7 hx=> ?_) (λg7 hx=> ?_)))))
           ·
            refine Run.lnz_sbk [] 19 ZB rfl ?_
            obtain rfl:=ZH d hx
            refine Run.nnz_kb [] 2 ZB rfl ?_
            clear hx;have hx:=j
            simp only[Sum.elim_inl,Sum.elim_inr]at hx
            refine Run.nnz_kk [] 2 ZB rfl ?_
            exact ZD [] rfl hx rfl rfl
           ·
            refine Run.llz [0] 9 ZB rfl ?_
            obtain⟨g8,g9,hx⟩:=ZJ hx
            obtain⟨m7,m8,m9,h0,h1,n0,h2⟩:=IsSlice.elem k g9
            obtain rfl:=h1
            refine ZA rfl rfl (Zd U26 S5 rfl rfl h0) (Zq rfl rfl rfl (ZA rfl rfl (ZY S5 rfl (h2 0 _ rfl)) (Zq rfl rfl rfl (ZA rfl rfl (R.neq8 (a:=g8) (b:=(1:UInt8)) rfl rfl) (Run.lcz_s [] 3 ZB rfl (ZG hx rfl (λh3 hx=> ?_) (λh3 hx=> ?_)))))))
            ·
             refine Run.cnz_bk [] 8 ZB rfl ?_
             obtain rfl:=ZH d hx
             refine Run.nnz_kb [] 2 ZB rfl ?_
             clear hx;have hx:=j
             simp only[Sum.elim_inl,Sum.elim_inr]at hx
             refine Run.nnz_kk [] 2 ZB rfl ?_
             exact ZD [] rfl hx rfl rfl
            ·
             refine Run.clz_bs [] 5 ZB rfl (ZA rfl rfl (Zi rfl rfl (of_decide_eq_true z) (IsSlice.lenI f)) (Run.lnz [] 2 ZB rfl ?_))
             replace hx:=ZP d hx
             exact ZC ⟨q+1,⟨rfl,rfl,rfl⟩,hx⟩ rfl rfl rfl
          ·
           refine Run.llz [0] 21 ZB rfl ?_
           obtain⟨h4,h5,hx⟩:=ZJ hx
           obtain⟨n1,n2,n3,h6,h7,n4,h8⟩:=IsSlice.elem k h5
           obtain rfl:=h7
           refine ZA rfl rfl (Zd U26 S5 rfl rfl h6) (Zq rfl rfl rfl (ZA rfl rfl (ZY S5 rfl (h8 0 _ rfl)) (Zq rfl rfl rfl (ZA rfl rfl (R.neq8 (a:=h4) (b:=(1:UInt8)) rfl rfl) (Run.lcz_s [] 3 ZB rfl (ZG hx rfl (λh9 hx=> ?_) (λh9 hx=> ?_)))))))
           ·
            refine Run.cnz_bk [] 8 ZB rfl ?_
            obtain rfl:=ZH d hx
            refine Run.nnz_kb [] 2 ZB rfl ?_
            clear hx;have hx:=j
            simp only[Sum.elim_inl,Sum.elim_inr]at hx
            refine Run.nnz_kk [] 2 ZB rfl ?_
            exact ZD [] rfl hx rfl rfl
           ·
            refine Run.clz_bs [] 5 ZB rfl (ZA rfl rfl (Zi rfl rfl (of_decide_eq_true z) (IsSlice.lenI f)) (Run.lnz [] 2 ZB rfl ?_))
            replace hx:=ZP d hx
            exact ZC ⟨q+1,⟨rfl,rfl,rfl⟩,hx⟩ rfl rfl rfl
       ·
        refine Run.cnz_k [] 2 ZB rfl ?_
        obtain rfl:=ZH d hx
        refine Run.nnz_kb [] 2 ZB rfl ?_
        exact ZC ⟨(),rfl,rfl,rfl,rfl⟩ rfl rfl rfl
theorem ref20_Asked_ok{a b}:Con Tryz.prog 70 true (sp_Pool false a++ [.i b]) (ref20_Asked a b) (λr=> [.i r.1,.i r.2]):=by
 intro H v x y d z a0 a1 f a2 a3 a4 h a5 a6 a7 j a8 a9 b0 c b1 b2 b3 k b4 b5 b6 m b7 b8 b9 p r hx
 refine Does.enterC Tryz.func70 rfl rfl ?_
 intro w
 unfold ref20_Asked at hx
 refine Run.cl [] 2 ZB rfl (ZV rfl rfl (λc0 c1=>Run.ll_s [0] 8 ZB rfl (ZI hx E93 rfl ref17_May_ok rfl ⟨d,f,h,j,c,k,m,p,trivial⟩ ?_)))
 intro c2 c3 hx
 refine Run.lcz_s [] 3 ZB rfl (ZG hx rfl (λq hx=> ?_) (λq hx=> ?_))
 ·
  refine Run.cnz_k [] 8 ZB rfl ?_
  exact ZD [] rfl hx rfl rfl
 ·
  refine Run.cl_s [0] 7 ZB rfl (ZI hx E127 rfl ref17_Line_ok rfl ⟨c,trivial⟩ ?_)
  intro c4 c5 hx
  refine Run.lc_s [] 10 ZB rfl (ZG hx rfl (λs hx=> ?_) (λs hx=> ?_))
  ·
   refine Run.cnz_k [] 8 ZB rfl ?_
   exact ZD [] rfl hx rfl rfl
  ·
   refine Run.cnz_s [] 10 ZB rfl ?_
   exact ZD [] rfl hx rfl rfl
theorem ref20_Change_ok{j k m p}:Con Tryz.prog 72 true ([.sl false R_Change 12 j,.i k,.i m,.i p]) (ref20_Change j k m p) (λr=>sp_Change false r.1++ [.b r.2]):=by
 intro H b9 c0 c1 a r hx
 refine Does.enterC Tryz.func72 rfl rfl ?_
 intro w
 unfold ref20_Change at hx
 refine Run.cl [] 2 ZB rfl (JL.alloc Z101 rfl (λc2 c3=>Run.lc_s [] 9 ZB rfl (ZO hx [8] [0] rfl rfl (λh l0 o0 l o g=>∃q:Unit,l=l0∧o=o0∧H=g∧h=.inl q) (λh c4 hx=> ?_) (λh v hx=> ?_))))
 ·
  rintro _ _ _ ⟨q,rfl,rfl,rfl,rfl⟩
  simp only[Sum.elim_inl]at hx
  refine Run.nnz_s [0] 9 ZB rfl ?_
  exact JN.conCQ [0] [] ZB rfl hx rfl ⟨IsSlice.nil _ _ _,rfl⟩
 ·
  refine JC.block (ZS [0,1,2,3,8] [0] rfl rfl (λl0 o0 c l o g=>l=(10,.int .i64 ((c:Nat):Int))::l0∧o=o0∧H=g) hx ⟨rfl,rfl,rfl⟩ rfl ?_)
  ·
   rintro c5 c _ _ _ ⟨rfl,rfl,rfl⟩ c6 hx d
   unfold ref20_Change_l1 at hx
   refine Run.cl [] 5 ZB rfl (ZA rfl rfl (ZM U53 rfl (IsSlice.long a)) (Run.lcz_s [] 3 ZB rfl (ZG hx rfl (λf hx=> ?_) (λf hx=> ?_))))
   ·
    refine Run.cl_s [] 8 ZB rfl ?_
    obtain⟨c7,x,hx⟩:=ZJ hx
    obtain⟨c8,c9,d0,y,z,d1,a0⟩:=IsSlice.elem a x
    obtain⟨d2,rfl,a1⟩:=z
    obtain⟨d3,d4,rfl⟩:=IsSlice.val a1
    refine ZA rfl rfl (Zd U53 S101 rfl rfl y) (ZA rfl rfl (R.fa F101_0 rfl) (ZA rfl rfl (ZY S3 rfl (a0 0 _ rfl)) (Run.llz [] 3 ZB rfl (ZQ 24 hx rfl (λa2 hx=> ?_) (λa2 hx=> ?_)))))
    ·
     refine Run.llz [] 5 ZB rfl ?_
     obtain⟨d5,a3,hx⟩:=ZJ hx
     obtain⟨d6,d7,d8,a4,a5,d9,a6⟩:=IsSlice.elem a a3
     obtain⟨e0,rfl,a7⟩:=a5
     obtain⟨e1,e2,rfl⟩:=IsSlice.val a7
     refine ZA rfl rfl (Zd U53 S101 rfl rfl a4) (Run.llz [] 3 ZB rfl (ZA rfl rfl (ZY S3 rfl (a6 1 _ rfl)) (Run.llz [] 6 ZB rfl (ZQ 33 hx rfl (λa8 hx=> ?_) (λa8 hx=> ?_)))))
     ·
      refine Run.llz [] 5 ZB rfl ?_
      obtain⟨e3,a9,hx⟩:=ZJ hx
      obtain⟨e4,e5,e6,b0,b1,e7,b2⟩:=IsSlice.elem a a9
      obtain⟨e8,rfl,b3⟩:=b1
      obtain⟨e9,f0,rfl⟩:=IsSlice.val b3
      refine ZA rfl rfl (Zd U53 S101 rfl rfl b0) (Run.llz [] 3 ZB rfl (ZA rfl rfl (ZY S3 rfl (b2 2 _ rfl)) (Run.lcz_s [] 7 ZB rfl (ZG hx rfl (λb4 hx=> ?_) (λb4 hx=> ?_)))))
      ·
       refine Run.cl [] 4 ZB rfl ?_
       obtain⟨f1,b5,hx⟩:=ZJ hx
       obtain⟨f2,f3,f4,b6,b7,f5,b8⟩:=IsSlice.elem a b5
       obtain⟨f6,rfl,s⟩:=b7
       obtain⟨f7,f8,rfl⟩:=IsSlice.val s
       refine ZA rfl rfl (Zd U53 S101 rfl rfl b6) (ZA rfl rfl (Zz 0 S101 rfl b8 rfl rfl) (Run.lnz_sbk [0] 7 ZB rfl ?_))
       obtain rfl:=ZH d hx
       refine Run.nnz_kb [] 2 ZB rfl ?_
       clear hx;have hx:=v
       simp only[Sum.elim_inl,Sum.elim_inr]at hx
       refine Run.nnz_kk [] 2 ZB rfl ?_
       exact JN.conCQ [0] [] ZB rfl hx rfl ⟨s,rfl⟩
      ·
       refine Run.clz_bs [] 5 ZB rfl (ZA rfl rfl (Zi rfl rfl (of_decide_eq_true f) (IsSlice.lenI a)) (Run.lnz [] 2 ZB rfl ?_))
       replace hx:=ZP d hx
       exact ZC ⟨c+1,⟨rfl,rfl,rfl⟩,hx⟩ rfl rfl rfl
     ·
      refine Run.llz_sbs [] 16 ZB rfl (ZA rfl rfl (Zi rfl rfl (of_decide_eq_true f) (IsSlice.lenI a)) (Run.lnz [] 2 ZB rfl ?_))
      replace hx:=ZP d hx
      exact ZC ⟨c+1,⟨rfl,rfl,rfl⟩,hx⟩ rfl rfl rfl
    ·
     refine Run.llz_sbs [] 25 ZB rfl (ZA rfl rfl (Zi rfl rfl (of_decide_eq_true f) (IsSlice.lenI a)) (Run.lnz [] 2 ZB rfl ?_))
     replace hx:=ZP d hx
     exact ZC ⟨c+1,⟨rfl,rfl,rfl⟩,hx⟩ rfl rfl rfl
   ·
    refine Run.cnz_k [] 2 ZB rfl ?_
    obtain rfl:=ZH d hx
    refine Run.nnz_kb [] 2 ZB rfl ?_
    exact ZC ⟨(),rfl,rfl,rfl,rfl⟩ rfl rfl rfl
theorem ref15_may_ok{c d}:Con Tryz.prog 187 true (sp_Store false c++sp_Ptr false d) (ref15_may c d) (λr=> [.b r]):=by
 intro H k m p f q s v h x y z i r hx
 refine Does.enterC Tryz.func187 rfl rfl ?_
 intro w
 unfold ref15_may at hx
 refine Run.cl [] 2 ZB rfl (ZV rfl rfl (λa0 a1=>ZV rfl rfl (λa2 a3=>Run.lc_s [] 4 ZB rfl (ZO hx [] [] rfl rfl (λa l0 o0 l o g=>l=(4,.bool a)::l0∧o=o0∧H=g) (λa a4 hx=> ?_) (λa a5 hx=> ?_)))))
 ·
  rintro _ _ _ ⟨rfl,rfl,rfl⟩
  refine Run.nnz_s [] 2 ZB rfl ?_
  exact ZD [] rfl hx rfl rfl
 ·
  refine Run.clz [1] 2 ZB rfl (ZI hx E45 rfl ref13_May_ok rfl ⟨f,h,i,trivial⟩ ?_)
  intro a6 a7 hx
  refine ZA rfl rfl (ZW rfl) (ZQ 7 hx rfl (λj hx=> ?_) (λj hx=> ?_))
  ·
   refine Run.llz [0] 3 ZB rfl (ZI hx E46 rfl ref10_May_ok rfl trivial ?_)
   intro a8 a9 hx
   refine Run.lnz [] 3 ZB rfl ?_
   obtain rfl:=Option.some.inj hx
   refine JN.forget 1 (JN.forget 0 ?_)
   exact ZC ⟨rfl,rfl,rfl⟩ rfl rfl rfl
  ·
   refine Run.lnz [] 5 ZB rfl ?_
   obtain rfl:=Option.some.inj hx
   refine JN.forget 1 (JN.forget 0 ?_)
   exact ZC ⟨rfl,rfl,rfl⟩ rfl rfl rfl
theorem ref09_last_ok{h j k}:Con Tryz.prog 219 true (sp_Disk false h++ [.sl false RBool 1 j,.i k]) (ref09_last h j k) (λr=> [.i r]):=by
 intro H a8 a9 b0 b1 b2 b3 b4 m b5 b6 b7 p r hx
 refine Does.enterC Tryz.func219 rfl rfl ?_
 intro w
 unfold ref09_last at hx
 refine Run.cl [] 2 ZB rfl (ZV rfl rfl (λb8 b9=>Run.ll_s [0] 7 ZB rfl (ZA rfl rfl (ZM U23 rfl (IsSlice.long m)) (Run.lc_s [] 5 ZB rfl (ZO hx [] [] rfl rfl (λb l0 o0 l o g=>l=(7,.int .i64 b)::l0∧o=o0∧H=g) (λb c0 hx=> ?_) (λb c1 hx=> ?_))))))
 ·
  rintro _ _ _ ⟨rfl,rfl,rfl⟩
  refine Run.nnz_s [] 8 ZB rfl ?_
  exact ZD [] rfl hx rfl rfl
 ·
  refine JC.block (ZS [1,2,3] [0] rfl rfl (λl0 o0 c l o g=>l=(7,.int .i64 c)::l0∧o=o0∧H=g) hx ⟨rfl,rfl,rfl⟩ rfl ?_)
  ·
   rintro c2 c _ _ _ ⟨rfl,rfl,rfl⟩ c3 hx a
   unfold ref09_last_l1 at hx
   refine JC.seq (ZO hx [1,2,3,7] [0] rfl rfl (λd l0 o0 l o g=>∃q:Unit,l=l0∧o=o0∧H=g∧d=.inl q) (λd c4 hx=> ?_) (λd f hx=> ?_))
   ·
    rintro _ _ _ ⟨q,rfl,rfl,rfl,rfl⟩
    simp only[Sum.elim_inl]at hx
    refine Run.nnz_s [] 8 ZB rfl ?_
    replace hx:=ZP a hx
    exact ZC ⟨w64 (c-1),⟨rfl,rfl,rfl⟩,hx⟩ rfl rfl rfl
   ·
    refine Run.cl [] 5 ZB rfl (ZQ 14 hx rfl (λs hx=> ?_) (λs hx=> ?_))
    ·
     refine Run.llz [0] 7 ZB rfl ?_
     obtain⟨c5,v,hx⟩:=ZJ hx
     obtain⟨c6,c7,c8,x,y,c9,z⟩:=IsSlice.elem m v
     obtain⟨d0,rfl,a0⟩:=y
     obtain⟨d1,d2,rfl⟩:=IsSlice.val a0
     refine ZA rfl rfl (Zd U23 S96 rfl rfl x) (Run.llz [] 3 ZB rfl (ZA rfl rfl (ZY S3 rfl (z 0 _ rfl)) (Run.llz [] 6 ZB rfl (ZQ 23 hx rfl (λa1 hx=> ?_) (λa1 hx=> ?_)))))
     ·
      refine Run.llz [] 3 ZB rfl (ZA rfl rfl (ZM U265 rfl (IsSlice.long p)) (Run.llz [] 4 ZB rfl (ZQ 27 hx rfl (λa2 hx=> ?_) (λa2 hx=> ?_))))
      ·
       refine Run.lnz_s [] 15 ZB rfl ?_
       obtain rfl:=Option.some.inj hx
       clear hx;have hx:=f
       simp only[Sum.elim_inl,Sum.elim_inr]at hx
       refine Run.nnz_kk [] 2 ZB rfl ?_
       obtain rfl:=ZH a hx
       refine Run.nnz_kb [] 2 ZB rfl (JN.forget 0 ?_)
       exact ZC ⟨rfl,rfl,rfl⟩ rfl rfl rfl
      ·
       refine Run.llz [] 5 ZB rfl ?_
       obtain⟨d3,a3,hx⟩:=ZJ hx
       obtain⟨d4,d5,d6,a4,a5,d7,a6⟩:=IsSlice.elem p a3
       obtain rfl:=a5
       refine ZA rfl rfl (Zd U265 S4 rfl rfl a4) (Zq rfl rfl rfl (ZA rfl rfl (ZY S4 rfl (a6 0 _ rfl)) (Run.lcz_s [] 9 ZB rfl (ZG hx rfl (λa7 hx=> ?_) (λa7 hx=> ?_)))))
       ·
        refine JC.skip ?_
        obtain rfl:=Option.some.inj hx
        exact ZC ⟨(),rfl,rfl,rfl,rfl⟩ rfl rfl rfl
       ·
        refine JC.exit ?_
        obtain rfl:=Option.some.inj hx
        clear hx;have hx:=f
        simp only[Sum.elim_inl,Sum.elim_inr]at hx
        refine Run.nnz_kk [] 2 ZB rfl ?_
        obtain rfl:=ZH a hx
        refine Run.nnz_kb [] 2 ZB rfl (JN.forget 0 ?_)
        exact ZC ⟨rfl,rfl,rfl⟩ rfl rfl rfl
     ·
      refine Run.lnz_s [] 18 ZB rfl ?_
      obtain rfl:=Option.some.inj hx
      exact ZC ⟨(),rfl,rfl,rfl,rfl⟩ rfl rfl rfl
    ·
     refine Run.lnz_s [] 25 ZB rfl ?_
     obtain rfl:=Option.some.inj hx
     clear hx;have hx:=f
     simp only[Sum.elim_inl,Sum.elim_inr]at hx
     refine Run.nnz_kk [] 2 ZB rfl ?_
     obtain rfl:=ZH a hx
     refine Run.nnz_kb [] 2 ZB rfl (JN.forget 0 ?_)
     exact ZC ⟨rfl,rfl,rfl⟩ rfl rfl rfl
theorem ref09_left_ok{a b c}:Con Tryz.prog 167 true (sp_Disk false a++ [.sl false RBool 1 b,.i c]) (ref09_left a b c) (λr=> [.row true RU8 5 1 r]):=by
 intro H a7 a8 a9 d b0 b1 b2 f b3 b4 b5 p r hx
 refine Does.enterC Tryz.func167 rfl rfl ?_
 intro w
 unfold ref09_left at hx
 refine Run.cl [] 2 ZB rfl (ZV rfl rfl (λb6 b7=>Run.ll_s [0] 8 ZB rfl (ZI hx E219 rfl ref09_last_ok rfl ⟨d,f,p,trivial⟩ ?_)))
 intro b8 b9 hx
 refine Run.lc_s [] 10 ZB rfl (ZG hx rfl (λq hx=> ?_) (λq hx=> ?_))
 ·
  refine Run.cl [0] 5 ZB rfl ?_
  obtain⟨c0,s,hx⟩:=ZJ hx
  obtain⟨c1,c2,c3,v,x,c4,y⟩:=IsSlice.elem d s
  obtain⟨c5,rfl,h⟩:=x
  obtain⟨c6,c7,rfl⟩:=IsSlice.val h
  refine ZA rfl rfl (Zd U22 S26 rfl rfl v) (ZA rfl rfl (ZY S26 rfl (y 0 _ rfl)) (JL.seg0 ?_))
  obtain⟨c8,z,a0,hx⟩:=Zb hx
  refine Zl (HF:=(New H H)) 0 U26 I5 rfl rfl (RowOf.nil _ RU8 _ _ _) rfl (SrcF.sliceC RU8.const RU8.one U26 h) z a0 rfl (Nat.le_refl _) rfl (λc9 d0 j=> ?_)
  obtain⟨d1,d2,rfl⟩:=RowOf.val j
  refine Run.lnz_sk [] 5 ZB rfl ?_
  exact ZD [0] rfl hx rfl ⟨⟨_,j⟩,rfl⟩
 ·
  refine Run.cl_s [0] 7 ZB rfl ?_
  obtain⟨d3,a1,hx⟩:=ZJ hx
  obtain⟨d4,d5,d6,a2,a3,d7,a4⟩:=IsSlice.elem f a1
  obtain⟨d8,rfl,k⟩:=a3
  obtain⟨d9,e0,rfl⟩:=IsSlice.val k
  refine ZA rfl rfl (Zd U23 S96 rfl rfl a2) (ZA rfl rfl (R.fa F96_1 rfl) (ZA rfl rfl (ZY S26 rfl (a4 1 _ rfl)) (JL.seg0 ?_)))
  obtain⟨e1,a5,a6,hx⟩:=Zb hx
  refine Zl (HF:=(New H H)) 0 U26 I5 rfl rfl (RowOf.nil _ RU8 _ _ _) rfl (SrcF.sliceC RU8.const RU8.one U26 k) a5 a6 rfl (Nat.le_refl _) rfl (λe2 e3 m=> ?_)
  obtain⟨e4,e5,rfl⟩:=RowOf.val m
  refine Run.lnz_s [] 4 ZB rfl ?_
  exact ZD [0] rfl hx rfl ⟨⟨_,m⟩,rfl⟩
theorem ref09_Seen_ok{a b}:Con Tryz.prog 106 true (sp_Disk false a++ [.i b]) (ref09_Seen a b) (λr=> [.row true RU8 5 1 r]):=by
 intro H h j k c m p q d r hx
 refine Does.enterC Tryz.func106 rfl rfl ?_
 intro w
 unfold ref09_Seen at hx
 refine Run.cl [] 2 ZB rfl (ZV rfl rfl (λs v=>Run.ll_s [0] 7 ZB rfl (ZI hx E167 rfl ref09_left_ok rfl ⟨c,d,(IsSlice.nil _ _ _),trivial⟩ ?_)))
 intro x y hx z a0 a1 a2 f
 refine Run.lnz_s [] 4 ZB rfl ?_
 exact ZD [0] rfl hx rfl ⟨⟨_,f⟩,rfl⟩
theorem ref02_byteAt_ok{c d}:Con Tryz.prog 257 true ([.sl false RU8 1 c,.i d]) (ref02_byteAt c d) (λr=> [.w32 r]):=by
 intro H s v x b r hx
 refine Does.enterC Tryz.func257 rfl rfl ?_
 intro w
 unfold ref02_byteAt at hx
 refine Run.cl [] 10 ZB rfl (ZA rfl rfl (ZM U26 rfl (IsSlice.long b)) (Run.lcz_s [] 3 ZB rfl (ZG hx rfl (λf hx=> ?_) (λf hx=> ?_))))
 ·
  refine Run.cl [] 4 ZB rfl ?_
  obtain⟨h,j,hx⟩:=ZJ hx
  obtain⟨y,z,a0,k,m,a1,p⟩:=IsSlice.elem b j
  obtain rfl:=m
  refine ZA rfl rfl (Zd U26 S5 rfl rfl k) (ZA rfl rfl (ZY S5 rfl (p 0 _ rfl)) (ZA rfl rfl (R.cv_u8_u32 (a:=h) U5 U27 rfl) (Run.lnz_sk [] 5 ZB rfl ?_)))
  exact ZD [] rfl hx rfl rfl
 ·
  refine Run.cl_s [] 7 ZB rfl (ZA rfl rfl (ZM U26 rfl (IsSlice.long b)) (Run.lcz_s [] 3 ZB rfl (ZG hx rfl (λq hx=> ?_) (λq hx=> ?_))))
  ·
   refine Run.cnz_k [] 7 ZB rfl ?_
   exact ZD [] rfl hx rfl rfl
  ·
   refine Run.cnz_s [] 8 ZB rfl ?_
   exact ZD [] rfl hx rfl rfl
theorem ref02_word_ok{j k}:Con Tryz.prog 220 true ([.sl false RU8 1 j,.i k]) (ref02_word j k) (λr=> [.w32 r]):=by
 intro H p q s c r hx
 refine Does.enterC Tryz.func220 rfl rfl ?_
 intro w
 unfold ref02_word at hx
 refine Run.cl [] 9 ZB rfl (ZI hx E257 rfl ref02_byteAt_ok rfl ⟨c,trivial⟩ ?_)
 intro f v hx
 refine Run.llz [] 3 ZB rfl (ZI hx E257 rfl ref02_byteAt_ok rfl ⟨c,trivial⟩ ?_)
 intro d x hx
 refine ZA rfl rfl (R.mul32 (a:=(256:UInt32)) (b:=d) rfl rfl) (ZA rfl rfl (R.add32 (a:=f) (b:=(256:UInt32)*d) rfl rfl) (Run.llz [] 3 ZB rfl (ZI hx E257 rfl ref02_byteAt_ok rfl ⟨c,trivial⟩ ?_)))
 intro h y hx
 refine ZA rfl rfl (R.mul32 (a:=(65536:UInt32)) (b:=h) rfl rfl) (ZA rfl rfl (R.add32 (a:=f+((256:UInt32)*d)) (b:=(65536:UInt32)*h) rfl rfl) (Run.llz [] 3 ZB rfl (ZI hx E257 rfl ref02_byteAt_ok rfl ⟨c,trivial⟩ ?_)))
 intro m z hx
 refine ZA rfl rfl (R.mul32 (a:=(16777216:UInt32)) (b:=m) rfl rfl) (ZA rfl rfl (R.add32 (a:=(f+((256:UInt32)*d))+((65536:UInt32)*h)) (b:=(16777216:UInt32)*m) rfl rfl) (Run.lnz_s [] 4 ZB rfl ?_))
 exact ZD [] rfl hx rfl rfl
theorem ref02_plus_ok{b c}:Con Tryz.prog 258 true ([.w32 b,.w32 c]) (ref02_plus b c) (λr=> [.w32 r]):=by
 intro H r hx
 refine Does.enterC Tryz.func258 rfl rfl ?_
 intro w
 unfold ref02_plus at hx
 refine Run.cl [] 8 ZB rfl (ZA rfl rfl (R.cv_u32_i64 (a:=b) U27 U3 rfl) (ZA rfl rfl (ZW rfl) (ZA rfl rfl (R.cv_u32_i64 (a:=c) U27 U3 rfl) (ZA rfl rfl (R.add_i rfl rfl) (ZA rfl rfl (R.rem_i rfl rfl (by decide)) (ZA rfl rfl (R.cv_i64_u32 U3 U27 rfl) ?_))))))
 refine Run.lnz_s [] 4 ZB rfl ?_
 exact ZD [] rfl hx rfl rfl
theorem ref02_left_ok{c f}:Con Tryz.prog 259 true ([.w32 c,.i f]) (ref02_left c f) (λr=> [.w32 r]):=by
 intro H r hx
 refine Does.enterC Tryz.func259 rfl rfl ?_
 intro w
 unfold ref02_left at hx
 refine Run.cl [] 8 ZB rfl (ZA rfl rfl (R.cv_u32_i64 (a:=c) U27 U3 rfl) (Run.lc_s [] 9 ZB rfl (ZO hx [] [] rfl rfl (λd l0 o0 l o g=>l=(5,.int .i64 d)::l0∧o=o0∧H=g) (λd k hx=> ?_) (λd m hx=> ?_))))
 ·
  rintro _ _ _ ⟨rfl,rfl,rfl⟩
  refine Run.nl_s [] 4 ZB rfl (ZA rfl rfl (R.cv_i64_u32 U3 U27 rfl) (Run.lnz_s [] 4 ZB rfl ?_))
  exact ZD [] rfl hx rfl rfl
 ·
  refine JC.block (ZS [1] [] rfl rfl (λl0 o0 b l o g=>l=(5,.int .i64 b.1)::(6,.int .i64 b.2)::l0∧o=o0∧H=g) hx ⟨rfl,rfl,rfl⟩ rfl ?_)
  ·
   rintro p b _ _ _ ⟨rfl,rfl,rfl⟩ q hx h
   unfold ref02_left_l1 at hx
   refine Run.cc [] 8 ZB rfl (ZG hx rfl (λj hx=> ?_) (λj hx=> ?_))
   ·
    refine Run.cl_s [] 7 ZB rfl (ZA rfl rfl (R.rem_i rfl rfl (by decide)) ?_)
    refine Run.llz [] 2 ZB rfl (ZA rfl rfl (R.quo_i rfl rfl (by decide)) ?_)
    refine Run.lnz_bs [] 10 ZB rfl ?_
    replace hx:=ZP h hx
    exact ZC ⟨(w64 (((w64 (b.1*2)).tmod 4294967296)+(w64 ((w64 (b.1*2)).tdiv 4294967296))),w64 (b.2+1)),⟨rfl,rfl,rfl⟩,hx⟩ rfl rfl rfl
   ·
    refine Run.cnz_k [] 2 ZB rfl ?_
    obtain rfl:=ZH h hx
    refine Run.nnz_kb [] 2 ZB rfl ?_
    exact ZC ⟨rfl,rfl,rfl⟩ rfl rfl rfl
theorem ref02_Turn_ok{c}:Con Tryz.prog 221 true ([.st 4,.w32 c.e0,.w32 c.e1,.w32 c.e2,.w32 c.e3]) (ref02_Turn c) (λr=> [.st 4,.w32 r.e0,.w32 r.e1,.w32 r.e2,.w32 r.e3]):=by
 intro H r hx
 refine Does.enterC Tryz.func221 rfl rfl ?_
 intro w
 unfold ref02_Turn at hx
 refine Run.cl [] 2 ZB rfl (ZV rfl rfl (λp v=>JL.alloc Z156 rfl (λf x=>Run.ll_s [] 4 ZB rfl (ZA rfl rfl (R.ixA 0 U156 S27 rfl rfl rfl) (Run.ll_s [1] 6 ZB rfl (ZA rfl rfl (R.ixA 1 U156 S27 rfl rfl rfl) (Run.ll_s [1] 6 ZB rfl (ZA rfl rfl (R.ixA 2 U156 S27 rfl rfl rfl) (Run.ll_s [1] 6 ZB rfl (ZA rfl rfl (R.ixA 3 U156 S27 rfl rfl rfl) (Run.ll_s [1] 8 ZB rfl (ZI hx E258 rfl ref02_plus_ok rfl trivial ?_))))))))))))
 intro q y hx
 refine Run.ll_s [] 7 ZB rfl (ZA rfl rfl (R.xor32 (a:=c.e3) (b:=q) rfl rfl) (ZI hx E259 rfl ref02_left_ok rfl trivial ?_))
 intro s z hx
 refine Run.ll_s [] 7 ZB rfl (ZI hx E258 rfl ref02_plus_ok rfl trivial ?_)
 intro i a0 hx
 refine Run.ll_s [] 7 ZB rfl (ZA rfl rfl (R.xor32 (a:=c.e1) (b:=i) rfl rfl) (ZI hx E259 rfl ref02_left_ok rfl trivial ?_))
 intro j a1 hx
 refine Run.ll_s [] 7 ZB rfl (ZI hx E258 rfl ref02_plus_ok rfl trivial ?_)
 intro d a2 hx
 refine Run.ll_s [] 7 ZB rfl (ZA rfl rfl (R.xor32 (a:=s) (b:=d) rfl rfl) (ZI hx E259 rfl ref02_left_ok rfl trivial ?_))
 intro h a3 hx
 refine Run.lcz_s [] 3 ZB rfl (JC.tidy (l':=[(2,.pointer (some ⟨f,0,none⟩)),(3,.int .u32 (d.toNat:Int)),(4,.int .u32 (j.toNat:Int)),(5,.int .u32 (i.toNat:Int)),(6,.int .u32 (h.toNat:Int))]) (own':=[[(f,.cells #[.int .u32 ((0:UInt32).toNat:Int),.int .u32 ((0:UInt32).toNat:Int),.int .u32 ((0:UInt32).toNat:Int),.int .u32 ((0:UInt32).toNat:Int)] 156 (0,0))],[(p,.cells #[.int .u32 (c.e0.toNat:Int),.int .u32 (c.e1.toNat:Int),.int .u32 (c.e2.toNat:Int),.int .u32 (c.e3.toNat:Int)] 156 (0,0))]]) ⟨rfl,rfl,rfl,rfl,rfl,trivial⟩ rfl (JC.tidyP (l':=[(2,.pointer (some ⟨f,0,none⟩)),(3,.int .u32 (d.toNat:Int)),(4,.int .u32 (j.toNat:Int)),(5,.int .u32 (i.toNat:Int)),(6,.int .u32 (h.toNat:Int))]) (own':=[[(f,.cells #[.int .u32 ((0:UInt32).toNat:Int),.int .u32 ((0:UInt32).toNat:Int),.int .u32 ((0:UInt32).toNat:Int),.int .u32 ((0:UInt32).toNat:Int)] 156 (0,0))]]) (rst:=[_]) ⟨rfl,rfl,rfl,rfl,rfl,trivial⟩ (Ze 0 rfl ZT) (Run.cl [] 4 ZB rfl (ZI hx E258 rfl ref02_plus_ok rfl trivial ?_))))
 intro k a4 hx
 refine Run.ll_s [] 7 ZB rfl (ZA rfl rfl (R.xor32 (a:=j) (b:=k) rfl rfl) (ZI hx E259 rfl ref02_left_ok rfl trivial ?_))
 intro m a5 hx
 refine Run.ll_s [] 9 ZB rfl (ZA rfl rfl (R.bldA (vs:=[(0,.int .u32 (d.toNat:Int)),(1,.int .u32 (m.toNat:Int)),(2,.int .u32 (k.toNat:Int)),(3,.int .u32 (h.toNat:Int))]) (cells:=#[.int .u32 (d.toNat:Int),.int .u32 (m.toNat:Int),.int .u32 (k.toNat:Int),.int .u32 (h.toNat:Int)]) Z156 B156 rfl rfl rfl rfl) (Run.lnz_s [0] 4 ZB rfl ?_))
 exact JN.conCQ [0] [] ZB rfl hx rfl rfl
theorem ref02_Four_ok{p}:Con Tryz.prog 168 true ([.sl false RU8 1 p]) (ref02_Four p) (λr=> [.st 4,.w32 r.e0,.w32 r.e1,.w32 r.e2,.w32 r.e3]):=by
 intro H a1 a2 a3 f r hx
 refine Does.enterC Tryz.func168 rfl rfl ?_
 intro w
 unfold ref02_Four at hx
 refine Run.cl [] 2 ZB rfl (JL.alloc Z156 rfl (λa4 a5=>Run.ll_s [] 4 ZB rfl (ZA rfl rfl (R.bldA (vs:=[(0,.int .u32 ((1:UInt32).toNat:Int)),(1,.int .u32 ((2:UInt32).toNat:Int)),(2,.int .u32 ((3:UInt32).toNat:Int)),(3,.int .u32 ((4:UInt32).toNat:Int))]) (cells:=#[.int .u32 ((1:UInt32).toNat:Int),.int .u32 ((2:UInt32).toNat:Int),.int .u32 ((3:UInt32).toNat:Int),.int .u32 ((4:UInt32).toNat:Int)]) Z156 B156 rfl rfl rfl rfl) (JL.alloc Z156 rfl (λh a6=>Run.lc_s [0] 9 ZB rfl (ZO hx [0,2,3] [1] rfl rfl (λd l0 o0 l o g=>l=l0∧o= [(h,.cells #[.int .u32 (d.1.toNat:Int),.int .u32 (d.2.1.toNat:Int),.int .u32 (d.2.2.1.toNat:Int),.int .u32 (d.2.2.2.toNat:Int)] 156 (0,0))]::o0∧H=g) (λd a7 hx=> ?_) (λd a8 hx=> ?_)))))))
 ·
  rintro _ _ _ ⟨rfl,rfl,rfl⟩
  refine Run.nl_s [] 3 ZB rfl (ZA rfl rfl (R.ixA 1 U156 S27 rfl rfl rfl) (Run.llz [0] 2 ZB rfl (ZA rfl rfl (ZM U26 rfl (IsSlice.long f)) (ZA rfl rfl (R.cv_i64_u32 U3 U27 rfl) (ZA rfl rfl (R.xor32 (a:=d.2.1) (b:=u32i (p.length:Int)) rfl rfl) (ZA rfl rfl (R.ixA 1 U156 S27 rfl rfl rfl) (Run.ll_s [0,0] 6 ZB rfl (ZI hx E221 rfl ref02_Turn_ok rfl trivial ?_))))))))
  intro a9 b0 hx
  refine ZI hx E221 rfl ref02_Turn_ok rfl trivial ?_
  intro b1 b2 hx
  refine ZI hx E221 rfl ref02_Turn_ok rfl trivial ?_
  intro b3 b4 hx
  refine ZI hx E221 rfl ref02_Turn_ok rfl trivial ?_
  intro b5 b6 hx
  refine Run.ll_s [0,0] 6 ZB rfl (ZI hx E221 rfl ref02_Turn_ok rfl trivial ?_)
  intro b7 b8 hx
  refine ZI hx E221 rfl ref02_Turn_ok rfl trivial ?_
  intro b9 c0 hx
  refine ZI hx E221 rfl ref02_Turn_ok rfl trivial ?_
  intro c1 c2 hx
  refine ZI hx E221 rfl ref02_Turn_ok rfl trivial ?_
  intro c3 c4 hx
  refine Run.lnz_s [1] 4 ZB rfl ?_
  exact JN.conCQ [1] [] ZB rfl hx rfl rfl
 ·
  refine JC.block (ZR 1 rfl (ZR 1 rfl (ZS [0,2,3] [1] rfl rfl (λl0 o0 c l o g=>l=(4,.int .i64 c.2.2.2.2)::l0∧o= [(h,.cells #[.int .u32 (c.1.toNat:Int),.int .u32 (c.2.1.toNat:Int),.int .u32 (c.2.2.1.toNat:Int),.int .u32 (c.2.2.2.1.toNat:Int)] 156 (0,0))]::o0∧H=g) hx ⟨rfl,rfl,rfl⟩ rfl ?_)))
  ·
   rintro c5 c _ _ _ ⟨rfl,rfl,rfl⟩ c6 hx s
   unfold ref02_Four_l1 at hx
   refine Run.cl [] 5 ZB rfl (ZA rfl rfl (ZM U26 rfl (IsSlice.long f)) (Run.lcz_s [] 3 ZB rfl (ZG hx rfl (λv hx=> ?_) (λv hx=> ?_))))
   ·
    refine Run.cc_s [] 5 ZB rfl (ZO hx [0,2,3,4] [1] rfl rfl (λk l0 o0 l o g=>l=l0∧o= [(h,.cells #[.int .u32 (k.toNat:Int),.int .u32 (c.2.1.toNat:Int),.int .u32 (c.2.2.1.toNat:Int),.int .u32 (c.2.2.2.1.toNat:Int)] 156 (0,0))]::o0∧H=g) (λk c7 hx=> ?_) (λk c8 hx=> ?_))
    ·
     rintro _ _ _ ⟨rfl,rfl,rfl⟩
     refine Run.nc_s [] 2 ZB rfl (ZO hx [0,2,3,4] [1] rfl rfl (λq l0 o0 l o g=>l=l0∧o= [(h,.cells #[.int .u32 (k.toNat:Int),.int .u32 (c.2.1.toNat:Int),.int .u32 (q.toNat:Int),.int .u32 (c.2.2.2.1.toNat:Int)] 156 (0,0))]::o0∧H=g) (λq c9 hx=> ?_) (λq d0 hx=> ?_))
     ·
      rintro _ _ _ ⟨rfl,rfl,rfl⟩
      refine Run.nlz_s [0] 3 ZB rfl (ZI hx E221 rfl ref02_Turn_ok rfl trivial ?_)
      intro d1 d2 hx
      refine ZI hx E221 rfl ref02_Turn_ok rfl trivial ?_
      intro d3 d4 hx
      refine ZI hx E221 rfl ref02_Turn_ok rfl trivial ?_
      intro d5 d6 hx
      refine ZI hx E221 rfl ref02_Turn_ok rfl trivial ?_
      intro m d7 hx
      refine Run.lnz_bs [0] 9 ZB rfl ?_
      replace hx:=ZP s hx
      refine ZE 1 rfl (ZE 1 rfl ?_)
      exact ZC ⟨(m.e0,m.e1,m.e2,m.e3,w64 (c.2.2.2.2+8)),⟨rfl,rfl,rfl⟩,hx⟩ rfl rfl rfl
     ·
      refine JC.draw (so:=[_]) 9 rfl Mixed ⟨⟨1,rfl⟩,trivial⟩ (JA.val ⟨by kernel_rfl,by kernel_rfl⟩ (ZK _) (i:=0) rfl ⟨by kernel_rfl,by kernel_rfl,rfl⟩ trivial (ZL (Hle.refl _) ⟨⟨1,rfl⟩,trivial⟩) (R.ixA 2 U156 S27 rfl rfl rfl) rfl (JA.val ⟨by kernel_rfl,by kernel_rfl⟩ (ZK _) (i:=2) rfl ⟨by kernel_rfl,by kernel_rfl,rfl⟩ trivial (ZL (Hle.refl _) ⟨⟨1,rfl⟩,trivial⟩) (ZW rfl) rfl (JA.val ⟨by kernel_rfl,by kernel_rfl⟩ (ZK _) (i:=3) rfl ⟨by kernel_rfl,by kernel_rfl,rfl⟩ trivial (ZL (Hle.refl _) ⟨⟨1,rfl⟩,trivial⟩) (ZW rfl) rfl (JA.val ⟨by kernel_rfl,by kernel_rfl⟩ (ZK _) (i:=4) rfl ⟨by kernel_rfl,by kernel_rfl,rfl⟩ trivial (ZL (Hle.refl _) ⟨⟨1,rfl⟩,trivial⟩) (R.add_i rfl rfl) rfl (JA.two (i:=1) (j:=5) (by kernel_rfl) ?_ ?_)))))
      ·
       refine JO.step rfl trivial rfl (λK hK=>Run.lnz [0] 2 ZB rfl (hK _ _ _ (ZL (Hle.refl _) ⟨⟨1,rfl⟩,trivial⟩) (JA.one (i:=5) (by kernel_rfl) (JO.step rfl trivial rfl (λK hK=> ?_)))))
       refine ZI hx E220 rfl ref02_word_ok rfl ⟨f,trivial⟩ ?_
       intro x d8 hx
       refine JL.nil (hK _ _ _ (ZL (Hle.refl _) ⟨⟨1,rfl⟩,trivial⟩) (JA.val ⟨by kernel_rfl,by kernel_rfl⟩ (ZK _) (i:=6) rfl ⟨by kernel_rfl,by kernel_rfl,rfl⟩ trivial (ZL (Hle.refl _) ⟨⟨1,rfl⟩,trivial⟩) (R.xor32 (a:=c.2.2.1) (b:=x) rfl rfl) rfl (JA.val ⟨by kernel_rfl,by kernel_rfl⟩ (ZK _) (i:=7) rfl ⟨by kernel_rfl,by kernel_rfl,rfl⟩ trivial (ZL (Hle.refl _) ⟨⟨1,rfl⟩,trivial⟩) (R.ixA 2 U156 S27 rfl rfl rfl) rfl (JA.one (i:=8) (by kernel_rfl) (JO.step rfl trivial rfl (λK hK=> ?_))))))
       refine Run.lnz [0] 2 ZB rfl (hK _ _ _ (ZL (Hle.refl _) ⟨⟨1,rfl⟩,trivial⟩) (JA.doneN (by kernel_rfl) ?_))
       obtain rfl:=Option.some.inj hx
       refine ZE 1 rfl (ZE 1 rfl ?_)
       exact ZC ⟨rfl,rfl,rfl⟩ rfl rfl rfl
      ·
       refine JO.step rfl trivial rfl (λK hK=>ZI hx E220 rfl ref02_word_ok rfl ⟨f,trivial⟩ ?_)
       intro y d9 hx
       refine JL.nil (hK _ _ _ (ZL (Hle.refl _) ⟨⟨1,rfl⟩,trivial⟩) (JA.one (i:=1) (by kernel_rfl) (JO.step rfl trivial rfl (λK hK=> ?_))))
       refine Run.lnz [0] 2 ZB rfl (hK _ _ _ (ZL (Hle.refl _) ⟨⟨1,rfl⟩,trivial⟩) (JA.val ⟨by kernel_rfl,by kernel_rfl⟩ (ZK _) (i:=6) rfl ⟨by kernel_rfl,by kernel_rfl,rfl⟩ trivial (ZL (Hle.refl _) ⟨⟨1,rfl⟩,trivial⟩) (R.xor32 (a:=c.2.2.1) (b:=y) rfl rfl) rfl (JA.val ⟨by kernel_rfl,by kernel_rfl⟩ (ZK _) (i:=7) rfl ⟨by kernel_rfl,by kernel_rfl,rfl⟩ trivial (ZL (Hle.refl _) ⟨⟨1,rfl⟩,trivial⟩) (R.ixA 2 U156 S27 rfl rfl rfl) rfl (JA.one (i:=8) (by kernel_rfl) (JO.step rfl trivial rfl (λK hK=> ?_))))))
       refine Run.lnz [0] 2 ZB rfl (hK _ _ _ (ZL (Hle.refl _) ⟨⟨1,rfl⟩,trivial⟩) (JA.doneN (by kernel_rfl) ?_))
       obtain rfl:=Option.some.inj hx
       refine ZE 1 rfl (ZE 1 rfl ?_)
       exact ZC ⟨rfl,rfl,rfl⟩ rfl rfl rfl
    ·
     refine JC.draw (so:=[_]) 8 rfl Mixed ⟨⟨1,rfl⟩,trivial⟩ (JA.val ⟨by kernel_rfl,by kernel_rfl⟩ (ZK _) (i:=0) rfl ⟨by kernel_rfl,by kernel_rfl,rfl⟩ trivial (ZL (Hle.refl _) ⟨⟨1,rfl⟩,trivial⟩) (R.ixA 0 U156 S27 rfl rfl rfl) rfl (JA.val ⟨by kernel_rfl,by kernel_rfl⟩ (ZK _) (i:=2) rfl ⟨by kernel_rfl,by kernel_rfl,rfl⟩ trivial (ZL (Hle.refl _) ⟨⟨1,rfl⟩,trivial⟩) (ZW rfl) rfl (JA.val ⟨by kernel_rfl,by kernel_rfl⟩ (ZK _) (i:=3) rfl ⟨by kernel_rfl,by kernel_rfl,rfl⟩ trivial (ZL (Hle.refl _) ⟨⟨1,rfl⟩,trivial⟩) (ZW rfl) rfl (JA.two (i:=1) (j:=4) (by kernel_rfl) ?_ ?_))))
     ·
      refine JO.step rfl trivial rfl (λK hK=>Run.lnz [0] 2 ZB rfl (hK _ _ _ (ZL (Hle.refl _) ⟨⟨1,rfl⟩,trivial⟩) (JA.one (i:=4) (by kernel_rfl) (JO.step rfl trivial rfl (λK hK=> ?_)))))
      refine ZI hx E220 rfl ref02_word_ok rfl ⟨f,trivial⟩ ?_
      intro z e4 hx
      refine JL.nil (hK _ _ _ (ZL (Hle.refl _) ⟨⟨1,rfl⟩,trivial⟩) (JA.val ⟨by kernel_rfl,by kernel_rfl⟩ (ZK _) (i:=5) rfl ⟨by kernel_rfl,by kernel_rfl,rfl⟩ trivial (ZL (Hle.refl _) ⟨⟨1,rfl⟩,trivial⟩) (R.xor32 (a:=c.1) (b:=z) rfl rfl) rfl (JA.val ⟨by kernel_rfl,by kernel_rfl⟩ (ZK _) (i:=6) rfl ⟨by kernel_rfl,by kernel_rfl,rfl⟩ trivial (ZL (Hle.refl _) ⟨⟨1,rfl⟩,trivial⟩) (R.ixA 0 U156 S27 rfl rfl rfl) rfl (JA.one (i:=7) (by kernel_rfl) (JO.step rfl trivial rfl (λK hK=> ?_))))))
      refine Run.lnz [0] 2 ZB rfl (hK _ _ _ (ZL (Hle.refl _) ⟨⟨1,rfl⟩,trivial⟩) (JA.doneN (by kernel_rfl) ?_))
      obtain rfl:=Option.some.inj hx
      refine ZE 1 rfl (ZE 1 rfl ?_)
      exact ZC ⟨rfl,rfl,rfl⟩ rfl rfl rfl
     ·
      refine JO.step rfl trivial rfl (λK hK=>ZI hx E220 rfl ref02_word_ok rfl ⟨f,trivial⟩ ?_)
      intro a0 e5 hx
      refine JL.nil (hK _ _ _ (ZL (Hle.refl _) ⟨⟨1,rfl⟩,trivial⟩) (JA.one (i:=1) (by kernel_rfl) (JO.step rfl trivial rfl (λK hK=> ?_))))
      refine Run.lnz [0] 2 ZB rfl (hK _ _ _ (ZL (Hle.refl _) ⟨⟨1,rfl⟩,trivial⟩) (JA.val ⟨by kernel_rfl,by kernel_rfl⟩ (ZK _) (i:=5) rfl ⟨by kernel_rfl,by kernel_rfl,rfl⟩ trivial (ZL (Hle.refl _) ⟨⟨1,rfl⟩,trivial⟩) (R.xor32 (a:=c.1) (b:=a0) rfl rfl) rfl (JA.val ⟨by kernel_rfl,by kernel_rfl⟩ (ZK _) (i:=6) rfl ⟨by kernel_rfl,by kernel_rfl,rfl⟩ trivial (ZL (Hle.refl _) ⟨⟨1,rfl⟩,trivial⟩) (R.ixA 0 U156 S27 rfl rfl rfl) rfl (JA.one (i:=7) (by kernel_rfl) (JO.step rfl trivial rfl (λK hK=> ?_))))))
      refine Run.lnz [0] 2 ZB rfl (hK _ _ _ (ZL (Hle.refl _) ⟨⟨1,rfl⟩,trivial⟩) (JA.doneN (by kernel_rfl) ?_))
      obtain rfl:=Option.some.inj hx
      refine ZE 1 rfl (ZE 1 rfl ?_)
      exact ZC ⟨rfl,rfl,rfl⟩ rfl rfl rfl
   ·
    refine Run.cnz_k [] 2 ZB rfl ?_
    obtain rfl:=ZH s hx
    refine Run.nnz_kb [] 2 ZB rfl (ZE 1 rfl (ZE 1 rfl ?_))
    exact ZC ⟨rfl,rfl,rfl⟩ rfl rfl rfl
theorem ref02_Sum_ok{a}:Con Tryz.prog 107 true ([.sl false RU8 1 a]) (ref02_Sum a) (λr=> [.w32 r]):=by
 intro H c d f b r hx
 refine Does.enterC Tryz.func107 rfl rfl ?_
 intro w
 unfold ref02_Sum at hx
 refine Run.cl [] 8 ZB rfl (ZI hx E168 rfl ref02_Four_ok rfl ⟨b,trivial⟩ ?_)
 intro h i hx
 refine ZA rfl rfl (R.idxAk 0 U156 S27 rfl rfl rfl rfl rfl) (Run.lnz_s [] 4 ZB rfl ?_)
 exact ZD [] rfl hx rfl rfl
theorem ref13_Seen_ok{d c}:Con Tryz.prog 47 true (sp_Store false d++sp_Ptr false c) (ref13_Seen d c) (λr=> [.row true RU8 5 1 r.1,.i r.2]):=by
 intro H z a0 a1 j a2 a3 a4 k a5 a6 a7 a8 r hx
 refine Does.enterC Tryz.func47 rfl rfl ?_
 intro w
 unfold ref13_Seen at hx
 refine Run.cl [] 2 ZB rfl (ZV rfl rfl (λa9 b0=>ZV rfl rfl (λb1 b2=>Run.ll_s [0] 8 ZB rfl (ZI hx E52 rfl ref10_None_ok rfl trivial ?_))))
 intro b3 b4 hx
 refine Run.lcz_s [] 2 ZB rfl (ZG hx rfl (λm hx=> ?_) (λm hx=> ?_))
 ·
  refine Run.cnz_k [] 8 ZB rfl (ZZ ?_)
  exact ZD [0] rfl hx rfl ⟨⟨0,RowOf.nil _ _ _ _ _⟩,rfl⟩
 ·
  refine Run.cl_s [1,0] 8 ZB rfl (ZI hx E106 rfl ref09_Seen_ok rfl ⟨j,k,trivial⟩ ?_)
  intro b5 b6 hx b7 b8 b9 c0 f
  refine Run.lc_s [] 5 ZB rfl (Zh (so:=[(_,[]),(_,[])]) 5 rfl Mixed ⟨by kernel_rfl,by kernel_rfl⟩ (ZX [1,2] rfl) ?_)
  refine JB.run 3 [0,2,3] [0] ZB rfl ?_
  refine JB.one (i:=1) (by kernel_rfl) ?_
  refine JOB.step rfl trivial rfl (λK hK=>JL.conL hx E107 rfl ref02_Sum_ok rfl (λc1 p q=>⟨(Lent.row' 0 q RU8.mono p rfl (f.old RU8.mono)),trivial⟩) (λ_=>trivial) ?_)
  intro s c2 hx
  refine JL.nil (hK _ _ _ (Hle.refl _) (ZX [1,2] rfl) ?_)
  refine JB.val (i:=4) [] rfl (R.neq32 (a:=s) (b:=c.Sum) rfl rfl) ?_
  refine JB.doneN (by kernel_rfl) ?_
  refine Zw (ZG hx rfl (λv hx=> ?_) (λv hx=> ?_))
  ·
   refine Run.cnz_k [] 8 ZB rfl (ZZ ?_)
   exact ZD [0] rfl hx rfl ⟨⟨0,RowOf.nil _ _ _ _ _⟩,rfl⟩
  ·
   refine Run.cl_s [] 5 ZB rfl (JL.seg0 ?_)
   obtain⟨c3,x,y,hx⟩:=Zb hx
   refine Zl (HF:=(New H H)) 0 U26 I5 rfl rfl (RowOf.nil _ RU8 _ _ _) rfl (SrcF.row 1 U26 rfl f) x y rfl (Nat.le_refl _) rfl (λc4 c5 h=> ?_)
   obtain⟨c6,c7,rfl⟩:=RowOf.val h
   refine Run.lnz_s [] 5 ZB rfl ?_
   exact ZD [0] rfl hx rfl ⟨⟨_,h⟩,rfl⟩
theorem ref10_Get_ok{h}:Con Tryz.prog 253 true ([.sl false RU8 1 h]) (ref10_Get h) (λr=> [.w32 r]):=by
 intro H v x y i r hx
 refine Does.enterC Tryz.func253 rfl rfl ?_
 intro w
 unfold ref10_Get at hx
 refine Run.cl [] 14 ZB rfl (ZA rfl rfl (ZM U26 rfl (IsSlice.long i)) (Run.lcz_s [] 4 ZB rfl (ZO hx [] [] rfl rfl (λd l0 o0 l o g=>l=(3,.int .u32 (d.toNat:Int))::l0∧o=o0∧H=g) (λd z hx=> ?_) (λd a0 hx=> ?_))))
 ·
  rintro _ _ _ ⟨rfl,rfl,rfl⟩
  refine Run.nnz_s [] 8 ZB rfl ?_
  exact ZD [] rfl hx rfl rfl
 ·
  refine JC.block (ZS [0] [] rfl rfl (λl0 o0 c l o g=>l=(3,.int .u32 (c.1.toNat:Int))::(4,.int .i64 c.2)::l0∧o=o0∧H=g) hx ⟨rfl,rfl,rfl⟩ rfl ?_)
  ·
   rintro a1 c _ _ _ ⟨rfl,rfl,rfl⟩ a2 hx j
   unfold ref10_Get_l1 at hx
   refine Run.cc [] 7 ZB rfl (ZG hx rfl (λk hx=> ?_) (λk hx=> ?_))
   ·
    refine Run.cl_s [] 6 ZB rfl (ZA rfl rfl (R.mul32 (a:=(256:UInt32)) (b:=c.1) rfl rfl) (Run.llz [] 2 ZB rfl ?_))
    obtain⟨f,m,hx⟩:=ZJ hx
    obtain⟨a3,a4,a5,p,q,a6,s⟩:=IsSlice.elem i m
    obtain rfl:=q
    refine ZA rfl rfl (Zd U26 S5 rfl rfl p) (ZA rfl rfl (ZY S5 rfl (s 0 _ rfl)) (ZA rfl rfl (R.cv_u8_u32 (a:=f) U5 U27 rfl) (ZA rfl rfl (R.add32 (a:=(256:UInt32)*c.1) (b:=f.toUInt32) rfl rfl) (Run.lnz_bs [] 9 ZB rfl ?_))))
    replace hx:=ZP j hx
    exact ZC ⟨(((256:UInt32)*c.1)+f.toUInt32,w64 (c.2-1)),⟨rfl,rfl,rfl⟩,hx⟩ rfl rfl rfl
   ·
    refine Run.cnz_k [] 2 ZB rfl ?_
    obtain rfl:=ZH j hx
    refine Run.nnz_kb [] 2 ZB rfl ?_
    exact ZC ⟨rfl,rfl,rfl⟩ rfl rfl rfl
theorem ref10_Read_ok{d}:Con Tryz.prog 213 true ([.sl false RU8 1 d]) (ref10_Read d) (λr=>sp_Ptr true r.1++ [.i r.2]):=by
 intro H b7 b8 b9 f r hx
 refine Does.enterC Tryz.func213 rfl rfl ?_
 intro w
 unfold ref10_Read at hx
 refine Run.cl [] 2 ZB rfl (JL.alloc Z31 rfl (λc0 c1=>Run.ll_s [] 7 ZB rfl (ZA rfl rfl (ZM U26 rfl (IsSlice.long f)) (Run.lcz_s [] 3 ZB rfl (ZG hx rfl (λa7 hx=> ?_) (λa7 hx=> ?_))))))
 ·
  refine Run.cnz_k [0] 9 ZB rfl ?_
  exact JN.conCQ [0] [] ZB rfl hx rfl rfl
 ·
  refine Run.cc_s [] 3 ZB rfl (JC.draw (so:=[_]) 19 rfl Mixed ⟨⟨0,rfl⟩,trivial⟩ (JA.val ⟨by kernel_rfl,by kernel_rfl⟩ (ZK _) (i:=0) rfl ⟨by kernel_rfl,by kernel_rfl,rfl⟩ trivial (ZL (Hle.refl _) ⟨⟨0,rfl⟩,trivial⟩) (ZW rfl) rfl ?_))
  obtain⟨h,a8,hx⟩:=ZJ hx
  obtain⟨c2,c3,c4,a9,b0,c5,b1⟩:=IsSlice.elem f a8
  obtain rfl:=b0
  refine JA.val ⟨by kernel_rfl,by kernel_rfl⟩ (ZK _) (i:=1) rfl ⟨by kernel_rfl,by kernel_rfl,rfl⟩ trivial (ZL (Hle.refl _) ⟨⟨0,rfl⟩,trivial⟩) (Zd U26 S5 rfl rfl a9) rfl (JA.val ⟨by kernel_rfl,by kernel_rfl⟩ (ZK _) (i:=2) rfl ⟨by kernel_rfl,by kernel_rfl,rfl⟩ trivial (ZL (Hle.refl _) ⟨⟨0,rfl⟩,trivial⟩) (ZY S5 rfl (b1 0 _ rfl)) rfl (JA.val ⟨by kernel_rfl,by kernel_rfl⟩ (ZK _) (i:=3) rfl ⟨by kernel_rfl,by kernel_rfl,rfl⟩ trivial (ZL (Hle.refl _) ⟨⟨0,rfl⟩,trivial⟩) (R.cv_u8_i64 (a:=h) U5 U3 rfl) rfl (JA.val ⟨by kernel_rfl,by kernel_rfl⟩ (ZK _) (i:=4) rfl ⟨by kernel_rfl,by kernel_rfl,rfl⟩ trivial (ZL (Hle.refl _) ⟨⟨0,rfl⟩,trivial⟩) (ZW rfl) rfl ?_)))
  obtain⟨c6,b2,j,hx⟩:=slc_some hx
  obtain⟨c7,s,h1v_17,h2v_17,h3v_17,v⟩:=IsSlice.cutv f b2 j
  refine JA.val ⟨by kernel_rfl,by kernel_rfl⟩ (ZK _) (i:=5) rfl ⟨by kernel_rfl,by kernel_rfl,rfl⟩ trivial (ZL (Hle.refl _) ⟨⟨0,rfl⟩,trivial⟩) (R.slc (cap:=s) (a:=1) (b:=4) (c:=(s:Int)) (m:=d) (R:=RU8) U26 S5 rfl ⟨_,rfl⟩ ⟨_,rfl⟩ (by obtain⟨ao,n,e,_⟩:=h1v_17;exact⟨ao,n,e,rfl⟩) ⟨j.1,j.2.1,h2v_17⟩ h3v_17 (.inl rfl)) rfl ?_
  obtain⟨c8,c9,rfl⟩:=IsSlice.val v
  refine JA.val ⟨by kernel_rfl,by kernel_rfl⟩ (ZK _) (i:=7) rfl ⟨by kernel_rfl,by kernel_rfl,rfl⟩ trivial (ZL (Hle.refl _) ⟨⟨0,rfl⟩,trivial⟩) (ZW rfl) rfl ?_
  obtain⟨d0,b3,k,hx⟩:=slc_some hx
  obtain⟨d1,x,h1v_21,h2v_21,h3v_21,y⟩:=IsSlice.cutv f b3 k
  refine JA.val ⟨by kernel_rfl,by kernel_rfl⟩ (ZK _) (i:=8) rfl ⟨by kernel_rfl,by kernel_rfl,rfl⟩ trivial (ZL (Hle.refl _) ⟨⟨0,rfl⟩,trivial⟩) (R.slc (cap:=x) (a:=4) (b:=8) (c:=(x:Int)) (m:=d) (R:=RU8) U26 S5 rfl ⟨_,rfl⟩ ⟨_,rfl⟩ (by obtain⟨ao,n,e,_⟩:=h1v_21;exact⟨ao,n,e,rfl⟩) ⟨k.1,k.2.1,h2v_21⟩ h3v_21 (.inl rfl)) rfl ?_
  obtain⟨d2,d3,rfl⟩:=IsSlice.val y
  refine JA.val ⟨by kernel_rfl,by kernel_rfl⟩ (ZK _) (i:=10) rfl ⟨by kernel_rfl,by kernel_rfl,rfl⟩ trivial (ZL (Hle.refl _) ⟨⟨0,rfl⟩,trivial⟩) (ZW rfl) rfl ?_
  obtain⟨d4,b4,p,hx⟩:=slc_some hx
  obtain⟨d5,z,h1v_25,h2v_25,h3v_25,a0⟩:=IsSlice.cutv f b4 p
  refine JA.val ⟨by kernel_rfl,by kernel_rfl⟩ (ZK _) (i:=11) rfl ⟨by kernel_rfl,by kernel_rfl,rfl⟩ trivial (ZL (Hle.refl _) ⟨⟨0,rfl⟩,trivial⟩) (R.slc (cap:=z) (a:=8) (b:=12) (c:=(z:Int)) (m:=d) (R:=RU8) U26 S5 rfl ⟨_,rfl⟩ ⟨_,rfl⟩ (by obtain⟨ao,n,e,_⟩:=h1v_25;exact⟨ao,n,e,rfl⟩) ⟨p.1,p.2.1,h2v_25⟩ h3v_25 (.inl rfl)) rfl ?_
  obtain⟨d6,d7,rfl⟩:=IsSlice.val a0
  refine JA.val ⟨by kernel_rfl,by kernel_rfl⟩ (ZK _) (i:=13) rfl ⟨by kernel_rfl,by kernel_rfl,rfl⟩ trivial (ZL (Hle.refl _) ⟨⟨0,rfl⟩,trivial⟩) (ZW rfl) rfl ?_
  obtain⟨d8,b5,q,hx⟩:=slc_some hx
  obtain⟨d9,a1,h1v_29,h2v_29,h3v_29,a2⟩:=IsSlice.cutv f b5 q
  refine JA.val ⟨by kernel_rfl,by kernel_rfl⟩ (ZK _) (i:=14) rfl ⟨by kernel_rfl,by kernel_rfl,rfl⟩ trivial (ZL (Hle.refl _) ⟨⟨0,rfl⟩,trivial⟩) (R.slc (cap:=a1) (a:=12) (b:=16) (c:=(a1:Int)) (m:=d) (R:=RU8) U26 S5 rfl ⟨_,rfl⟩ ⟨_,rfl⟩ (by obtain⟨ao,n,e,_⟩:=h1v_29;exact⟨ao,n,e,rfl⟩) ⟨q.1,q.2.1,h2v_29⟩ h3v_29 (.inl rfl)) rfl ?_
  obtain⟨e0,e1,rfl⟩:=IsSlice.val a2
  refine JAA.start [⟨17,4,31,.agg #[.int .i64 0,.int .u32 0,.int .u32 0,.int .u32 0,.int .u32 0]⟩] rfl (JAA.one (i:=6) ⟨⟨_,_,_,rfl,Z31,rfl⟩,trivial⟩ (Hle.refl _) ⟨⟨0,rfl⟩,trivial⟩ rfl (by kernel_rfl) (JOA.step rfl trivial rfl (λe2 e3 K hK=> ?_)))
  refine ZI hx E253 rfl ref10_Get_ok rfl ⟨v,trivial⟩ ?_
  intro a3 e4 hx
  refine JL.nil (hK (by repeat constructor) (by repeat constructor) (ZL (Hle.refl _) ⟨⟨0,rfl⟩,trivial⟩) (JAA.one (i:=9) ⟨⟨_,_,_,rfl,Z31,rfl⟩,trivial⟩ (Hle.refl _) ⟨⟨0,rfl⟩,trivial⟩ rfl (by kernel_rfl) (JOA.step rfl trivial rfl (λe5 e6 K hK=> ?_))))
  refine ZI hx E253 rfl ref10_Get_ok rfl ⟨y,trivial⟩ ?_
  intro a4 e7 hx
  refine JL.nil (hK (by repeat constructor) (by repeat constructor) (ZL (Hle.refl _) ⟨⟨0,rfl⟩,trivial⟩) (JAA.one (i:=12) ⟨⟨_,_,_,rfl,Z31,rfl⟩,trivial⟩ (Hle.refl _) ⟨⟨0,rfl⟩,trivial⟩ rfl (by kernel_rfl) (JOA.step rfl trivial rfl (λe8 e9 K hK=> ?_))))
  refine ZI hx E253 rfl ref10_Get_ok rfl ⟨a0,trivial⟩ ?_
  intro a5 f0 hx
  refine JL.nil (hK (by repeat constructor) (by repeat constructor) (ZL (Hle.refl _) ⟨⟨0,rfl⟩,trivial⟩) (JAA.one (i:=15) ⟨⟨_,_,_,rfl,Z31,rfl⟩,trivial⟩ (Hle.refl _) ⟨⟨0,rfl⟩,trivial⟩ rfl (by kernel_rfl) (JOA.step rfl trivial rfl (λf1 f2 K hK=> ?_))))
  refine ZI hx E253 rfl ref10_Get_ok rfl ⟨a2,trivial⟩ ?_
  intro a6 f3 hx
  refine JL.nil (hK (by repeat constructor) (by repeat constructor) (ZL (Hle.refl _) ⟨⟨0,rfl⟩,trivial⟩) (JAA.val ⟨by kernel_rfl,by kernel_rfl⟩ (ZK _) (i:=16) rfl (by kernel_rfl) rfl trivial (Hle.refl _) ⟨⟨0,rfl⟩,trivial⟩ (R.bldP (vs:=[(0,.int .i64 (h.toNat:Int)),(1,.int .u32 (a3.toNat:Int)),(2,.int .u32 (a4.toNat:Int)),(3,.int .u32 (a5.toNat:Int)),(4,.int .u32 (a6.toNat:Int))]) (cs:=[.int .i64 (h.toNat:Int),.int .u32 (a3.toNat:Int),.int .u32 (a4.toNat:Int),.int .u32 (a5.toNat:Int),.int .u32 (a6.toNat:Int)]) Z31 B31 rfl rfl rfl) rfl (JAA.all ⟨⟨_,_,_,rfl,Z31,rfl⟩,trivial⟩ (Hle.refl _) ⟨⟨0,rfl⟩,trivial⟩ rfl (by kernel_rfl) (λf4 f5=>JA.one (i:=18) (by kernel_rfl) (JO.step rfl trivial rfl (λK hK=> ?_))))))
  refine Run.lnz [1] 2 ZB rfl (hK _ _ _ (ZL (Hle.refl _) ⟨⟨0,rfl⟩,trivial⟩) (JA.doneN (by kernel_rfl) ?_))
  refine Run.nl_s [1] 5 ZB rfl (ZI hx E46 rfl ref10_May_ok rfl trivial ?_)
  intro f6 f7 hx
  refine Run.lcz_s [] 3 ZB rfl (ZG hx rfl (λb6 hx=> ?_) (λb6 hx=> ?_))
  ·
   refine Run.cnz_k [0] 9 ZB rfl ?_
   exact JN.conCQ [0] [] ZB rfl hx rfl rfl
  ·
   refine Run.cnz_s [1,0] 10 ZB rfl ?_
   exact JN.conCQ [0] [] ZB rfl hx rfl rfl
theorem ref10_Rows_ok{q}:Con Tryz.prog 154 true ([.sl false RU8 1 q]) (ref10_Rows q) (λr=> [.row true R_Ptr 31 5 r.1,.i r.2]):=by
 intro H c1 c2 c3 a3 r hx
 refine Does.enterC Tryz.func154 rfl rfl ?_
 intro w
 unfold ref10_Rows at hx
 refine Run.cl [] 10 ZB rfl (ZA rfl rfl (ZM U26 rfl (IsSlice.long a3)) (Run.lcz_s [] 3 ZB rfl (ZG hx rfl (λb1 hx=> ?_) (λb1 hx=> ?_))))
 ·
  refine Run.cnz_k [] 8 ZB rfl (ZZ ?_)
  exact ZD [0] rfl hx rfl ⟨⟨0,RowOf.nil _ _ _ _ _⟩,rfl⟩
 ·
  refine Run.cc_s [] 13 ZB rfl (ZO hx [] [] rfl rfl (λs l0 o0 l o g=>∃v:List Ptr,∃x:Option Addr,∃y:Nat,∃z:Nat,∃a0:Own,l=(4,.slice x y z)::l0∧o=a0::o0∧H=g∧s=.inl v∧RowOf (New H H) R_Ptr w.heap.size 31 5 (.slice x y z) v a0) (λs c4 hx=> ?_) (λs b2 hx=> ?_))
  ·
   rintro _ _ _ ⟨v,x,y,z,a0,rfl,rfl,rfl,rfl,b3⟩
   simp only[Sum.elim_inl]at hx
   refine Run.nnz_s [] 9 ZB rfl ?_
   exact ZD [0] rfl hx rfl ⟨⟨_,b3⟩,rfl⟩
  ·
   refine JC.block (JC.seg0 (ZS [0] [] rfl rfl (λl0 o0 d l o g=>∃h:Option Addr,∃j:Nat,∃k:Nat,∃p:Own,l=(4,.slice h j k)::(5,.int .i64 ((d.2:Nat):Int))::l0∧o=p::o0∧H=g∧RowOf (New H H) R_Ptr w.heap.size 31 5 (.slice h j k) d.1 p) hx ⟨none,0,0,[],rfl,rfl,rfl,(RowOf.nil _ _ _ _ _)⟩ rfl ?_))
   ·
    rintro c5 d _ _ _ ⟨h,j,k,p,rfl,rfl,rfl,a4⟩ c6 hx a1
    unfold ref10_Rows_l1 at hx
    refine Run.cc [] 7 ZB rfl (ZG hx rfl (λa5 hx=> ?_) (λa5 hx=> ?_))
    ·
     refine Run.cl_s [] 12 ZB rfl ?_
     obtain⟨c7,b4,a2,hx⟩:=slc_some hx
     obtain⟨c8,a6,h1v_15,h2v_15,h3v_15,a7⟩:=IsSlice.cutv a3 b4 a2
     refine ZA rfl rfl (R.slc (cap:=a6) (a:=w64 (16*((d.2:Nat):Int))) (b:=w64 ((w64 (16*((d.2:Nat):Int)))+16)) (c:=(a6:Int)) (m:=q) (R:=RU8) U26 S5 rfl ⟨_,rfl⟩ ⟨_,rfl⟩ (by obtain⟨ao,n,e,_⟩:=h1v_15;exact⟨ao,n,e,rfl⟩) ⟨a2.1,a2.2.1,h2v_15⟩ h3v_15 (.inl rfl)) ?_
     obtain⟨c9,d0,rfl⟩:=IsSlice.val a7
     refine ZI hx E213 rfl ref10_Read_ok rfl ⟨a7,trivial⟩ ?_
     intro f d1 hx
     refine Run.llz [] 3 ZB rfl (JL.alloc Z31 rfl (λd2 d3=>Run.lc_s [0] 11 ZB rfl (ZG hx rfl (λb5 hx=> ?_) (λb5 hx=> ?_))))
     ·
      refine Run.cnz_kbk [] 11 ZB rfl ?_
      obtain rfl:=ZH a1 hx
      refine Run.nnz_kb [] 2 ZB rfl ?_
      clear hx;have hx:=b2
      simp only[Sum.elim_inl,Sum.elim_inr]at hx
      refine Run.nnz_kk [] 2 ZB rfl (ZZ ?_)
      exact ZD [0] rfl hx rfl ⟨⟨0,RowOf.nil _ _ _ _ _⟩,rfl⟩
     ·
      refine Run.clz_s [0] 5 ZB rfl (Zx (HF:=(New H H)) (R:=R_Ptr) (ls:=[f.1]) (vs:=[.agg #[.int .i64 f.1.At,.int .u32 (f.1.Birth.toNat:Int),.int .u32 (f.1.Iv.toNat:Int),.int .u32 (f.1.Tag.toNat:Int),.int .u32 (f.1.Sum.toNat:Int)]]) U97 I31 rfl rfl (⟨_,_,rfl,rfl,rfl,rfl⟩) R_Ptr.one rfl rfl rfl (by simp[maxLen]) rfl (λd4 d5 a8=> ?_))
      obtain⟨d6,d7,rfl⟩:=RowOf.val a8
      obtain⟨a9,b6,b7,hx⟩:=Zb hx
      refine Zl (HF:=(New H H)) 2 U97 I31 rfl rfl a4 rfl (SrcF.row 0 U97 rfl a8) b6 b7 rfl (Nat.le_refl _) rfl (λd8 b8 b0=> ?_)
      obtain⟨b9,c0,rfl⟩:=RowOf.val b0
      refine Run.llz_bs [] 6 ZB rfl (ZA rfl rfl (Zi rfl rfl (of_decide_eq_true a5) (by decide)) ?_)
      refine Run.lnz [] 2 ZB rfl ?_
      replace hx:=ZP a1 hx
      refine JN.forget 1 (JN.forget 0 ?_)
      exact ZC ⟨(a9,d.2+1),⟨b9,a9.length,c0,b8,rfl,rfl,rfl,b0⟩,hx⟩ rfl rfl rfl
    ·
     refine Run.cnz_k [] 2 ZB rfl ?_
     obtain rfl:=ZH a1 hx
     refine Run.nnz_kb [] 2 ZB rfl ?_
     exact ZC ⟨d.1,h,j,k,p,rfl,rfl,rfl,rfl,a4⟩ rfl rfl rfl
theorem ref15_Row_ok{a b}:Con Tryz.prog 158 true (sp_Store false a++sp_Ptr false b) (ref15_Row a b) (λr=> [.row true R_Ptr 31 5 r.1,.i r.2]):=by
 intro H a0 a1 a2 d a3 a4 a5 f a6 a7 a8 h r hx
 refine Does.enterC Tryz.func158 rfl rfl ?_
 intro w
 unfold ref15_Row at hx
 refine Run.cl [] 2 ZB rfl (ZV rfl rfl (λa9 b0=>ZV rfl rfl (λb1 b2=>Run.ll_s [0] 8 ZB rfl (ZI hx E52 rfl ref10_None_ok rfl trivial ?_))))
 intro b3 b4 hx
 refine Run.lcz_s [] 2 ZB rfl (ZG hx rfl (λj hx=> ?_) (λj hx=> ?_))
 ·
  refine Run.cl [] 2 ZB rfl ?_
  obtain⟨b5,k,m,hx⟩:=mks_some hx
  refine JL.mkF (HF:=New H H) (R:=R_Ptr) (y:=Ptr.mk 0 (0:UInt32) (0:UInt32) (0:UInt32) (0:UInt32)) (n:=16) U97 I31 rfl rfl (λ_=>rfl) R_Ptr.one k m rfl rfl (λb6 b7 c=> ?_)
  obtain⟨b8,b9,rfl⟩:=RowOf.val c
  refine Run.lnz_sk [] 6 ZB rfl ?_
  exact ZD [0] rfl hx rfl ⟨⟨_,c⟩,rfl⟩
 ·
  refine Run.cl_s [1,0] 6 ZB rfl (ZI hx E47 rfl ref13_Seen_ok rfl ⟨d,f,h,trivial⟩ ?_)
  intro c0 c1 hx c2 c3 c4 c5 p
  refine Run.lc_s [] 14 ZB rfl (ZG hx rfl (λq hx=> ?_) (λq hx=> ?_))
  ·
   refine Run.cnz_k [] 9 ZB rfl (ZZ ?_)
   exact ZD [0] rfl hx rfl ⟨⟨0,RowOf.nil _ _ _ _ _⟩,rfl⟩
  ·
   refine Run.cl_s [] 5 ZB rfl (JL.conL hx E154 rfl ref10_Rows_ok rfl (λc6 s v=>⟨(Lent.row' 0 v RU8.mono s rfl (p.old RU8.mono)),trivial⟩) (λ_=>⟨R_Ptr.const,trivial⟩) ?_)
   intro c7 c8 hx c9 d0 d1 d2 x
   refine Run.lc_s [] 14 ZB rfl (ZG hx rfl (λz hx=> ?_) (λz hx=> ?_))
   ·
    refine Run.cnz_k [] 8 ZB rfl (ZZ ?_)
    exact ZD [0] rfl hx rfl ⟨⟨0,RowOf.nil _ _ _ _ _⟩,rfl⟩
   ·
    refine Run.cnz_s [] 10 ZB rfl ?_
    exact ZD [0] rfl hx rfl ⟨⟨_,x⟩,rfl⟩
theorem ref14_May_ok{c}:Con Tryz.prog 214 true (sp_Object false c) (ref14_May c) (λr=> [.b r]):=by
 intro H a5 a6 a7 i r hx
 refine Does.enterC Tryz.func214 rfl rfl ?_
 intro w
 unfold ref14_May at hx
 refine Run.cl [] 2 ZB rfl (ZV rfl rfl (λa8 a9=>Run.ll_s [0] 8 ZB rfl (ZA rfl rfl (R.lss8 (a:=c.Kind) (b:=(1:UInt8)) rfl rfl) (ZA rfl rfl (ZW rfl) (ZQ 7 hx rfl (λm hx=> ?_) (λm hx=> ?_))))))
 ·
  refine Run.lnz_sk [] 40 ZB rfl ?_
  exact ZD [] rfl hx rfl rfl
 ·
  refine Run.llz [0] 5 ZB rfl (ZA rfl rfl (R.gtr8 (a:=c.Kind) (b:=(7:UInt8)) rfl rfl) (Run.llz [] 2 ZB rfl (ZQ 12 hx rfl (λp hx=> ?_) (λp hx=> ?_))))
  ·
   refine Run.lnz_sk [] 35 ZB rfl ?_
   exact ZD [] rfl hx rfl rfl
  ·
   refine Run.llz [0] 8 ZB rfl (ZQ 17 hx rfl (λq hx=> ?_) (λq hx=> ?_))
   ·
    refine Run.lnz_sk [] 30 ZB rfl ?_
    exact ZD [] rfl hx rfl rfl
   ·
    refine Run.llz [0] 8 ZB rfl (ZQ 22 hx rfl (λs hx=> ?_) (λs hx=> ?_))
    ·
     refine Run.lnz_sk [] 25 ZB rfl ?_
     exact ZD [] rfl hx rfl rfl
    ·
     refine Run.llz [0] 8 ZB rfl (ZQ 27 hx rfl (λv hx=> ?_) (λv hx=> ?_))
     ·
      refine Run.lnz_sk [] 20 ZB rfl ?_
      exact ZD [] rfl hx rfl rfl
     ·
      refine Run.llz [0] 8 ZB rfl (ZQ 32 hx rfl (λx hx=> ?_) (λx hx=> ?_))
      ·
       refine Run.lnz_sk [] 15 ZB rfl ?_
       exact ZD [] rfl hx rfl rfl
      ·
       refine Run.llz [0] 5 ZB rfl (ZA rfl rfl (ZM U97 rfl (IsSlice.long i)) (Run.lcz_s [] 5 ZB rfl (ZG hx rfl (λy hx=> ?_) (λy hx=> ?_))))
       ·
        refine Run.cnz_k [] 7 ZB rfl ?_
        exact ZD [] rfl hx rfl rfl
       ·
        refine Run.cc_s [] 8 ZB rfl (ZO hx [] [] rfl rfl (λd l0 o0 l o g=>∃j:Unit,l=l0∧o=o0∧H=g∧d=.inl j) (λd b0 hx=> ?_) (λd z hx=> ?_))
        ·
         rintro _ _ _ ⟨j,rfl,rfl,rfl,rfl⟩
         simp only[Sum.elim_inl]at hx
         refine Run.nnz_s [] 7 ZB rfl ?_
         exact ZD [] rfl hx rfl rfl
        ·
         refine JC.block (ZS [1] [0] rfl rfl (λl0 o0 f l o g=>l=(3,.int .i64 ((f:Nat):Int))::l0∧o=o0∧H=g) hx ⟨rfl,rfl,rfl⟩ rfl ?_)
         ·
          rintro b1 f _ _ _ ⟨rfl,rfl,rfl⟩ b2 hx h
          unfold ref14_May_l1 at hx
          refine Run.cc [] 7 ZB rfl (ZG hx rfl (λk hx=> ?_) (λk hx=> ?_))
          ·
           refine Run.cl_s [0] 9 ZB rfl ?_
           obtain⟨b3,a0,hx⟩:=ZJ hx
           obtain⟨b4,b5,b6,a1,a2,b7,a3⟩:=IsSlice.elem i a0
           obtain rfl:=a2
           refine ZA rfl rfl (Zd U97 S31 rfl rfl a1) (ZA rfl rfl (Zz 0 S31 rfl a3 rfl rfl) (ZI hx E46 rfl ref10_May_ok rfl trivial ?_))
           intro b8 b9 hx
           refine Run.lcz_s [] 3 ZB rfl (ZG hx rfl (λa4 hx=> ?_) (λa4 hx=> ?_))
           ·
            refine Run.cnz_bk [] 8 ZB rfl ?_
            obtain rfl:=ZH h hx
            refine Run.nnz_kb [] 2 ZB rfl ?_
            clear hx;have hx:=z
            simp only[Sum.elim_inl,Sum.elim_inr]at hx
            refine Run.nnz_kk [] 2 ZB rfl ?_
            exact ZD [] rfl hx rfl rfl
           ·
            refine Run.clz_bs [] 5 ZB rfl (ZA rfl rfl (Zi rfl rfl (of_decide_eq_true k) (by decide)) ?_)
            refine Run.lnz [] 2 ZB rfl ?_
            replace hx:=ZP h hx
            exact ZC ⟨f+1,⟨rfl,rfl,rfl⟩,hx⟩ rfl rfl rfl
          ·
           refine Run.cnz_k [] 2 ZB rfl ?_
           obtain rfl:=ZH h hx
           refine Run.nnz_kb [] 2 ZB rfl (JN.forget 0 ?_)
           exact ZC ⟨(),rfl,rfl,rfl,rfl⟩ rfl rfl rfl
theorem ref10_Number_ok{v x}:Con Tryz.prog 273 true ([.w32 v,.i x]) (ref10_Number v x) (λr=> [.row true RU8 5 1 r]):=by
 intro H r hx
 refine Does.enterC Tryz.func273 rfl rfl ?_
 intro w
 unfold ref10_Number at hx
 refine Run.cc [] 16 ZB rfl (ZO hx [] [] rfl rfl (λk l0 o0 l o g=>∃m:Option Addr,∃p:Nat,∃q:Nat,∃s:Own,l=(5,.slice m p q)::l0∧o=s::o0∧H=g∧RowOf (New H H) RU8 w.heap.size 5 1 (.slice m p q) k s) (λk b0 hx=> ?_) (λk b1 hx=> ?_))
 ·
  rintro _ _ _ ⟨m,p,q,s,rfl,rfl,rfl,a3⟩
  refine Run.nnz_s [] 8 ZB rfl ?_
  exact ZD [0] rfl hx rfl ⟨⟨_,a3⟩,rfl⟩
 ·
  refine JC.block (JC.seg0 (ZS [1] [] rfl rfl (λl0 o0 c l o g=>∃d:Option Addr,∃f:Nat,∃h:Nat,∃j:Own,l=(0,.int .u32 (c.1.toNat:Int))::(5,.slice d f h)::(6,.int .i64 c.2.2)::l0∧o=j::o0∧H=g∧RowOf (New H H) RU8 w.heap.size 5 1 (.slice d f h) c.2.1 j) hx ⟨none,0,0,[],rfl,rfl,rfl,(RowOf.nil _ _ _ _ _)⟩ rfl ?_))
  ·
   rintro b2 c _ _ _ ⟨d,f,h,j,rfl,rfl,rfl,y⟩ b3 hx z
   unfold ref10_Number_l1 at hx
   refine Run.cc [] 8 ZB rfl (ZG hx rfl (λa4 hx=> ?_) (λa4 hx=> ?_))
   ·
    refine Run.cl_s [] 8 ZB rfl (ZA rfl rfl (R.rem32 (a:=c.1) (b:=(256:UInt32)) rfl rfl (by decide)) (ZA rfl rfl (R.cv_u32_u8 (a:=c.1%(256:UInt32)) U27 U5 rfl) (Zx (HF:=(New H H)) (R:=RU8) (ls:=[(c.1%(256:UInt32)).toUInt8]) (vs:=[.int .u8 (((c.1%(256:UInt32)).toUInt8).toNat:Int)]) U26 I5 rfl rfl (⟨_,_,rfl,rfl,rfl,rfl⟩) RU8.one rfl rfl rfl (by simp[maxLen]) rfl (λb4 b5 a0=> ?_))))
    obtain⟨b6,b7,rfl⟩:=RowOf.val a0
    obtain⟨a1,a5,a6,hx⟩:=Zb hx
    refine Zl (HF:=(New H H)) 1 U26 I5 rfl rfl y rfl (SrcF.row 0 U26 rfl a0) a5 a6 rfl (Nat.le_refl _) rfl (λb8 a7 a2=> ?_)
    obtain⟨a8,a9,rfl⟩:=RowOf.val a2
    refine Run.llz_s [] 5 ZB rfl (ZA rfl rfl (R.quo32 (a:=c.1) (b:=(256:UInt32)) rfl rfl (by decide)) ?_)
    refine Run.lnz_bs [] 9 ZB rfl ?_
    replace hx:=ZP z hx
    refine JN.forget 0 ?_
    exact ZC ⟨(c.1/(256:UInt32),a1,w64 (c.2.2+1)),⟨a8,a1.length,a9,a7,rfl,rfl,rfl,a2⟩,hx⟩ rfl rfl rfl
   ·
    refine Run.cnz_k [] 2 ZB rfl ?_
    obtain rfl:=ZH z hx
    refine Run.nnz_kb [] 2 ZB rfl ?_
    exact ZC ⟨d,f,h,j,rfl,rfl,rfl,y⟩ rfl rfl rfl
theorem ref10_Bytes_ok{a}:Con Tryz.prog 254 true (sp_Ptr false a) (ref10_Bytes a) (λr=> [.row true RU8 5 1 r]):=by
 intro H r hx
 refine Does.enterC Tryz.func254 rfl rfl ?_
 intro w
 unfold ref10_Bytes at hx
 refine Run.cl [] 2 ZB rfl (ZV rfl rfl (λc3 c4=>Run.lc_s [] 4 ZB rfl (ZO hx [1] [0] rfl rfl (λd l0 o0 l o g=>∃f:Option Addr,∃h:Nat,∃k:Nat,∃m:Own,l=(3,.slice f h k)::l0∧o=m::o0∧H=g∧RowOf (New H H) RU8 w.heap.size 5 1 (.slice f h k) d m) (λd c5 hx=> ?_) (λd c6 hx=> ?_))))
 ·
  rintro _ _ _ ⟨f,h,k,m,rfl,rfl,rfl,a4⟩
  refine Run.nl_s [1] 6 ZB rfl (ZI hx E273 rfl ref10_Number_ok rfl trivial ?_)
  intro c7 c8 hx c9 d0 d1 d2 a5
  obtain⟨d3,a6,a7,hx⟩:=Zb hx
  refine Zl (HF:=(New H H)) 1 U26 I5 rfl rfl a4 rfl (SrcF.row 0 U26 rfl a5) a6 a7 rfl (Nat.le_refl _) rfl (λd4 d5 x=> ?_)
  obtain⟨d6,d7,rfl⟩:=RowOf.val x
  refine Run.ll_s [2] 8 ZB rfl (ZI hx E273 rfl ref10_Number_ok rfl trivial ?_)
  intro d8 d9 hx e0 e1 e2 e3 a8
  obtain⟨e4,a9,b0,hx⟩:=Zb hx
  refine Zl (HF:=(New H H)) 2 U26 I5 rfl rfl x rfl (SrcF.row 0 U26 rfl a8) a9 b0 rfl (Nat.le_refl _) rfl (λe5 e6 y=> ?_)
  obtain⟨e7,e8,rfl⟩:=RowOf.val y
  refine Run.ll_s [3] 8 ZB rfl (ZI hx E273 rfl ref10_Number_ok rfl trivial ?_)
  intro e9 f0 hx f1 f2 f3 f4 b1
  obtain⟨f5,b2,b3,hx⟩:=Zb hx
  refine Zl (HF:=(New H H)) 3 U26 I5 rfl rfl y rfl (SrcF.row 0 U26 rfl b1) b2 b3 rfl (Nat.le_refl _) rfl (λf6 f7 z=> ?_)
  obtain⟨f8,f9,rfl⟩:=RowOf.val z
  refine Run.lnz_s [] 4 ZB rfl ?_
  exact ZD [3] rfl hx rfl ⟨⟨_,z⟩,rfl⟩
 ·
  refine Zh (so:=[(_,[])]) 9 rfl Mixed ⟨by kernel_rfl,by kernel_rfl⟩ (ZX [0] rfl) ?_
  refine JB.run 2 [0,1] [0] ZB rfl ?_
  refine JB.val (i:=2) [] rfl (R.cv_i64_u8 U3 U5 rfl) ?_
  refine JB.run 2 [4,5] [0] ZB rfl ?_
  obtain⟨g0,a0,hx⟩:=ZU hx
  obtain⟨a1,a2,a3,hx⟩:=Zb hx
  refine JB.two (i:=3) (j:=6) (by kernel_rfl) ?_ ?_
  ·
   refine JOB.step rfl trivial rfl (λK hK=>Zx (HF:=(New H H)) (R:=RU8) (ls:=[u8i a.At]) (vs:=[.int .u8 ((u8i a.At).toNat:Int)]) U26 I5 rfl rfl (⟨_,_,rfl,rfl,rfl,rfl⟩) RU8.one rfl rfl rfl (by simp[maxLen]) rfl (λb4 b5 b=> ?_))
   obtain⟨b6,b7,rfl⟩:=RowOf.val b
   refine JL.nil (hK _ _ _ (Hle.refl _) (ZX [1] rfl) ?_)
   refine JB.one (i:=6) (by kernel_rfl) ?_
   refine JOB.step rfl trivial rfl (λK hK=>JL.conQ' a0 E273 rfl ref10_Number_ok rfl trivial ?_)
   intro b8 b9 c0 c1 p
   refine JL.nil (hK _ _ _ (Hle.refl _) (ZX [2] rfl) ?_)
   refine JB.one (i:=7) (by kernel_rfl) ?_
   refine JOB.step rfl trivial rfl (λK hK=>Zl (HF:=(New H H)) 1 U26 I5 rfl rfl b rfl (SrcF.row 0 U26 rfl p) a2 a3 rfl (Nat.le_refl _) rfl (λc2 q c=> ?_))
   obtain⟨s,v,rfl⟩:=RowOf.val c
   refine JL.nil (hK _ _ _ (Hle.refl _) (ZX [2] rfl) ?_)
   refine JB.val (i:=8) [] rfl (R.assign rfl) ?_
   refine JB.doneN (by kernel_rfl) ?_
   obtain rfl:=Option.some.inj hx
   refine JN.forget 0 (ZE 1 rfl (ZE 1 rfl ?_))
   exact ZC ⟨s,a1.length,v,q,rfl,rfl,rfl,c⟩ rfl rfl rfl
  ·
   refine JOB.step rfl trivial rfl (λK hK=>JL.conQ' a0 E273 rfl ref10_Number_ok rfl trivial ?_)
   intro b8 b9 c0 c1 p
   refine JL.nil (hK _ _ _ (Hle.refl _) (ZX [1] rfl) ?_)
   refine JB.one (i:=3) (by kernel_rfl) ?_
   refine JOB.step rfl trivial rfl (λK hK=>Zx (HF:=(New H H)) (R:=RU8) (ls:=[u8i a.At]) (vs:=[.int .u8 ((u8i a.At).toNat:Int)]) U26 I5 rfl rfl (⟨_,_,rfl,rfl,rfl,rfl⟩) RU8.one rfl rfl rfl (by simp[maxLen]) rfl (λb4 b5 b=> ?_))
   obtain⟨b6,b7,rfl⟩:=RowOf.val b
   refine JL.nil (hK _ _ _ (Hle.refl _) (ZX [2] rfl) ?_)
   refine JB.one (i:=7) (by kernel_rfl) ?_
   refine JOB.step rfl trivial rfl (λK hK=>Zl (HF:=(New H H)) 0 U26 I5 rfl rfl b rfl (SrcF.row 1 U26 rfl p) a2 a3 rfl (Nat.le_refl _) rfl (λc2 q c=> ?_))
   obtain⟨s,v,rfl⟩:=RowOf.val c
   refine JL.nil (hK _ _ _ (Hle.refl _) (ZX [2] rfl) ?_)
   refine JB.val (i:=8) [] rfl (R.assign rfl) ?_
   refine JB.doneN (by kernel_rfl) ?_
   obtain rfl:=Option.some.inj hx
   refine JN.forget 1 (ZE 1 rfl (ZE 1 rfl ?_))
   exact ZC ⟨s,a1.length,v,q,rfl,rfl,rfl,c⟩ rfl rfl rfl
theorem ref14_Block_ok{a}:Con Tryz.prog 215 true (sp_Object false a) (ref14_Block a) (λr=> [.row true RU8 5 1 r]):=by
 intro H c2 c3 c4 a2 r hx
 refine Does.enterC Tryz.func215 rfl rfl ?_
 intro w
 unfold ref14_Block at hx
 refine Run.cl [] 2 ZB rfl (ZV rfl rfl (λc5 c6=>Run.ll_s [0,0] 9 ZB rfl (ZA rfl rfl (R.cv_i64_u8 U3 U5 rfl) (Run.llz [0] 2 ZB rfl (ZA rfl rfl (R.rem_i rfl rfl (by decide)) (ZA rfl rfl (R.cv_i64_u8 U3 U5 rfl) ?_))))))
 refine Run.llz [0] 2 ZB rfl (ZA rfl rfl (R.quo_i rfl rfl (by decide)) (ZA rfl rfl (R.cv_i64_u8 U3 U5 rfl) (Zx (HF:=(New H H)) (R:=RU8) (ls:=[a.Kind,u8i a.Links,u8i (a.Size.tmod 256),u8i (w64 (a.Size.tdiv 256))]) (vs:=[.int .u8 (a.Kind.toNat:Int),.int .u8 ((u8i a.Links).toNat:Int),.int .u8 ((u8i (a.Size.tmod 256)).toNat:Int),.int .u8 ((u8i (w64 (a.Size.tdiv 256))).toNat:Int)]) U26 I5 rfl rfl (⟨_,_,rfl,rfl,rfl,⟨_,_,rfl,rfl,rfl,⟨_,_,rfl,rfl,rfl,⟨_,_,rfl,rfl,rfl,rfl⟩⟩⟩⟩) RU8.one rfl rfl rfl (by simp[maxLen]) rfl (λc7 c8 q=> ?_))))
 obtain⟨c9,d0,rfl⟩:=RowOf.val q
 refine Run.ll_s [] 6 ZB rfl ?_
 obtain⟨d1,a3,a4,hx⟩:=mks_some hx
 obtain⟨a5,a6,a7,hx⟩:=Zb hx
 refine JL.appZR (HF:=(New H H)) (y:=(0:UInt8)) 0 U26 U3 I5 rfl rfl q rfl (λ_=>rfl) RU8.one a3 a4 a6 a7 rfl (Nat.le_refl _) rfl (λd2 a8 s=> ?_)
 obtain⟨a9,b0,rfl⟩:=RowOf.val s
 refine Run.lc_s [] 9 ZB rfl (ZO hx [] [] rfl rfl (λi l0 o0 l o g=>∃j:Option Addr,∃k:Nat,∃m:Nat,∃p:Own,l=(3,.slice j k m)::l0∧o=p::o0∧H=g∧RowOf (New H H) RU8 w.heap.size 5 1 (.slice j k m) i p) (λi d3 hx=> ?_) (λi d4 hx=> ?_))
 ·
  rintro _ _ _ ⟨j,k,m,p,rfl,rfl,rfl,b1⟩
  refine Run.nnz_s [] 8 ZB rfl ?_
  exact ZD [0] rfl hx rfl ⟨⟨_,b1⟩,rfl⟩
 ·
  refine JC.block (ZR 1 rfl (ZR 1 rfl (ZS [1] [1] rfl rfl (λl0 o0 b l o g=>∃c:Option Addr,∃d:Nat,∃f:Nat,∃h:Own,l=(3,.slice c d f)::(4,.int .i64 ((b.2:Nat):Int))::l0∧o=h::o0∧H=g∧RowOf (New H H) RU8 w.heap.size 5 1 (.slice c d f) b.1 h) hx ⟨a9,a5.length,b0,a8,rfl,rfl,rfl,s⟩ rfl ?_)))
  ·
   rintro d5 b _ _ _ ⟨c,d,f,h,rfl,rfl,rfl,v⟩ d6 hx x
   unfold ref14_Block_l1 at hx
   refine Run.cc [] 7 ZB rfl (ZG hx rfl (λz hx=> ?_) (λz hx=> ?_))
   ·
    refine Run.cl_s [1] 9 ZB rfl ?_
    obtain⟨d7,b2,hx⟩:=ZJ hx
    obtain⟨d8,d9,e0,b3,b4,e1,b5⟩:=IsSlice.elem a2 b2
    obtain rfl:=b4
    refine ZA rfl rfl (Zd U97 S31 rfl rfl b3) (ZA rfl rfl (Zz 0 S31 rfl b5 rfl rfl) (ZI hx E254 rfl ref10_Bytes_ok rfl trivial ?_))
    intro e2 e3 hx e4 e5 e6 e7 b6
    obtain⟨a0,b7,b8,hx⟩:=Zb hx
    refine Zl (HF:=(New H H)) 1 U26 I5 rfl rfl v rfl (SrcF.row 0 U26 rfl b6) b7 b8 rfl (Nat.le_refl _) rfl (λe8 b9 a1=> ?_)
    obtain⟨c0,c1,rfl⟩:=RowOf.val a1
    refine Run.llz_bs [] 6 ZB rfl (ZA rfl rfl (Zi rfl rfl (of_decide_eq_true z) (by decide)) ?_)
    refine Run.lnz [] 2 ZB rfl ?_
    replace hx:=ZP x hx
    refine JN.forget 0 (ZE 1 rfl (ZE 1 rfl ?_))
    exact ZC ⟨(a0,b.2+1),⟨c0,a0.length,c1,b9,rfl,rfl,rfl,a1⟩,hx⟩ rfl rfl rfl
   ·
    refine Run.cnz_k [] 2 ZB rfl ?_
    obtain rfl:=ZH x hx
    refine Run.nnz_kb [] 2 ZB rfl (JN.forget 1 ?_)
    exact ZC ⟨c,d,f,h,rfl,rfl,rfl,v⟩ rfl rfl rfl
theorem ref14_Read_ok{s}:Con Tryz.prog 155 false ([.sl false RU8 1 s]) (ref14_Read s) (λr=> [.st 4,.w8 r.1.Kind,.i r.1.Links,.i r.1.Size,.row true R_Ptr 31 5 r.1.Data,.i r.2]):=by
 intro H f2 f3 f4 d r hx
 refine Does.enterC Tryz.func155 rfl rfl ?_
 intro w
 unfold ref14_Read at hx
 refine Run.cl [] 2 ZB rfl (JL.alloc Z113 rfl (λf5 f6=>Run.ll_s [] 7 ZB rfl (ZA rfl rfl (ZM U26 rfl (IsSlice.long d)) (Run.lcz_s [] 3 ZB rfl (ZG hx rfl (λb8 hx=> ?_) (λb8 hx=> ?_))))))
 ·
  refine Run.cnz_k [0] 9 ZB rfl (ZZ ?_)
  exact Zo [1] [0] ZB rfl hx rfl ⟨⟨0,RowOf.nil _ _ _ _ _⟩,rfl⟩
 ·
  refine Run.cc_s [] 3 ZB rfl (JC.draw (so:=[_]) 20 rfl Mixed ⟨⟨0,rfl⟩,trivial⟩ (JA.val ⟨by kernel_rfl,by kernel_rfl⟩ (ZK _) (i:=0) rfl ⟨by kernel_rfl,by kernel_rfl,rfl⟩ trivial (ZL (Hle.refl _) ⟨⟨0,rfl⟩,trivial⟩) (ZW rfl) rfl ?_))
  obtain⟨q,b9,hx⟩:=ZJ hx
  obtain⟨f7,f8,f9,c0,c1,g0,c2⟩:=IsSlice.elem d b9
  obtain rfl:=c1
  refine JA.val ⟨by kernel_rfl,by kernel_rfl⟩ (ZK _) (i:=1) rfl ⟨by kernel_rfl,by kernel_rfl,rfl⟩ trivial (ZL (Hle.refl _) ⟨⟨0,rfl⟩,trivial⟩) (Zd U26 S5 rfl rfl c0) rfl (JA.val ⟨by kernel_rfl,by kernel_rfl⟩ (ZK _) (i:=2) rfl ⟨by kernel_rfl,by kernel_rfl,rfl⟩ trivial (ZL (Hle.refl _) ⟨⟨0,rfl⟩,trivial⟩) (ZY S5 rfl (c2 0 _ rfl)) rfl (JA.val ⟨by kernel_rfl,by kernel_rfl⟩ (ZK _) (i:=3) rfl ⟨by kernel_rfl,by kernel_rfl,rfl⟩ trivial (ZL (Hle.refl _) ⟨⟨0,rfl⟩,trivial⟩) (ZW rfl) rfl ?_))
  obtain⟨h,c3,hx⟩:=ZJ hx
  obtain⟨g1,g2,g3,c4,c5,g4,c6⟩:=IsSlice.elem d c3
  obtain rfl:=c5
  refine JA.val ⟨by kernel_rfl,by kernel_rfl⟩ (ZK _) (i:=4) rfl ⟨by kernel_rfl,by kernel_rfl,rfl⟩ trivial (ZL (Hle.refl _) ⟨⟨0,rfl⟩,trivial⟩) (Zd U26 S5 rfl rfl c4) rfl (JA.val ⟨by kernel_rfl,by kernel_rfl⟩ (ZK _) (i:=5) rfl ⟨by kernel_rfl,by kernel_rfl,rfl⟩ trivial (ZL (Hle.refl _) ⟨⟨0,rfl⟩,trivial⟩) (ZY S5 rfl (c6 0 _ rfl)) rfl (JA.val ⟨by kernel_rfl,by kernel_rfl⟩ (ZK _) (i:=6) rfl ⟨by kernel_rfl,by kernel_rfl,rfl⟩ trivial (ZL (Hle.refl _) ⟨⟨0,rfl⟩,trivial⟩) (R.cv_u8_i64 (a:=h) U5 U3 rfl) rfl (JA.val ⟨by kernel_rfl,by kernel_rfl⟩ (ZK _) (i:=7) rfl ⟨by kernel_rfl,by kernel_rfl,rfl⟩ trivial (ZL (Hle.refl _) ⟨⟨0,rfl⟩,trivial⟩) (ZW rfl) rfl ?_)))
  obtain⟨j,c7,hx⟩:=ZJ hx
  obtain⟨g5,g6,g7,c8,c9,g8,d0⟩:=IsSlice.elem d c7
  obtain rfl:=c9
  refine JA.val ⟨by kernel_rfl,by kernel_rfl⟩ (ZK _) (i:=8) rfl ⟨by kernel_rfl,by kernel_rfl,rfl⟩ trivial (ZL (Hle.refl _) ⟨⟨0,rfl⟩,trivial⟩) (Zd U26 S5 rfl rfl c8) rfl (JA.val ⟨by kernel_rfl,by kernel_rfl⟩ (ZK _) (i:=9) rfl ⟨by kernel_rfl,by kernel_rfl,rfl⟩ trivial (ZL (Hle.refl _) ⟨⟨0,rfl⟩,trivial⟩) (ZY S5 rfl (d0 0 _ rfl)) rfl (JA.val ⟨by kernel_rfl,by kernel_rfl⟩ (ZK _) (i:=10) rfl ⟨by kernel_rfl,by kernel_rfl,rfl⟩ trivial (ZL (Hle.refl _) ⟨⟨0,rfl⟩,trivial⟩) (R.cv_u8_i64 (a:=j) U5 U3 rfl) rfl (JA.val ⟨by kernel_rfl,by kernel_rfl⟩ (ZK _) (i:=11) rfl ⟨by kernel_rfl,by kernel_rfl,rfl⟩ trivial (ZL (Hle.refl _) ⟨⟨0,rfl⟩,trivial⟩) (ZW rfl) rfl ?_)))
  obtain⟨k,d1,hx⟩:=ZJ hx
  obtain⟨g9,h0,h1,d2,d3,h2,d4⟩:=IsSlice.elem d d1
  obtain rfl:=d3
  refine JA.val ⟨by kernel_rfl,by kernel_rfl⟩ (ZK _) (i:=12) rfl ⟨by kernel_rfl,by kernel_rfl,rfl⟩ trivial (ZL (Hle.refl _) ⟨⟨0,rfl⟩,trivial⟩) (Zd U26 S5 rfl rfl d2) rfl (JA.val ⟨by kernel_rfl,by kernel_rfl⟩ (ZK _) (i:=13) rfl ⟨by kernel_rfl,by kernel_rfl,rfl⟩ trivial (ZL (Hle.refl _) ⟨⟨0,rfl⟩,trivial⟩) (ZY S5 rfl (d4 0 _ rfl)) rfl (JA.val ⟨by kernel_rfl,by kernel_rfl⟩ (ZK _) (i:=14) rfl ⟨by kernel_rfl,by kernel_rfl,rfl⟩ trivial (ZL (Hle.refl _) ⟨⟨0,rfl⟩,trivial⟩) (R.cv_u8_i64 (a:=k) U5 U3 rfl) rfl (JA.val ⟨by kernel_rfl,by kernel_rfl⟩ (ZK _) (i:=15) rfl ⟨by kernel_rfl,by kernel_rfl,rfl⟩ trivial (ZL (Hle.refl _) ⟨⟨0,rfl⟩,trivial⟩) (R.mul_i rfl rfl) rfl (JA.val ⟨by kernel_rfl,by kernel_rfl⟩ (ZK _) (i:=16) rfl ⟨by kernel_rfl,by kernel_rfl,rfl⟩ trivial (ZL (Hle.refl _) ⟨⟨0,rfl⟩,trivial⟩) (R.add_i rfl rfl) rfl (JA.val ⟨by kernel_rfl,by kernel_rfl⟩ (ZK _) (i:=17) rfl ⟨by kernel_rfl,by kernel_rfl,rfl⟩ trivial (ZL (Hle.refl _) ⟨⟨0,rfl⟩,trivial⟩) (R.bldP (vs:=[(0,.int .u8 (q.toNat:Int)),(1,.int .i64 (h.toNat:Int)),(2,.int .i64 (w64 ((j.toNat:Int)+(w64 (256*(k.toNat:Int))))))]) (cs:=[.int .u8 (q.toNat:Int),.int .i64 (h.toNat:Int),.int .i64 (w64 ((j.toNat:Int)+(w64 (256*(k.toNat:Int))))),.slice none 0 0]) Z113 B113 rfl rfl rfl) rfl (JA.one (i:=18) (by kernel_rfl) (JO.step rfl trivial rfl (λK hK=>JL.alloc Z113 rfl (λa9 h3=>JL.nil (hK _ _ _ (ZL (Hle.refl _) ⟨⟨1,rfl⟩,trivial⟩) (JA.one (i:=19) (by kernel_rfl) ?_)))))))))))
  refine JO.step rfl trivial rfl (λK hK=>Run.lnz [0] 2 ZB rfl (hK _ _ _ (ZL (Hle.refl _) ⟨⟨1,rfl⟩,trivial⟩) (JA.doneN (by kernel_rfl) ?_)))
  refine Run.nc_s [] 7 ZB rfl (ZO hx [0,2,4] [1] rfl rfl (λa3 l0 o0 l o g=>∃a4:List Ptr,∃v:Option Addr,∃x:Nat,∃y:Nat,∃a5:Own,l=l0∧o= [(a9,.cells #[.int .u8 (q.toNat:Int),.int .i64 (h.toNat:Int),.int .i64 (w64 ((j.toNat:Int)+(w64 (256*(k.toNat:Int))))),.slice v x y] 113 (0,0))]::a5::o0∧H=g∧a3=.inl a4∧RowOf (New H H) R_Ptr w.heap.size 31 5 (.slice v x y) a4 a5) (λa3 h4 hx=> ?_) (λa3 d5 hx=> ?_))
  ·
   rintro _ _ _ ⟨a4,v,x,y,a5,rfl,rfl,rfl,rfl,a6⟩
   simp only[Sum.elim_inl]at hx
   refine Run.nc_s [] 3 ZB rfl (Zh (so:=[(_,[]),(_,[]),(_,[])]) 11 rfl Mixed ⟨by kernel_rfl,by kernel_rfl⟩ (ZX [0,1,2] rfl) ?_)
   refine JB.val (i:=0) [] rfl (R.ldoN 0 (vs:=[.int .u8 (q.toNat:Int),.int .i64 (h.toNat:Int),.int .i64 (w64 ((j.toNat:Int)+(w64 (256*(k.toNat:Int))))),.slice v x y]) S113 rfl rfl rfl rfl) ?_
   refine JB.one (i:=1) (by kernel_rfl) ?_
   refine JOB.step rfl trivial rfl (λK hK=>JL.conL hx E214 rfl ref14_May_ok rfl (λh5 d6 d7=>⟨(Lent.row' 1 d7 R_Ptr.mono d6 rfl (a6.old R_Ptr.mono)),trivial⟩) (λ_=>trivial) ?_)
   intro h6 h7 hx
   refine JL.nil (hK _ _ _ (Hle.refl _) (ZX [0,1,2] rfl) ?_)
   refine JB.run 2 [2,3] [] ZB rfl ?_
   refine JB.gX 58 hx rfl (λd8 hx=> ?_) (λd8 hx=> ?_)
   ·
    refine JB.run 7 [4,5,6,7,8,9,10] [] ZB rfl ?_
    refine JB.doneN (by kernel_rfl) ?_
    refine Run.nnz_sk [2] 11 ZB rfl (ZZ ?_)
    exact Zo [3] [0] ZB rfl hx rfl ⟨⟨0,RowOf.nil _ _ _ _ _⟩,rfl⟩
   ·
    refine JB.run 2 [4,7] [0] ZB rfl ?_
    refine JB.val (i:=8) [] rfl (R.toStr U26 U5 U9 rfl d) ?_
    refine JB.one (i:=5) (by kernel_rfl) ?_
    refine JOB.step rfl ⟨_,_,rfl,rfl,rfl⟩ rfl (λK hK=>JL.conL hx E215 rfl ref14_Block_ok rfl (λh8 d9 e0=>⟨(Lent.row' 1 e0 R_Ptr.mono d9 rfl (a6.old R_Ptr.mono)),trivial⟩) (λ_=>⟨RU8.const,trivial⟩) ?_)
    intro e1 h9 hx i0 i1 i2 i3 e2
    refine JL.nil (hK _ _ _ (Hle.refl _) (ZX [1,2,3] rfl) ?_)
    refine JB.one (i:=6) (by kernel_rfl) ?_
    refine JOB.step rfl ⟨_,_,rfl,rfl,rfl⟩ rfl (λK hK=>JL.pubN 0 RU8.mono rfl e2 (Nat.le_refl _) (λi4 b0 e3=>JL.forget 0 (ZA rfl rfl (R.toStr U26 U5 U9 rfl (e3.old RU8.mono)) (JL.nil (hK _ _ _ b0 (ZX [0,1,2] rfl) ?_)))))
    refine JB.val (i:=9) [] rfl (R.neqStr (a:=e1) (b:=s) rfl rfl) ?_
    refine JB.val (i:=10) [] rfl (R.pickF rfl rfl) ?_
    refine JB.doneN (by kernel_rfl) ?_
    refine Zw (ZG hx rfl (λe4 hx=> ?_) (λe4 hx=> ?_))
    ·
     refine Run.cnz_k [2] 9 ZB rfl (ZZ ?_)
     exact Zo [3] [0] ZB rfl hx rfl ⟨⟨0,RowOf.nil _ _ _ _ _⟩,rfl⟩
    ·
     refine Run.cnz_s [0,2] 10 ZB rfl ?_
     exact Zo [2] [1] ZB rfl hx rfl ⟨⟨_,(a6.mono R_Ptr.mono (New.mono b0))⟩,rfl⟩
  ·
   refine JC.block (JC.seg0 (ZR 2 rfl (ZR 1 rfl (ZR 2 rfl (ZS [0,2,4] [2] rfl rfl (λl0 o0 f l o g=>∃z:Option Addr,∃a0:Nat,∃a1:Nat,∃a2:Own,l=(5,.int .i64 ((f.2:Nat):Int))::l0∧o= [(a9,.cells #[.int .u8 (q.toNat:Int),.int .i64 (h.toNat:Int),.int .i64 (w64 ((j.toNat:Int)+(w64 (256*(k.toNat:Int))))),.slice z a0 a1] 113 (0,0))]::a2::o0∧H=g∧RowOf (New H H) R_Ptr w.heap.size 31 5 (.slice z a0 a1) f.1 a2) hx ⟨none,0,0,[],rfl,rfl,rfl,(RowOf.nil _ _ _ _ _)⟩ rfl ?_)))))
   ·
    rintro i5 f _ _ _ ⟨z,a0,a1,a2,rfl,rfl,rfl,b1⟩ i6 hx a7
    unfold ref14_Read_l1 at hx
    refine Run.cc [] 7 ZB rfl (ZG hx rfl (λb2 hx=> ?_) (λb2 hx=> ?_))
    ·
     refine Run.cl_s [] 13 ZB rfl ?_
     obtain⟨i7,e5,a8,hx⟩:=slc_some hx
     obtain⟨i8,b3,h1v_53,h2v_53,h3v_53,b4⟩:=IsSlice.cutv d e5 a8
     refine ZA rfl rfl (R.slc (cap:=b3) (a:=w64 (16+(w64 (16*((f.2:Nat):Int))))) (b:=w64 (32+(w64 (16*((f.2:Nat):Int))))) (c:=(b3:Int)) (m:=s) (R:=RU8) U26 S5 rfl ⟨_,rfl⟩ ⟨_,rfl⟩ (by obtain⟨ao,n,e,_⟩:=h1v_53;exact⟨ao,n,e,rfl⟩) ⟨a8.1,a8.2.1,h2v_53⟩ h3v_53 (.inl rfl)) ?_
     obtain⟨i9,j0,rfl⟩:=IsSlice.val b4
     refine ZI hx E213 rfl ref10_Read_ok rfl ⟨b4,trivial⟩ ?_
     intro p j1 hx
     refine Run.llz [] 3 ZB rfl (JL.alloc Z31 rfl (λj2 j3=>Run.lc_s [0] 11 ZB rfl (ZG hx rfl (λe6 hx=> ?_) (λe6 hx=> ?_))))
     ·
      refine Run.cnz_kbk [3] 11 ZB rfl ?_
      obtain rfl:=ZH a7 hx
      refine Run.nnz_kb [] 2 ZB rfl ?_
      clear hx;have hx:=d5
      simp only[Sum.elim_inl,Sum.elim_inr]at hx
      refine Run.nnz_kk [] 2 ZB rfl (ZZ ?_)
      exact Zo [4] [0] ZB rfl hx rfl ⟨⟨0,RowOf.nil _ _ _ _ _⟩,rfl⟩
     ·
      refine Run.clz_s [1,0] 6 ZB rfl (Zx (HF:=(New H H)) (R:=R_Ptr) (ls:=[p.1]) (vs:=[.agg #[.int .i64 p.1.At,.int .u32 (p.1.Birth.toNat:Int),.int .u32 (p.1.Iv.toNat:Int),.int .u32 (p.1.Tag.toNat:Int),.int .u32 (p.1.Sum.toNat:Int)]]) U97 I31 rfl rfl (⟨_,_,rfl,rfl,rfl,rfl⟩) R_Ptr.one rfl rfl rfl (by simp[maxLen]) rfl (λj4 j5 b5=> ?_))
      obtain⟨j6,j7,rfl⟩:=RowOf.val b5
      obtain⟨b6,e7,e8,hx⟩:=Zb hx
      refine Zl (HF:=(New H H)) 3 U97 I31 rfl rfl b1 rfl (SrcF.row 0 U97 rfl b5) e7 e8 rfl (Nat.le_refl _) rfl (λj8 e9 b7=> ?_)
      obtain⟨f0,f1,rfl⟩:=RowOf.val b7
      refine Run.llz_bs [2] 7 ZB rfl (ZA rfl rfl (Zi rfl rfl (of_decide_eq_true b2) (by decide)) ?_)
      refine Run.lnz [] 2 ZB rfl ?_
      replace hx:=ZP a7 hx
      refine JN.forget 1 (JN.forget 0 (ZE 2 rfl (ZE 2 rfl (ZE 2 rfl ?_))))
      exact ZC ⟨(b6,f.2+1),⟨f0,b6.length,f1,e9,rfl,rfl,rfl,b7⟩,hx⟩ rfl rfl rfl
    ·
     refine Run.cnz_k [] 2 ZB rfl ?_
     obtain rfl:=ZH a7 hx
     refine Run.nnz_kb [] 2 ZB rfl (ZE 2 rfl (ZE 2 rfl (ZE 2 rfl ?_)))
     exact ZC ⟨f.1,z,a0,a1,a2,rfl,rfl,rfl,rfl,b1⟩ rfl rfl rfl
theorem ref15_One_ok{a b}:Con Tryz.prog 159 false (sp_Store false a++sp_Ptr false b) (ref15_One a b) (λr=> [.st 4,.w8 r.1.Kind,.i r.1.Links,.i r.1.Size,.row true R_Ptr 31 5 r.1.Data,.i r.2]):=by
 intro H q s v c x y z d a0 a1 a2 f r hx
 refine Does.enterC Tryz.func159 rfl rfl ?_
 intro w
 unfold ref15_One at hx
 refine Run.cl [] 2 ZB rfl (ZV rfl rfl (λa3 a4=>ZV rfl rfl (λa5 a6=>JL.alloc Z113 rfl (λa7 a8=>Run.ll_s [2,1] 7 ZB rfl (ZI hx E47 rfl ref13_Seen_ok rfl ⟨c,d,f,trivial⟩ ?_)))))
 intro a9 b0 hx b1 b2 b3 b4 h
 refine Run.lc_s [] 14 ZB rfl (ZG hx rfl (λj hx=> ?_) (λj hx=> ?_))
 ·
  refine Run.cnz_k [1] 10 ZB rfl (ZZ ?_)
  exact Zo [2] [0] ZB rfl hx rfl ⟨⟨0,RowOf.nil _ _ _ _ _⟩,rfl⟩
 ·
  refine Run.cl_s [] 5 ZB rfl (JL.pubN 0 RU8.mono rfl h (Nat.le_refl _) (λb5 b6 k=>JL.forget 0 (Zv hx E155 rfl ref14_Read_ok rfl ⟨(k.old RU8.mono),trivial⟩ ?_)))
  intro b7 b8 hx b9 c0 c1 c2 c3 c4 m
  refine Run.llz [] 3 ZB rfl (JL.alloc Z113 rfl (λc5 c6=>Run.lc_s [0] 11 ZB rfl (ZG hx rfl (λp hx=> ?_) (λp hx=> ?_))))
  ·
   refine Run.cnz_k [2] 9 ZB rfl (ZZ ?_)
   exact Zo [3] [0] ZB rfl hx rfl ⟨⟨0,RowOf.nil _ _ _ _ _⟩,rfl⟩
  ·
   refine Run.cnz_s [0,2] 10 ZB rfl ?_
   exact Zo [2] [1] ZB rfl hx rfl ⟨⟨_,m⟩,rfl⟩
theorem ref15_Object_ok{f h j}:Con Tryz.prog 128 false (sp_Store false f++sp_Ptr false h++ [.i j]) (ref15_Object f h j) (λr=> [.st 4,.w8 r.1.Kind,.i r.1.Links,.i r.1.Size,.row true R_Ptr 31 5 r.1.Data,.i r.2]):=by
 intro H a4 a5 a6 b a7 a8 a9 c b0 b1 b2 d r hx
 refine Does.enterC Tryz.func128 rfl rfl ?_
 intro w
 unfold ref15_Object at hx
 refine Run.cl [] 2 ZB rfl (ZV rfl rfl (λb3 b4=>ZV rfl rfl (λb5 b6=>JL.alloc Z113 rfl (λb7 b8=>Run.ll_s [2,1] 8 ZB rfl (ZI hx E187 rfl ref15_may_ok rfl ⟨b,c,d,trivial⟩ ?_)))))
 intro b9 c0 hx
 refine Run.lcz_s [] 3 ZB rfl (ZG hx rfl (λp hx=> ?_) (λp hx=> ?_))
 ·
  refine Run.cnz_k [0] 9 ZB rfl (ZZ ?_)
  exact Zo [1] [0] ZB rfl hx rfl ⟨⟨0,RowOf.nil _ _ _ _ _⟩,rfl⟩
 ·
  refine Run.cl_s [] 8 ZB rfl (ZQ 17 hx rfl (λq hx=> ?_) (λq hx=> ?_))
  ·
   refine Run.lnz_sk [0] 15 ZB rfl (ZZ ?_)
   exact Zo [1] [0] ZB rfl hx rfl ⟨⟨0,RowOf.nil _ _ _ _ _⟩,rfl⟩
  ·
   refine Run.lcz_s [] 7 ZB rfl (ZG hx rfl (λs hx=> ?_) (λs hx=> ?_))
   ·
    refine Run.cnz_k [0] 9 ZB rfl (ZZ ?_)
    exact Zo [1] [0] ZB rfl hx rfl ⟨⟨0,RowOf.nil _ _ _ _ _⟩,rfl⟩
   ·
    refine Run.cl_s [2,1] 6 ZB rfl (ZI hx E158 rfl ref15_Row_ok rfl ⟨b,c,d,trivial⟩ ?_)
    intro c1 c2 hx c3 c4 c5 c6 v
    refine Run.lc_s [] 14 ZB rfl (ZG hx rfl (λx hx=> ?_) (λx hx=> ?_))
    ·
     refine Run.cnz_k [1] 10 ZB rfl (ZZ ?_)
     exact Zo [2] [0] ZB rfl hx rfl ⟨⟨0,RowOf.nil _ _ _ _ _⟩,rfl⟩
    ·
     refine Run.cc_s [] 3 ZB rfl (Zh (so:=[(_,[]),(_,[8]),(_,[]),(_,[])]) 10 rfl Mixed ⟨by kernel_rfl,by kernel_rfl⟩ (ZX [0,1,2,3] rfl) ?_)
     refine JB.run 3 [0,1,2] [2] ZB rfl ?_
     obtain⟨a,y,hx⟩:=ZJ hx
     obtain⟨c7,c8,c9,d0,z,a0,a1,d1,a2⟩:=RowOf.elem v y
     subst z
     obtain rfl:=a1
     refine JB.val (i:=3) [] rfl (Zd U97 S31 rfl rfl a0) ?_
     refine JB.val (i:=4) [] rfl (R.ldoE 0 (cs:=[.int .i64 a.At,.int .u32 (a.Birth.toNat:Int),.int .u32 (a.Iv.toNat:Int),.int .u32 (a.Tag.toNat:Int),.int .u32 (a.Sum.toNat:Int)]) (k:=0) (vs:=[.int .i64 a.At,.int .u32 (a.Birth.toNat:Int),.int .u32 (a.Iv.toNat:Int),.int .u32 (a.Tag.toNat:Int),.int .u32 (a.Sum.toNat:Int)]) S31 rfl rfl a2 rfl rfl) ?_
     refine JB.one (i:=5) (by kernel_rfl) ?_
     refine JOB.step rfl trivial rfl (λK hK=>Zv hx E159 rfl ref15_One_ok rfl ⟨b,c,d,trivial⟩ ?_)
     intro d2 d3 hx d4 m d5 d6 d7 d8 a3
     refine JL.nil (hK _ _ _ m (ZX [1,2,3,4] rfl) ?_)
     refine JB.run 2 [6,7] [] ZB rfl ?_
     refine JB.one (i:=8) (by kernel_rfl) ?_
     refine JOB.step rfl trivial rfl (λK hK=>Run.lnz [2] 2 ZB rfl (hK _ _ _ m (kept1 [false,true,false,false] [1,0,3,4] (by kernel_rfl) rfl) ?_))
     refine JB.val (i:=9) [] rfl (R.assign rfl) ?_
     refine JB.doneN (by kernel_rfl) ?_
     refine Run.nnz_s [] 2 ZB rfl ?_
     exact Zo [2] [0] ZB rfl hx rfl ⟨⟨_,a3⟩,rfl⟩
theorem ref20_rooted_ok{b c d}:Con Tryz.prog 73 false (sp_Pool false b++ [.i c,.i d]) (ref20_rooted b c d) (λr=> [.st 4,.w8 r.1.Kind,.i r.1.Links,.i r.1.Size,.row true R_Ptr 31 5 r.1.Data,.i r.2]):=by
 intro H h j k m p q s v x z a0 a1 b3 b4 b5 b6 b7 b8 b9 a2 c0 c1 c2 c3 c4 c5 c6 c7 c8 c9 d0 d1 r hx
 refine Does.enterC Tryz.func73 rfl rfl ?_
 intro w
 unfold ref20_rooted at hx
 refine Run.cl [] 2 ZB rfl (ZV rfl rfl (λd2 d3=>JL.alloc Z113 rfl (λd4 d5=>Run.lc_s [] 4 ZB rfl (JC.draw (so:=[_,_]) 16 rfl Mixed ⟨⟨0,rfl⟩,⟨1,rfl⟩,trivial⟩ (JA.val ⟨by kernel_rfl,by kernel_rfl⟩ (ZK _) (i:=0) rfl ⟨by kernel_rfl,by kernel_rfl,rfl⟩ trivial (ZL (Hle.refl _) ⟨⟨0,rfl⟩,⟨1,rfl⟩,trivial⟩) (R.fa F55_0 rfl) rfl (JA.val ⟨by kernel_rfl,by kernel_rfl⟩ (ZK _) (i:=1) rfl ⟨by kernel_rfl,by kernel_rfl,rfl⟩ trivial (ZL (Hle.refl _) ⟨⟨0,rfl⟩,⟨1,rfl⟩,trivial⟩) (R.ldoN 1 (vs:=[.slice h j k,.slice p q s,.slice x z a0,.int .u32 (b.Store.Epoch.toNat:Int),.int .u32 (b.Store.Count.toNat:Int)]) S29 rfl rfl rfl rfl) rfl (JA.val ⟨by kernel_rfl,by kernel_rfl⟩ (ZK _) (i:=2) rfl ⟨by kernel_rfl,by kernel_rfl,rfl⟩ trivial (ZL (Hle.refl _) ⟨⟨0,rfl⟩,⟨1,rfl⟩,trivial⟩) (R.fa F55_4 rfl) rfl (JA.val ⟨by kernel_rfl,by kernel_rfl⟩ (ZK _) (i:=3) rfl ⟨by kernel_rfl,by kernel_rfl,rfl⟩ trivial (ZL (Hle.refl _) ⟨⟨0,rfl⟩,⟨1,rfl⟩,trivial⟩) (R.ldo 1 S52 rfl rfl rfl) rfl (JA.val ⟨by kernel_rfl,by kernel_rfl⟩ (ZK _) (i:=4) rfl ⟨by kernel_rfl,by kernel_rfl,rfl⟩ trivial (ZL (Hle.refl _) ⟨⟨0,rfl⟩,⟨1,rfl⟩,trivial⟩) (ZW rfl) rfl ?_)))))))))
 obtain⟨d6,a3,hx⟩:=ZJ hx
 obtain⟨d7,d8,d9,a4,a5,e0,a6⟩:=IsSlice.elem a2 a3
 obtain⟨e1,rfl,a7⟩:=a5
 obtain⟨e2,e3,rfl⟩:=IsSlice.val a7
 refine JA.val ⟨by kernel_rfl,by kernel_rfl⟩ (ZK _) (i:=5) rfl ⟨by kernel_rfl,by kernel_rfl,rfl⟩ trivial (ZL (Hle.refl _) ⟨⟨0,rfl⟩,⟨1,rfl⟩,trivial⟩) (Zd U52 S99 rfl rfl a4) rfl (JA.val ⟨by kernel_rfl,by kernel_rfl⟩ (ZK _) (i:=6) rfl ⟨by kernel_rfl,by kernel_rfl,rfl⟩ trivial (ZL (Hle.refl _) ⟨⟨0,rfl⟩,⟨1,rfl⟩,trivial⟩) (R.fa F99_7 rfl) rfl (JA.val ⟨by kernel_rfl,by kernel_rfl⟩ (ZK _) (i:=7) rfl ⟨by kernel_rfl,by kernel_rfl,rfl⟩ trivial (ZL (Hle.refl _) ⟨⟨0,rfl⟩,⟨1,rfl⟩,trivial⟩) (Zz 7 S31 rfl a6 rfl rfl) rfl (JA.val ⟨by kernel_rfl,by kernel_rfl⟩ (ZK _) (i:=8) rfl ⟨by kernel_rfl,by kernel_rfl,rfl⟩ trivial (ZL (Hle.refl _) ⟨⟨0,rfl⟩,⟨1,rfl⟩,trivial⟩) (ZW rfl) rfl (JAA.start [⟨13,8,113,.agg #[.int .u8 0,.int .i64 0,.int .i64 0,.slice none 0 0]⟩] rfl (JAA.one (i:=9) ⟨⟨_,_,_,rfl,Z113,rfl⟩,trivial⟩ (Hle.refl _) ⟨⟨0,rfl⟩,⟨1,rfl⟩,trivial⟩ rfl (by kernel_rfl) (JOA.step rfl trivial rfl (λe4 e5 K hK=> ?_)))))))
 refine Zv hx E128 rfl ref15_Object_ok rfl ⟨m,v,a1,trivial⟩ ?_
 intro e6 e7 hx a8 a e8 e9 f0 f1 a9
 refine JL.nil (hK (by repeat constructor) (by repeat constructor) (ZL a ⟨⟨1,rfl⟩,⟨2,rfl⟩,trivial⟩) (JAA.val ⟨by kernel_rfl,by kernel_rfl⟩ (ZK _) (i:=10) rfl (by kernel_rfl) rfl trivial a ⟨⟨1,rfl⟩,⟨2,rfl⟩,trivial⟩ (ZW rfl) rfl (JAA.val ⟨by kernel_rfl,by kernel_rfl⟩ (ZK _) (i:=11) rfl (by kernel_rfl) rfl trivial a ⟨⟨1,rfl⟩,⟨2,rfl⟩,trivial⟩ (R.extract rfl rfl) rfl (JAA.val ⟨by kernel_rfl,by kernel_rfl⟩ (ZK _) (i:=12) rfl (by kernel_rfl) rfl trivial a ⟨⟨1,rfl⟩,⟨2,rfl⟩,trivial⟩ (R.extract rfl rfl) rfl (JAA.all ⟨⟨_,_,_,rfl,Z113,rfl⟩,trivial⟩ a ⟨⟨1,rfl⟩,⟨2,rfl⟩,trivial⟩ rfl (by kernel_rfl) (λf2 f3=>JA.one (i:=14) (by kernel_rfl) (JO.step rfl trivial rfl (λK hK=> ?_))))))))
 refine Run.lnz [3] 2 ZB rfl (hK _ _ _ (ZL a ⟨⟨1,rfl⟩,⟨2,rfl⟩,trivial⟩) (JA.val ⟨by kernel_rfl,by kernel_rfl⟩ (ZK _) (i:=15) rfl ⟨by kernel_rfl,by kernel_rfl,rfl⟩ trivial (ZL a ⟨⟨1,rfl⟩,⟨2,rfl⟩,trivial⟩) (R.assign rfl) rfl (JA.doneN (by kernel_rfl) ?_)))
 refine Run.nc_s [] 8 ZB rfl (ZG hx rfl (λb0 hx=> ?_) (λb0 hx=> ?_))
 ·
  refine Run.cl [] 2 ZB rfl ?_
  obtain⟨f4,b1,b2,hx⟩:=mks_some hx
  refine JL.mkF (HF:=New H a8) (R:=R_Ptr) (y:=Ptr.mk 0 (0:UInt32) (0:UInt32) (0:UInt32) (0:UInt32)) (n:=15) U97 I31 rfl rfl (λ_=>rfl) R_Ptr.one b1 b2 rfl rfl (λf5 f6 f=> ?_)
  obtain⟨f7,f8,rfl⟩:=RowOf.val f
  refine Run.lnz_sk [2] 7 ZB rfl ?_
  exact Zo [2] [0] ZB rfl hx rfl ⟨⟨_,f⟩,rfl⟩
 ·
  refine Run.cnz_s [3,1] 11 ZB rfl ?_
  exact Zo [1] [0] ZB rfl hx rfl ⟨⟨_,a9⟩,rfl⟩
theorem ref20_got_ok{p q s}:Con Tryz.prog 71 false (sp_Pool false p++ [.i q,.i s]) (ref20_got p q s) (λr=>sp_Change false r.1++ [.i r.2]):=by
 intro H c2 c3 c4 y c5 c6 c7 z c8 c9 d0 a0 d1 d2 d3 a1 d4 d5 d6 v d7 d8 d9 a2 e0 e1 e2 a3 e3 e4 e5 x r hx
 refine Does.enterC Tryz.func71 rfl rfl ?_
 intro w
 unfold ref20_got at hx
 refine Run.cl [] 2 ZB rfl (ZV rfl rfl (λe6 e7=>JL.alloc Z101 rfl (λe8 e9=>Run.lc_s [] 4 ZB rfl (JC.draw (so:=[_,_]) 16 rfl Mixed ⟨⟨0,rfl⟩,⟨1,rfl⟩,trivial⟩ (JA.val ⟨by kernel_rfl,by kernel_rfl⟩ (ZK _) (i:=0) rfl ⟨by kernel_rfl,by kernel_rfl,rfl⟩ trivial (ZL (Hle.refl _) ⟨⟨0,rfl⟩,⟨1,rfl⟩,trivial⟩) (R.fa F55_7 rfl) rfl (JA.val ⟨by kernel_rfl,by kernel_rfl⟩ (ZK _) (i:=1) rfl ⟨by kernel_rfl,by kernel_rfl,rfl⟩ trivial (ZL (Hle.refl _) ⟨⟨0,rfl⟩,⟨1,rfl⟩,trivial⟩) (R.ldo 1 S53 rfl rfl rfl) rfl (JA.val ⟨by kernel_rfl,by kernel_rfl⟩ (ZK _) (i:=2) rfl ⟨by kernel_rfl,by kernel_rfl,rfl⟩ trivial (ZL (Hle.refl _) ⟨⟨0,rfl⟩,⟨1,rfl⟩,trivial⟩) (R.fa F55_4 rfl) rfl (JA.val ⟨by kernel_rfl,by kernel_rfl⟩ (ZK _) (i:=3) rfl ⟨by kernel_rfl,by kernel_rfl,rfl⟩ trivial (ZL (Hle.refl _) ⟨⟨0,rfl⟩,⟨1,rfl⟩,trivial⟩) (R.ldo 1 S52 rfl rfl rfl) rfl (JA.val ⟨by kernel_rfl,by kernel_rfl⟩ (ZK _) (i:=4) rfl ⟨by kernel_rfl,by kernel_rfl,rfl⟩ trivial (ZL (Hle.refl _) ⟨⟨0,rfl⟩,⟨1,rfl⟩,trivial⟩) (ZW rfl) rfl ?_)))))))))
 obtain⟨f0,a4,hx⟩:=ZJ hx
 obtain⟨f1,f2,f3,a5,a6,f4,a7⟩:=IsSlice.elem v a4
 obtain⟨f5,rfl,a8⟩:=a6
 obtain⟨f6,f7,rfl⟩:=IsSlice.val a8
 refine JA.val ⟨by kernel_rfl,by kernel_rfl⟩ (ZK _) (i:=5) rfl ⟨by kernel_rfl,by kernel_rfl,rfl⟩ trivial (ZL (Hle.refl _) ⟨⟨0,rfl⟩,⟨1,rfl⟩,trivial⟩) (Zd U52 S99 rfl rfl a5) rfl (JA.val ⟨by kernel_rfl,by kernel_rfl⟩ (ZK _) (i:=6) rfl ⟨by kernel_rfl,by kernel_rfl,rfl⟩ trivial (ZL (Hle.refl _) ⟨⟨0,rfl⟩,⟨1,rfl⟩,trivial⟩) (R.fa F99_0 rfl) rfl (JA.val ⟨by kernel_rfl,by kernel_rfl⟩ (ZK _) (i:=7) rfl ⟨by kernel_rfl,by kernel_rfl,rfl⟩ trivial (ZL (Hle.refl _) ⟨⟨0,rfl⟩,⟨1,rfl⟩,trivial⟩) (ZY S3 rfl (a7 0 _ rfl)) rfl (JA.val ⟨by kernel_rfl,by kernel_rfl⟩ (ZK _) (i:=8) rfl ⟨by kernel_rfl,by kernel_rfl,rfl⟩ trivial (ZL (Hle.refl _) ⟨⟨0,rfl⟩,⟨1,rfl⟩,trivial⟩) (ZW rfl) rfl (JAA.start [⟨13,8,101,.agg #[.int .i64 0,.int .i64 0,.int .i64 0,.int .u8 0,.int .i64 0,.int .i64 0,.slice none 0 0,.int .i64 0,.int .u32 0,.int .u32 0,.int .u32 0,.int .u32 0]⟩] rfl (JAA.one (i:=9) ⟨⟨_,_,_,rfl,Z101,rfl⟩,trivial⟩ (Hle.refl _) ⟨⟨0,rfl⟩,⟨1,rfl⟩,trivial⟩ rfl (by kernel_rfl) (JOA.step rfl trivial rfl (λf8 f9 K hK=> ?_)))))))
 refine ZI hx E72 rfl ref20_Change_ok rfl ⟨x,trivial⟩ ?_
 intro a9 g0 hx b0 b1 b2 b3
 refine JL.nil (hK (by repeat constructor) (by repeat constructor) (ZL (Hle.refl _) ⟨⟨0,rfl⟩,⟨1,rfl⟩,trivial⟩) (JAA.val ⟨by kernel_rfl,by kernel_rfl⟩ (ZK _) (i:=10) rfl (by kernel_rfl) rfl trivial (Hle.refl _) ⟨⟨0,rfl⟩,⟨1,rfl⟩,trivial⟩ (ZW rfl) rfl (JAA.val ⟨by kernel_rfl,by kernel_rfl⟩ (ZK _) (i:=11) rfl (by kernel_rfl) rfl trivial (Hle.refl _) ⟨⟨0,rfl⟩,⟨1,rfl⟩,trivial⟩ (R.extract rfl rfl) rfl (JAA.val ⟨by kernel_rfl,by kernel_rfl⟩ (ZK _) (i:=12) rfl (by kernel_rfl) rfl trivial (Hle.refl _) ⟨⟨0,rfl⟩,⟨1,rfl⟩,trivial⟩ (R.extract rfl rfl) rfl (JAA.all ⟨⟨_,_,_,rfl,Z101,rfl⟩,trivial⟩ (Hle.refl _) ⟨⟨0,rfl⟩,⟨1,rfl⟩,trivial⟩ rfl (by kernel_rfl) (λb4 g1=>JA.one (i:=14) (by kernel_rfl) (JO.step rfl trivial rfl (λK hK=> ?_))))))))
 refine Run.lnz [2] 2 ZB rfl (hK _ _ _ (ZL (Hle.refl _) ⟨⟨0,rfl⟩,⟨1,rfl⟩,trivial⟩) (JA.val ⟨by kernel_rfl,by kernel_rfl⟩ (ZK _) (i:=15) rfl ⟨by kernel_rfl,by kernel_rfl,rfl⟩ trivial (ZL (Hle.refl _) ⟨⟨0,rfl⟩,⟨1,rfl⟩,trivial⟩) (R.assign rfl) rfl (JA.doneN (by kernel_rfl) ?_)))
 refine Run.nc_s [] 8 ZB rfl (ZO hx [6,8] [0] rfl rfl (λf l0 o0 l o g=>∃c:Change,∃d:Heaplet,∃h:Option Addr,∃j:Nat,∃k:Nat,l=l0∧o= [(b4,.cells #[.int .i64 c.Set,.int .i64 c.Obj,.int .i64 c.Index,.int .u8 (c.Kind.toNat:Int),.int .i64 c.Links,.int .i64 c.Size,.slice h j k,.int .i64 c.Laid.At,.int .u32 (c.Laid.Birth.toNat:Int),.int .u32 (c.Laid.Iv.toNat:Int),.int .u32 (c.Laid.Tag.toNat:Int),.int .u32 (c.Laid.Sum.toNat:Int)] 101 (0,0))]::o0∧d=g∧f=.inl c∧Hle H d∧IsSlice d RU8 1 (.slice h j k) c.Data) (λf g2 hx=> ?_) (λf b5 hx=> ?_))
 ·
  rintro _ _ _ ⟨c,d,h,j,k,rfl,rfl,rfl,rfl,g3,b6⟩
  simp only[Sum.elim_inl]at hx
  refine Run.nl_s [0] 6 ZB rfl (ZA rfl rfl (R.eql8 (a:=c.Kind) (b:=(0:UInt8)) rfl rfl) (Run.lcz_s [] 2 ZB rfl (ZG hx rfl (λb7 hx=> ?_) (λb7 hx=> ?_))))
  ·
   refine Run.cnz_k [1] 9 ZB rfl ?_
   exact Zo [1] [] ZB rfl hx rfl ⟨IsSlice.nil _ _ _,rfl⟩
  ·
   refine Run.cnz_s [0,1] 10 ZB rfl ?_
   exact Zo [1] [] ZB rfl hx rfl ⟨b6,rfl⟩
 ·
  refine ZG hx rfl (λb8 hx=> ?_) (λb8 hx=> ?_)
  ·
   refine Run.cl [1] 5 ZB rfl (Zv hx E73 rfl ref20_rooted_ok rfl ⟨y,z,a0,a1,v,a2,a3,x,trivial⟩ ?_)
   intro m g4 hx b9 c0 g5 g6 g7 g8 g9
   refine Run.llz [] 3 ZB rfl (JL.alloc Z113 rfl (λh0 h1=>Run.lc_s [0] 11 ZB rfl (ZG hx rfl (λc1 hx=> ?_) (λc1 hx=> ?_))))
   ·
    refine Run.cnz_k [2] 10 ZB rfl ?_
    obtain rfl:=Option.some.inj hx
    clear hx;have hx:=b5
    simp only[Sum.elim_inl,Sum.elim_inr]at hx
    refine Run.nnz_kk [] 2 ZB rfl ?_
    exact Zo [2] [] ZB rfl hx rfl ⟨IsSlice.nil _ _ _,rfl⟩
   ·
    refine Run.cnz_s [0,0,0,4] 12 ZB rfl ?_
    obtain rfl:=Option.some.inj hx
    refine JN.forget 3 (JN.forget 1 (JN.forget 0 (ZE 1 rfl ?_)))
    exact ZC ⟨Change.mk 0 0 0 m.1.Kind m.1.Links m.1.Size ([]:List UInt8) (Ptr.mk 0 (0:UInt32) (0:UInt32) (0:UInt32) (0:UInt32)),b9,none,0,0,rfl,rfl,rfl,rfl,(c0),(IsSlice.nil _ _ _)⟩ rfl rfl rfl
  ·
   refine JC.skip ?_
   obtain rfl:=Option.some.inj hx
   refine JN.forget 1 (ZE 1 rfl ?_)
   exact ZC ⟨a9.1,H,b0,b1,b2,rfl,rfl,rfl,rfl,(Hle.refl _),b3⟩ rfl rfl rfl
theorem ref06_asked_ok{a b}:Con Tryz.prog 173 true ([.sl false RU8 1 a,.sl false RU8 1 b]) (ref06_asked a b) (λr=> [.i r]):=by
 intro H j k m c p q s d r hx
 refine Does.enterC Tryz.func173 rfl rfl ?_
 intro w
 unfold ref06_asked at hx
 refine Run.cl [] 9 ZB rfl (ZA rfl rfl (ZM U26 rfl (IsSlice.long c)) (Run.lcz_s [] 3 ZB rfl (ZG hx rfl (λf hx=> ?_) (λf hx=> ?_))))
 ·
  refine Run.cnz_k [] 7 ZB rfl ?_
  exact ZD [] rfl hx rfl rfl
 ·
  refine Run.cl_s [] 6 ZB rfl (ZA rfl rfl (ZM U26 rfl (IsSlice.long d)) (Run.lcz_s [] 3 ZB rfl (ZG hx rfl (λh hx=> ?_) (λh hx=> ?_))))
  ·
   refine Run.cnz_k [] 7 ZB rfl ?_
   exact ZD [] rfl hx rfl rfl
  ·
   refine Run.cnz_s [] 8 ZB rfl ?_
   exact ZD [] rfl hx rfl rfl
theorem ref01_Room_n_ok:∀(fuel:Nat) (a:Int) (H:Heaplet) (r:Int) (hx:ref01_Room_n fuel a=some r),
  Does Tryz.prog 262 #[.int .i64 a] [] H (λu K' H'=>u=.int .i64 r∧K'= []∧H=H'∧True):=by
 intro fuel
 induction fuel with
 |zero=>intro a H r hx;cases hx
 |succ n ih=>
 intro a H r hx
 replace hx:ref01_Room_b (ref01_Room_n n) a=some r:=hx
 obtain⟨h,hrec⟩:∃q,q=ref01_Room_n n:=⟨_,rfl⟩
 rw[←hrec]at hx ih
 clear hrec
 refine Does.enterL (vs:=[.int .i64 a]) (l:=[(0,.int .i64 a)]) Tryz.func262 rfl rfl ⟨rfl,trivial⟩ (λw hlt=> ?_)
 unfold ref01_Room_b at hx
 refine Run.cc [] 12 ZB rfl (ZG hx rfl (λb hx=> ?_) (λb hx=> ?_))
 ·
  refine Run.cnz_k [] 7 ZB rfl (Zm (vs:=[.int .i64 1]) (K:=[]) (rst:=[]) (.inl rfl) rfl rfl (Zs rfl rfl) ZT ?_)
  obtain rfl:=Option.some.inj hx
  exact⟨rfl,rfl,rfl,trivial⟩
 ·
  refine Run.cl_s [] 6 ZB rfl ?_
  obtain⟨c,d,hx⟩:=ZU hx
  refine Zg (vs:=[_]) (args:=[_]) (K:=[]) (rst:=[]) E262 rfl rfl rfl ZT (ih (w64 (a-1)) _ _ d) rfl (λi j k f m p=> ?_)
  obtain⟨rfl,rfl,rfl,-⟩:=f
  refine Run.lnz_s [] 5 ZB rfl (Zm (vs:=[.int .i64 (w64 (256*c))]) (K:=[]) (rst:=[]) (.inl rfl) rfl rfl (Zs rfl rfl) ZT ?_)
  obtain rfl:=Option.some.inj hx
  exact⟨rfl,rfl,rfl,trivial⟩
theorem ref01_Room_ok (a:Int)(H:Heaplet)(r:Int)(hx:ref01_Room a=some r):
  Does Tryz.prog 262 #[.int .i64 a] [] H (λu K' H'=>u=.int .i64 r∧K'= []∧H=H'∧True):=ref01_Room_n_ok FUEL a H r hx
theorem ref01_Bytes_ok{c d}:Con Tryz.prog 225 true ([.i c,.i d]) (ref01_Bytes c d) (λr=> [.row true RU8 5 1 r]):=by
 intro H r hx
 refine Does.enterC Tryz.func225 rfl rfl ?_
 intro w
 unfold ref01_Bytes at hx
 refine Run.cl [] 8 ZB rfl ?_
 obtain⟨m,z,a0,hx⟩:=mks_some hx
 refine JL.mkF (HF:=New H H) (R:=RU8) (y:=(0:UInt8)) (n:=d) U26 I5 rfl rfl (λ_=>rfl) RU8.one z a0 rfl rfl (λb3 a1 p=> ?_)
 obtain⟨q,s,rfl⟩:=RowOf.val p
 refine Run.lc_s [] 9 ZB rfl (ZO hx [5] [] rfl rfl (λf l0 o0 l o g=>∃h:Own,l=l0∧o=h::o0∧H=g∧RowOf (New H H) RU8 w.heap.size 5 1 (.slice q m.length s) f h) (λf b4 hx=> ?_) (λf b5 hx=> ?_))
 ·
  rintro _ _ _ ⟨h,rfl,rfl,rfl,a2⟩
  refine Run.nnz_s [] 8 ZB rfl ?_
  exact ZD [0] rfl hx rfl ⟨⟨_,a2⟩,rfl⟩
 ·
  refine JC.block (ZS [0,1,5] [] rfl rfl (λl0 o0 a l o g=>∃b:Own,l=(6,.int .i64 a.2)::l0∧o=b::o0∧H=g∧RowOf (New H H) RU8 w.heap.size 5 1 (.slice q m.length s) a.1 b) hx ⟨a1,rfl,rfl,rfl,p⟩ rfl ?_)
  ·
   rintro b6 a _ _ _ ⟨b,rfl,rfl,rfl,j⟩ b7 hx v
   unfold ref01_Bytes_l1 at hx
   refine Run.cc [] 8 ZB rfl (ZG hx rfl (λa3 hx=> ?_) (λa3 hx=> ?_))
   ·
    refine Run.cl_s [] 9 ZB rfl ?_
    obtain⟨a4,a5,hx⟩:=ZU hx
    refine Zg (vs:=[_]) (args:=[_]) (K:=[]) (rst:=[_]) E262 rfl rfl rfl ZT (ref01_Room_ok a.2 _ _ a5) rfl (λb8 b9 c0 a6 c1 c2=> ?_)
    obtain⟨rfl,rfl,rfl,-⟩:=a6
    obtain⟨a7,hx⟩:=chk_some hx
    refine ZA rfl rfl (R.quo_i rfl rfl a7) (ZA rfl rfl (R.rem_i rfl rfl (by decide)) (ZA rfl rfl (R.cv_i64_u8 U3 U5 rfl) ?_))
    obtain⟨a8,hx⟩:=chk_some hx
    obtain⟨c3,c4,x⟩:=RowOf.place j a8
    refine ZA rfl rfl (Zd U26 S5 rfl rfl x) ?_
    obtain⟨a9,b0,c5,hx⟩:=setI_some hx
    refine JL.stE 0 (k:=a.2) (y:=(u8i ((w64 (c.tdiv a4)).tmod 256))) S5 rfl j rfl x rfl rfl (rfl) RU8.one b0 (λb1 b2 c6=>Run.lnz_bs [] 8 ZB rfl ?_)
    replace hx:=ZP v hx
    exact ZC ⟨(a9,w64 (a.2+1)),⟨b1,rfl,rfl,rfl,b2⟩,hx⟩ rfl rfl rfl
   ·
    refine Run.cnz_k [] 2 ZB rfl ?_
    obtain rfl:=ZH v hx
    refine Run.nnz_kb [] 2 ZB rfl ?_
    exact ZC ⟨b,rfl,rfl,rfl,j⟩ rfl rfl rfl
end Go.Proofs.YtebhagohhbmgoaaGreat
