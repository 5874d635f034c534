import Derived.Test.YtebhagohhbmgoaaGreatT2
import Derived.Test.YtebhagohhbmgoaaGreatOwMc
/- walks: what the code computes, function by function. -/
set_option linter.unusedSimpArgs false
set_option linter.unusedVariables false
namespace Go.Proofs.YtebhagohhbmgoaaGreat
open Go.Ow Go.RowKit Go.Proofs
set_option maxHeartbeats 8000000
theorem ref09_Great_ok{q}:Con Tryz.prog 40 true (sp_Disk false q) (ref09_Great q) (λr=> [.b r]):=by
 intro H b7 b8 b9 f c0 c1 c2 a r hx
 refine Does.enterC Tryz.func40 rfl rfl ?_
 intro w
 unfold ref09_Great at hx
 refine Run.cl [] 2 ZB rfl (ZV rfl rfl (λc3 c4=>Run.lc_s [] 4 ZB rfl (ZO hx [1] [0] rfl rfl (λi l0 o0 l o g=>∃s:Unit,l=l0∧o=o0∧H=g∧i=.inl s) (λi c5 hx=> ?_) (λi h hx=> ?_))))
 ·
  rintro _ _ _ ⟨s,rfl,rfl,rfl,rfl⟩
  simp only[Sum.elim_inl]at hx
  refine Run.nc_s [] 12 ZB rfl (ZO hx [1] [0] rfl rfl (λj l0 o0 l o g=>l=(3,.int .i64 j)::l0∧o=o0∧H=g) (λj c6 hx=> ?_) (λj c7 hx=> ?_))
  ·
   rintro _ _ _ ⟨rfl,rfl,rfl⟩
   refine Run.nc_s [] 7 ZB rfl (ZO hx [] [] rfl rfl (λk l0 o0 l o g=>l=(3,.int .i64 k)::l0∧o=o0∧H=g) (λk c8 hx=> ?_) (λk c9 hx=> ?_))
   ·
    rintro _ _ _ ⟨rfl,rfl,rfl⟩
    refine Run.nnz_s [] 9 ZB rfl ?_
    exact ZD [] rfl hx rfl rfl
   ·
    refine JC.block (ZS [1] [0] rfl rfl (λl0 o0 c l o g=>l=(3,.int .i64 c.1)::(5,.int .i64 ((c.2:Nat):Int))::l0∧o=o0∧H=g) hx ⟨rfl,rfl,rfl⟩ rfl ?_)
    ·
     rintro d0 c _ _ _ ⟨rfl,rfl,rfl⟩ d1 hx m
     unfold ref09_Great_l2 at hx
     refine Run.cl [0] 6 ZB rfl (ZA rfl rfl (ZM U23 rfl (IsSlice.long a)) (Run.llz [] 2 ZB rfl (ZQ 52 hx rfl (λv hx=> ?_) (λv hx=> ?_))))
     ·
      refine Run.lcz_s [] 7 ZB rfl (ZG hx rfl (λa0 hx=> ?_) (λa0 hx=> ?_))
      ·
       refine Run.cl_s [0] 9 ZB rfl ?_
       obtain⟨a1,a2,hx⟩:=ZJ hx
       obtain⟨d2,d3,d4,a3,a4,d5,a5⟩:=IsSlice.elem a a2
       obtain⟨d6,rfl,x⟩:=a4
       obtain⟨d7,d8,rfl⟩:=IsSlice.val x
       refine ZA rfl rfl (Zd U23 S96 rfl rfl a3) (ZA rfl rfl (R.fa F96_1 rfl) (ZA rfl rfl (ZY S26 rfl (a5 1 _ rfl)) (ZA rfl rfl (ZM U26 rfl (IsSlice.long x)) (Run.llz_bs [] 7 ZB rfl (ZA rfl rfl (Zi rfl rfl (of_decide_eq_true v) (IsSlice.lenI a)) (Run.lnz [] 2 ZB rfl ?_))))))
       replace hx:=ZP m hx
       exact ZC ⟨(w64 (c.1+(a1.Data.length:Int)),c.2+1),⟨rfl,rfl,rfl⟩,hx⟩ rfl rfl rfl
      ·
       refine Run.cnz_k [] 2 ZB rfl ?_
       obtain rfl:=ZH m hx
       refine Run.nnz_kb [] 2 ZB rfl (JN.forget 0 ?_)
       exact ZC ⟨rfl,rfl,rfl⟩ rfl rfl rfl
     ·
      refine Run.lnz_sk [] 8 ZB rfl ?_
      obtain rfl:=ZH m hx
      refine Run.nnz_kb [] 2 ZB rfl (JN.forget 0 ?_)
      exact ZC ⟨rfl,rfl,rfl⟩ rfl rfl rfl
  ·
   refine JC.block (ZS [1] [0] rfl rfl (λl0 o0 d l o g=>l=(3,.int .i64 d.1)::(4,.int .i64 ((d.2:Nat):Int))::l0∧o=o0∧H=g) hx ⟨rfl,rfl,rfl⟩ rfl ?_)
   ·
    rintro d9 d _ _ _ ⟨rfl,rfl,rfl⟩ e0 hx p
    unfold ref09_Great_l1 at hx
    refine Run.cl [0] 6 ZB rfl (ZA rfl rfl (ZM U22 rfl (IsSlice.long f)) (Run.llz [] 2 ZB rfl (ZQ 33 hx rfl (λy hx=> ?_) (λy hx=> ?_))))
    ·
     refine Run.lcz_s [] 7 ZB rfl (ZG hx rfl (λa6 hx=> ?_) (λa6 hx=> ?_))
     ·
      refine Run.cl_s [0] 9 ZB rfl ?_
      obtain⟨a7,a8,hx⟩:=ZJ hx
      obtain⟨e1,e2,e3,a9,b0,e4,b1⟩:=IsSlice.elem f a8
      obtain⟨e5,rfl,z⟩:=b0
      obtain⟨e6,e7,rfl⟩:=IsSlice.val z
      refine ZA rfl rfl (Zd U22 S26 rfl rfl a9) (ZA rfl rfl (ZY S26 rfl (b1 0 _ rfl)) (ZA rfl rfl (ZM U26 rfl (IsSlice.long z)) (Run.llz_bs [] 7 ZB rfl (ZA rfl rfl (Zi rfl rfl (of_decide_eq_true y) (IsSlice.lenI f)) (Run.lnz [] 2 ZB rfl ?_)))))
      replace hx:=ZP p hx
      exact ZC ⟨(w64 (d.1+(a7.length:Int)),d.2+1),⟨rfl,rfl,rfl⟩,hx⟩ rfl rfl rfl
     ·
      refine Run.cnz_k [] 2 ZB rfl ?_
      obtain rfl:=ZH p hx
      refine Run.nnz_kb [] 2 ZB rfl ?_
      exact ZC ⟨rfl,rfl,rfl⟩ rfl rfl rfl
    ·
     refine Run.lnz_sk [] 8 ZB rfl ?_
     obtain rfl:=ZH p hx
     refine Run.nnz_kb [] 2 ZB rfl ?_
     exact ZC ⟨rfl,rfl,rfl⟩ rfl rfl rfl
 ·
  refine Run.cl [0] 4 ZB rfl (ZA rfl rfl (ZM U22 rfl (IsSlice.long f)) (Run.llz [] 2 ZB rfl (ZQ 10 hx rfl (λb2 hx=> ?_) (λb2 hx=> ?_))))
  ·
   refine Run.lnz_s [] 26 ZB rfl ?_
   obtain rfl:=Option.some.inj hx
   clear hx;have hx:=h
   simp only[Sum.elim_inl,Sum.elim_inr]at hx
   refine Run.nnz_kk [] 2 ZB rfl ?_
   exact ZD [] rfl hx rfl rfl
  ·
   refine Run.llz [0] 5 ZB rfl (ZA rfl rfl (ZM U23 rfl (IsSlice.long a)) (Run.llz [] 4 ZB rfl (ZQ 15 hx rfl (λb3 hx=> ?_) (λb3 hx=> ?_))))
   ·
    refine Run.llz [0] 5 ZB rfl (ZA rfl rfl (ZM U23 rfl (IsSlice.long a)) (Run.llz [] 6 ZB rfl (ZQ 22 hx rfl (λb4 hx=> ?_) (λb4 hx=> ?_))))
    ·
     refine Run.lnz_s [] 14 ZB rfl ?_
     obtain rfl:=Option.some.inj hx
     clear hx;have hx:=h
     simp only[Sum.elim_inl,Sum.elim_inr]at hx
     refine Run.nnz_kk [] 2 ZB rfl ?_
     exact ZD [] rfl hx rfl rfl
    ·
     refine Run.llz [0] 5 ZB rfl (ZA rfl rfl (ZM U23 rfl (IsSlice.long a)) (Run.lcz_s [] 5 ZB rfl (ZG hx rfl (λb5 hx=> ?_) (λb5 hx=> ?_))))
     ·
      refine Run.cnz [] 6 ZB rfl ?_
      obtain rfl:=Option.some.inj hx
      clear hx;have hx:=h
      simp only[Sum.elim_inl,Sum.elim_inr]at hx
      refine Run.nnz_kk [] 2 ZB rfl ?_
      exact ZD [] rfl hx rfl rfl
     ·
      refine JC.skip ?_
      obtain rfl:=Option.some.inj hx
      exact ZC ⟨(),rfl,rfl,rfl,rfl⟩ rfl rfl rfl
   ·
    refine Run.llz [0] 13 ZB rfl (ZA rfl rfl (ZM U23 rfl (IsSlice.long a)) (Run.lcz_s [] 5 ZB rfl (ZG hx rfl (λb6 hx=> ?_) (λb6 hx=> ?_))))
    ·
     refine Run.cnz [] 6 ZB rfl ?_
     obtain rfl:=Option.some.inj hx
     clear hx;have hx:=h
     simp only[Sum.elim_inl,Sum.elim_inr]at hx
     refine Run.nnz_kk [] 2 ZB rfl ?_
     exact ZD [] rfl hx rfl rfl
    ·
     refine JC.skip ?_
     obtain rfl:=Option.some.inj hx
     exact ZC ⟨(),rfl,rfl,rfl,rfl⟩ rfl rfl rfl
theorem ref13_Great_ok{c}:Con Tryz.prog 7 true (sp_Store false c) (ref13_Great c) (λr=> [.b r]):=by
 intro H j k m d p q s f v x y h r hx
 refine Does.enterC Tryz.func7 rfl rfl ?_
 intro w
 unfold ref13_Great at hx
 refine Run.cl [] 2 ZB rfl (ZV rfl rfl (λz a0=>Run.lc_s [] 4 ZB rfl (ZO hx [] [] rfl rfl (λa l0 o0 l o g=>l=(2,.bool a)::l0∧o=o0∧H=g) (λa a1 hx=> ?_) (λa a2 hx=> ?_))))
 ·
  rintro _ _ _ ⟨rfl,rfl,rfl⟩
  refine Run.nnz_s [] 2 ZB rfl ?_
  exact ZD [] rfl hx rfl rfl
 ·
  refine Run.clz [0] 3 ZB rfl (ZI hx E40 rfl ref09_Great_ok rfl ⟨d,f,trivial⟩ ?_)
  intro a3 a4 hx
  refine ZA rfl rfl (ZW rfl) (ZQ 6 hx rfl (λi hx=> ?_) (λi hx=> ?_))
  ·
   refine Run.lnz [] 7 ZB rfl ?_
   obtain rfl:=Option.some.inj hx
   refine JN.forget 0 ?_
   exact ZC ⟨rfl,rfl,rfl⟩ rfl rfl rfl
  ·
   refine Run.llz [0] 5 ZB rfl (ZA rfl rfl (ZM U26 rfl (IsSlice.long h)) (Run.lnz [] 5 ZB rfl ?_))
   obtain rfl:=Option.some.inj hx
   refine JN.forget 0 ?_
   exact ZC ⟨rfl,rfl,rfl⟩ rfl rfl rfl
theorem ref17_Great_ok{v}:Con Tryz.prog 23 true (sp_Pool false v) (ref17_Great v) (λr=> [.b r]):=by
 intro H d5 d6 d7 a9 d8 d9 e0 b0 e1 e2 e3 b1 e4 e5 e6 b2 e7 e8 e9 h f0 f1 f2 i f3 f4 f5 j f6 f7 f8 k r hx
 refine Does.enterC Tryz.func23 rfl rfl ?_
 intro w
 unfold ref17_Great at hx
 refine Run.cl [] 2 ZB rfl (ZV rfl rfl (λf9 g0=>Run.ll_s [0] 7 ZB rfl (ZA rfl rfl (ZM U51 rfl (IsSlice.long b2)) (Run.llz [0] 2 ZB rfl (ZA rfl rfl (ZM U52 rfl (IsSlice.long h)) (Run.llz [0] 3 ZB rfl (ZA rfl rfl (ZM U22 rfl (IsSlice.long i)) (Run.llz [0] 3 ZB rfl (ZA rfl rfl (ZM U22 rfl (IsSlice.long j)) (Run.llz [0] 3 ZB rfl (ZA rfl rfl (ZM U53 rfl (IsSlice.long k)) (Run.ll_s [0] 9 ZB rfl (ZI hx E7 rfl ref13_Great_ok rfl ⟨a9,b0,b1,trivial⟩ ?_)))))))))))))
 intro g1 g2 hx
 refine ZA rfl rfl (ZW rfl) (ZQ 30 hx rfl (λb3 hx=> ?_) (λb3 hx=> ?_))
 ·
  refine Run.lnz_sk [] 13 ZB rfl ?_
  exact ZD [] rfl hx rfl rfl
 ·
  refine Run.lcz_s [] 7 ZB rfl (ZG hx rfl (λb4 hx=> ?_) (λb4 hx=> ?_))
  ·
   refine Run.cnz_k [] 7 ZB rfl ?_
   exact ZD [] rfl hx rfl rfl
  ·
   refine Run.cc_s [] 8 ZB rfl (ZO hx [1] [0] rfl rfl (λm l0 o0 l o g=>l=(3,.int .i64 m)::l0∧o=o0∧H=g) (λm g3 hx=> ?_) (λm g4 hx=> ?_))
   ·
    rintro _ _ _ ⟨rfl,rfl,rfl⟩
    refine Run.nc_s [] 7 ZB rfl (ZO hx [1] [0] rfl rfl (λp l0 o0 l o g=>l=(3,.int .i64 p)::l0∧o=o0∧H=g) (λp g5 hx=> ?_) (λp g6 hx=> ?_))
    ·
     rintro _ _ _ ⟨rfl,rfl,rfl⟩
     refine Run.nc_s [] 7 ZB rfl (ZO hx [1] [0] rfl rfl (λq l0 o0 l o g=>l=(3,.int .i64 q)::l0∧o=o0∧H=g) (λq g7 hx=> ?_) (λq g8 hx=> ?_))
     ·
      rintro _ _ _ ⟨rfl,rfl,rfl⟩
      refine Run.nc_s [] 7 ZB rfl (ZO hx [] [] rfl rfl (λs l0 o0 l o g=>l=(3,.int .i64 s)::l0∧o=o0∧H=g) (λs g9 hx=> ?_) (λs h0 hx=> ?_))
      ·
       rintro _ _ _ ⟨rfl,rfl,rfl⟩
       refine Run.nnz_s [] 9 ZB rfl ?_
       exact ZD [] rfl hx rfl rfl
      ·
       refine JC.block (ZS [1] [0] rfl rfl (λl0 o0 a l o g=>l=(3,.int .i64 a.1)::(7,.int .i64 ((a.2:Nat):Int))::l0∧o=o0∧H=g) hx ⟨rfl,rfl,rfl⟩ rfl ?_)
       ·
        rintro h1 a _ _ _ ⟨rfl,rfl,rfl⟩ h2 hx x
        unfold ref17_Great_l4 at hx
        refine Run.cl [0] 6 ZB rfl (ZA rfl rfl (ZM U22 rfl (IsSlice.long j)) (Run.lcz_s [] 3 ZB rfl (ZG hx rfl (λy hx=> ?_) (λy hx=> ?_))))
        ·
         refine Run.cl_s [0] 9 ZB rfl ?_
         obtain⟨b5,b6,hx⟩:=ZJ hx
         obtain⟨h3,h4,h5,b7,b8,h6,b9⟩:=IsSlice.elem j b6
         obtain⟨h7,rfl,z⟩:=b8
         obtain⟨h8,h9,rfl⟩:=IsSlice.val z
         refine ZA rfl rfl (Zd U22 S26 rfl rfl b7) (ZA rfl rfl (ZY S26 rfl (b9 0 _ rfl)) (ZA rfl rfl (ZM U26 rfl (IsSlice.long z)) (ZA rfl rfl (R.min2 rfl rfl) (ZA rfl rfl (R.quo_i rfl rfl (by decide)) ?_))))
         refine Run.llz_bs [] 7 ZB rfl (ZA rfl rfl (Zi rfl rfl (of_decide_eq_true y) (IsSlice.lenI j)) (Run.lnz [] 2 ZB rfl ?_))
         replace hx:=ZP x hx
         exact ZC ⟨(w64 (a.1+(w64 ((min (b5.length:Int) 1000000).tdiv 16))),a.2+1),⟨rfl,rfl,rfl⟩,hx⟩ rfl rfl rfl
        ·
         refine Run.cnz_k [] 2 ZB rfl ?_
         obtain rfl:=ZH x hx
         refine Run.nnz_kb [] 2 ZB rfl (JN.forget 0 ?_)
         exact ZC ⟨rfl,rfl,rfl⟩ rfl rfl rfl
     ·
      refine JC.block (ZS [1] [0] rfl rfl (λl0 o0 c l o g=>l=(3,.int .i64 c.1)::(6,.int .i64 ((c.2:Nat):Int))::l0∧o=o0∧H=g) hx ⟨rfl,rfl,rfl⟩ rfl ?_)
      ·
       rintro i0 c _ _ _ ⟨rfl,rfl,rfl⟩ i1 hx a0
       unfold ref17_Great_l3 at hx
       refine Run.cl [0] 6 ZB rfl (ZA rfl rfl (ZM U22 rfl (IsSlice.long i)) (Run.lcz_s [] 3 ZB rfl (ZG hx rfl (λa1 hx=> ?_) (λa1 hx=> ?_))))
       ·
        refine Run.cl_s [0] 9 ZB rfl ?_
        obtain⟨c0,c1,hx⟩:=ZJ hx
        obtain⟨i2,i3,i4,c2,c3,i5,c4⟩:=IsSlice.elem i c1
        obtain⟨i6,rfl,a2⟩:=c3
        obtain⟨i7,i8,rfl⟩:=IsSlice.val a2
        refine ZA rfl rfl (Zd U22 S26 rfl rfl c2) (ZA rfl rfl (ZY S26 rfl (c4 0 _ rfl)) (ZA rfl rfl (ZM U26 rfl (IsSlice.long a2)) (ZA rfl rfl (R.min2 rfl rfl) (ZA rfl rfl (R.quo_i rfl rfl (by decide)) ?_))))
        refine Run.llz_bs [] 7 ZB rfl (ZA rfl rfl (Zi rfl rfl (of_decide_eq_true a1) (IsSlice.lenI i)) (Run.lnz [] 2 ZB rfl ?_))
        replace hx:=ZP a0 hx
        exact ZC ⟨(w64 (c.1+(w64 ((min (c0.length:Int) 1000000).tdiv 24))),c.2+1),⟨rfl,rfl,rfl⟩,hx⟩ rfl rfl rfl
       ·
        refine Run.cnz_k [] 2 ZB rfl ?_
        obtain rfl:=ZH a0 hx
        refine Run.nnz_kb [] 2 ZB rfl ?_
        exact ZC ⟨rfl,rfl,rfl⟩ rfl rfl rfl
    ·
     refine JC.block (ZS [1] [0] rfl rfl (λl0 o0 d l o g=>l=(3,.int .i64 d.1)::(5,.int .i64 ((d.2:Nat):Int))::l0∧o=o0∧H=g) hx ⟨rfl,rfl,rfl⟩ rfl ?_)
     ·
      rintro i9 d _ _ _ ⟨rfl,rfl,rfl⟩ j0 hx a3
      unfold ref17_Great_l2 at hx
      refine Run.cl [0] 6 ZB rfl (ZA rfl rfl (ZM U53 rfl (IsSlice.long k)) (Run.lcz_s [] 3 ZB rfl (ZG hx rfl (λa4 hx=> ?_) (λa4 hx=> ?_))))
      ·
       refine Run.cl_s [0] 9 ZB rfl ?_
       obtain⟨c5,c6,hx⟩:=ZJ hx
       obtain⟨j1,j2,j3,c7,c8,j4,c9⟩:=IsSlice.elem k c6
       obtain⟨j5,rfl,a5⟩:=c8
       obtain⟨j6,j7,rfl⟩:=IsSlice.val a5
       refine ZA rfl rfl (Zd U53 S101 rfl rfl c7) (ZA rfl rfl (R.fa F101_6 rfl) (ZA rfl rfl (ZY S26 rfl (c9 6 _ rfl)) (ZA rfl rfl (ZM U26 rfl (IsSlice.long a5)) (ZA rfl rfl (R.min2 rfl rfl) (ZA rfl rfl (R.quo_i rfl rfl (by decide)) ?_)))))
       refine Run.llz_bs [] 7 ZB rfl (ZA rfl rfl (Zi rfl rfl (of_decide_eq_true a4) (IsSlice.lenI k)) (Run.lnz [] 2 ZB rfl ?_))
       replace hx:=ZP a3 hx
       exact ZC ⟨(w64 (d.1+(w64 ((min (c5.Data.length:Int) 1000000).tdiv 256))),d.2+1),⟨rfl,rfl,rfl⟩,hx⟩ rfl rfl rfl
      ·
       refine Run.cnz_k [] 2 ZB rfl ?_
       obtain rfl:=ZH a3 hx
       refine Run.nnz_kb [] 2 ZB rfl ?_
       exact ZC ⟨rfl,rfl,rfl⟩ rfl rfl rfl
   ·
    refine JC.block (ZS [1] [0] rfl rfl (λl0 o0 f l o g=>l=(3,.int .i64 f.1)::(4,.int .i64 ((f.2:Nat):Int))::l0∧o=o0∧H=g) hx ⟨rfl,rfl,rfl⟩ rfl ?_)
    ·
     rintro j8 f _ _ _ ⟨rfl,rfl,rfl⟩ j9 hx a6
     unfold ref17_Great_l1 at hx
     refine Run.cl [0] 6 ZB rfl (ZA rfl rfl (ZM U52 rfl (IsSlice.long h)) (Run.lcz_s [] 3 ZB rfl (ZG hx rfl (λa7 hx=> ?_) (λa7 hx=> ?_))))
     ·
      refine Run.cl_s [0] 9 ZB rfl ?_
      obtain⟨d0,d1,hx⟩:=ZJ hx
      obtain⟨k0,k1,k2,d2,d3,k3,d4⟩:=IsSlice.elem h d1
      obtain⟨k4,rfl,a8⟩:=d3
      obtain⟨k5,k6,rfl⟩:=IsSlice.val a8
      refine ZA rfl rfl (Zd U52 S99 rfl rfl d2) (ZA rfl rfl (R.fa F99_8 rfl) (ZA rfl rfl (ZY S97 rfl (d4 12 _ rfl)) (ZA rfl rfl (ZM U97 rfl (IsSlice.long a8)) (ZA rfl rfl (R.min2 rfl rfl) (Run.llz_bs [] 7 ZB rfl (ZA rfl rfl (Zi rfl rfl (of_decide_eq_true a7) (IsSlice.lenI h)) (Run.lnz [] 2 ZB rfl ?_)))))))
      replace hx:=ZP a6 hx
      exact ZC ⟨(w64 (f.1+(min (d0.Dead.length:Int) 100000)),f.2+1),⟨rfl,rfl,rfl⟩,hx⟩ rfl rfl rfl
     ·
      refine Run.cnz_k [] 2 ZB rfl ?_
      obtain rfl:=ZH a6 hx
      refine Run.nnz_kb [] 2 ZB rfl ?_
      exact ZC ⟨rfl,rfl,rfl⟩ rfl rfl rfl
theorem ref09_Twin_ok{h}:Con Tryz.prog 41 false (sp_Disk false h) (ref09_Twin h) (λr=> [.st 2,.row true (RSl RU8 1) 26 1 r.Blocks,.row true R_Write 96 2 r.Waits]):=by
 intro H m4 m5 m6 a8 m7 m8 m9 x r hx
 refine Does.enterC Tryz.func41 rfl rfl ?_
 intro w
 unfold ref09_Twin at hx
 refine Run.cl [] 2 ZB rfl (ZV rfl rfl (λn0 n1=>JL.alloc Z25 rfl (λn2 n3=>Run.lc_s [] 3 ZB rfl (ZO hx [1,2] [1,0] rfl rfl (λa9 l0 o0 l o g=>∃b0:Nat,∃z:Option Addr,∃a0:Nat,∃a1:Nat,∃b1:Own,∃a2:Option Addr,∃a3:Nat,∃a4:Nat,∃b2:Own,l=(3,.pointer (some ⟨b0,0,none⟩))::l0∧o= [(b0,.cells #[.slice z a0 a1,.slice a2 a3 a4] 25 (0,0))]::b1::b2::o0∧H=g∧w.heap.size≤b0∧RowOf (New H H) (ROSl RU8 1) w.heap.size 26 1 (.slice z a0 a1) a9.1 b1∧RowOf (New H H) R_WriteO w.heap.size 96 2 (.slice a2 a3 a4) a9.2 b2) (λa9 n4 hx=> ?_) (λa9 n5 hx=> ?_)))))
 ·
  rintro _ _ _ ⟨b0,z,a0,a1,b1,a2,a3,a4,b2,rfl,rfl,rfl,n6,e8,e9⟩
  refine Run.nc_s [] 7 ZB rfl (ZO hx [1,2,3] [3,4,0,2] rfl rfl (λb8 l0 o0 l o g=>∃a:Heaplet,∃b9:Own,l=l0∧o=b9::o0∧a=g∧Hle H a∧RowOf (New H a) (ROSl RU8 1) w.heap.size 26 1 (.slice z a0 a1) b8 b9) (λb8 n7 hx=> ?_) (λb8 n8 hx=> ?_))
  ·
   rintro _ _ _ ⟨a,b9,rfl,rfl,rfl,c0,f0⟩
   refine Run.nc_s [] 7 ZB rfl (ZO hx [2,3] [2,3,0] rfl rfl (λc1 l0 o0 l o g=>∃b3:Heaplet,∃c2:Own,l=l0∧o=c2::o0∧b3=g∧Hle a b3∧RowOf (New H b3) R_WriteO w.heap.size 96 2 (.slice a2 a3 a4) c1 c2) (λc1 n9 hx=> ?_) (λc1 o1 hx=> ?_))
   ·
    rintro _ _ _ ⟨b3,c2,rfl,rfl,rfl,f1,f2⟩
    refine Run.nnz_s [2,1] 8 ZB rfl ?_
    have f3:=RowOf.mapR (λy=>y.getD []) ((ROSl.un RU8 1) _) f0
    have f4:=RowOf.mapR WriteO.w (R_WriteO.un _) f2
    exact Zo [1] [3,0] ZB rfl hx rfl ⟨⟨_,(f3.mono (RSl.mono RU8.mono) (New.mono f1))⟩,⟨_,f4⟩,rfl⟩
   ·
    refine JC.block (ZR 3 rfl (ZR 3 rfl (ZR 3 rfl (ZR 4 rfl (ZS [1,2,3] [1,2,3,4] rfl rfl (λl0 o0 m l o g=>∃p:Heaplet,∃b4:Own,l=(5,.int .i64 ((m.2:Nat):Int))::l0∧o=b4::o0∧p=g∧Hle a p∧RowOf (New H p) R_WriteO w.heap.size 96 2 (.slice a2 a3 a4) m.1 b4) hx ⟨a,b2,rfl,rfl,rfl,(Hle.refl _),(e9.mono R_WriteO.mono (New.mono c0))⟩ rfl ?_)))))
    ·
     rintro o2 m _ _ _ ⟨p,b4,rfl,rfl,rfl,b5,c3⟩ o3 hx d0
     unfold ref09_Twin_l2 at hx
     refine Run.cl [1] 6 ZB rfl (ZA rfl rfl (ZM U23 rfl (IsSlice.long x)) (Run.lcz_s [] 3 ZB rfl (ZG hx rfl (λd1 hx=> ?_) (λd1 hx=> ?_))))
     ·
      refine Run.cc_s [] 5 ZB rfl (Zh (so:=[(_,[11]),(_,[]),(_,[]),(_,[]),(_,[])]) 12 rfl Mixed ⟨by kernel_rfl,by kernel_rfl⟩ (ZX [0,1,2,3,4] rfl) ?_)
      refine JB.run 6 [0,1,2,3,4,5] [2,0] ZB rfl ?_
      obtain⟨f5,f6,hx⟩:=ZJ hx
      obtain⟨o4,o5,o6,f7,f8,o7,f9⟩:=IsSlice.elem (x.mono R_Write.mono (c0.trans b5)) f6
      obtain⟨o8,rfl,g0⟩:=f8
      obtain⟨o9,p0,rfl⟩:=IsSlice.val g0
      refine JB.val (i:=6) [] rfl (Zd U23 S96 rfl rfl f7) ?_
      refine JB.val (i:=7) [] rfl (R.fa F96_0 rfl) ?_
      refine JB.val (i:=8) [] rfl (ZY S3 rfl (f9 0 _ rfl)) ?_
      refine JB.one (i:=9) (by kernel_rfl) ?_
      refine JOB.step rfl trivial rfl (λK hK=> ?_)
      obtain⟨d2,g1,hx⟩:=ZJ hx
      obtain⟨p1,p2,p3,p4,g2,d3,g3,d4,g4⟩:=RowOf.elem c3 g1
      subst g2
      obtain⟨g5,rfl,g6⟩:=g3
      refine ZA rfl rfl (Zd U23 S96 rfl rfl d3) (JL.nil (hK _ _ _ (Hle.refl _) (ZX [0,1,2,3,4] rfl) ?_))
      refine JB.val (i:=10) [] rfl (R.fa F96_0 rfl) ?_
      refine JB.one (i:=11) (by kernel_rfl) ?_
      refine JOB.step rfl trivial rfl (λK hK=> ?_)
      obtain⟨p5,g7,p6,hx⟩:=setI_some hx
      refine JL.stP 0 0 (j:=((m.2:Nat):Int)) (y':=WriteO.mk f5.At d2.Data) (cs:=[.int .i64 d2.At,g5]) S3 rfl c3 rfl d3 rfl rfl g4 rfl (⟨_,rfl,g6⟩) R_WriteO.one (Nat.le_of_ble_eq_true rfl) g7 (λp7 c4 p8=>JL.nil (hK _ _ _ (Hle.refl _) (kept1 [true,false,false,false,false] [0,1,2,3,4] (by kernel_rfl) rfl) ?_))
      refine JB.doneN (by kernel_rfl) ?_
      refine Zw (Zh (so:=[(_,[18]),(_,[]),(_,[]),(_,[]),(_,[])]) 19 rfl Mixed ⟨by kernel_rfl,by kernel_rfl⟩ (ZX [0,1,2,3,4] rfl) ?_)
      refine JB.run 9 [0,1,2,3,4,5,9,10,11] [2,2,0] ZB rfl ?_
      obtain⟨p9,g8,hx⟩:=ZJ hx
      obtain⟨q0,q1,q2,g9,h0,q3,h1⟩:=IsSlice.elem (x.mono R_Write.mono (c0.trans b5)) g8
      obtain⟨q4,rfl,d5⟩:=h0
      obtain⟨q5,q6,rfl⟩:=IsSlice.val d5
      refine JB.val (i:=12) [] rfl (Zd U23 S96 rfl rfl g9) ?_
      refine JB.val (i:=13) [] rfl (R.fa F96_1 rfl) ?_
      refine JB.val (i:=14) [] rfl (ZY S26 rfl (h1 1 _ rfl)) ?_
      refine JB.one (i:=6) (by kernel_rfl) ?_
      refine JOB.step rfl trivial rfl (λK hK=> ?_)
      obtain⟨q7,h2,hx⟩:=ZJ hx
      obtain⟨h3,q8,q9,h4,h5,h6,h7,r0,h8⟩:=RowOf.elem c4 h2
      subst h5
      obtain⟨r1,rfl,h9⟩:=h7
      refine ZA rfl rfl (Zd U23 S96 rfl rfl h6) (JL.nil (hK _ _ _ (Hle.refl _) (ZX [0,1,2,3,4] rfl) ?_))
      refine JB.val (i:=7) [] rfl (R.fa F96_1 rfl) ?_
      refine JB.one (i:=8) (by kernel_rfl) ?_
      refine JOB.step rfl trivial rfl (λK hK=>ZA rfl rfl (R.ldo 0 S26 rfl rfl (h8 1 _ rfl)) (JL.nil (hK _ _ _ (Hle.refl _) (ZX [0,1,2,3,4] rfl) ?_)))
      refine JB.one (i:=15) (by kernel_rfl) ?_
      refine JOB.step rfl trivial rfl (λK hK=> ?_)
      obtain⟨i0,hx⟩:=chkN_some hx
      obtain rfl:=OSl.none i0 h9
      refine JL.seg0 ?_
      obtain⟨i1,i2,i3,hx⟩:=Zb hx
      refine Zl (HF:=(New H p)) 0 U26 I5 rfl rfl (RowOf.nil _ RU8 _ _ _) rfl (SrcF.sliceC RU8.const RU8.one U26 d5) i2 i3 rfl (Nat.le_refl _) rfl (λr2 r3 d6=> ?_)
      obtain⟨r4,r5,rfl⟩:=RowOf.val d6
      refine JL.nil (hK _ _ _ (Hle.refl _) (ZX [1,2,3,4,5] rfl) ?_)
      refine JB.one (i:=16) (by kernel_rfl) ?_
      refine JOB.step rfl trivial rfl (λK hK=> ?_)
      obtain⟨d7,i4,hx⟩:=ZJ hx
      obtain⟨i5,r6,r7,i6,i7,d8,i8,r8,i9⟩:=RowOf.elem c4 i4
      obtain⟨rfl,rfl⟩:h3=i5∧h4=i6:=by simpa using i7
      obtain⟨j0,rfl,r9⟩:=i8
      refine ZA rfl rfl (Zd U23 S96 rfl rfl d8) (JL.nil (hK _ _ _ (Hle.refl _) (ZX [1,2,3,4,5] rfl) ?_))
      refine JB.val (i:=17) [] rfl (R.fa F96_1 rfl) ?_
      refine JB.one (i:=18) (by kernel_rfl) ?_
      refine JOB.step rfl trivial rfl (λK hK=>JL.pubN 0 RU8.mono rfl d6 (Nat.le_refl _) (λj1 c5 j2=>JL.forget 0 ?_))
      obtain⟨j3,j4,s0,hx⟩:=setI_some hx
      refine JL.stP 0 1 (j:=((m.2:Nat):Int)) (y':=WriteO.mk d7.At (some i1)) (cs:=[.int .i64 d7.At,j0]) S26 rfl (c4.mono R_WriteO.mono (New.mono c5)) rfl d8 rfl rfl i9 rfl (⟨_,rfl,j2⟩) R_WriteO.one (Nat.le_of_ble_eq_true rfl) j4 (λj5 j6 s1=>JL.nil (hK _ _ _ c5 (kept1 [true,false,false,false,false] [0,1,2,3,4] (by kernel_rfl) rfl) ?_))
      refine JB.doneN (by kernel_rfl) ?_
      refine Run.nlz_bs [] 4 ZB rfl (ZA rfl rfl (Zi rfl rfl (of_decide_eq_true d1) (IsSlice.lenI x)) (Run.lnz [] 2 ZB rfl ?_))
      replace hx:=ZP d0 hx
      refine ZE 4 rfl (ZE 4 rfl (ZE 4 rfl (ZE 4 rfl (ZE 4 rfl ?_))))
      exact ZC ⟨(j3,m.2+1),⟨j1,j5,rfl,rfl,rfl,((b5.trans c5)),j6⟩,hx⟩ rfl rfl rfl
     ·
      refine Run.cnz_k [] 2 ZB rfl ?_
      obtain rfl:=ZH d0 hx
      refine Run.nnz_kb [] 2 ZB rfl (JN.forget 1 (ZE 3 rfl (ZE 3 rfl (ZE 3 rfl (ZE 3 rfl ?_)))))
      exact ZC ⟨p,b4,rfl,rfl,rfl,(b5),c3⟩ rfl rfl rfl
  ·
   refine JC.block (ZR 2 rfl (ZR 1 rfl (ZR 4 rfl (ZR 4 rfl (ZR 4 rfl (ZS [1,2,3] [1,2,3,4] rfl rfl (λl0 o0 a5 l o g=>∃q:Heaplet,∃b6:Own,l=(4,.int .i64 ((a5.2:Nat):Int))::l0∧o=b6::o0∧q=g∧Hle H q∧RowOf (New H q) (ROSl RU8 1) w.heap.size 26 1 (.slice z a0 a1) a5.1 b6) hx ⟨H,b1,rfl,rfl,rfl,(Hle.refl _),e8⟩ rfl ?_))))))
   ·
    rintro s2 a5 _ _ _ ⟨q,b6,rfl,rfl,rfl,c6,b7⟩ s3 hx d9
    unfold ref09_Twin_l1 at hx
    refine Run.cl [1] 6 ZB rfl (ZA rfl rfl (ZM U22 rfl (IsSlice.long a8)) (Run.lcz_s [] 3 ZB rfl (ZG hx rfl (λe0 hx=> ?_) (λe0 hx=> ?_))))
    ·
     refine Run.cc_s [] 4 ZB rfl (Zh (so:=[(_,[15]),(_,[]),(_,[]),(_,[]),(_,[])]) 16 rfl Mixed ⟨by kernel_rfl,by kernel_rfl⟩ (ZX [0,1,2,3,4] rfl) ?_)
     refine JB.run 9 [0,1,2,3,4,5,8,9,10] [2,2,0] ZB rfl ?_
     obtain⟨s4,j7,hx⟩:=ZJ hx
     obtain⟨s5,s6,s7,j8,j9,s8,k0⟩:=IsSlice.elem (a8.mono (RSl.mono RU8.mono) c6) j7
     obtain⟨s9,rfl,e1⟩:=j9
     obtain⟨t0,t1,rfl⟩:=IsSlice.val e1
     refine JB.val (i:=11) [] rfl (Zd U22 S26 rfl rfl j8) ?_
     refine JB.val (i:=12) [] rfl (ZY S26 rfl (k0 0 _ rfl)) ?_
     refine JB.one (i:=6) (by kernel_rfl) ?_
     refine JOB.step rfl trivial rfl (λK hK=> ?_)
     obtain⟨t2,k1,hx⟩:=ZJ hx
     obtain⟨t3,t4,t5,t6,k2,k3,k4,t7,k5⟩:=RowOf.elem b7 k1
     subst k2
     obtain⟨t8,rfl,k6⟩:=k4
     refine ZA rfl rfl (Zd U22 S26 rfl rfl k3) (JL.nil (hK _ _ _ (Hle.refl _) (ZX [0,1,2,3,4] rfl) ?_))
     refine JB.one (i:=7) (by kernel_rfl) ?_
     refine JOB.step rfl trivial rfl (λK hK=>ZA rfl rfl (R.ldo 0 S26 rfl rfl (k5 0 _ rfl)) (JL.nil (hK _ _ _ (Hle.refl _) (ZX [0,1,2,3,4] rfl) ?_)))
     refine JB.one (i:=13) (by kernel_rfl) ?_
     refine JOB.step rfl trivial rfl (λK hK=> ?_)
     obtain⟨k7,hx⟩:=chkN_some hx
     obtain rfl:=OSl.none k7 k6
     refine JL.seg0 ?_
     obtain⟨k8,k9,d4,hx⟩:=Zb hx
     refine Zl (HF:=(New H q)) 0 U26 I5 rfl rfl (RowOf.nil _ RU8 _ _ _) rfl (SrcF.sliceC RU8.const RU8.one U26 e1) k9 d4 rfl (Nat.le_refl _) rfl (λt9 u0 e2=> ?_)
     obtain⟨u1,u2,rfl⟩:=RowOf.val e2
     refine JL.nil (hK _ _ _ (Hle.refl _) (ZX [1,2,3,4,5] rfl) ?_)
     refine JB.one (i:=14) (by kernel_rfl) ?_
     refine JOB.step rfl trivial rfl (λK hK=> ?_)
     obtain⟨l1,hx⟩:=chk_some hx
     obtain⟨u3,u4,e3⟩:=RowOf.place b7 l1
     refine ZA rfl rfl (Zd U22 S26 rfl rfl e3) (JL.nil (hK _ _ _ (Hle.refl _) (ZX [1,2,3,4,5] rfl) ?_))
     refine JB.one (i:=15) (by kernel_rfl) ?_
     refine JOB.step rfl trivial rfl (λK hK=>JL.pubN 0 RU8.mono rfl e2 (Nat.le_refl _) (λl2 c7 l3=>JL.forget 0 ?_))
     obtain⟨l4,l5,u5,hx⟩:=setI_some hx
     refine JL.stE 0 (k:=((a5.2:Nat):Int)) (y:=(some k8)) S26 rfl (b7.mono (ROSl.mono RU8.mono) (New.mono c7)) rfl e3 rfl rfl (⟨_,rfl,l3⟩) ROSl.one l5 (λl6 l7 u6=>JL.nil (hK _ _ _ c7 (kept1 [true,false,false,false,false] [0,1,2,3,4] (by kernel_rfl) rfl) ?_))
     refine JB.doneN (by kernel_rfl) ?_
     refine Run.nlz_bs [] 4 ZB rfl (ZA rfl rfl (Zi rfl rfl (of_decide_eq_true e0) (IsSlice.lenI a8)) (Run.lnz [] 2 ZB rfl ?_))
     replace hx:=ZP d9 hx
     refine ZE 4 rfl (ZE 4 rfl (ZE 4 rfl (ZE 4 rfl (ZE 4 rfl ?_))))
     exact ZC ⟨(l4,a5.2+1),⟨l2,l6,rfl,rfl,rfl,((c6.trans c7)),l7⟩,hx⟩ rfl rfl rfl
    ·
     refine Run.cnz_k [] 2 ZB rfl ?_
     obtain rfl:=ZH d9 hx
     refine Run.nnz_kb [] 2 ZB rfl (ZE 4 rfl (ZE 4 rfl (ZE 4 rfl (ZE 4 rfl (ZE 4 rfl ?_)))))
     exact ZC ⟨q,b6,rfl,rfl,rfl,(c6),b7⟩ rfl rfl rfl
 ·
  refine JC.draw (so:=[_,_]) 11 rfl Mixed ⟨⟨0,rfl⟩,⟨1,rfl⟩,trivial⟩ (JA.val ⟨by kernel_rfl,by kernel_rfl⟩ (ZK _) (i:=0) rfl ⟨by kernel_rfl,by kernel_rfl,rfl⟩ trivial (ZL (Hle.refl _) ⟨⟨0,rfl⟩,⟨1,rfl⟩,trivial⟩) (R.fa F25_0 rfl) rfl (JA.val ⟨by kernel_rfl,by kernel_rfl⟩ (ZK _) (i:=1) rfl ⟨by kernel_rfl,by kernel_rfl,rfl⟩ trivial (ZL (Hle.refl _) ⟨⟨0,rfl⟩,⟨1,rfl⟩,trivial⟩) (R.ldo 1 S22 rfl rfl rfl) rfl (JA.val ⟨by kernel_rfl,by kernel_rfl⟩ (ZK _) (i:=2) rfl ⟨by kernel_rfl,by kernel_rfl,rfl⟩ trivial (ZL (Hle.refl _) ⟨⟨0,rfl⟩,⟨1,rfl⟩,trivial⟩) (ZM U22 rfl (IsSlice.long a8)) rfl (JA.val ⟨by kernel_rfl,by kernel_rfl⟩ (ZK _) (i:=4) rfl ⟨by kernel_rfl,by kernel_rfl,rfl⟩ trivial (ZL (Hle.refl _) ⟨⟨0,rfl⟩,⟨1,rfl⟩,trivial⟩) (R.fa F25_1 rfl) rfl (JA.val ⟨by kernel_rfl,by kernel_rfl⟩ (ZK _) (i:=5) rfl ⟨by kernel_rfl,by kernel_rfl,rfl⟩ trivial (ZL (Hle.refl _) ⟨⟨0,rfl⟩,⟨1,rfl⟩,trivial⟩) (R.ldo 1 S23 rfl rfl rfl) rfl (JA.val ⟨by kernel_rfl,by kernel_rfl⟩ (ZK _) (i:=6) rfl ⟨by kernel_rfl,by kernel_rfl,rfl⟩ trivial (ZL (Hle.refl _) ⟨⟨0,rfl⟩,⟨1,rfl⟩,trivial⟩) (ZM U23 rfl (IsSlice.long x)) rfl (JAA.start [⟨9,3,25,.agg #[.slice none 0 0,.slice none 0 0]⟩] rfl ?_)))))))
  obtain⟨s,e4,e5,hx⟩:=mks_some hx
  obtain⟨v,e6,e7,hx⟩:=mks_some hx
  refine JAA.two (i:=3) (j:=7) ⟨⟨_,_,_,rfl,Z25,rfl⟩,trivial⟩ (Hle.refl _) ⟨⟨0,rfl⟩,⟨1,rfl⟩,trivial⟩ rfl (by kernel_rfl) ?_ ?_
  ·
   refine JOA.step rfl trivial rfl (λu7 u8 K hK=>JL.mkF (HF:=New H H) (R:=(ROSl RU8 1)) (y:=(none:Option (List UInt8))) (n:=(h.Blocks.length:Int)) U22 I26 rfl rfl (λ_=>⟨_,rfl,rfl⟩) ROSl.one e4 e5 rfl rfl (λl8 c8 a6=> ?_))
   obtain⟨b,c,rfl⟩:=RowOf.val a6
   refine JL.nil (hK (by repeat constructor) (by repeat constructor) (ZL (Hle.refl _) ⟨⟨1,rfl⟩,⟨2,rfl⟩,trivial⟩) (JAA.one (i:=7) ⟨⟨_,_,_,rfl,Z25,rfl⟩,trivial⟩ (Hle.refl _) ⟨⟨1,rfl⟩,⟨2,rfl⟩,trivial⟩ rfl (by kernel_rfl) (JOA.step rfl trivial rfl (λu9 v0 K hK=>JL.mkF (HF:=New H H) (R:=R_WriteO) (y:=WriteO.mk 0 (none:Option (List UInt8))) (n:=(h.Waits.length:Int)) U23 I96 rfl rfl (λ_=>⟨_,rfl,rfl⟩) R_WriteO.one e6 e7 rfl rfl (λl9 c9 a7=> ?_)))))
   obtain⟨d,f,rfl⟩:=RowOf.val a7
   refine JL.nil (hK (by repeat constructor) (by repeat constructor) (ZL (Hle.refl _) ⟨⟨2,rfl⟩,⟨3,rfl⟩,trivial⟩) (JAA.val ⟨by kernel_rfl,by kernel_rfl⟩ (ZK _) (i:=8) rfl (by kernel_rfl) rfl trivial (Hle.refl _) ⟨⟨2,rfl⟩,⟨3,rfl⟩,trivial⟩ (R.bldP (vs:=[(0,.slice b s.length c),(1,.slice d v.length f)]) (cs:=[.slice b s.length c,.slice d v.length f]) Z25 B25 rfl rfl rfl) rfl (JAA.all ⟨⟨_,_,_,rfl,Z25,rfl⟩,trivial⟩ (Hle.refl _) ⟨⟨2,rfl⟩,⟨3,rfl⟩,trivial⟩ rfl (by kernel_rfl) (λm0 m1=>JA.one (i:=10) (by kernel_rfl) (JO.step rfl trivial rfl (λK hK=> ?_))))))
   refine Run.lnz [4] 2 ZB rfl (hK _ _ _ (ZL (Hle.refl _) ⟨⟨2,rfl⟩,⟨3,rfl⟩,trivial⟩) (JA.doneN (by kernel_rfl) ?_))
   obtain rfl:=Option.some.inj hx
   refine ZE 2 rfl (ZE 3 rfl (ZE 2 rfl (ZE 3 rfl (ZE 4 rfl ?_))))
   exact ZC ⟨m0,b,s.length,c,c8,d,v.length,f,c9,rfl,rfl,rfl,m1,a6,a7⟩ rfl rfl rfl
  ·
   refine JOA.step rfl trivial rfl (λv1 v2 K hK=>JL.mkF (HF:=New H H) (R:=R_WriteO) (y:=WriteO.mk 0 (none:Option (List UInt8))) (n:=(h.Waits.length:Int)) U23 I96 rfl rfl (λ_=>⟨_,rfl,rfl⟩) R_WriteO.one e6 e7 rfl rfl (λl9 c9 a7=> ?_))
   obtain⟨d,f,rfl⟩:=RowOf.val a7
   refine JL.nil (hK (by repeat constructor) (by repeat constructor) (ZL (Hle.refl _) ⟨⟨1,rfl⟩,⟨2,rfl⟩,trivial⟩) (JAA.one (i:=3) ⟨⟨_,_,_,rfl,Z25,rfl⟩,trivial⟩ (Hle.refl _) ⟨⟨1,rfl⟩,⟨2,rfl⟩,trivial⟩ rfl (by kernel_rfl) (JOA.step rfl trivial rfl (λv3 v4 K hK=>JL.mkF (HF:=New H H) (R:=(ROSl RU8 1)) (y:=(none:Option (List UInt8))) (n:=(h.Blocks.length:Int)) U22 I26 rfl rfl (λ_=>⟨_,rfl,rfl⟩) ROSl.one e4 e5 rfl rfl (λl8 c8 a6=> ?_)))))
   obtain⟨b,c,rfl⟩:=RowOf.val a6
   refine JL.nil (hK (by repeat constructor) (by repeat constructor) (ZL (Hle.refl _) ⟨⟨2,rfl⟩,⟨3,rfl⟩,trivial⟩) (JAA.val ⟨by kernel_rfl,by kernel_rfl⟩ (ZK _) (i:=8) rfl (by kernel_rfl) rfl trivial (Hle.refl _) ⟨⟨2,rfl⟩,⟨3,rfl⟩,trivial⟩ (R.bldP (vs:=[(0,.slice b s.length c),(1,.slice d v.length f)]) (cs:=[.slice b s.length c,.slice d v.length f]) Z25 B25 rfl rfl rfl) rfl (JAA.all ⟨⟨_,_,_,rfl,Z25,rfl⟩,trivial⟩ (Hle.refl _) ⟨⟨2,rfl⟩,⟨3,rfl⟩,trivial⟩ rfl (by kernel_rfl) (λm2 m3=>JA.one (i:=10) (by kernel_rfl) (JO.step rfl trivial rfl (λK hK=> ?_))))))
   refine Run.lnz [4] 2 ZB rfl (hK _ _ _ (ZL (Hle.refl _) ⟨⟨2,rfl⟩,⟨3,rfl⟩,trivial⟩) (JA.doneN (by kernel_rfl) ?_))
   obtain rfl:=Option.some.inj hx
   refine ZE 2 rfl (ZE 3 rfl (ZE 3 rfl (ZE 3 rfl (ZE 4 rfl ?_))))
   exact ZC ⟨m2,b,s.length,c,c8,d,v.length,f,c9,rfl,rfl,rfl,m3,a6,a7⟩ rfl rfl rfl
theorem ref13_Twin_ok{a}:Con Tryz.prog 8 false (sp_Store false a) (ref13_Twin a) (λr=> [.st 5,.row true (RSl RU8 1) 26 1 r.Disk.Blocks,.row true R_Write 96 2 r.Disk.Waits,.row true RU8 5 1 r.Space,.w32 r.Epoch,.w32 r.Count]):=by
 intro H q s v c x y z d a0 a1 a2 f r hx
 refine Does.enterC Tryz.func8 rfl rfl ?_
 intro w
 unfold ref13_Twin at hx
 refine Run.cl [] 2 ZB rfl (ZV rfl rfl (λa3 a4=>JL.alloc Z29 rfl (λa5 a6=>Run.ll_s [1] 6 ZB rfl (Zv hx E41 rfl ref09_Twin_ok rfl ⟨c,d,trivial⟩ ?_))))
 intro a7 a8 hx h i a9 b0 b1 b2 j b3 b4 b5 b6 k
 refine Run.ll_s [3,3] 8 ZB rfl (JL.seg0 ?_)
 obtain⟨b7,m,p,hx⟩:=Zb hx
 refine Zl (HF:=(New H h)) 0 U26 I5 rfl rfl (RowOf.nil _ RU8 _ _ _) rfl (SrcF.sliceC RU8.const RU8.one U26 (f.mono RU8.mono i)) m p rfl (Nat.le_refl _) rfl (λb8 b9 b=> ?_)
 obtain⟨c0,c1,rfl⟩:=RowOf.val b
 refine Run.lnz_s [4,4,3] 11 ZB rfl ?_
 exact Zo [3] [1,1,0] ZB rfl hx rfl ⟨⟨_,j⟩,⟨_,k⟩,⟨_,b⟩,rfl⟩
theorem ref17_twins_ok{y}:Con Tryz.prog 64 false ([.sl false (RSl RU8 1) 1 y]) (ref17_twins y) (λr=> [.row true (RSl RU8 1) 26 1 r]):=by
 intro H c4 c5 c6 j r hx
 refine Does.enterC Tryz.func64 rfl rfl ?_
 intro w
 unfold ref17_twins at hx
 refine Run.cc [] 16 ZB rfl (ZO hx [] [] rfl rfl (λk l0 o0 l o g=>∃b:Heaplet,∃m:Option Addr,∃p:Nat,∃q:Nat,∃s:Own,l=(3,.slice m p q)::l0∧o=s::o0∧b=g∧Hle H b∧RowOf (New H b) (RSl RU8 1) w.heap.size 26 1 (.slice m p q) k s) (λk c7 hx=> ?_) (λk c8 hx=> ?_))
 ·
  rintro _ _ _ ⟨b,m,p,q,s,rfl,rfl,rfl,c9,a9⟩
  refine Run.nnz_s [] 8 ZB rfl ?_
  exact Zj [0] rfl hx rfl ⟨⟨_,a9⟩,rfl⟩
 ·
  refine JC.block (JC.seg0 (ZS [0] [] rfl rfl (λl0 o0 c l o g=>∃a:Heaplet,∃d:Option Addr,∃f:Nat,∃h:Nat,∃i:Own,l=(3,.slice d f h)::(4,.int .i64 ((c.2:Nat):Int))::l0∧o=i::o0∧a=g∧Hle H a∧RowOf (New H a) (RSl RU8 1) w.heap.size 26 1 (.slice d f h) c.1 i) hx ⟨H,none,0,0,[],rfl,rfl,rfl,(Hle.refl _),(RowOf.nil _ _ _ _ _)⟩ rfl ?_))
  ·
   rintro d0 c _ _ _ ⟨a,d,f,h,i,rfl,rfl,rfl,v,z⟩ d1 hx a0
   unfold ref17_twins_l1 at hx
   refine Run.cl [] 5 ZB rfl (ZA rfl rfl (ZM U22 rfl (IsSlice.long j)) (Run.lcz_s [] 3 ZB rfl (ZG hx rfl (λa1 hx=> ?_) (λa1 hx=> ?_))))
   ·
    refine Run.cl_s [] 8 ZB rfl ?_
    obtain⟨d2,b0,hx⟩:=ZJ hx
    obtain⟨d3,d4,d5,b1,b2,d6,b3⟩:=IsSlice.elem (j.mono (RSl.mono RU8.mono) v) b0
    obtain⟨d7,rfl,a2⟩:=b2
    obtain⟨d8,d9,rfl⟩:=IsSlice.val a2
    refine ZA rfl rfl (Zd U22 S26 rfl rfl b1) (ZA rfl rfl (ZY S26 rfl (b3 0 _ rfl)) (JL.seg0 ?_))
    obtain⟨a3,b4,b5,hx⟩:=appN_some hx
    refine JL.appW (HF:=(New H a)) 0 U26 I5 rfl rfl (RowOf.nil _ RU8 _ _ _) rfl (SrcF.sliceC RU8.const RU8.one U26 a2) b4 b5 rfl (Nat.le_refl _) rfl (λe0 e1 a4=> ?_)
    obtain⟨b6,b7,rfl⟩:=RowOf.val a4
    refine JL.pubN 0 RU8.mono rfl a4 (Nat.le_refl _) (λx a5 b8=>JL.forget 0 (Zx (HF:=(New H x)) (R:=(RSl RU8 1)) (ls:=[a3]) (vs:=[.slice b6 a3.length b7]) U22 I26 rfl rfl (⟨_,_,rfl,rfl,⟨_,rfl,b8⟩,rfl⟩) RSl.one rfl rfl rfl (by simp[maxLen]) rfl (λe2 e3 a6=> ?_)))
    obtain⟨e4,e5,rfl⟩:=RowOf.val a6
    obtain⟨a7,b9,c0,hx⟩:=Zb hx
    refine Zl (HF:=(New H x)) 1 U22 I26 rfl rfl (z.mono (RSl.mono RU8.mono) (New.mono a5)) rfl (SrcF.row 0 U22 rfl a6) b9 c0 rfl (Nat.le_refl _) rfl (λe6 c1 a8=> ?_)
    obtain⟨c2,c3,rfl⟩:=RowOf.val a8
    refine Run.llz_bs [] 6 ZB rfl (ZA rfl rfl (Zi rfl rfl (of_decide_eq_true a1) (IsSlice.lenI j)) (Run.lnz [] 2 ZB rfl ?_))
    replace hx:=ZP a0 hx
    refine JN.forget 0 ?_
    exact ZC ⟨(a7,c.2+1),⟨x,c2,a7.length,c3,c1,rfl,rfl,rfl,((v.trans a5)),a8⟩,hx⟩ rfl rfl rfl
   ·
    refine Run.cnz_k [] 2 ZB rfl ?_
    obtain rfl:=ZH a0 hx
    refine Run.nnz_kb [] 2 ZB rfl ?_
    exact ZC ⟨a,d,f,h,i,rfl,rfl,rfl,(v),z⟩ rfl rfl rfl
theorem ref17_Twin_ok{b0}:Con Tryz.prog 24 false (sp_Pool false b0) (ref17_Twin b0) (λr=> [.st 19,.row true (RSl RU8 1) 26 1 r.Store.Disk.Blocks,.row true R_Write 96 2 r.Store.Disk.Waits,.row true RU8 5 1 r.Store.Space,.w32 r.Store.Epoch,.w32 r.Store.Count,.w32 r.Gen,.i r.Root.At,.w32 r.Root.Birth,.w32 r.Root.Iv,.w32 r.Root.Tag,.w32 r.Root.Sum,.row true RInt 3 1 r.MetaL,.row false R_Line 99 13 r.Lines,.row true (RSl RU8 1) 26 1 r.Keys,.row true (RSl RU8 1) 26 1 r.Loaded,.row false R_Change 101 12 r.Changes,.i r.Logged,.i r.NextId,.w32 r.NextGuid]):=by
 intro H k5 k6 k7 d2 k8 k9 l1 d3 l2 l3 l4 d4 l5 l6 l7 d5 l8 l9 m0 d6 m1 m2 m3 d7 m4 m5 m6 d8 m7 m8 m9 d9 r hx
 refine Does.enterC Tryz.func24 rfl rfl ?_
 intro w
 unfold ref17_Twin at hx
 refine Run.cl [] 2 ZB rfl (ZV rfl rfl (λn0 n1=>JL.alloc Z55 rfl (λn2 n3=>Run.ll_s [1] 6 ZB rfl (Zv hx E8 rfl ref13_Twin_ok rfl ⟨d2,d3,d4,trivial⟩ ?_))))
 intro n4 n5 hx s v n6 n7 n8 n9 e0 o1 o2 o3 o4 e1 o5 o6 o7 o8 e2
 refine Run.ll_s [4,4] 8 ZB rfl (JL.seg0 ?_)
 obtain⟨o9,e3,e4,hx⟩:=Zb hx
 refine Zl (HF:=(New H s)) 0 U51 I3 rfl rfl (RowOf.nil _ RInt _ _ _) rfl (SrcF.sliceC RInt.const RInt.one U51 (d5.mono RInt.mono v)) e3 e4 rfl (Nat.le_refl _) rfl (λp0 p1 b1=> ?_)
 obtain⟨p2,p3,rfl⟩:=RowOf.val b1
 refine Run.ll_s [5,5] 8 ZB rfl (JL.seg0 ?_)
 obtain⟨b2,e5,e6,hx⟩:=Zb hx
 refine Zl (HF:=s) 0 U52 I99 rfl rfl (RowOf.nil _ R_Line _ _ _) rfl (SrcF.slice R_Line.one U52 (Hle.refl _) (d6.mono R_Line.mono v)) e5 e6 rfl (Nat.le_refl _) rfl (λp4 e7 b3=> ?_)
 obtain⟨b4,b5,rfl⟩:=RowOf.val b3
 refine Run.lc_s [6] 10 ZB rfl (ZO hx [1,2] [6,2,3,4,1,5] rfl rfl (λa4 l0 o0 l o g=>∃z:Heaplet,∃a5:Own,l=l0∧o=a5::o0∧z=g∧Hle s z∧RowOf z R_Line w.heap.size 99 13 (.slice b4 b2.length b5) a4 a5) (λa4 p5 hx=> ?_) (λa4 p6 hx=> ?_))
 ·
  rintro _ _ _ ⟨z,a5,rfl,rfl,rfl,c,e8⟩
  refine Run.nl_s [1] 5 ZB rfl (Zv hx E64 rfl ref17_twins_ok rfl ⟨(d7.mono (RSl.mono RU8.mono) (v.trans c)),trivial⟩ ?_)
  intro p7 p8 hx p9 d q0 q1 q2 q3 e9
  refine Run.ll_s [2,2] 8 ZB rfl (Zv hx E64 rfl ref17_twins_ok rfl ⟨(d8.mono (RSl.mono RU8.mono) (v.trans (c.trans d))),trivial⟩ ?_)
  intro q4 q5 hx a0 f q6 q7 q8 q9 f0
  refine Run.ll_s [3,3] 8 ZB rfl (JL.seg0 ?_)
  obtain⟨b6,f1,f2,hx⟩:=Zb hx
  refine Zl (HF:=a0) 0 U53 I101 rfl rfl (RowOf.nil _ R_Change _ _ _) rfl (SrcF.slice R_Change.one U53 (Hle.refl _) (d9.mono R_Change.mono (v.trans (c.trans (d.trans f))))) f1 f2 rfl (Nat.le_refl _) rfl (λr0 f3 b7=> ?_)
  obtain⟨b8,b9,rfl⟩:=RowOf.val b7
  refine Run.lc_s [4] 10 ZB rfl (ZO hx [1,2] [4,5,6,7,8,3,2,1,9] rfl rfl (λa6 l0 o0 l o g=>∃a1:Heaplet,∃a7:Own,l=l0∧o=a7::o0∧a1=g∧Hle a0 a1∧RowOf a1 R_Change w.heap.size 101 12 (.slice b8 b6.length b9) a6 a7) (λa6 r1 hx=> ?_) (λa6 r2 hx=> ?_))
  ·
   rintro _ _ _ ⟨a1,a7,rfl,rfl,rfl,h,f4⟩
   refine Run.nnz_s [1,9] 8 ZB rfl ?_
   exact Zo [9] [2,2,2,2,2,2,2,0] ZB rfl hx rfl ⟨⟨_,(e0.mono (RSl.mono RU8.mono) (New.mono (c.trans (d.trans (f.trans h)))))⟩,⟨_,(e1.mono R_Write.mono (New.mono (c.trans (d.trans (f.trans h)))))⟩,⟨_,(e2.mono RU8.mono (New.mono (c.trans (d.trans (f.trans h)))))⟩,⟨_,(b1.mono RInt.mono (New.mono (c.trans (d.trans (f.trans h)))))⟩,⟨_,(e8.mono R_Line.mono (d.trans (f.trans h)))⟩,⟨_,(e9.mono (RSl.mono RU8.mono) (New.mono (f.trans h)))⟩,⟨_,(f0.mono (RSl.mono RU8.mono) (New.mono h))⟩,⟨_,f4⟩,rfl⟩
  ·
   refine JC.block (ZR 9 rfl (ZR 2 rfl (ZR 3 rfl (ZR 4 rfl (ZR 9 rfl (ZR 9 rfl (ZR 9 rfl (ZR 9 rfl (ZR 9 rfl (ZR 9 rfl (ZS [1,2] [1,2,3,4,5,6,7,8,9] rfl rfl (λl0 o0 x l o g=>∃k:Heaplet,∃a2:Own,l=(4,.int .i64 ((x.2:Nat):Int))::l0∧o=a2::o0∧k=g∧Hle a0 k∧RowOf k R_Change w.heap.size 101 12 (.slice b8 b6.length b9) x.1 a2) hx ⟨a0,f3,rfl,rfl,rfl,(Hle.refl _),b7⟩ rfl ?_)))))))))))
   ·
    rintro r3 x _ _ _ ⟨k,a2,rfl,rfl,rfl,c0,m⟩ r4 hx c1
    unfold ref17_Twin_l2 at hx
    refine Run.cl [1] 6 ZB rfl (ZA rfl rfl (ZM U53 rfl (RowOf.long m)) (Run.lcz_s [] 3 ZB rfl (ZG hx rfl (λc2 hx=> ?_) (λc2 hx=> ?_))))
    ·
     refine Run.cc_s [] 4 ZB rfl (Zh (so:=[(_,[12]),(_,[]),(_,[]),(_,[]),(_,[]),(_,[]),(_,[]),(_,[]),(_,[]),(_,[])]) 13 rfl Mixed ⟨by kernel_rfl,by kernel_rfl⟩ (ZX [0,1,2,3,4,5,6,7,8,9] rfl) ?_)
     refine JB.run 6 [0,1,2,3,4,5] [0,0] ZB rfl ?_
     refine JB.one (i:=6) (by kernel_rfl) ?_
     refine JOB.step rfl trivial rfl (λK hK=> ?_)
     obtain⟨r5,f5,hx⟩:=ZJ hx
     obtain⟨f6,r6,r7,f7,f8,f9,g0,r8,g1⟩:=RowOf.elem m f5
     subst f8
     obtain⟨r9,rfl,c3⟩:=g0
     obtain⟨s0,s1,rfl⟩:=IsSlice.val c3
     refine ZA rfl rfl (Zd U53 S101 rfl rfl f9) (JL.nil (hK _ _ _ (Hle.refl _) (ZX [0,1,2,3,4,5,6,7,8,9] rfl) ?_))
     refine JB.val (i:=7) [] rfl (R.fa F101_6 rfl) ?_
     refine JB.one (i:=8) (by kernel_rfl) ?_
     refine JOB.step rfl trivial rfl (λK hK=>ZA rfl rfl (R.ldo 0 S26 rfl rfl (g1 6 _ rfl)) (JL.nil (hK _ _ _ (Hle.refl _) (ZX [0,1,2,3,4,5,6,7,8,9] rfl) ?_)))
     refine JB.one (i:=9) (by kernel_rfl) ?_
     refine JOB.step rfl trivial rfl (λK hK=>JL.seg0 ?_)
     obtain⟨g2,g3,g4,hx⟩:=appN_some hx
     refine JL.appW (HF:=(New H k)) 0 U26 I5 rfl rfl (RowOf.nil _ RU8 _ _ _) rfl (SrcF.sliceC RU8.const RU8.one U26 c3) g3 g4 rfl (Nat.le_refl _) rfl (λs2 s3 c4=> ?_)
     obtain⟨s4,s5,rfl⟩:=RowOf.val c4
     refine JL.nil (hK _ _ _ (Hle.refl _) (ZX [1,2,3,4,5,6,7,8,9,10] rfl) ?_)
     refine JB.one (i:=10) (by kernel_rfl) ?_
     refine JOB.step rfl trivial rfl (λK hK=> ?_)
     obtain⟨b,g5,hx⟩:=ZJ hx
     obtain⟨g6,s6,s7,g7,g8,c5,g9,s8,h0⟩:=RowOf.elem m g5
     obtain⟨rfl,rfl⟩:f6=g6∧f7=g7:=by simpa using g8
     obtain⟨s9,rfl,h1⟩:=g9
     obtain⟨h2,h3,rfl⟩:=IsSlice.val h1
     refine ZA rfl rfl (Zd U53 S101 rfl rfl c5) (JL.nil (hK _ _ _ (Hle.refl _) (ZX [1,2,3,4,5,6,7,8,9,10] rfl) ?_))
     refine JB.val (i:=11) [] rfl (R.fa F101_6 rfl) ?_
     refine JB.one (i:=12) (by kernel_rfl) ?_
     refine JOB.step rfl trivial rfl (λK hK=>JL.pubN 0 RU8.mono rfl c4 (Nat.le_refl _) (λh4 a8 h5=>JL.forget 0 ?_))
     obtain⟨h6,h7,t0,hx⟩:=setI_some hx
     refine JL.stP 0 6 (j:=((x.2:Nat):Int)) (y':=Change.mk b.Set b.Obj b.Index b.Kind b.Links b.Size g2 (Ptr.mk b.Laid.At b.Laid.Birth b.Laid.Iv b.Laid.Tag b.Laid.Sum)) (cs:=[.int .i64 b.Set,.int .i64 b.Obj,.int .i64 b.Index,.int .u8 (b.Kind.toNat:Int),.int .i64 b.Links,.int .i64 b.Size,.slice h2 b.Data.length h3,.int .i64 b.Laid.At,.int .u32 (b.Laid.Birth.toNat:Int),.int .u32 (b.Laid.Iv.toNat:Int),.int .u32 (b.Laid.Tag.toNat:Int),.int .u32 (b.Laid.Sum.toNat:Int)]) S26 rfl (m.mono R_Change.mono a8) rfl c5 rfl rfl h0 rfl (⟨_,rfl,(h5.old RU8.mono)⟩) R_Change.one (Nat.le_of_ble_eq_true rfl) h7 (λh8 h9 t1=>JL.nil (hK _ _ _ a8 (kept1 [true,false,false,false,false,false,false,false,false,false] [0,1,2,3,4,5,6,7,8,9] (by kernel_rfl) rfl) ?_))
     refine JB.doneN (by kernel_rfl) ?_
     refine Run.nlz_bs [] 4 ZB rfl (ZA rfl rfl (Zi rfl rfl (of_decide_eq_true c2) (RowOf.lenI m)) (Run.lnz [] 2 ZB rfl ?_))
     replace hx:=ZP c1 hx
     refine ZE 9 rfl (ZE 9 rfl (ZE 9 rfl (ZE 9 rfl (ZE 9 rfl (ZE 9 rfl (ZE 9 rfl (ZE 9 rfl (ZE 9 rfl (ZE 9 rfl ?_)))))))))
     exact ZC ⟨(h6,x.2+1),⟨h4,h8,rfl,rfl,rfl,((c0.trans a8)),h9⟩,hx⟩ rfl rfl rfl
    ·
     refine Run.cnz_k [] 2 ZB rfl ?_
     obtain rfl:=ZH c1 hx
     refine Run.nnz_kb [] 2 ZB rfl (ZE 9 rfl (ZE 9 rfl (ZE 9 rfl (ZE 9 rfl (ZE 9 rfl (ZE 9 rfl (ZE 9 rfl (ZE 9 rfl (ZE 9 rfl (ZE 9 rfl ?_))))))))))
     exact ZC ⟨k,a2,rfl,rfl,rfl,(c0),m⟩ rfl rfl rfl
 ·
  refine JC.block (ZR 5 rfl (ZR 2 rfl (ZR 5 rfl (ZR 5 rfl (ZR 5 rfl (ZR 6 rfl (ZR 6 rfl (ZS [1,2] [1,2,3,4,5,6] rfl rfl (λl0 o0 y l o g=>∃p:Heaplet,∃a3:Own,l=(3,.int .i64 ((y.2:Nat):Int))::l0∧o=a3::o0∧p=g∧Hle s p∧RowOf p R_Line w.heap.size 99 13 (.slice b4 b2.length b5) y.1 a3) hx ⟨s,e7,rfl,rfl,rfl,(Hle.refl _),b3⟩ rfl ?_))))))))
  ·
   rintro t2 y _ _ _ ⟨p,a3,rfl,rfl,rfl,c6,q⟩ t3 hx c7
   unfold ref17_Twin_l1 at hx
   refine Run.cl [1] 6 ZB rfl (ZA rfl rfl (ZM U52 rfl (RowOf.long q)) (Run.lcz_s [] 3 ZB rfl (ZG hx rfl (λc8 hx=> ?_) (λc8 hx=> ?_))))
   ·
    refine Run.cc_s [] 4 ZB rfl (Zh (so:=[(_,[12]),(_,[]),(_,[]),(_,[]),(_,[]),(_,[]),(_,[])]) 13 rfl Mixed ⟨by kernel_rfl,by kernel_rfl⟩ (ZX [0,1,2,3,4,5,6] rfl) ?_)
    refine JB.run 6 [0,1,2,3,4,5] [0,0] ZB rfl ?_
    refine JB.one (i:=6) (by kernel_rfl) ?_
    refine JOB.step rfl trivial rfl (λK hK=> ?_)
    obtain⟨t4,i0,hx⟩:=ZJ hx
    obtain⟨i1,t5,t6,i2,i3,i4,i5,t7,i6⟩:=RowOf.elem q i0
    subst i3
    obtain⟨t8,rfl,c9⟩:=i5
    obtain⟨t9,u0,rfl⟩:=IsSlice.val c9
    refine ZA rfl rfl (Zd U52 S99 rfl rfl i4) (JL.nil (hK _ _ _ (Hle.refl _) (ZX [0,1,2,3,4,5,6] rfl) ?_))
    refine JB.val (i:=7) [] rfl (R.fa F99_8 rfl) ?_
    refine JB.one (i:=8) (by kernel_rfl) ?_
    refine JOB.step rfl trivial rfl (λK hK=>ZA rfl rfl (R.ldo 0 S97 rfl rfl (i6 12 _ rfl)) (JL.nil (hK _ _ _ (Hle.refl _) (ZX [0,1,2,3,4,5,6] rfl) ?_)))
    refine JB.one (i:=9) (by kernel_rfl) ?_
    refine JOB.step rfl trivial rfl (λK hK=>JL.seg0 ?_)
    obtain⟨i7,i8,i9,hx⟩:=Zb hx
    refine Zl (HF:=(New H p)) 0 U97 I31 rfl rfl (RowOf.nil _ R_Ptr _ _ _) rfl (SrcF.sliceC R_Ptr.const R_Ptr.one U97 c9) i8 i9 rfl (Nat.le_refl _) rfl (λu1 u2 d0=> ?_)
    obtain⟨u3,u4,rfl⟩:=RowOf.val d0
    refine JL.nil (hK _ _ _ (Hle.refl _) (ZX [1,2,3,4,5,6,7] rfl) ?_)
    refine JB.one (i:=10) (by kernel_rfl) ?_
    refine JOB.step rfl trivial rfl (λK hK=> ?_)
    obtain⟨a,j0,hx⟩:=ZJ hx
    obtain⟨j1,u5,u6,j2,j3,d1,j4,u7,j5⟩:=RowOf.elem q j0
    obtain⟨rfl,rfl⟩:i1=j1∧i2=j2:=by simpa using j3
    obtain⟨u9,rfl,j6⟩:=j4
    obtain⟨j7,j8,rfl⟩:=IsSlice.val j6
    refine ZA rfl rfl (Zd U52 S99 rfl rfl d1) (JL.nil (hK _ _ _ (Hle.refl _) (ZX [1,2,3,4,5,6,7] rfl) ?_))
    refine JB.val (i:=11) [] rfl (R.fa F99_8 rfl) ?_
    refine JB.one (i:=12) (by kernel_rfl) ?_
    refine JOB.step rfl trivial rfl (λK hK=>JL.pubN 0 R_Ptr.mono rfl d0 (Nat.le_refl _) (λj9 a9 k0=>JL.forget 0 ?_))
    obtain⟨k1,k2,v0,hx⟩:=setI_some hx
    refine JL.stP 0 12 (j:=((y.2:Nat):Int)) (y':=Line.mk a.Id a.Kind a.Owner a.Prev a.Txg a.Guid a.Key (Ptr.mk a.Root.At a.Root.Birth a.Root.Iv a.Root.Tag a.Root.Sum) i7) (cs:=[.int .i64 a.Id,.int .u8 (a.Kind.toNat:Int),.int .i64 a.Owner,.int .i64 a.Prev,.int .u32 (a.Txg.toNat:Int),.int .u32 (a.Guid.toNat:Int),.int .i64 a.Key,.int .i64 a.Root.At,.int .u32 (a.Root.Birth.toNat:Int),.int .u32 (a.Root.Iv.toNat:Int),.int .u32 (a.Root.Tag.toNat:Int),.int .u32 (a.Root.Sum.toNat:Int),.slice j7 a.Dead.length j8]) S97 rfl (q.mono R_Line.mono a9) rfl d1 rfl rfl j5 rfl (⟨_,rfl,(k0.old R_Ptr.mono)⟩) R_Line.one (Nat.le_of_ble_eq_true rfl) k2 (λk3 k4 v1=>JL.nil (hK _ _ _ a9 (kept1 [true,false,false,false,false,false,false] [0,1,2,3,4,5,6] (by kernel_rfl) rfl) ?_))
    refine JB.doneN (by kernel_rfl) ?_
    refine Run.nlz_bs [] 4 ZB rfl (ZA rfl rfl (Zi rfl rfl (of_decide_eq_true c8) (RowOf.lenI q)) (Run.lnz [] 2 ZB rfl ?_))
    replace hx:=ZP c7 hx
    refine ZE 6 rfl (ZE 6 rfl (ZE 6 rfl (ZE 6 rfl (ZE 6 rfl (ZE 6 rfl (ZE 6 rfl ?_))))))
    exact ZC ⟨(k1,y.2+1),⟨j9,k3,rfl,rfl,rfl,((c6.trans a9)),k4⟩,hx⟩ rfl rfl rfl
   ·
    refine Run.cnz_k [] 2 ZB rfl ?_
    obtain rfl:=ZH c7 hx
    refine Run.nnz_kb [] 2 ZB rfl (ZE 6 rfl (ZE 6 rfl (ZE 6 rfl (ZE 6 rfl (ZE 6 rfl (ZE 6 rfl (ZE 6 rfl ?_)))))))
    exact ZC ⟨p,a3,rfl,rfl,rfl,(c6),q⟩ rfl rfl rfl
theorem dev_place_ok{c}:Con Tryz.prog 99 true ([.i c]) (dev_place c) (λr=> [.b r]):=by
 intro H r hx
 refine Does.enterC Tryz.func99 rfl rfl ?_
 intro w
 unfold dev_place at hx
 refine Run.cl [] 8 ZB rfl (ZA rfl rfl (R.cv_i64_u64 U3 U214 rfl) (ZA rfl rfl (R.lss64 (a:=u64i c) (b:=(256:UInt64)) rfl rfl) (Run.lnz_s [] 4 ZB rfl ?_)))
 exact ZD [] rfl hx rfl rfl
theorem dev_Check_ok{s}:Con Tryz.prog 55 true (sp_Disk false s) (dev_Check s) (λr=> [.i r]):=by
 intro H b2 b3 b4 d b5 b6 b7 a r hx
 refine Does.enterC Tryz.func55 rfl rfl ?_
 intro w
 unfold dev_Check at hx
 refine Run.cl [] 2 ZB rfl (ZV rfl rfl (λb8 b9=>Run.lc_s [] 4 ZB rfl (ZO hx [1] [0] rfl rfl (λj l0 o0 l o g=>l=(3,.bool j)::l0∧o=o0∧H=g) (λj c0 hx=> ?_) (λj c1 hx=> ?_))))
 ·
  rintro _ _ _ ⟨rfl,rfl,rfl⟩
  refine Run.nl_s [0] 6 ZB rfl (ZA rfl rfl (ZM U22 rfl (IsSlice.long d)) (Run.lcz_s [] 3 ZB rfl (ZO hx [1] [0] rfl rfl (λk l0 o0 l o g=>l=(3,.bool k)::l0∧o=o0∧H=g) (λk c2 hx=> ?_) (λk c3 hx=> ?_))))
  ·
   rintro _ _ _ ⟨rfl,rfl,rfl⟩
   refine Run.nl_s [0] 6 ZB rfl (ZA rfl rfl (ZM U23 rfl (IsSlice.long a)) (Run.lcz_s [] 3 ZB rfl (ZO hx [] [] rfl rfl (λm l0 o0 l o g=>l=(3,.bool m)::l0∧o=o0∧H=g) (λm c4 hx=> ?_) (λm c5 hx=> ?_))))
   ·
    rintro _ _ _ ⟨rfl,rfl,rfl⟩
    refine Run.nc_s [] 7 ZB rfl (ZG hx rfl (λb hx=> ?_) (λb hx=> ?_))
    ·
     refine Run.cnz_k [] 7 ZB rfl ?_
     exact ZD [] rfl hx rfl rfl
    ·
     refine Run.cnz_s [] 8 ZB rfl ?_
     exact ZD [] rfl hx rfl rfl
   ·
    refine JC.block (JC.forget 0 (ZS [33,34] [] rfl rfl (λl0 o0 c l o g=>l=(3,.bool c.1)::(35,.int .i64 ((c.2:Nat):Int))::l0∧o=o0∧H=g) hx ⟨rfl,rfl,rfl⟩ rfl ?_))
    ·
     rintro c6 c _ _ _ ⟨rfl,rfl,rfl⟩ c7 hx h
     unfold dev_Check_l2 at hx
     refine Run.cc [] 6 ZB rfl (ZG hx rfl (λb hx=> ?_) (λb hx=> ?_))
     ·
      refine Run.cl_s [] 6 ZB rfl ?_
      obtain⟨y,z,hx⟩:=ZJ hx
      obtain⟨c8,c9,d0,a0,a1,d1,a2⟩:=IsSlice.elem a z
      obtain⟨d2,rfl,v⟩:=a1
      obtain⟨d3,d4,rfl⟩:=IsSlice.val v
      refine ZA rfl rfl (Zd U23 S96 rfl rfl a0) (ZA rfl rfl (Zz 0 S96 rfl a2 rfl rfl) (JL.alloc Z96 rfl (λd5 d6=>Run.llz_s [0] 6 ZB rfl (ZQ 40 hx rfl (λa3 hx=> ?_) (λa3 hx=> ?_)))))
      ·
       refine Run.llz [0] 5 ZB rfl (ZI hx E99 rfl dev_place_ok rfl trivial ?_)
       intro d7 d8 hx
       refine Run.llz [] 2 ZB rfl (ZQ 45 hx rfl (λa4 hx=> ?_) (λa4 hx=> ?_))
       ·
        refine Run.llz [0] 5 ZB rfl (ZA rfl rfl (ZM U26 rfl (IsSlice.long v)) (Run.llz_bs [] 8 ZB rfl (ZA rfl rfl (Zi rfl rfl (of_decide_eq_true b) (IsSlice.lenI a)) (Run.lnz [] 2 ZB rfl ?_))))
        replace hx:=ZP h hx
        refine JN.forget 0 ?_
        exact ZC ⟨(decide ((y.Data.length:Int)=256),c.2+1),⟨rfl,rfl,rfl⟩,hx⟩ rfl rfl rfl
       ·
        refine Run.llz_bs [] 10 ZB rfl (ZA rfl rfl (Zi rfl rfl (of_decide_eq_true b) (IsSlice.lenI a)) (Run.lnz [] 2 ZB rfl ?_))
        replace hx:=ZP h hx
        refine JN.forget 0 ?_
        exact ZC ⟨(false,c.2+1),⟨rfl,rfl,rfl⟩,hx⟩ rfl rfl rfl
      ·
       refine Run.llz_bs [] 15 ZB rfl (ZA rfl rfl (Zi rfl rfl (of_decide_eq_true b) (IsSlice.lenI a)) (Run.lnz [] 2 ZB rfl ?_))
       replace hx:=ZP h hx
       refine JN.forget 0 ?_
       exact ZC ⟨(false,c.2+1),⟨rfl,rfl,rfl⟩,hx⟩ rfl rfl rfl
     ·
      refine Run.cnz_k [] 2 ZB rfl ?_
      obtain rfl:=ZH h hx
      refine Run.nnz_kb [] 2 ZB rfl ?_
      exact ZC ⟨rfl,rfl,rfl⟩ rfl rfl rfl
  ·
   refine JC.block (ZS [1,19,20] [0] rfl rfl (λl0 o0 f l o g=>l=(3,.bool f.1)::(21,.int .i64 ((f.2:Nat):Int))::l0∧o=o0∧H=g) hx ⟨rfl,rfl,rfl⟩ rfl ?_)
   ·
    rintro d9 f _ _ _ ⟨rfl,rfl,rfl⟩ e0 hx p
    unfold dev_Check_l1 at hx
    refine Run.cc [] 6 ZB rfl (ZG hx rfl (λq hx=> ?_) (λq hx=> ?_))
    ·
     refine Run.cl_s [] 6 ZB rfl ?_
     obtain⟨a5,a6,hx⟩:=ZJ hx
     obtain⟨e1,e2,e3,a7,a8,e4,a9⟩:=IsSlice.elem d a6
     obtain⟨e5,rfl,x⟩:=a8
     obtain⟨e6,e7,rfl⟩:=IsSlice.val x
     refine ZA rfl rfl (Zd U22 S26 rfl rfl a7) (ZA rfl rfl (ZY S26 rfl (a9 0 _ rfl)) (Run.llz_s [] 6 ZB rfl (ZQ 26 hx rfl (λb0 hx=> ?_) (λb0 hx=> ?_))))
     ·
      refine Run.llz [] 3 ZB rfl (ZA rfl rfl (ZM U26 rfl (IsSlice.long x)) (Run.llz_bs [] 8 ZB rfl (ZA rfl rfl (Zi rfl rfl (of_decide_eq_true q) (IsSlice.lenI d)) (Run.lnz [] 2 ZB rfl ?_))))
      replace hx:=ZP p hx
      exact ZC ⟨(decide ((a5.length:Int)=256),f.2+1),⟨rfl,rfl,rfl⟩,hx⟩ rfl rfl rfl
     ·
      refine Run.llz_bs [] 9 ZB rfl (ZA rfl rfl (Zi rfl rfl (of_decide_eq_true q) (IsSlice.lenI d)) (Run.lnz [] 2 ZB rfl ?_))
      replace hx:=ZP p hx
      exact ZC ⟨(false,f.2+1),⟨rfl,rfl,rfl⟩,hx⟩ rfl rfl rfl
    ·
     refine Run.cnz_k [] 2 ZB rfl ?_
     obtain rfl:=ZH p hx
     refine Run.nnz_kb [] 2 ZB rfl ?_
     exact ZC ⟨rfl,rfl,rfl⟩ rfl rfl rfl
 ·
  refine Run.clz [0] 3 ZB rfl (ZA rfl rfl (ZM U22 rfl (IsSlice.long d)) (Run.llz [] 2 ZB rfl (ZQ 12 hx rfl (λb1 hx=> ?_) (λb1 hx=> ?_))))
  ·
   refine Run.llz [0] 5 ZB rfl (ZA rfl rfl (ZM U23 rfl (IsSlice.long a)) (Run.lnz [] 5 ZB rfl ?_))
   obtain rfl:=Option.some.inj hx
   exact ZC ⟨rfl,rfl,rfl⟩ rfl rfl rfl
  ·
   refine Run.lnz [] 7 ZB rfl ?_
   obtain rfl:=Option.some.inj hx
   exact ZC ⟨rfl,rfl,rfl⟩ rfl rfl rfl
theorem slices_Max_byte_ok{h}:Con Tryz.prog 112 true ([.sl false RU8 1 h]) (slices_Max_byte h) (λr=> [.w8 r]):=by
 intro H a1 a2 a3 d r hx
 refine Does.enterC Tryz.func112 rfl rfl ?_
 intro w
 unfold slices_Max_byte at hx
 refine Run.cl [] 9 ZB rfl (ZA rfl rfl (ZM U26 rfl (IsSlice.long d)) (Run.lcz_s [] 3 ZB rfl (ZG hx rfl (λm hx=> ?_) (λm hx=> ?_))))
 ·
  refine JC.region ?_
  cases hx
 ·
  refine Run.cl_s [] 5 ZB rfl ?_
  obtain⟨a4,p,hx⟩:=ZJ hx
  obtain⟨a5,a6,a7,q,s,a8,v⟩:=IsSlice.elem d p
  obtain rfl:=s
  refine ZA rfl rfl (Zd U26 S5 rfl rfl q) (ZA rfl rfl (ZY S5 rfl (v 0 _ rfl)) (Run.lc_s [] 9 ZB rfl (ZO hx [] [] rfl rfl (λf l0 o0 l o g=>l=(3,.int .u8 (f.toNat:Int))::l0∧o=o0∧H=g) (λf a9 hx=> ?_) (λf b0 hx=> ?_))))
  ·
   rintro _ _ _ ⟨rfl,rfl,rfl⟩
   refine Run.nnz_s [] 8 ZB rfl ?_
   exact ZD [] rfl hx rfl rfl
  ·
   refine JC.block (ZS [0] [] rfl rfl (λl0 o0 c l o g=>l=(3,.int .u8 (c.1.toNat:Int))::(4,.int .i64 ((c.2:Nat):Int))::l0∧o=o0∧H=g) hx ⟨rfl,rfl,rfl⟩ rfl ?_)
   ·
    rintro b1 c _ _ _ ⟨rfl,rfl,rfl⟩ b2 hx i
    unfold slices_Max_byte_l1 at hx
    refine Run.cl [] 5 ZB rfl (ZA rfl rfl (ZM U26 rfl (IsSlice.long d)) (Run.lcz_s [] 3 ZB rfl (ZG hx rfl (λj hx=> ?_) (λj hx=> ?_))))
    ·
     refine Run.cl_s [] 8 ZB rfl ?_
     obtain⟨k,x,hx⟩:=ZJ hx
     obtain⟨b3,b4,b5,y,z,b6,a0⟩:=IsSlice.elem d x
     obtain rfl:=z
     refine ZA rfl rfl (Zd U26 S5 rfl rfl y) (ZA rfl rfl (ZY S5 rfl (a0 0 _ rfl)) (ZA rfl rfl (R.max2b (a:=c.1) (b:=k) rfl rfl) (Run.llz_bs [] 6 ZB rfl (ZA rfl rfl (Zi rfl rfl (of_decide_eq_true j) (IsSlice.lenI d)) (Run.lnz [] 2 ZB rfl ?_)))))
     replace hx:=ZP i hx
     exact ZC ⟨(maxB c.1 k,c.2+1),⟨rfl,rfl,rfl⟩,hx⟩ rfl rfl rfl
    ·
     refine Run.cnz_k [] 2 ZB rfl ?_
     obtain rfl:=ZH i hx
     refine Run.nnz_kb [] 2 ZB rfl ?_
     exact ZC ⟨rfl,rfl,rfl⟩ rfl rfl rfl
theorem unicode_utf8_RuneCount_ok (a:List UInt8)(H:Heaplet){ao0:Option Addr}{n0 cap0:Nat}(h0:IsSlice H RU8 1 (.slice ao0 n0 cap0) a)(r:Int)(hx:unicode_utf8_RuneCount a=some r):
  Does Tryz.prog 176 #[.slice ao0 n0 cap0] [] H (λu K' H'=>u=.int .i64 r∧K'= []∧H=H'∧True):=by cases hx
theorem bytes_Index_ok (a:List UInt8)(b:List UInt8)(H:Heaplet){ao0:Option Addr}{n0 cap0:Nat}{ao1:Option Addr}{n1 cap1:Nat}(h0:IsSlice H RU8 1 (.slice ao0 n0 cap0) a)(h1:IsSlice H RU8 1 (.slice ao1 n1 cap1) b)(r:Int)(hx:bytes_Index a b=some r):
  Does Tryz.prog 178 #[.slice ao0 n0 cap0,.slice ao1 n1 cap1] [] H (λu K' H'=>u=.int .i64 r∧K'= []∧H=H'∧True):=by cases hx
theorem bytes_Count_ok{h j}:Con Tryz.prog 113 true ([.sl false RU8 1 h,.sl false RU8 1 j]) (bytes_Count h j) (λr=> [.i r]):=by
 intro H a3 a4 a5 k c3 c4 c5 f r hx
 refine Does.enterC Tryz.func113 rfl rfl ?_
 intro w
 unfold bytes_Count at hx
 refine Run.cl [] 9 ZB rfl (ZA rfl rfl (ZM U26 rfl (IsSlice.long f)) (Run.lcz_s [] 3 ZB rfl (ZG hx rfl (λa6 hx=> ?_) (λa6 hx=> ?_))))
 ·
  refine Run.cl [] 3 ZB rfl ?_
  obtain⟨c6,a7,hx⟩:=ZU hx
  refine Zg (vs:=[_]) (args:=[_]) (K:=[]) (rst:=[]) E176 rfl rfl rfl ZT (unicode_utf8_RuneCount_ok h _ k _ a7) rfl (λc7 c8 c9 a8 d0 d1=> ?_)
  obtain⟨rfl,rfl,rfl,-⟩:=a8
  refine Run.lnz_sk [] 6 ZB rfl ?_
  exact ZD [] rfl hx rfl rfl
 ·
  refine Run.cl_s [] 6 ZB rfl (ZA rfl rfl (ZM U26 rfl (IsSlice.long f)) (Run.lcz_s [] 3 ZB rfl (ZG hx rfl (λa9 hx=> ?_) (λa9 hx=> ?_))))
  ·
   refine Run.cl [] 4 ZB rfl ?_
   obtain⟨b0,b1,hx⟩:=ZJ hx
   obtain⟨d2,d3,d4,b2,b3,d5,b4⟩:=IsSlice.elem f b1
   obtain rfl:=b3
   refine ZA rfl rfl (Zd U26 S5 rfl rfl b2) (ZA rfl rfl (ZY S5 rfl (b4 0 _ rfl)) (ZA rfl rfl (R.countB (m:=h) (c:=b0) Tryz.func177 (by kernel_rfl) rfl (by kernel_rfl) (by kernel_rfl) rfl k rfl) ?_))
   refine Run.lnz_sk [] 5 ZB rfl ?_
   exact ZD [] rfl hx rfl rfl
  ·
   refine Run.ccz_s [] 7 ZB rfl ?_
   obtain⟨d6,x,hx⟩:=ZU hx
   have b5:=hx;clear hx;have hx:=x;clear x
   refine JC.block (ZS [1] [] rfl rfl (λl0 o0 d l o g=>∃p:Option Addr,∃q:Nat,∃s:Nat,l=(0,.slice p q s)::(5,.int .i64 d.2)::l0∧o=o0∧H=g∧IsSlice H RU8 1 (.slice p q s) d.1) hx ⟨a3,a4,a5,rfl,rfl,rfl,k⟩ rfl ?_)
   ·
    rintro d7 d _ _ _ ⟨p,q,s,rfl,rfl,rfl,y⟩ d8 hx z
    unfold bytes_Count_l1 at hx
    refine Run.cl [] 5 ZB rfl ?_
    obtain⟨b6,b7,hx⟩:=ZU hx
    refine Zg (vs:=[_,_]) (args:=[_,_]) (K:=[]) (rst:=[]) E178 rfl rfl rfl ZT (bytes_Index_ok d.1 j _ y f _ b7) rfl (λd9 e0 e1 b8 e2 e3=> ?_)
    obtain⟨rfl,rfl,rfl,-⟩:=b8
    refine Run.lc_s [] 10 ZB rfl (ZG hx rfl (λb9 hx=> ?_) (λb9 hx=> ?_))
    ·
     refine Run.cnz_kb [] 9 ZB rfl ?_
     obtain rfl:=ZH z hx
     refine Run.nnz_kb [] 2 ZB rfl ?_
     clear hx;have hx:=b5
     exact ZD [] rfl hx rfl rfl
    ·
     refine Run.clz_s [] 13 ZB rfl (ZA rfl rfl (ZM U26 rfl (IsSlice.long f)) (ZA rfl rfl (R.add_i rfl rfl) ?_))
     obtain⟨a0,c0,v,hx⟩:=slc_some hx
     obtain⟨e4,a1,h1v_33,h2v_33,h3v_33,a2⟩:=IsSlice.cutv y c0 v
     refine ZA rfl rfl (R.slc (cap:=a1) (a:=w64 (b6+(j.length:Int))) (b:=(d.1.length:Int)) (c:=(a1:Int)) (m:=d.1) (R:=RU8) U26 S5 rfl ⟨_,rfl⟩ rfl (by obtain⟨ao,n,e,_⟩:=h1v_33;exact⟨ao,n,e,rfl⟩) ⟨v.1,v.2.1,h2v_33⟩ h3v_33 (.inl rfl)) ?_
     obtain⟨c1,c2,rfl⟩:=IsSlice.val a2
     refine Run.lnz_b [] 3 ZB rfl ?_
     replace hx:=ZP z hx
     exact ZC ⟨(a0,w64 (d.2+1)),⟨c1,a0.length,c2,rfl,rfl,rfl,a2⟩,hx⟩ rfl rfl rfl
theorem space_Check_ok{d}:Con Tryz.prog 56 true ([.sl false RU8 1 d]) (space_Check d) (λr=> [.i r]):=by
 intro H a1 a2 a3 f r hx
 refine Does.enterC Tryz.func56 rfl rfl ?_
 intro w
 unfold space_Check at hx
 refine Run.cl [] 9 ZB rfl (ZA rfl rfl (ZM U26 rfl (IsSlice.long f)) (Run.llz [] 2 ZB rfl (ZQ 6 hx rfl (λs hx=> ?_) (λs hx=> ?_))))
 ·
  refine Run.lnz_sk [] 21 ZB rfl ?_
  exact ZD [] rfl hx rfl rfl
 ·
  refine Run.llz [] 3 ZB rfl (ZI hx E112 rfl slices_Max_byte_ok rfl ⟨f,trivial⟩ ?_)
  intro v a4 hx
  refine Zq rfl rfl rfl (ZA rfl rfl (R.gtr8 (a:=v) (b:=(2:UInt8)) rfl rfl) (Run.llz [] 2 ZB rfl (ZQ 11 hx rfl (λx hx=> ?_) (λx hx=> ?_))))
  ·
   refine Run.lnz_sk [] 16 ZB rfl ?_
   exact ZD [] rfl hx rfl rfl
  ·
   refine Run.llz [] 3 ZB rfl ?_
   obtain⟨a5,y,h,hx⟩:=slc_some hx
   obtain⟨a6,j,h1v_11,h2v_11,h3v_11,k⟩:=IsSlice.cutv f y h
   refine ZA rfl rfl (R.slc (cap:=j) (a:=0) (b:=12) (c:=(j:Int)) (m:=d) (R:=RU8) U26 S5 rfl rfl ⟨_,rfl⟩ (by obtain⟨ao,n,e,_⟩:=h1v_11;exact⟨ao,n,e,rfl⟩) ⟨h.1,h.2.1,h2v_11⟩ h3v_11 (.inl rfl)) ?_
   obtain⟨a7,a8,rfl⟩:=IsSlice.val k
   refine Zq rfl rfl rfl (Zx (HF:=(New H H)) (R:=RU8) (ls:=[(1:UInt8)]) (vs:=[.int .u8 ((1:UInt8).toNat:Int)]) U26 I5 rfl rfl (⟨_,_,rfl,rfl,rfl,rfl⟩) RU8.one rfl rfl rfl (by simp[maxLen]) rfl (λa9 b0 p=> ?_))
   obtain⟨b1,b2,rfl⟩:=RowOf.val p
   refine Zq rfl rfl rfl (JL.conL hx E113 rfl bytes_Count_ok rfl (λb3 q z=>⟨(IsSlice.mono RU8.mono q k),(Lent.row' 0 z RU8.mono q rfl (p.old RU8.mono)),trivial⟩) (λ_=>trivial) ?_)
   intro b4 b5 hx
   refine Run.lcz_s [] 5 ZB rfl (ZG hx rfl (λa0 hx=> ?_) (λa0 hx=> ?_))
   ·
    refine Run.cnz_k [] 7 ZB rfl ?_
    exact ZD [] rfl hx rfl rfl
   ·
    refine Run.cnz_s [] 8 ZB rfl ?_
    exact ZD [] rfl hx rfl rfl
theorem store_Check_ok{c}:Con Tryz.prog 16 true (sp_Store false c) (store_Check c) (λr=> [.i r]):=by
 intro H s v x d y z a0 f a1 a2 a3 h r hx
 refine Does.enterC Tryz.func16 rfl rfl ?_
 intro w
 unfold store_Check at hx
 refine Run.cl [] 2 ZB rfl (ZV rfl rfl (λa4 a5=>Run.ll_s [0] 8 ZB rfl (ZI hx E55 rfl dev_Check_ok rfl ⟨d,f,trivial⟩ ?_)))
 intro a6 a7 hx
 refine Run.llz [] 2 ZB rfl (ZQ 7 hx rfl (λj hx=> ?_) (λj hx=> ?_))
 ·
  refine Run.lnz_sk [] 30 ZB rfl ?_
  exact ZD [] rfl hx rfl rfl
 ·
  refine Run.llz [0] 5 ZB rfl (ZI hx E56 rfl space_Check_ok rfl ⟨h,trivial⟩ ?_)
  intro a8 a9 hx
  refine Run.llz [] 4 ZB rfl (ZQ 13 hx rfl (λk hx=> ?_) (λk hx=> ?_))
  ·
   refine Run.lnz_sk [] 24 ZB rfl ?_
   exact ZD [] rfl hx rfl rfl
  ·
   refine Run.llz [0] 5 ZB rfl (ZA rfl rfl (R.lss32 (a:=c.Epoch) (b:=(1:UInt32)) rfl rfl) (Run.llz [] 2 ZB rfl (ZQ 18 hx rfl (λm hx=> ?_) (λm hx=> ?_))))
   ·
    refine Run.lnz_sk [] 19 ZB rfl ?_
    exact ZD [] rfl hx rfl rfl
   ·
    refine Run.llz [0] 5 ZB rfl (ZA rfl rfl (R.gtr32 (a:=c.Epoch) (b:=(65535:UInt32)) rfl rfl) (Run.llz [] 2 ZB rfl (ZQ 23 hx rfl (λp hx=> ?_) (λp hx=> ?_))))
    ·
     refine Run.lnz_sk [] 14 ZB rfl ?_
     exact ZD [] rfl hx rfl rfl
    ·
     refine Run.llz [0] 5 ZB rfl (ZA rfl rfl (R.gtr32 (a:=c.Count) (b:=(65535:UInt32)) rfl rfl) (Run.lcz_s [] 3 ZB rfl (ZG hx rfl (λq hx=> ?_) (λq hx=> ?_))))
     ·
      refine Run.cnz_k [] 7 ZB rfl ?_
      exact ZD [] rfl hx rfl rfl
     ·
      refine Run.cnz_s [] 8 ZB rfl ?_
      exact ZD [] rfl hx rfl rfl
theorem ptr_Check_ok{c}:Con Tryz.prog 42 true (sp_Ptr false c) (ptr_Check c) (λr=> [.i r]):=by
 intro H r hx
 refine Does.enterC Tryz.func42 rfl rfl ?_
 intro w
 unfold ptr_Check at hx
 refine Run.cl [] 2 ZB rfl (ZV rfl rfl (λm p=>Run.ll_s [0] 8 ZB rfl (ZA rfl rfl (R.eqlAgg QU31 QP31 QG31 QF31 rfl rfl (EqF.i (by decide) S3 U3 rfl rfl (EqF.u32 (a:=c.Birth) (b:=(0:UInt32)) (by decide) S27 U27 rfl rfl (EqF.u32 (a:=c.Iv) (b:=(0:UInt32)) (by decide) S27 U27 rfl rfl (EqF.u32 (a:=c.Tag) (b:=(0:UInt32)) (by decide) S27 U27 rfl rfl (EqF.u32 (a:=c.Sum) (b:=(0:UInt32)) (by decide) S27 U27 rfl rfl EqF.nil)))))) ?_)))
 refine Run.lcz_s [] 2 ZB rfl (ZG hx rfl (λd hx=> ?_) (λd hx=> ?_))
 ·
  refine Run.cnz_k [] 7 ZB rfl ?_
  exact ZD [] rfl hx rfl rfl
 ·
  refine Run.cl_s [0] 9 ZB rfl (ZQ 9 hx rfl (λf hx=> ?_) (λf hx=> ?_))
  ·
   refine Run.lnz_sk [] 24 ZB rfl ?_
   exact ZD [] rfl hx rfl rfl
  ·
   refine Run.llz [0] 8 ZB rfl (ZQ 14 hx rfl (λh hx=> ?_) (λh hx=> ?_))
   ·
    refine Run.lnz_sk [] 19 ZB rfl ?_
    exact ZD [] rfl hx rfl rfl
   ·
    refine Run.llz [0] 5 ZB rfl (ZA rfl rfl (R.lss32 (a:=c.Birth) (b:=(1:UInt32)) rfl rfl) (Run.llz [] 2 ZB rfl (ZQ 19 hx rfl (λj hx=> ?_) (λj hx=> ?_))))
    ·
     refine Run.lnz_sk [] 14 ZB rfl ?_
     exact ZD [] rfl hx rfl rfl
    ·
     refine Run.llz [0] 5 ZB rfl (ZA rfl rfl (R.gtr32 (a:=c.Birth) (b:=(16777215:UInt32)) rfl rfl) (Run.lcz_s [] 3 ZB rfl (ZG hx rfl (λk hx=> ?_) (λk hx=> ?_))))
     ·
      refine Run.cnz_k [] 7 ZB rfl ?_
      exact ZD [] rfl hx rfl rfl
     ·
      refine Run.cnz_s [] 8 ZB rfl ?_
      exact ZD [] rfl hx rfl rfl
theorem cmp_isNaN_int_ok{a}:Con Tryz.prog 235 true ([.i a]) (cmp_isNaN_int a) (λr=> [.b r]):=by
 intro H r hx
 refine Does.enterC Tryz.func235 rfl rfl ?_
 intro w
 unfold cmp_isNaN_int at hx
 refine Run.cnz [] 14 ZB rfl ?_
 exact ZD [] rfl hx rfl rfl
theorem cmp_Compare_int_ok{a b}:Con Tryz.prog 184 true ([.i a,.i b]) (cmp_Compare_int a b) (λr=> [.i r]):=by
 intro H r hx
 refine Does.enterC Tryz.func184 rfl rfl ?_
 intro w
 unfold cmp_Compare_int at hx
 refine Run.cl [] 8 ZB rfl (ZI hx E235 rfl cmp_isNaN_int_ok rfl trivial ?_)
 intro k m hx
 refine Run.ll_s [] 6 ZB rfl (ZI hx E235 rfl cmp_isNaN_int_ok rfl trivial ?_)
 intro p q hx
 refine Run.lc_s [] 9 ZB rfl (ZG hx rfl (λc hx=> ?_) (λc hx=> ?_))
 ·
  refine Run.cc [] 6 ZB rfl (ZG hx rfl (λd hx=> ?_) (λd hx=> ?_))
  ·
   refine Run.cnz_kk [] 8 ZB rfl ?_
   exact ZD [] rfl hx rfl rfl
  ·
   refine Run.cnz_sk [] 9 ZB rfl ?_
   exact ZD [] rfl hx rfl rfl
 ·
  refine Run.cc_s [] 8 ZB rfl (ZG hx rfl (λf hx=> ?_) (λf hx=> ?_))
  ·
   refine Run.cnz_k [] 7 ZB rfl ?_
   exact ZD [] rfl hx rfl rfl
  ·
   refine Run.cc_s [] 10 ZB rfl (ZG hx rfl (λh hx=> ?_) (λh hx=> ?_))
   ·
    refine Run.cnz_k [] 7 ZB rfl ?_
    exact ZD [] rfl hx rfl rfl
   ·
    refine Run.cc_s [] 10 ZB rfl (ZG hx rfl (λj hx=> ?_) (λj hx=> ?_))
    ·
     refine Run.cnz_k [] 7 ZB rfl ?_
     exact ZD [] rfl hx rfl rfl
    ·
     refine Run.cnz_s [] 8 ZB rfl ?_
     exact ZD [] rfl hx rfl rfl
theorem dead_order_ok{a b}:Con Tryz.prog 237 true (sp_Ptr false a++sp_Ptr false b) (dead_order a b) (λr=> [.i r]):=by
 intro H r hx
 refine Does.enterC Tryz.func237 rfl rfl ?_
 intro w
 unfold dead_order at hx
 refine Run.cl [] 2 ZB rfl (ZV rfl rfl (λc d=>ZV rfl rfl (λf h=>Run.ll_s [1,0] 9 ZB rfl (ZI hx E184 rfl cmp_Compare_int_ok rfl trivial ?_))))
 intro j k hx
 refine Run.lnz_s [] 4 ZB rfl ?_
 exact ZD [] rfl hx rfl rfl
theorem dead_Check_ok{p}:Con Tryz.prog 194 true ([.sl false R_Ptr 5 p]) (dead_Check p) (λr=> [.i r]):=by
 intro H a8 a9 b0 d r hx
 refine Does.enterC Tryz.func194 rfl rfl ?_
 intro w
 unfold dead_Check at hx
 refine Run.cl [] 9 ZB rfl (ZA rfl rfl (ZM U97 rfl (IsSlice.long d)) (Run.lcz_s [] 3 ZB rfl (ZG hx rfl (λs hx=> ?_) (λs hx=> ?_))))
 ·
  refine Run.cnz_k [] 7 ZB rfl ?_
  exact ZD [] rfl hx rfl rfl
 ·
  refine Run.cl_s [] 6 ZB rfl (ZA rfl rfl (ZM U97 rfl (IsSlice.long d)) (Run.lcz_s [] 3 ZB rfl (ZO hx [] [] rfl rfl (λj l0 o0 l o g=>∃q:Unit,l=l0∧o=o0∧H=g∧j=.inl q) (λj b1 hx=> ?_) (λj k hx=> ?_))))
  ·
   rintro _ _ _ ⟨q,rfl,rfl,rfl,rfl⟩
   simp only[Sum.elim_inl]at hx
   refine Run.nnz_s [] 7 ZB rfl ?_
   exact ZD [] rfl hx rfl rfl
  ·
   refine JC.block (ZS [0,8,9] [] rfl rfl (λl0 o0 h l o g=>l=(10,.int .i64 ((h:Nat):Int))::l0∧o=o0∧H=g) hx ⟨rfl,rfl,rfl⟩ rfl ?_)
   ·
    rintro b2 h _ _ _ ⟨rfl,rfl,rfl⟩ b3 hx f
    unfold dead_Check_l1 at hx
    refine Run.cc [] 6 ZB rfl (ZG hx rfl (λm hx=> ?_) (λm hx=> ?_))
    ·
     refine Run.cl_s [] 7 ZB rfl ?_
     obtain⟨c,v,hx⟩:=ZJ hx
     obtain⟨b4,b5,b6,x,y,b7,z⟩:=IsSlice.elem d v
     obtain rfl:=y
     refine ZA rfl rfl (Zd U97 S31 rfl rfl x) (ZA rfl rfl (Zz 0 S31 rfl z rfl rfl) (JL.alloc Z31 rfl (λb8 b9=>Run.lc_s [0] 5 ZB rfl (Zh (so:=[(_,[])]) 22 rfl Mixed ⟨by kernel_rfl,by kernel_rfl⟩ (ZX [0] rfl) ?_))))
     refine JB.run 2 [0,1] [0] ZB rfl ?_
     refine JB.val (i:=2) [] rfl (R.eqlAgg QU31 QP31 QG31 QF31 rfl rfl (EqF.i (by decide) S3 U3 rfl rfl (EqF.u32 (a:=c.Birth) (b:=(0:UInt32)) (by decide) S27 U27 rfl rfl (EqF.u32 (a:=c.Iv) (b:=(0:UInt32)) (by decide) S27 U27 rfl rfl (EqF.u32 (a:=c.Tag) (b:=(0:UInt32)) (by decide) S27 U27 rfl rfl (EqF.u32 (a:=c.Sum) (b:=(0:UInt32)) (by decide) S27 U27 rfl rfl EqF.nil)))))) ?_
     refine JB.val (i:=3) [] rfl (ZW rfl) ?_
     refine JB.gX 18 hx rfl (λa0 hx=> ?_) (λa0 hx=> ?_)
     ·
      refine JB.run 18 [4,5,6,7,8,9,10,11,12,13,14,15,16,17,18,19,20,21] [] ZB rfl ?_
      refine JB.doneN (by kernel_rfl) ?_
      refine Run.nnz_sbk [] 10 ZB rfl ?_
      obtain rfl:=ZH f hx
      refine Run.nnz_kb [] 2 ZB rfl ?_
      clear hx;have hx:=k
      simp only[Sum.elim_inl,Sum.elim_inr]at hx
      refine Run.nnz_kk [] 2 ZB rfl ?_
      exact ZD [] rfl hx rfl rfl
     ·
      refine JB.val (i:=4) [] rfl (R.ldoN 0 (vs:=[.int .i64 c.At,.int .u32 (c.Birth.toNat:Int),.int .u32 (c.Iv.toNat:Int),.int .u32 (c.Tag.toNat:Int),.int .u32 (c.Sum.toNat:Int)]) S31 rfl rfl rfl rfl) ?_
      refine JB.one (i:=5) (by kernel_rfl) ?_
      refine JOB.step rfl ⟨_,_,rfl,rfl,rfl⟩ rfl (λK hK=>ZI hx E42 rfl ptr_Check_ok rfl trivial ?_)
      intro c0 c1 hx
      refine JL.nil (hK _ _ _ (Hle.refl _) (ZX [0] rfl) ?_)
      refine JB.run 3 [6,7,8] [] ZB rfl ?_
      refine JB.gX 23 hx rfl (λa1 hx=> ?_) (λa1 hx=> ?_)
      ·
       refine JB.run 13 [9,10,11,12,13,14,15,16,17,18,19,20,21] [] ZB rfl ?_
       refine JB.doneN (by kernel_rfl) ?_
       refine Run.nnz_sbk [] 10 ZB rfl ?_
       obtain rfl:=ZH f hx
       refine Run.nnz_kb [] 2 ZB rfl ?_
       clear hx;have hx:=k
       simp only[Sum.elim_inl,Sum.elim_inr]at hx
       refine Run.nnz_kk [] 2 ZB rfl ?_
       exact ZD [] rfl hx rfl rfl
      ·
       refine JB.run 3 [9,10,11] [] ZB rfl ?_
       refine JB.gX 26 hx rfl (λa2 hx=> ?_) (λa2 hx=> ?_)
       ·
        refine JB.run 3 [12,13,14] [] ZB rfl ?_
        obtain⟨c2,a3,hx⟩:=ZJ hx
        obtain⟨c3,c4,c5,a4,a5,c6,a6⟩:=IsSlice.elem d a3
        obtain rfl:=a5
        refine JB.val (i:=15) [] rfl (Zd U97 S31 rfl rfl a4) ?_
        refine JB.val (i:=16) [] rfl (Zz 0 S31 rfl a6 rfl rfl) ?_
        refine JB.val (i:=17) [] rfl (R.ldoN 0 (vs:=[.int .i64 c.At,.int .u32 (c.Birth.toNat:Int),.int .u32 (c.Iv.toNat:Int),.int .u32 (c.Tag.toNat:Int),.int .u32 (c.Sum.toNat:Int)]) S31 rfl rfl rfl rfl) ?_
        refine JB.one (i:=18) (by kernel_rfl) ?_
        refine JOB.step rfl ⟨_,_,rfl,rfl,rfl⟩ rfl (λK hK=>ZI hx E237 rfl dead_order_ok rfl trivial ?_)
        intro c7 c8 hx
        refine JL.nil (hK _ _ _ (Hle.refl _) (ZX [0] rfl) ?_)
        refine JB.run 3 [19,20,21] [] ZB rfl ?_
        refine JB.doneN (by kernel_rfl) ?_
        refine Zw (ZG hx rfl (λa7 hx=> ?_) (λa7 hx=> ?_))
        ·
         refine Run.cnz_bk [] 8 ZB rfl ?_
         obtain rfl:=ZH f hx
         refine Run.nnz_kb [] 2 ZB rfl ?_
         clear hx;have hx:=k
         simp only[Sum.elim_inl,Sum.elim_inr]at hx
         refine Run.nnz_kk [] 2 ZB rfl ?_
         exact ZD [] rfl hx rfl rfl
        ·
         refine Run.clz_bs [] 4 ZB rfl (ZA rfl rfl (Zi rfl rfl (of_decide_eq_true m) (IsSlice.lenI d)) (Run.lnz [] 2 ZB rfl ?_))
         replace hx:=ZP f hx
         refine JN.forget 0 ?_
         exact ZC ⟨h+1,⟨rfl,rfl,rfl⟩,hx⟩ rfl rfl rfl
       ·
        refine JB.run 10 [12,13,14,15,16,17,18,19,20,21] [] ZB rfl ?_
        refine JB.doneN (by kernel_rfl) ?_
        refine Run.nlz_sbs [] 6 ZB rfl (ZA rfl rfl (Zi rfl rfl (of_decide_eq_true m) (IsSlice.lenI d)) (Run.lnz [] 2 ZB rfl ?_))
        replace hx:=ZP f hx
        refine JN.forget 0 ?_
        exact ZC ⟨h+1,⟨rfl,rfl,rfl⟩,hx⟩ rfl rfl rfl
    ·
     refine Run.cnz_k [] 2 ZB rfl ?_
     obtain rfl:=ZH f hx
     refine Run.nnz_kb [] 2 ZB rfl ?_
     exact ZC ⟨(),rfl,rfl,rfl,rfl⟩ rfl rfl rfl
theorem txg_line_1_ok{a b}:Con Tryz.prog 199 true (sp_Line false a++ [.i b]) (txg_line_1 a b) (λr=> [.i r]):=by
 intro H c d f h r hx
 refine Does.enterC Tryz.func199 rfl rfl ?_
 intro w
 unfold txg_line_1 at hx
 refine Run.cl [] 2 ZB rfl (ZV rfl rfl (λj k=>Run.ll_s [0] 8 ZB rfl (ZI hx E184 rfl cmp_Compare_int_ok rfl trivial ?_)))
 intro m p hx
 refine Run.lnz_s [] 4 ZB rfl ?_
 exact ZD [] rfl hx rfl rfl
theorem slices_BinarySearchFunc_int_ok{k m}:Con Tryz.prog 198 true ([.sl false R_Line 13 k,.i m,.fv 199]) (slices_BinarySearchFunc_int k m) (λr=> [.i r.1,.b r.2]):=by
 intro H a6 a7 a8 f r hx
 refine Does.enterC Tryz.func198 rfl rfl ?_
 intro w
 unfold slices_BinarySearchFunc_int at hx
 refine Run.cl [] 9 ZB rfl (ZA rfl rfl (ZM U52 rfl (IsSlice.long f)) (Run.lc_s [] 11 ZB rfl (ZO hx [0,1,2,8] [] rfl rfl (λd l0 o0 l o g=>l=(9,.int .i64 d)::l0∧o=o0∧H=g) (λd a9 hx=> ?_) (λd b0 hx=> ?_))))
 ·
  rintro _ _ _ ⟨rfl,rfl,rfl⟩
  refine Run.nc_s [] 2 ZB rfl (ZO hx [] [] rfl rfl (λh l0 o0 l o g=>l=(6,.int .i64 d)::(7,.bool h)::l0∧o=o0∧H=g) (λh b1 hx=> ?_) (λh b2 hx=> ?_))
  ·
   rintro _ _ _ ⟨rfl,rfl,rfl⟩
   refine Run.nnz_s [] 2 ZB rfl ?_
   exact ZD [] rfl hx rfl rfl
  ·
   refine Run.clz [] 6 ZB rfl (ZQ 39 hx rfl (λs hx=> ?_) (λs hx=> ?_))
   ·
    refine Run.llz [] 7 ZB rfl ?_
    obtain⟨b3,v,hx⟩:=ZJ hx
    obtain⟨b4,b5,b6,x,y,b7,z⟩:=IsSlice.elem f v
    obtain⟨b8,rfl,p⟩:=y
    obtain⟨b9,c0,rfl⟩:=IsSlice.val p
    refine ZA rfl rfl (Zd U52 S99 rfl rfl x) (Zq rfl rfl rfl (ZA rfl rfl (Zz 0 S99 rfl z rfl rfl) (Run.llz [] 3 ZB rfl (ZI hx E199 rfl txg_line_1_ok rfl ⟨p,trivial⟩ ?_))))
    intro c1 c2 hx
    refine Run.lnz [] 6 ZB rfl ?_
    obtain rfl:=Option.some.inj hx
    exact ZC ⟨rfl,rfl,rfl⟩ rfl rfl rfl
   ·
    refine Run.lnz [] 12 ZB rfl ?_
    obtain rfl:=Option.some.inj hx
    exact ZC ⟨rfl,rfl,rfl⟩ rfl rfl rfl
 ·
  refine JC.block (ZS [0,1,2,8] [] rfl rfl (λl0 o0 c l o g=>l=(9,.int .i64 c.1)::(10,.int .i64 c.2)::l0∧o=o0∧H=g) hx ⟨rfl,rfl,rfl⟩ rfl ?_)
  ·
   rintro c3 c _ _ _ ⟨rfl,rfl,rfl⟩ c4 hx j
   unfold slices_BinarySearchFunc_int_l1 at hx
   refine Run.cc [] 8 ZB rfl (ZG hx rfl (λa0 hx=> ?_) (λa0 hx=> ?_))
   ·
    refine Run.cl_s [] 8 ZB rfl (ZA rfl rfl (R.cv_i64_u64 U3 U214 rfl) (ZA rfl rfl (R.shr64 (n:=((1:UInt64).toNat:Int)) (a:=u64i (w64 (c.1+c.2))) rfl rfl (by decide)) (ZA rfl rfl (R.cv_u64_i64 (a:=sr64 (u64i (w64 (c.1+c.2))) (((1:UInt64).toNat:Int)).toNat) U214 U3 rfl) ?_)))
    refine Run.ll_s [] 8 ZB rfl ?_
    obtain⟨c5,a1,hx⟩:=ZJ hx
    obtain⟨c6,c7,c8,a2,a3,c9,a4⟩:=IsSlice.elem f a1
    obtain⟨d0,rfl,q⟩:=a3
    obtain⟨d1,d2,rfl⟩:=IsSlice.val q
    refine ZA rfl rfl (Zd U52 S99 rfl rfl a2) (ZA rfl rfl (Zz 0 S99 rfl a4 rfl rfl) (ZA rfl rfl (ZW rfl) (ZI hx E199 rfl txg_line_1_ok rfl ⟨q,trivial⟩ ?_)))
    intro d3 d4 hx
    refine Run.lcz_s [] 3 ZB rfl (ZG hx rfl (λa5 hx=> ?_) (λa5 hx=> ?_))
    ·
     refine Run.cnz_b [] 6 ZB rfl ?_
     replace hx:=ZP j hx
     exact ZC ⟨(w64 ((w64 ((sr64 (u64i (w64 (c.1+c.2))) (((1:UInt64).toNat:Int)).toNat).toNat:Int))+1),c.2),⟨rfl,rfl,rfl⟩,hx⟩ rfl rfl rfl
    ·
     refine Run.cnz_b [] 5 ZB rfl ?_
     replace hx:=ZP j hx
     exact ZC ⟨(c.1,w64 ((sr64 (u64i (w64 (c.1+c.2))) (((1:UInt64).toNat:Int)).toNat).toNat:Int)),⟨rfl,rfl,rfl⟩,hx⟩ rfl rfl rfl
   ·
    refine Run.cnz_k [] 2 ZB rfl ?_
    obtain rfl:=ZH j hx
    refine Run.nnz_kb [] 2 ZB rfl ?_
    exact ZC ⟨rfl,rfl,rfl⟩ rfl rfl rfl
theorem txg_line_ok (f:List Line)(d:Int)(H:Heaplet){a:Option Addr}{b:Nat}{c:Nat}(h:IsSlice H R_Line 13 (.slice a b c) f)(r:Option Int)(hx:txg_line f d=some r):
  Does Tryz.prog 139 #[.slice a b c,.int .i64 d] [] H (λu K' H'=>∃v0:Value,u=v0∧K'= []∧H=H'∧PE 13 (.slice a b c) r v0∧True):=by
 refine Does.enterL (vs:=[.slice a b c,.int .i64 d]) (l:=[(0,.slice a b c),(1,.int .i64 d)]) Tryz.func139 rfl rfl ⟨rfl,rfl,trivial⟩ (λw hlt=> ?_)
 unfold txg_line at hx
 refine Run.cl [] 9 ZB rfl (ZI hx E198 rfl slices_BinarySearchFunc_int_ok rfl ⟨h,trivial⟩ ?_)
 intro v x hx
 refine Run.lc_s [] 14 ZB rfl (ZG hx rfl (λm hx=> ?_) (λm hx=> ?_))
 ·
  refine Run.cnz_k [] 7 ZB rfl (Zm (vs:=[.pointer none]) (K:=[]) (rst:=[]) (.inl rfl) rfl rfl (Zs rfl rfl) ZT ?_)
  obtain rfl:=Option.some.inj hx
  exact⟨.pointer none,rfl,rfl,rfl,rfl,trivial⟩
 ·
  refine Run.cl_s [] 6 ZB rfl ?_
  obtain⟨y,p,hx⟩:=ZJ hx
  obtain⟨i,j,z,k,q,a0,a1⟩:=IsSlice.elem h p
  obtain⟨a2,rfl,s⟩:=q
  obtain⟨a3,a4,rfl⟩:=IsSlice.val s
  refine ZA rfl rfl (Zd U52 S99 rfl rfl k) (Run.lnz_s [] 4 ZB rfl (Zm (vs:=[.pointer (some ⟨i,j,none⟩)]) (K:=[]) (rst:=[]) (.inl rfl) rfl rfl (Zs rfl rfl) ZT ?_))
  obtain rfl:=Option.some.inj hx
  exact⟨.pointer (some ⟨i,j,none⟩),rfl,rfl,rfl,⟨_,_,rfl,k⟩,trivial⟩
theorem txg_kin_ok{j f}:Con Tryz.prog 195 true ([.sl false R_Line 13 j]++sp_Line false f) (txg_kin j f) (λr=> [.b r]):=by
 intro H g0 g1 g2 d g3 g4 g5 g6 r hx
 refine Does.enterC Tryz.func195 rfl rfl ?_
 intro w
 unfold txg_kin at hx
 refine Run.cl [] 2 ZB rfl (ZV rfl rfl (λg7 g8=>Run.lc_s [] 4 ZB rfl (Zh (so:=[(_,[])]) 10 rfl Mixed ⟨by kernel_rfl,by kernel_rfl⟩ (ZX [0] rfl) ?_)))
 refine JB.run 6 [0,1,2,4,5,6] [0,0] ZB rfl ?_
 refine JB.one (i:=3) (by kernel_rfl) ?_
 refine JOB.step rfl trivial rfl (λK hK=> ?_)
 obtain⟨g9,s,hx⟩:=ZU hx
 refine Zg (vs:=[_,_]) (args:=[_,_]) (K:=[]) (rst:=[_]) E139 rfl rfl rfl ZT (txg_line_ok j f.Owner _ d _ s) rfl (λh0 h1 h2 v h3 h4=> ?_)
 obtain⟨h5,rfl,rfl,rfl,p,-⟩:=v
 refine JL.nil (hK _ _ _ (Hle.refl _) (ZX [0] rfl) ?_)
 refine JB.one (i:=7) (by kernel_rfl) ?_
 refine JOB.step rfl trivial rfl (λK hK=> ?_)
 obtain⟨h6,x,hx⟩:=ZU hx
 refine Zg (vs:=[_,_]) (args:=[_,_]) (K:=[]) (rst:=[_]) E139 rfl rfl rfl ZT (txg_line_ok j f.Prev _ d _ x) rfl (λh7 h8 h9 y i0 i1=> ?_)
 obtain⟨i2,rfl,rfl,rfl,h,-⟩:=y
 refine JL.nil (hK _ _ _ (Hle.refl _) (ZX [0] rfl) ?_)
 refine JB.run 2 [8,9] [] ZB rfl ?_
 refine JB.doneN (by kernel_rfl) ?_
 refine Run.nc_s [] 2 ZB rfl (ZO hx [3,6] [0] rfl rfl (λk l0 o0 l o g=>∃q:Unit,l=l0∧o=o0∧H=g∧k=.inl q) (λk i3 hx=> ?_) (λk c hx=> ?_))
 ·
  rintro _ _ _ ⟨q,rfl,rfl,rfl,rfl⟩
  simp only[Sum.elim_inl]at hx
  refine Run.nc_s [] 2 ZB rfl (ZO hx [] [] rfl rfl (λm l0 o0 l o g=>l=(4,.bool m)::l0∧o=o0∧H=g) (λm i4 hx=> ?_) (λm i5 hx=> ?_))
  ·
   rintro _ _ _ ⟨rfl,rfl,rfl⟩
   refine Run.nnz_s [] 2 ZB rfl ?_
   exact ZD [] rfl hx rfl rfl
  ·
   refine Zh (so:=[(_,[])]) 22 rfl Mixed ⟨by kernel_rfl,by kernel_rfl⟩ (ZX [0] rfl) ?_
   refine JB.val (i:=0) [] rfl (ZW rfl) ?_
   obtain⟨i6,z,hx⟩:=ZU hx
   obtain⟨a0,a1,hx⟩:=ZJ hx
   obtain⟨i7,i8,i9,a2,a3,j0,a4⟩:=PE.elem h z d a1
   obtain⟨j1,rfl,a5⟩:=a3
   obtain⟨j2,j3,rfl⟩:=IsSlice.val a5
   refine JB.val (i:=1) [] rfl (R.nilO rfl a2) ?_
   refine JB.val (i:=2) [] rfl (R.fa F99_4 rfl) ?_
   refine JB.val (i:=3) [] rfl (ZY S27 rfl (a4 4 _ rfl)) ?_
   refine JB.run 2 [4,5] [0] ZB rfl ?_
   refine JB.val (i:=6) [] rfl (R.lss32 (a:=a0.Txg) (b:=f.Txg) rfl rfl) ?_
   refine JB.val (i:=7) [] rfl (ZW rfl) ?_
   refine JB.gX 67 hx rfl (λa6 hx=> ?_) (λa6 hx=> ?_)
   ·
    refine JB.run 14 [8,9,10,11,12,13,14,15,16,17,18,19,20,21] [] ZB rfl ?_
    refine JB.doneN (by kernel_rfl) ?_
    obtain rfl:=Option.some.inj hx
    refine JN.forget 0 ?_
    exact ZC ⟨rfl,rfl,rfl⟩ rfl rfl rfl
   ·
    refine JB.val (i:=8) [] rfl (ZW rfl) ?_
    obtain⟨j4,a7,hx⟩:=ZU hx
    obtain⟨a8,a9,hx⟩:=ZJ hx
    obtain⟨j5,j6,j7,b0,b1,j8,b2⟩:=PE.elem h a7 d a9
    obtain⟨j9,rfl,b3⟩:=b1
    obtain⟨k0,k1,rfl⟩:=IsSlice.val b3
    refine JB.val (i:=9) [] rfl (R.nilO rfl b0) ?_
    refine JB.val (i:=10) [] rfl (R.fa F99_4 rfl) ?_
    refine JB.val (i:=11) [] rfl (ZY S27 rfl (b2 4 _ rfl)) ?_
    refine JB.run 2 [12,13] [0] ZB rfl ?_
    refine JB.val (i:=14) [] rfl (R.eql32 (a:=a8.Txg) (b:=f.Txg) rfl rfl) ?_
    refine JB.val (i:=15) [] rfl (ZW rfl) ?_
    refine JB.gX 75 hx rfl (λb4 hx=> ?_) (λb4 hx=> ?_)
    ·
     refine JB.run 2 [16,17] [0] ZB rfl ?_
     refine JB.val (i:=18) [] rfl (R.eql8 (a:=f.Kind) (b:=(1:UInt8)) rfl rfl) ?_
     refine JB.run 3 [19,20,21] [] ZB rfl ?_
     refine JB.doneN (by kernel_rfl) ?_
     obtain rfl:=Option.some.inj hx
     refine JN.forget 0 ?_
     exact ZC ⟨rfl,rfl,rfl⟩ rfl rfl rfl
    ·
     refine JB.run 6 [16,17,18,19,20,21] [] ZB rfl ?_
     refine JB.doneN (by kernel_rfl) ?_
     obtain rfl:=Option.some.inj hx
     refine JN.forget 0 ?_
     exact ZC ⟨rfl,rfl,rfl⟩ rfl rfl rfl
 ·
  refine Run.cl [] 4 ZB rfl (ZA rfl rfl (R.eqlNP U190 rfl rfl p) (ZA rfl rfl (ZW rfl) (ZQ 18 hx rfl (λb5 hx=> ?_) (λb5 hx=> ?_))))
  ·
   refine Run.lnz_s [] 28 ZB rfl (JN.blkR ?_)
   obtain rfl:=Option.some.inj hx
   clear hx;have hx:=c
   simp only[Sum.elim_inl,Sum.elim_inr]at hx
   refine Run.nnz_kk [] 2 ZB rfl ?_
   exact ZD [] rfl hx rfl rfl
  ·
   refine Run.llz [] 3 ZB rfl ?_
   obtain⟨k2,b6,hx⟩:=ZU hx
   obtain⟨b7,b8,hx⟩:=ZJ hx
   obtain⟨k3,k4,k5,b9,c0,k6,c1⟩:=PE.elem p b6 d b8
   obtain⟨k7,rfl,c2⟩:=c0
   obtain⟨k8,k9,rfl⟩:=IsSlice.val c2
   refine ZA rfl rfl (R.nilO rfl b9) (Run.llz [] 3 ZB rfl (ZA rfl rfl (ZY S5 rfl (c1 1 _ rfl)) (Zq rfl rfl rfl (ZA rfl rfl (R.neq8 (a:=b7.Kind) (b:=(1:UInt8)) rfl rfl) (Run.llz [] 2 ZB rfl (ZQ 25 hx rfl (λc3 hx=> ?_) (λc3 hx=> ?_)))))))
   ·
    refine Run.lnz_s [] 21 ZB rfl (JN.blkR ?_)
    obtain rfl:=Option.some.inj hx
    clear hx;have hx:=c
    simp only[Sum.elim_inl,Sum.elim_inr]at hx
    refine Run.nnz_kk [] 2 ZB rfl ?_
    exact ZD [] rfl hx rfl rfl
   ·
    refine Run.llz [0] 5 ZB rfl (ZA rfl rfl (R.eql8 (a:=f.Kind) (b:=(1:UInt8)) rfl rfl) (Run.llz [] 2 ZB rfl (ZQ 29 hx rfl (λc4 hx=> ?_) (λc4 hx=> ?_))))
    ·
     refine Run.lcz_s [0,0] 16 ZB rfl (ZG hx rfl (λc5 hx=> ?_) (λc5 hx=> ?_))
     ·
      refine Run.cnz_b [] 7 ZB rfl ?_
      obtain rfl:=Option.some.inj hx
      clear hx;have hx:=c
      simp only[Sum.elim_inl,Sum.elim_inr]at hx
      refine Run.nnz_kk [] 2 ZB rfl ?_
      exact ZD [] rfl hx rfl rfl
     ·
      refine Run.ccz [0] 8 ZB rfl (ZG hx rfl (λc6 hx=> ?_) (λc6 hx=> ?_))
      ·
       refine Run.cnz_b [] 7 ZB rfl ?_
       obtain rfl:=Option.some.inj hx
       clear hx;have hx:=c
       simp only[Sum.elim_inl,Sum.elim_inr]at hx
       refine Run.nnz_kk [] 2 ZB rfl ?_
       exact ZD [] rfl hx rfl rfl
      ·
       refine JC.seq (Zh (so:=[(_,[])]) 19 rfl Mixed ⟨by kernel_rfl,by kernel_rfl⟩ (ZX [0] rfl) ?_)
       refine JB.val (i:=0) [] rfl (ZW rfl) ?_
       refine JB.val (i:=1) [] rfl (R.eqlNP U190 rfl rfl h) ?_
       refine JB.val (i:=2) [] rfl (ZW rfl) ?_
       refine JB.gX 44 hx rfl (λc7 hx=> ?_) (λc7 hx=> ?_)
       ·
        refine JB.run 16 [3,4,5,6,7,8,9,10,11,12,13,14,15,16,17,18] [] ZB rfl ?_
        refine JB.doneN (by kernel_rfl) ?_
        refine Run.nnz_s [] 8 ZB rfl (JN.blkR ?_)
        obtain rfl:=Option.some.inj hx
        clear hx;have hx:=c
        simp only[Sum.elim_inl,Sum.elim_inr]at hx
        refine Run.nnz_kk [] 2 ZB rfl ?_
        exact ZD [] rfl hx rfl rfl
       ·
        refine JB.val (i:=3) [] rfl (ZW rfl) ?_
        obtain⟨l1,c8,hx⟩:=ZU hx
        obtain⟨c9,d0,hx⟩:=ZJ hx
        obtain⟨l2,l3,l4,d1,d2,l5,d3⟩:=PE.elem h c8 d d0
        obtain⟨l6,rfl,d4⟩:=d2
        obtain⟨l7,l8,rfl⟩:=IsSlice.val d4
        refine JB.val (i:=4) [] rfl (R.nilO rfl d1) ?_
        refine JB.val (i:=5) [] rfl (R.fa F99_1 rfl) ?_
        refine JB.val (i:=6) [] rfl (ZY S5 rfl (d3 1 _ rfl)) ?_
        refine JB.val (i:=7) [] rfl (R.neq8 (a:=c9.Kind) (b:=(2:UInt8)) rfl rfl) ?_
        refine JB.run 2 [8,9] [] ZB rfl ?_
        refine JB.gX 51 hx rfl (λd5 hx=> ?_) (λd5 hx=> ?_)
        ·
         refine JB.run 9 [10,11,12,13,14,15,16,17,18] [] ZB rfl ?_
         refine JB.doneN (by kernel_rfl) ?_
         refine Run.nnz_s [] 8 ZB rfl (JN.blkR ?_)
         obtain rfl:=Option.some.inj hx
         clear hx;have hx:=c
         simp only[Sum.elim_inl,Sum.elim_inr]at hx
         refine Run.nnz_kk [] 2 ZB rfl ?_
         exact ZD [] rfl hx rfl rfl
        ·
         refine JB.val (i:=10) [] rfl (ZW rfl) ?_
         obtain⟨l9,d6,hx⟩:=ZU hx
         obtain⟨m0,d7,hx⟩:=ZJ hx
         obtain⟨m1,m2,m3,d8,d9,m4,e0⟩:=PE.elem h d6 d d7
         obtain⟨m5,rfl,e1⟩:=d9
         obtain⟨m6,m7,rfl⟩:=IsSlice.val e1
         refine JB.val (i:=11) [] rfl (R.nilO rfl d8) ?_
         refine JB.val (i:=12) [] rfl (R.fa F99_6 rfl) ?_
         refine JB.val (i:=13) [] rfl (ZY S3 rfl (e0 6 _ rfl)) ?_
         refine JB.run 5 [14,15,16,17,18] [0] ZB rfl ?_
         refine JB.doneN (by kernel_rfl) ?_
         refine Zw (ZG hx rfl (λe2 hx=> ?_) (λe2 hx=> ?_))
         ·
          refine Run.cnz_b [] 7 ZB rfl ?_
          obtain rfl:=Option.some.inj hx
          clear hx;have hx:=c
          simp only[Sum.elim_inl,Sum.elim_inr]at hx
          refine Run.nnz_kk [] 2 ZB rfl ?_
          exact ZD [] rfl hx rfl rfl
         ·
          refine Run.cnz_b [] 2 ZB rfl ?_
          obtain rfl:=Option.some.inj hx
          exact ZC ⟨(),rfl,rfl,rfl,rfl⟩ rfl rfl rfl
    ·
     refine Run.lcz_s [0] 20 ZB rfl (ZG hx rfl (λe3 hx=> ?_) (λe3 hx=> ?_))
     ·
      refine Run.cnz_b [] 7 ZB rfl ?_
      obtain rfl:=Option.some.inj hx
      clear hx;have hx:=c
      simp only[Sum.elim_inl,Sum.elim_inr]at hx
      refine Run.nnz_kk [] 2 ZB rfl ?_
      exact ZD [] rfl hx rfl rfl
     ·
      refine JC.seq (Zh (so:=[(_,[])]) 19 rfl Mixed ⟨by kernel_rfl,by kernel_rfl⟩ (ZX [0] rfl) ?_)
      refine JB.val (i:=0) [] rfl (ZW rfl) ?_
      refine JB.val (i:=1) [] rfl (R.eqlNP U190 rfl rfl h) ?_
      refine JB.val (i:=2) [] rfl (ZW rfl) ?_
      refine JB.gX 44 hx rfl (λe4 hx=> ?_) (λe4 hx=> ?_)
      ·
       refine JB.run 16 [3,4,5,6,7,8,9,10,11,12,13,14,15,16,17,18] [] ZB rfl ?_
       refine JB.doneN (by kernel_rfl) ?_
       refine Run.nnz_s [] 8 ZB rfl (JN.blkR ?_)
       obtain rfl:=Option.some.inj hx
       clear hx;have hx:=c
       simp only[Sum.elim_inl,Sum.elim_inr]at hx
       refine Run.nnz_kk [] 2 ZB rfl ?_
       exact ZD [] rfl hx rfl rfl
      ·
       refine JB.val (i:=3) [] rfl (ZW rfl) ?_
       obtain⟨m8,e5,hx⟩:=ZU hx
       obtain⟨e6,e7,hx⟩:=ZJ hx
       obtain⟨m9,n0,n1,e8,e9,n2,f0⟩:=PE.elem h e5 d e7
       obtain⟨n3,rfl,f1⟩:=e9
       obtain⟨n4,n5,rfl⟩:=IsSlice.val f1
       refine JB.val (i:=4) [] rfl (R.nilO rfl e8) ?_
       refine JB.val (i:=5) [] rfl (R.fa F99_1 rfl) ?_
       refine JB.val (i:=6) [] rfl (ZY S5 rfl (f0 1 _ rfl)) ?_
       refine JB.val (i:=7) [] rfl (R.neq8 (a:=e6.Kind) (b:=(2:UInt8)) rfl rfl) ?_
       refine JB.run 2 [8,9] [] ZB rfl ?_
       refine JB.gX 51 hx rfl (λf2 hx=> ?_) (λf2 hx=> ?_)
       ·
        refine JB.run 9 [10,11,12,13,14,15,16,17,18] [] ZB rfl ?_
        refine JB.doneN (by kernel_rfl) ?_
        refine Run.nnz_s [] 8 ZB rfl (JN.blkR ?_)
        obtain rfl:=Option.some.inj hx
        clear hx;have hx:=c
        simp only[Sum.elim_inl,Sum.elim_inr]at hx
        refine Run.nnz_kk [] 2 ZB rfl ?_
        exact ZD [] rfl hx rfl rfl
       ·
        refine JB.val (i:=10) [] rfl (ZW rfl) ?_
        obtain⟨n6,f3,hx⟩:=ZU hx
        obtain⟨n7,f4,hx⟩:=ZJ hx
        obtain⟨n8,n9,o1,f5,f6,o2,f7⟩:=PE.elem h f3 d f4
        obtain⟨o3,rfl,f8⟩:=f6
        obtain⟨o4,o5,rfl⟩:=IsSlice.val f8
        refine JB.val (i:=11) [] rfl (R.nilO rfl f5) ?_
        refine JB.val (i:=12) [] rfl (R.fa F99_6 rfl) ?_
        refine JB.val (i:=13) [] rfl (ZY S3 rfl (f7 6 _ rfl)) ?_
        refine JB.run 5 [14,15,16,17,18] [0] ZB rfl ?_
        refine JB.doneN (by kernel_rfl) ?_
        refine Zw (ZG hx rfl (λf9 hx=> ?_) (λf9 hx=> ?_))
        ·
         refine Run.cnz_b [] 7 ZB rfl ?_
         obtain rfl:=Option.some.inj hx
         clear hx;have hx:=c
         simp only[Sum.elim_inl,Sum.elim_inr]at hx
         refine Run.nnz_kk [] 2 ZB rfl ?_
         exact ZD [] rfl hx rfl rfl
        ·
         refine Run.cnz_b [] 2 ZB rfl ?_
         obtain rfl:=Option.some.inj hx
         exact ZC ⟨(),rfl,rfl,rfl,rfl⟩ rfl rfl rfl
theorem txg_mayLines_ok{z}:Con Tryz.prog 137 true ([.sl false R_Line 13 z]) (txg_mayLines z) (λr=> [.b r]):=by
 intro H d2 d3 d4 c r hx
 refine Does.enterC Tryz.func137 rfl rfl ?_
 intro w
 unfold txg_mayLines at hx
 refine Run.cl [] 9 ZB rfl (ZA rfl rfl (ZM U52 rfl (IsSlice.long c)) (Run.lcz_s [] 3 ZB rfl (ZG hx rfl (λa3 hx=> ?_) (λa3 hx=> ?_))))
 ·
  refine Run.cnz_k [] 7 ZB rfl ?_
  exact ZD [] rfl hx rfl rfl
 ·
  refine Run.cl_s [] 6 ZB rfl (ZA rfl rfl (ZM U52 rfl (IsSlice.long c)) (Run.lcz_s [] 3 ZB rfl (ZO hx [0] [] rfl rfl (λq l0 o0 l o g=>∃a0:Unit,l=l0∧o=o0∧H=g∧q=.inl a0) (λq d5 hx=> ?_) (λq k hx=> ?_))))
  ·
   rintro _ _ _ ⟨a0,rfl,rfl,rfl,rfl⟩
   simp only[Sum.elim_inl]at hx
   refine Run.nl_s [] 5 ZB rfl (ZA rfl rfl (ZM U52 rfl (IsSlice.long c)) (Run.lcz_s [] 3 ZB rfl (ZO hx [] [] rfl rfl (λs l0 o0 l o g=>∃a1:Unit,l=l0∧o=o0∧H=g∧s=.inl a1) (λs d6 hx=> ?_) (λs h hx=> ?_))))
   ·
    rintro _ _ _ ⟨a1,rfl,rfl,rfl,rfl⟩
    simp only[Sum.elim_inl]at hx
    refine Run.nnz_s [] 7 ZB rfl ?_
    exact ZD [] rfl hx rfl rfl
   ·
    refine JC.block (ZS [0,51,52] [] rfl rfl (λl0 o0 v l o g=>l=(53,.int .i64 ((v:Nat):Int))::l0∧o=o0∧H=g) hx ⟨rfl,rfl,rfl⟩ rfl ?_)
    ·
     rintro d7 v _ _ _ ⟨rfl,rfl,rfl⟩ d8 hx f
     unfold txg_mayLines_l2 at hx
     refine Run.cc [] 6 ZB rfl (ZG hx rfl (λa2 hx=> ?_) (λa2 hx=> ?_))
     ·
      refine Run.cl_s [] 6 ZB rfl ?_
      obtain⟨a4,a5,hx⟩:=ZJ hx
      obtain⟨d9,e0,e1,a6,a7,e2,a8⟩:=IsSlice.elem c a5
      obtain⟨e3,rfl,x⟩:=a7
      obtain⟨e4,e5,rfl⟩:=IsSlice.val x
      refine ZA rfl rfl (Zd U52 S99 rfl rfl a6) (ZA rfl rfl (Zz 0 S99 rfl a8 rfl rfl) (JL.alloc Z99 rfl (λa9 e6=>Run.ll_s [0,0] 7 ZB rfl (ZA rfl rfl (R.gtr32 (a:=a4.Txg) (b:=(16777215:UInt32)) rfl rfl) (ZA rfl rfl (ZW rfl) (ZQ 60 hx rfl (λb0 hx=> ?_) (λb0 hx=> ?_)))))))
      ·
       refine Run.lnz_sbk [] 38 ZB rfl ?_
       obtain rfl:=ZH f hx
       refine Run.nnz_kb [] 2 ZB rfl ?_
       clear hx;have hx:=h
       simp only[Sum.elim_inl,Sum.elim_inr]at hx
       refine Run.nnz_kk [] 2 ZB rfl ?_
       exact ZD [] rfl hx rfl rfl
      ·
       refine Run.llz [0] 8 ZB rfl (ZQ 65 hx rfl (λb1 hx=> ?_) (λb1 hx=> ?_))
       ·
        refine Run.lnz_sbk [] 33 ZB rfl ?_
        obtain rfl:=ZH f hx
        refine Run.nnz_kb [] 2 ZB rfl ?_
        clear hx;have hx:=h
        simp only[Sum.elim_inl,Sum.elim_inr]at hx
        refine Run.nnz_kk [] 2 ZB rfl ?_
        exact ZD [] rfl hx rfl rfl
       ·
        refine Run.llz [0] 8 ZB rfl (ZQ 70 hx rfl (λb2 hx=> ?_) (λb2 hx=> ?_))
        ·
         refine Run.lnz_sbk [] 28 ZB rfl ?_
         obtain rfl:=ZH f hx
         refine Run.nnz_kb [] 2 ZB rfl ?_
         clear hx;have hx:=h
         simp only[Sum.elim_inl,Sum.elim_inr]at hx
         refine Run.nnz_kk [] 2 ZB rfl ?_
         exact ZD [] rfl hx rfl rfl
        ·
         refine Run.llz [0] 5 ZB rfl (ZI hx E42 rfl ptr_Check_ok rfl trivial ?_)
         intro e7 e8 hx
         refine Run.llz [] 4 ZB rfl (ZQ 76 hx rfl (λb3 hx=> ?_) (λb3 hx=> ?_))
         ·
          refine Run.lnz_sbk [] 22 ZB rfl ?_
          obtain rfl:=ZH f hx
          refine Run.nnz_kb [] 2 ZB rfl ?_
          clear hx;have hx:=h
          simp only[Sum.elim_inl,Sum.elim_inr]at hx
          refine Run.nnz_kk [] 2 ZB rfl ?_
          exact ZD [] rfl hx rfl rfl
         ·
          refine Run.llz [0] 5 ZB rfl (ZI hx E194 rfl dead_Check_ok rfl ⟨x,trivial⟩ ?_)
          intro e9 f0 hx
          refine Run.llz [] 4 ZB rfl (ZQ 82 hx rfl (λy hx=> ?_) (λy hx=> ?_))
          ·
           refine Run.lnz_sbk [] 16 ZB rfl ?_
           obtain rfl:=ZH f hx
           refine Run.nnz_kb [] 2 ZB rfl ?_
           clear hx;have hx:=h
           simp only[Sum.elim_inl,Sum.elim_inr]at hx
           refine Run.nnz_kk [] 2 ZB rfl ?_
           exact ZD [] rfl hx rfl rfl
          ·
           refine Run.llz [0] 5 ZB rfl (ZI hx E195 rfl txg_kin_ok rfl ⟨c,x,trivial⟩ ?_)
           intro f1 f2 hx
           refine Run.lcz_s [] 5 ZB rfl (ZG hx rfl (λb4 hx=> ?_) (λb4 hx=> ?_))
           ·
            refine Run.cnz_bk [] 8 ZB rfl ?_
            obtain rfl:=ZH f hx
            refine Run.nnz_kb [] 2 ZB rfl ?_
            clear hx;have hx:=h
            simp only[Sum.elim_inl,Sum.elim_inr]at hx
            refine Run.nnz_kk [] 2 ZB rfl ?_
            exact ZD [] rfl hx rfl rfl
           ·
            refine Run.clz_bs [] 4 ZB rfl (ZA rfl rfl (Zi rfl rfl (of_decide_eq_true a2) (IsSlice.lenI c)) (Run.lnz [] 2 ZB rfl ?_))
            replace hx:=ZP f hx
            refine JN.forget 0 ?_
            exact ZC ⟨v+1,⟨rfl,rfl,rfl⟩,hx⟩ rfl rfl rfl
     ·
      refine Run.cnz_k [] 2 ZB rfl ?_
      obtain rfl:=ZH f hx
      refine Run.nnz_kb [] 2 ZB rfl ?_
      exact ZC ⟨(),rfl,rfl,rfl,rfl⟩ rfl rfl rfl
  ·
   refine JC.block (ZS [0,10,11] [] rfl rfl (λl0 o0 j l o g=>l=(12,.int .i64 ((j:Nat):Int))::l0∧o=o0∧H=g) hx ⟨rfl,rfl,rfl⟩ rfl ?_)
   ·
    rintro f3 j _ _ _ ⟨rfl,rfl,rfl⟩ f4 hx d
    unfold txg_mayLines_l1 at hx
    refine Run.cc [] 6 ZB rfl (ZG hx rfl (λm hx=> ?_) (λm hx=> ?_))
    ·
     refine Run.cl_s [] 7 ZB rfl ?_
     obtain⟨p,b5,hx⟩:=ZJ hx
     obtain⟨f5,f6,f7,b6,b7,f8,b8⟩:=IsSlice.elem c b5
     obtain⟨f9,rfl,b9⟩:=b7
     obtain⟨g0,g1,rfl⟩:=IsSlice.val b9
     refine ZA rfl rfl (Zd U52 S99 rfl rfl b6) (ZA rfl rfl (Zz 0 S99 rfl b8 rfl rfl) (JL.alloc Z99 rfl (λg2 g3=>Run.lc_s [0] 5 ZB rfl (Zh (so:=[(_,[])]) 33 rfl Mixed ⟨by kernel_rfl,by kernel_rfl⟩ (ZX [0] rfl) ?_))))
     refine JB.run 4 [0,1,2,3] [0] ZB rfl ?_
     refine JB.gX 20 hx rfl (λc0 hx=> ?_) (λc0 hx=> ?_)
     ·
      refine JB.run 29 [4,5,6,7,8,9,10,11,12,13,14,15,16,17,18,19,20,21,22,23,24,25,26,27,28,29,30,31,32] [] ZB rfl ?_
      refine JB.doneN (by kernel_rfl) ?_
      refine Run.nnz_sbk [] 10 ZB rfl ?_
      obtain rfl:=ZH d hx
      refine Run.nnz_kb [] 2 ZB rfl ?_
      clear hx;have hx:=k
      simp only[Sum.elim_inl,Sum.elim_inr]at hx
      refine Run.nnz_kk [] 2 ZB rfl ?_
      exact ZD [] rfl hx rfl rfl
     ·
      refine JB.run 5 [4,5,6,7,8] [0] ZB rfl ?_
      refine JB.gX 25 hx rfl (λc1 hx=> ?_) (λc1 hx=> ?_)
      ·
       refine JB.run 24 [9,10,11,12,13,14,15,16,17,18,19,20,21,22,23,24,25,26,27,28,29,30,31,32] [] ZB rfl ?_
       refine JB.doneN (by kernel_rfl) ?_
       refine Run.nnz_sbk [] 10 ZB rfl ?_
       obtain rfl:=ZH d hx
       refine Run.nnz_kb [] 2 ZB rfl ?_
       clear hx;have hx:=k
       simp only[Sum.elim_inl,Sum.elim_inr]at hx
       refine Run.nnz_kk [] 2 ZB rfl ?_
       exact ZD [] rfl hx rfl rfl
      ·
       refine JB.run 3 [9,10,11] [] ZB rfl ?_
       refine JB.gX 28 hx rfl (λc2 hx=> ?_) (λc2 hx=> ?_)
       ·
        refine JB.run 5 [12,13,14,15,16] [0] ZB rfl ?_
        obtain⟨g4,c3,hx⟩:=ZJ hx
        obtain⟨a9,g5,g6,c4,c5,g7,c6⟩:=IsSlice.elem c c3
        obtain⟨g8,rfl,c7⟩:=c5
        obtain⟨g9,h0,rfl⟩:=IsSlice.val c7
        refine JB.val (i:=17) [] rfl (Zd U52 S99 rfl rfl c4) ?_
        refine JB.val (i:=18) [] rfl (R.fa F99_0 rfl) ?_
        refine JB.val (i:=19) [] rfl (ZY S3 rfl (c6 0 _ rfl)) ?_
        refine JB.run 4 [20,21,22,23] [] ZB rfl ?_
        refine JB.gX 40 hx rfl (λc8 hx=> ?_) (λc8 hx=> ?_)
        ·
         refine JB.run 9 [24,25,26,27,28,29,30,31,32] [] ZB rfl ?_
         refine JB.doneN (by kernel_rfl) ?_
         refine Run.nnz_sbk [] 10 ZB rfl ?_
         obtain rfl:=ZH d hx
         refine Run.nnz_kb [] 2 ZB rfl ?_
         clear hx;have hx:=k
         simp only[Sum.elim_inl,Sum.elim_inr]at hx
         refine Run.nnz_kk [] 2 ZB rfl ?_
         exact ZD [] rfl hx rfl rfl
        ·
         refine JB.run 2 [24,25] [0] ZB rfl ?_
         refine JB.val (i:=26) [] rfl (R.neq8 (a:=p.Kind) (b:=(1:UInt8)) rfl rfl) ?_
         refine JB.val (i:=27) [] rfl (ZW rfl) ?_
         refine JB.gX 44 hx rfl (λc9 hx=> ?_) (λc9 hx=> ?_)
         ·
          refine JB.run 2 [28,29] [0] ZB rfl ?_
          refine JB.val (i:=30) [] rfl (R.neq8 (a:=p.Kind) (b:=(2:UInt8)) rfl rfl) ?_
          refine JB.run 2 [31,32] [] ZB rfl ?_
          refine JB.doneN (by kernel_rfl) ?_
          refine Zw (ZG hx rfl (λy hx=> ?_) (λy hx=> ?_))
          ·
           refine Run.cnz_bk [] 8 ZB rfl ?_
           obtain rfl:=ZH d hx
           refine Run.nnz_kb [] 2 ZB rfl ?_
           clear hx;have hx:=k
           simp only[Sum.elim_inl,Sum.elim_inr]at hx
           refine Run.nnz_kk [] 2 ZB rfl ?_
           exact ZD [] rfl hx rfl rfl
          ·
           refine Run.clz_bs [] 4 ZB rfl (ZA rfl rfl (Zi rfl rfl (of_decide_eq_true m) (IsSlice.lenI c)) (Run.lnz [] 2 ZB rfl ?_))
           replace hx:=ZP d hx
           refine JN.forget 0 ?_
           exact ZC ⟨j+1,⟨rfl,rfl,rfl⟩,hx⟩ rfl rfl rfl
         ·
          refine JB.run 5 [28,29,30,31,32] [] ZB rfl ?_
          refine JB.doneN (by kernel_rfl) ?_
          refine Run.nlz_sbs [] 6 ZB rfl (ZA rfl rfl (Zi rfl rfl (of_decide_eq_true m) (IsSlice.lenI c)) (Run.lnz [] 2 ZB rfl ?_))
          replace hx:=ZP d hx
          refine JN.forget 0 ?_
          exact ZC ⟨j+1,⟨rfl,rfl,rfl⟩,hx⟩ rfl rfl rfl
       ·
        refine JB.run 14 [12,13,14,15,16,17,18,19,20,21,22,23,24,25] [0] ZB rfl ?_
        refine JB.val (i:=26) [] rfl (R.neq8 (a:=p.Kind) (b:=(1:UInt8)) rfl rfl) ?_
        refine JB.val (i:=27) [] rfl (ZW rfl) ?_
        refine JB.gX 44 hx rfl (λd0 hx=> ?_) (λd0 hx=> ?_)
        ·
         refine JB.run 2 [28,29] [0] ZB rfl ?_
         refine JB.val (i:=30) [] rfl (R.neq8 (a:=p.Kind) (b:=(2:UInt8)) rfl rfl) ?_
         refine JB.run 2 [31,32] [] ZB rfl ?_
         refine JB.doneN (by kernel_rfl) ?_
         refine Zw (ZG hx rfl (λd1 hx=> ?_) (λd1 hx=> ?_))
         ·
          refine Run.cnz_bk [] 8 ZB rfl ?_
          obtain rfl:=ZH d hx
          refine Run.nnz_kb [] 2 ZB rfl ?_
          clear hx;have hx:=k
          simp only[Sum.elim_inl,Sum.elim_inr]at hx
          refine Run.nnz_kk [] 2 ZB rfl ?_
          exact ZD [] rfl hx rfl rfl
         ·
          refine Run.clz_bs [] 4 ZB rfl (ZA rfl rfl (Zi rfl rfl (of_decide_eq_true m) (IsSlice.lenI c)) (Run.lnz [] 2 ZB rfl ?_))
          replace hx:=ZP d hx
          refine JN.forget 0 ?_
          exact ZC ⟨j+1,⟨rfl,rfl,rfl⟩,hx⟩ rfl rfl rfl
        ·
         refine JB.run 5 [28,29,30,31,32] [] ZB rfl ?_
         refine JB.doneN (by kernel_rfl) ?_
         refine Run.nlz_sbs [] 6 ZB rfl (ZA rfl rfl (Zi rfl rfl (of_decide_eq_true m) (IsSlice.lenI c)) (Run.lnz [] 2 ZB rfl ?_))
         replace hx:=ZP d hx
         refine JN.forget 0 ?_
         exact ZC ⟨j+1,⟨rfl,rfl,rfl⟩,hx⟩ rfl rfl rfl
    ·
     refine Run.cnz_k [] 2 ZB rfl ?_
     obtain rfl:=ZH d hx
     refine Run.nnz_kb [] 2 ZB rfl ?_
     exact ZC ⟨(),rfl,rfl,rfl,rfl⟩ rfl rfl rfl
theorem bytes_Equal_ok{c d}:Con Tryz.prog 58 true ([.sl false RU8 1 c,.sl false RU8 1 d]) (bytes_Equal c d) (λr=> [.b r]):=by
 intro H i j k f m p q h r hx
 refine Does.enterC Tryz.func58 rfl rfl ?_
 intro w
 unfold bytes_Equal at hx
 refine Run.cl [] 8 ZB rfl (ZA rfl rfl (R.toStr U26 U5 U9 rfl f) (ZA rfl rfl (ZW rfl) (ZA rfl rfl (R.toStr U26 U5 U9 rfl h) (ZA rfl rfl (R.eqlStr (a:=c) (b:=d) rfl rfl) (Run.lnz_s [] 4 ZB rfl ?_)))))
 exact ZD [] rfl hx rfl rfl
theorem txg_mayKeys_1_ok (j:List UInt8)(h:Int)(H:Heaplet){b:Option Addr}{c:Nat}{d:Nat}{a:Nat}(i:IsSlice H RU8 1 (.slice b c d) j)(r:Bool×Int)(hx:txg_mayKeys_1 j h=some r):
  Does Tryz.prog 196 #[.slice b c d,.pointer (some ⟨a,0,none⟩)] [[(a,.cells #[.int .i64 h] 3 (0,0))]] H (λu K' H'=>u=.bool r.1∧K'= [[(a,.cells #[.int .i64 r.2] 3 (0,0))]]∧H=H'∧True):=by
 refine Does.enterL (vs:=[.slice b c d,.pointer (some ⟨a,0,none⟩)]) (l:=[(0,.slice b c d),(1,.pointer (some ⟨a,0,none⟩))]) Tryz.func196 rfl rfl ⟨rfl,rfl,trivial⟩ (λw hlt=> ?_)
 unfold txg_mayKeys_1 at hx
 refine Run.cc [] 6 ZB rfl (ZO hx [1] [0] rfl rfl (λf l0 o0 l o g=>l=(3,.bool f)::l0∧o=o0∧H=g) (λf a0 hx=> ?_) (λf a1 hx=> ?_))
 ·
  rintro _ _ _ ⟨rfl,rfl,rfl⟩
  refine Run.nnz_s [] 2 ZB rfl (Zm (vs:=[.bool f]) (K:=[_]) (rst:=[]) (.inl rfl) rfl rfl (Zs rfl rfl) (Ze 0 rfl ZT) ?_)
  obtain rfl:=Option.some.inj hx
  exact⟨rfl,rfl,rfl,trivial⟩
 ·
  refine Run.clz [] 2 ZB rfl (ZA rfl rfl (ZM U26 rfl (IsSlice.long i)) (Run.llz [] 2 ZB rfl (ZQ 7 hx rfl (λp hx=> ?_) (λp hx=> ?_))))
  ·
   refine Run.llz [] 3 ZB rfl (ZA rfl rfl (ZM U26 rfl (IsSlice.long i)) (Run.llz [0] 6 ZB rfl (ZQ 12 hx rfl (λq hx=> ?_) (λq hx=> ?_))))
   ·
    refine Run.lnz [] 13 ZB rfl ?_
    obtain rfl:=Option.some.inj hx
    exact ZC ⟨rfl,rfl,rfl⟩ rfl rfl rfl
   ·
    refine Run.llz [0] 6 ZB rfl (ZQ 15 hx rfl (λs hx=> ?_) (λs hx=> ?_))
    ·
     refine Run.llz [0] 5 ZB rfl ?_
     obtain⟨a2,v,x,hx⟩:=mks_some hx
     refine JL.mkF (HF:=New H H) (R:=RU8) (y:=(0:UInt8)) (n:=h) U26 I5 rfl rfl (λ_=>rfl) RU8.one v x rfl rfl (λa3 a4 k=> ?_)
     obtain⟨a5,a6,rfl⟩:=RowOf.val k
     refine Zq rfl rfl rfl (JL.conL hx E58 rfl bytes_Equal_ok rfl (λa7 m z=>⟨(IsSlice.mono RU8.mono m i),(Lent.row' 0 z RU8.mono m rfl (k.old RU8.mono)),trivial⟩) (λ_=>trivial) ?_)
     intro a8 a9 hx
     refine Run.lnz [] 7 ZB rfl ?_
     obtain rfl:=Option.some.inj hx
     refine JN.forget 0 ?_
     exact ZC ⟨rfl,rfl,rfl⟩ rfl rfl rfl
    ·
     refine Run.lnz [] 11 ZB rfl ?_
     obtain rfl:=Option.some.inj hx
     exact ZC ⟨rfl,rfl,rfl⟩ rfl rfl rfl
  ·
   refine Run.lnz [] 17 ZB rfl ?_
   obtain rfl:=Option.some.inj hx
   exact ZC ⟨rfl,rfl,rfl⟩ rfl rfl rfl
theorem slices_IndexFunc_byte_ok (m:List (List UInt8))(p:Int)(H:Heaplet){c:Option Addr}{d:Nat}{f:Nat}{a:Nat}(h:IsSlice H (RSl RU8 1) 1 (.slice c d f) m)(r:Int×Int)(hx:slices_IndexFunc_byte m p=some r):
  Does Tryz.prog 238 #[.slice c d f,.func (.func 196) #[] #[.pointer (some ⟨a,0,none⟩)]] [[(a,.cells #[.int .i64 p] 3 (0,0))]] H (λu K' H'=>u=.int .i64 r.1∧K'= [[(a,.cells #[.int .i64 r.2] 3 (0,0))]]∧H=H'∧True):=by
 refine Does.enterL (vs:=[.slice c d f,.func (.func 196) #[] #[.pointer (some ⟨a,0,none⟩)]]) (l:=[(0,.slice c d f),(1,.func (.func 196) #[] #[.pointer (some ⟨a,0,none⟩)])]) Tryz.func238 rfl rfl ⟨rfl,rfl,trivial⟩ (λw hlt=> ?_)
 unfold slices_IndexFunc_byte at hx
 refine Run.cl [] 9 ZB rfl (ZA rfl rfl (ZM U22 rfl (IsSlice.long h)) (Run.lcz_s [] 3 ZB rfl (ZO hx [1] [] rfl rfl (λi l0 o0 l o g=>∃j:Int,l=l0∧o= [(a,.cells #[.int .i64 j] 3 (0,0))]::o0∧H=g∧i=.inl j) (λi a6 hx=> ?_) (λi v hx=> ?_))))
 ·
  rintro _ _ _ ⟨j,rfl,rfl,rfl,rfl⟩
  simp only[Sum.elim_inl]at hx
  refine Run.nnz_s [] 7 ZB rfl (Zm (vs:=[.int .i64 (-1)]) (K:=[_]) (rst:=[]) (.inl rfl) rfl rfl (Zs rfl rfl) (Ze 0 rfl ZT) ?_)
  obtain rfl:=Option.some.inj hx
  exact⟨rfl,rfl,rfl,trivial⟩
 ·
  refine JC.block (ZS [0,1,7] [] rfl rfl (λl0 o0 b l o g=>l=(8,.int .i64 ((b.2:Nat):Int))::l0∧o= [(a,.cells #[.int .i64 b.1] 3 (0,0))]::o0∧H=g) hx ⟨rfl,rfl,rfl⟩ rfl ?_)
  ·
   rintro a7 b _ _ _ ⟨rfl,rfl,rfl⟩ a8 hx k
   unfold slices_IndexFunc_byte_l1 at hx
   refine Run.cc [] 6 ZB rfl (ZG hx rfl (λq hx=> ?_) (λq hx=> ?_))
   ·
    refine Run.cl_s [] 15 ZB rfl ?_
    obtain⟨x,y,hx⟩:=ZJ hx
    obtain⟨a9,b0,b1,z,a0,b2,a1⟩:=IsSlice.elem h y
    obtain⟨b3,rfl,s⟩:=a0
    obtain⟨b4,b5,rfl⟩:=IsSlice.val s
    refine ZA rfl rfl (Zd U22 S26 rfl rfl z) (ZA rfl rfl (ZY S26 rfl (a1 0 _ rfl)) ?_)
    obtain⟨a2,a3,hx⟩:=ZU hx
    refine Zg (vs:=[_]) (args:=[_,_]) (K:=[_]) (rst:=[]) E196 rfl rfl rfl (Ze 0 rfl ZT) (txg_mayKeys_1_ok x b.1 _ s _ a3) rfl (λb6 b7 b8 a4 b9 c0=> ?_)
    obtain⟨rfl,rfl,rfl,-⟩:=a4
    refine Run.lcz_s [] 2 ZB rfl (ZG hx rfl (λa5 hx=> ?_) (λa5 hx=> ?_))
    ·
     refine Run.cnz_bk [] 9 ZB rfl ?_
     obtain rfl:=ZH k hx
     refine Run.nnz_kb [] 2 ZB rfl ?_
     clear hx;have hx:=v
     simp only[Sum.elim_inl,Sum.elim_inr]at hx
     refine Run.nnz_kk [] 2 ZB rfl (Zm (vs:=[.int .i64 ((b.2:Nat):Int)]) (K:=[_]) (rst:=[]) (.inl rfl) rfl rfl (Zs rfl rfl) (Ze 0 rfl ZT) ?_)
     obtain rfl:=Option.some.inj hx
     exact⟨rfl,rfl,rfl,trivial⟩
    ·
     refine Run.clz_bs [] 4 ZB rfl (ZA rfl rfl (Zi rfl rfl (of_decide_eq_true q) (IsSlice.lenI h)) (Run.lnz [] 2 ZB rfl ?_))
     replace hx:=ZP k hx
     exact ZC ⟨(a2.2,b.2+1),⟨rfl,rfl,rfl⟩,hx⟩ rfl rfl rfl
   ·
    refine Run.cnz_k [] 2 ZB rfl ?_
    obtain rfl:=ZH k hx
    refine Run.nnz_kb [] 2 ZB rfl ?_
    exact ZC ⟨b.1,rfl,rfl,rfl,rfl⟩ rfl rfl rfl
theorem slices_ContainsFunc_byte_ok (f:List (List UInt8))(h:Int)(H:Heaplet){b:Option Addr}{c:Nat}{d:Nat}{a:Nat}(i:IsSlice H (RSl RU8 1) 1 (.slice b c d) f)(r:Bool×Int)(hx:slices_ContainsFunc_byte f h=some r):
  Does Tryz.prog 197 #[.slice b c d,.func (.func 196) #[] #[.pointer (some ⟨a,0,none⟩)]] [[(a,.cells #[.int .i64 h] 3 (0,0))]] H (λu K' H'=>u=.bool r.1∧K'= [[(a,.cells #[.int .i64 r.2] 3 (0,0))]]∧H=H'∧True):=by
 refine Does.enterL (vs:=[.slice b c d,.func (.func 196) #[] #[.pointer (some ⟨a,0,none⟩)]]) (l:=[(0,.slice b c d),(1,.func (.func 196) #[] #[.pointer (some ⟨a,0,none⟩)])]) Tryz.func197 rfl rfl ⟨rfl,rfl,trivial⟩ (λw hlt=> ?_)
 unfold slices_ContainsFunc_byte at hx
 refine Run.cl [] 9 ZB rfl ?_
 obtain⟨j,k,hx⟩:=ZU hx
 refine Zg (vs:=[_,_]) (args:=[_,_]) (K:=[_]) (rst:=[]) E238 rfl rfl rfl (Ze 0 rfl ZT) (slices_IndexFunc_byte_ok f h _ i _ k) rfl (λp q s m v x=> ?_)
 obtain⟨rfl,rfl,rfl,-⟩:=m
 refine Run.lnz_s [] 5 ZB rfl (Zm (vs:=[.bool (decide (0≤j.1))]) (K:=[_]) (rst:=[]) (.inl rfl) rfl rfl (Zs rfl rfl) (Ze 0 rfl ZT) ?_)
 obtain rfl:=Option.some.inj hx
 exact⟨rfl,rfl,rfl,trivial⟩
theorem txg_mayKeys_ok{a c}:Con Tryz.prog 138 true ([.sl false (RSl RU8 1) 1 a,.i c]) (txg_mayKeys a c) (λr=> [.b r]):=by
 intro H m p q f r hx
 refine Does.enterC Tryz.func138 rfl rfl ?_
 intro w
 unfold txg_mayKeys at hx
 refine Run.cl [] 2 ZB rfl (ZV rfl rfl (λs v=>Run.lc_s [] 10 ZB rfl (ZO hx [] [] rfl rfl (λd l0 o0 l o g=>l=(4,.bool d)::l0∧o=o0∧H=g) (λd x hx=> ?_) (λd y hx=> ?_))))
 ·
  rintro _ _ _ ⟨rfl,rfl,rfl⟩
  refine Run.nnz_s [] 2 ZB rfl ?_
  exact ZD [] rfl hx rfl rfl
 ·
  refine Run.clz [] 2 ZB rfl (ZA rfl rfl (ZM U22 rfl (IsSlice.long f)) (Run.llz [] 2 ZB rfl (ZQ 10 hx rfl (λh hx=> ?_) (λh hx=> ?_))))
  ·
   refine Run.llz [] 5 ZB rfl ?_
   obtain⟨z,j,hx⟩:=ZU hx
   refine Zg (vs:=[_,_]) (args:=[_,_]) (K:=[_]) (rst:=[]) E197 rfl rfl rfl (Ze 0 rfl ZT) (slices_ContainsFunc_byte_ok a c _ f _ j) rfl (λa0 a1 a2 k a3 a4=> ?_)
   obtain⟨rfl,rfl,rfl,-⟩:=k
   refine Run.lnz [] 5 ZB rfl ?_
   obtain rfl:=Option.some.inj hx
   refine JN.forget 0 ?_
   exact ZC ⟨rfl,rfl,rfl⟩ rfl rfl rfl
  ·
   refine Run.lnz [] 7 ZB rfl ?_
   obtain rfl:=Option.some.inj hx
   refine JN.forget 0 ?_
   exact ZC ⟨rfl,rfl,rfl⟩ rfl rfl rfl
end Go.Proofs.YtebhagohhbmgoaaGreat
