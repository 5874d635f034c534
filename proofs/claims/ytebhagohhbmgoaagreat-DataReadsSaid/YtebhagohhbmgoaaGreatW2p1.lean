import Derived.Test.YtebhagohhbmgoaaGreatW2p0
/- walks: what the code computes, function by function. -/
set_option linter.unusedSimpArgs false
set_option linter.unusedVariables false
namespace Go.Proofs.YtebhagohhbmgoaaGreat
open Go.Ow Go.RowKit Go.Proofs
set_option maxHeartbeats 8000000
theorem txg_mayChange_ok{c}:Con Tryz.prog 140 true (sp_Change false c) (txg_mayChange c) (λr=> [.b r]):=by
 intro H a9 b0 b1 d r hx
 refine Does.enterC Tryz.func140 rfl rfl ?_
 intro w
 unfold txg_mayChange at hx
 refine Run.cl [] 2 ZB rfl (ZV rfl rfl (λb2 b3=>Run.ll_s [0] 8 ZB rfl (ZA rfl rfl (R.eqlAgg QU31 QP31 QG31 QF31 rfl rfl (EqF.i (by decide) S3 U3 rfl rfl (EqF.u32 (a:=c.Laid.Birth) (b:=(0:UInt32)) (by decide) S27 U27 rfl rfl (EqF.u32 (a:=c.Laid.Iv) (b:=(0:UInt32)) (by decide) S27 U27 rfl rfl (EqF.u32 (a:=c.Laid.Tag) (b:=(0:UInt32)) (by decide) S27 U27 rfl rfl (EqF.u32 (a:=c.Laid.Sum) (b:=(0:UInt32)) (by decide) S27 U27 rfl rfl EqF.nil)))))) ?_)))
 refine Run.lc_s [] 4 ZB rfl (ZO hx [1,3] [0] rfl rfl (λf l0 o0 l o g=>l=(4,.bool f)::l0∧o=o0∧H=g) (λf b4 hx=> ?_) (λf b5 hx=> ?_))
 ·
  rintro _ _ _ ⟨rfl,rfl,rfl⟩
  refine Run.nl_s [0] 9 ZB rfl (ZQ 27 hx rfl (λm hx=> ?_) (λm hx=> ?_))
  ·
   refine Run.lnz_sbk [] 26 ZB rfl ?_
   exact ZD [] rfl hx rfl rfl
  ·
   refine Run.llz [0] 8 ZB rfl (ZQ 32 hx rfl (λp hx=> ?_) (λp hx=> ?_))
   ·
    refine Run.lnz_sbk [] 21 ZB rfl ?_
    exact ZD [] rfl hx rfl rfl
   ·
    refine Run.llz [0] 8 ZB rfl (ZQ 37 hx rfl (λq hx=> ?_) (λq hx=> ?_))
    ·
     refine Run.lnz_sbk [] 16 ZB rfl ?_
     exact ZD [] rfl hx rfl rfl
    ·
     refine Run.lcz_s [0] 10 ZB rfl (ZG hx rfl (λs hx=> ?_) (λs hx=> ?_))
     ·
      refine Run.cnz_bk [] 8 ZB rfl ?_
      exact ZD [] rfl hx rfl rfl
     ·
      refine Run.ccz [0] 8 ZB rfl (ZG hx rfl (λv hx=> ?_) (λv hx=> ?_))
      ·
       refine JC.seq (ZO hx [1,3,4] [0] rfl rfl (λh l0 o0 l o g=>l=(5,.bool h)::l0∧o=o0∧H=g) (λh b6 hx=> ?_) (λh b7 hx=> ?_))
       ·
        rintro _ _ _ ⟨rfl,rfl,rfl⟩
        refine Run.nc_s [] 2 ZB rfl (ZO hx [] [] rfl rfl (λj l0 o0 l o g=>l=(2,.bool j)::l0∧o=o0∧H=g) (λj b8 hx=> ?_) (λj b9 hx=> ?_))
        ·
         rintro _ _ _ ⟨rfl,rfl,rfl⟩
         refine Run.nnz_sbk [] 4 ZB rfl ?_
         exact ZD [] rfl hx rfl rfl
        ·
         refine Run.clz [] 3 ZB rfl (ZQ 68 hx rfl (λx hx=> ?_) (λx hx=> ?_))
         ·
          refine Run.llz [0] 5 ZB rfl (ZA rfl rfl (ZM U26 rfl (IsSlice.long d)) (Run.llz [] 4 ZB rfl (ZQ 74 hx rfl (λy hx=> ?_) (λy hx=> ?_))))
          ·
           refine Run.llz [] 4 ZB rfl (ZQ 77 hx rfl (λz hx=> ?_) (λz hx=> ?_))
           ·
            refine Run.llz [0] 5 ZB rfl (ZA rfl rfl (R.gtr8 (a:=c.Kind) (b:=(0:UInt8)) rfl rfl) (Run.llz [] 2 ZB rfl (ZQ 81 hx rfl (λa0 hx=> ?_) (λa0 hx=> ?_))))
            ·
             refine Run.lnz [] 6 ZB rfl ?_
             obtain rfl:=Option.some.inj hx
             refine JN.forget 0 ?_
             exact ZC ⟨rfl,rfl,rfl⟩ rfl rfl rfl
            ·
             refine Run.lnz [] 7 ZB rfl ?_
             obtain rfl:=Option.some.inj hx
             refine JN.forget 0 ?_
             exact ZC ⟨rfl,rfl,rfl⟩ rfl rfl rfl
           ·
            refine Run.lnz [] 9 ZB rfl ?_
            obtain rfl:=Option.some.inj hx
            refine JN.forget 0 ?_
            exact ZC ⟨rfl,rfl,rfl⟩ rfl rfl rfl
          ·
           refine Run.lnz [] 12 ZB rfl ?_
           obtain rfl:=Option.some.inj hx
           refine JN.forget 0 ?_
           exact ZC ⟨rfl,rfl,rfl⟩ rfl rfl rfl
         ·
          refine Run.lnz [] 18 ZB rfl ?_
          obtain rfl:=Option.some.inj hx
          refine JN.forget 0 ?_
          exact ZC ⟨rfl,rfl,rfl⟩ rfl rfl rfl
       ·
        refine Run.clz [0] 3 ZB rfl (ZA rfl rfl (R.leq8 (a:=c.Kind) (b:=(7:UInt8)) rfl rfl) (ZA rfl rfl (ZW rfl) (ZQ 49 hx rfl (λa1 hx=> ?_) (λa1 hx=> ?_))))
        ·
         refine Run.llz [0,0] 9 ZB rfl (ZA rfl rfl (R.min2 rfl rfl) (Run.llz [] 4 ZB rfl (ZQ 57 hx rfl (λa2 hx=> ?_) (λa2 hx=> ?_))))
         ·
          refine Run.llz [0] 8 ZB rfl (ZQ 62 hx rfl (λa3 hx=> ?_) (λa3 hx=> ?_))
          ·
           refine Run.lnz [0] 9 ZB rfl ?_
           obtain rfl:=Option.some.inj hx
           exact ZC ⟨rfl,rfl,rfl⟩ rfl rfl rfl
          ·
           refine Run.lnz [] 6 ZB rfl ?_
           obtain rfl:=Option.some.inj hx
           exact ZC ⟨rfl,rfl,rfl⟩ rfl rfl rfl
         ·
          refine Run.lnz [] 11 ZB rfl ?_
          obtain rfl:=Option.some.inj hx
          exact ZC ⟨rfl,rfl,rfl⟩ rfl rfl rfl
        ·
         refine Run.lnz [] 19 ZB rfl ?_
         obtain rfl:=Option.some.inj hx
         exact ZC ⟨rfl,rfl,rfl⟩ rfl rfl rfl
      ·
       refine Run.cc_bs [] 4 ZB rfl (ZO hx [] [] rfl rfl (λk l0 o0 l o g=>l=(2,.bool k)::l0∧o=o0∧H=g) (λk c0 hx=> ?_) (λk c1 hx=> ?_))
       ·
        rintro _ _ _ ⟨rfl,rfl,rfl⟩
        refine Run.nnz_s [] 2 ZB rfl ?_
        exact ZD [] rfl hx rfl rfl
       ·
        refine Run.clz [] 3 ZB rfl (ZQ 86 hx rfl (λa4 hx=> ?_) (λa4 hx=> ?_))
        ·
         refine Run.llz [0] 5 ZB rfl (ZA rfl rfl (ZM U26 rfl (IsSlice.long d)) (Run.llz [] 4 ZB rfl (ZQ 91 hx rfl (λa5 hx=> ?_) (λa5 hx=> ?_))))
         ·
          refine Run.llz [0] 13 ZB rfl (ZI hx E42 rfl ptr_Check_ok rfl trivial ?_)
          intro c2 c3 hx
          refine Run.lnz [] 5 ZB rfl ?_
          obtain rfl:=Option.some.inj hx
          refine JN.forget 0 ?_
          exact ZC ⟨rfl,rfl,rfl⟩ rfl rfl rfl
         ·
          refine Run.llz [0] 5 ZB rfl (ZA rfl rfl (ZM U26 rfl (IsSlice.long d)) (Run.llz [] 6 ZB rfl (ZQ 98 hx rfl (λa6 hx=> ?_) (λa6 hx=> ?_))))
          ·
           refine Run.llz [0] 5 ZB rfl (ZI hx E42 rfl ptr_Check_ok rfl trivial ?_)
           intro c4 c5 hx
           refine Run.lnz [] 5 ZB rfl ?_
           obtain rfl:=Option.some.inj hx
           refine JN.forget 0 ?_
           exact ZC ⟨rfl,rfl,rfl⟩ rfl rfl rfl
          ·
           refine Run.lnz [] 7 ZB rfl ?_
           obtain rfl:=Option.some.inj hx
           refine JN.forget 0 ?_
           exact ZC ⟨rfl,rfl,rfl⟩ rfl rfl rfl
        ·
         refine Run.lnz [] 19 ZB rfl ?_
         obtain rfl:=Option.some.inj hx
         refine JN.forget 0 ?_
         exact ZC ⟨rfl,rfl,rfl⟩ rfl rfl rfl
 ·
  refine Run.clz [0] 3 ZB rfl (ZA rfl rfl (R.eql8 (a:=c.Kind) (b:=(0:UInt8)) rfl rfl) (ZA rfl rfl (ZW rfl) (ZQ 13 hx rfl (λa7 hx=> ?_) (λa7 hx=> ?_))))
  ·
   refine Run.llz [0] 8 ZB rfl (ZQ 18 hx rfl (λa8 hx=> ?_) (λa8 hx=> ?_))
   ·
    refine Run.lnz [0] 9 ZB rfl ?_
    obtain rfl:=Option.some.inj hx
    exact ZC ⟨rfl,rfl,rfl⟩ rfl rfl rfl
   ·
    refine Run.lnz [] 6 ZB rfl ?_
    obtain rfl:=Option.some.inj hx
    exact ZC ⟨rfl,rfl,rfl⟩ rfl rfl rfl
  ·
   refine Run.lnz [] 11 ZB rfl ?_
   obtain rfl:=Option.some.inj hx
   exact ZC ⟨rfl,rfl,rfl⟩ rfl rfl rfl
theorem cmp_Or_int_ok{f}:Con Tryz.prog 183 true ([.sl false RInt 1 f]) (cmp_Or_int f) (λr=> [.i r]):=by
 intro H x y z a r hx
 refine Does.enterC Tryz.func183 rfl rfl ?_
 intro w
 unfold cmp_Or_int at hx
 refine Run.cl [] 14 ZB rfl (ZA rfl rfl (ZM U51 rfl (IsSlice.long a)) (Run.lcz_s [] 3 ZB rfl (ZO hx [3] [] rfl rfl (λb l0 o0 l o g=>∃h:Unit,l=l0∧o=o0∧H=g∧b=.inl h) (λb a0 hx=> ?_) (λb k hx=> ?_))))
 ·
  rintro _ _ _ ⟨h,rfl,rfl,rfl,rfl⟩
  simp only[Sum.elim_inl]at hx
  refine Run.nnz_s [] 8 ZB rfl ?_
  exact ZD [] rfl hx rfl rfl
 ·
  refine JC.block (ZS [3,6,7] [] rfl rfl (λl0 o0 c l o g=>l=(8,.int .i64 ((c:Nat):Int))::l0∧o=o0∧H=g) hx ⟨rfl,rfl,rfl⟩ rfl ?_)
  ·
   rintro a1 c _ _ _ ⟨rfl,rfl,rfl⟩ a2 hx d
   unfold cmp_Or_int_l1 at hx
   refine Run.cc [] 6 ZB rfl (ZG hx rfl (λj hx=> ?_) (λj hx=> ?_))
   ·
    refine Run.cl_s [] 6 ZB rfl ?_
    obtain⟨a3,m,hx⟩:=ZJ hx
    obtain⟨a4,a5,a6,p,q,a7,s⟩:=IsSlice.elem a m
    obtain rfl:=q
    refine ZA rfl rfl (Zd U51 S3 rfl rfl p) (ZA rfl rfl (ZY S3 rfl (s 0 _ rfl)) (Run.lcz_s [] 10 ZB rfl (ZG hx rfl (λv hx=> ?_) (λv hx=> ?_))))
    ·
     refine Run.cnz_bk [] 9 ZB rfl ?_
     obtain rfl:=ZH d hx
     refine Run.nnz_kb [] 2 ZB rfl ?_
     clear hx;have hx:=k
     simp only[Sum.elim_inl,Sum.elim_inr]at hx
     refine Run.nnz_kk [] 2 ZB rfl ?_
     exact ZD [] rfl hx rfl rfl
    ·
     refine Run.clz_bs [] 4 ZB rfl (ZA rfl rfl (Zi rfl rfl (of_decide_eq_true j) (IsSlice.lenI a)) (Run.lnz [] 2 ZB rfl ?_))
     replace hx:=ZP d hx
     exact ZC ⟨c+1,⟨rfl,rfl,rfl⟩,hx⟩ rfl rfl rfl
   ·
    refine Run.cnz_k [] 2 ZB rfl ?_
    obtain rfl:=ZH d hx
    refine Run.nnz_kb [] 2 ZB rfl ?_
    exact ZC ⟨(),rfl,rfl,rfl,rfl⟩ rfl rfl rfl
theorem txg_order_ok{a b}:Con Tryz.prog 141 true (sp_Change false a++sp_Change false b) (txg_order a b) (λr=> [.i r]):=by
 intro H m p q s v x y z r hx
 refine Does.enterC Tryz.func141 rfl rfl ?_
 intro w
 unfold txg_order at hx
 refine Run.cl [] 2 ZB rfl (ZV rfl rfl (λa0 a1=>ZV rfl rfl (λa2 a3=>Run.lc_s [] 4 ZB rfl (Zh (so:=[(_,[]),(_,[])]) 18 rfl Mixed ⟨by kernel_rfl,by kernel_rfl⟩ (ZX [0,1] rfl) ?_))))
 refine JB.run 12 [0,1,2,3,5,6,7,8,10,11,12,13] [1,0,1,0,1,0] ZB rfl ?_
 refine JB.one (i:=4) (by kernel_rfl) ?_
 refine JOB.step rfl trivial rfl (λK hK=>ZI hx E184 rfl cmp_Compare_int_ok rfl trivial ?_)
 intro c a4 hx
 refine JL.nil (hK _ _ _ (Hle.refl _) (ZX [0,1] rfl) ?_)
 refine JB.one (i:=9) (by kernel_rfl) ?_
 refine JOB.step rfl trivial rfl (λK hK=>ZI hx E184 rfl cmp_Compare_int_ok rfl trivial ?_)
 intro d a5 hx
 refine JL.nil (hK _ _ _ (Hle.refl _) (ZX [0,1] rfl) ?_)
 refine JB.one (i:=14) (by kernel_rfl) ?_
 refine JOB.step rfl trivial rfl (λK hK=>ZI hx E184 rfl cmp_Compare_int_ok rfl trivial ?_)
 intro f a6 hx
 refine JL.nil (hK _ _ _ (Hle.refl _) (ZX [0,1] rfl) ?_)
 refine JB.one (i:=15) (by kernel_rfl) ?_
 refine JOB.step rfl trivial rfl (λK hK=>Zx (HF:=(New H H)) (R:=RInt) (ls:=[c,d,f]) (vs:=[.int .i64 c,.int .i64 d,.int .i64 f]) U51 I3 rfl rfl (⟨_,_,rfl,rfl,rfl,⟨_,_,rfl,rfl,rfl,⟨_,_,rfl,rfl,rfl,rfl⟩⟩⟩) RInt.one rfl rfl rfl (by simp[maxLen]) rfl (λa7 a8 h=> ?_))
 obtain⟨a9,b0,rfl⟩:=RowOf.val h
 refine JL.nil (hK _ _ _ (Hle.refl _) (ZX [1,2] rfl) ?_)
 refine JB.one (i:=16) (by kernel_rfl) ?_
 refine JOB.step rfl trivial rfl (λK hK=>JL.conL hx E183 rfl cmp_Or_int_ok rfl (λb1 j k=>⟨(Lent.row' 0 k RInt.mono j rfl (h.old RInt.mono)),trivial⟩) (λ_=>trivial) ?_)
 intro b2 b3 hx
 refine JL.nil (hK _ _ _ (Hle.refl _) (ZX [1,2] rfl) ?_)
 refine JB.val (i:=17) [] rfl (R.assign rfl) ?_
 refine JB.doneN (by kernel_rfl) ?_
 refine Run.nnz_s [] 2 ZB rfl ?_
 exact ZD [] rfl hx rfl rfl
theorem txg_Check_1_ok (c:Line)(d:Pool)(H:Heaplet){h:Option Addr}{i:Nat}{j:Nat}{f:Nat}{m:Option Addr}{p:Nat}{q:Nat}{s:Option Addr}{v:Nat}{x:Nat}{y:Option Addr}{z:Nat}{a0:Nat}{a1:Option Addr}{a2:Nat}{a3:Nat}{a4:Option Addr}{a5:Nat}{a6:Nat}{a7:Option Addr}{a8:Nat}{a9:Nat}{b0:Option Addr}{b1:Nat}{b2:Nat}{b3:Option Addr}{b4:Nat}{b5:Nat}(c5:IsSlice H R_Ptr 5 (.slice h i j) c.Dead)(b6:IsSlice H (RSl RU8 1) 1 (.slice m p q) d.Store.Disk.Blocks)(b7:IsSlice H R_Write 2 (.slice s v x) d.Store.Disk.Waits)(b8:IsSlice H RU8 1 (.slice y z a0) d.Store.Space)(b9:IsSlice H RInt 1 (.slice a1 a2 a3) d.MetaL)(c0:IsSlice H R_Line 13 (.slice a4 a5 a6) d.Lines)(c1:IsSlice H (RSl RU8 1) 1 (.slice a7 a8 a9) d.Keys)(c2:IsSlice H (RSl RU8 1) 1 (.slice b0 b1 b2) d.Loaded)(c3:IsSlice H R_Change 12 (.slice b3 b4 b5) d.Changes)(r:Bool×Pool)(hx:txg_Check_1 c d=some r):
  Does Tryz.prog 143 #[.agg #[.int .i64 c.Id,.int .u8 (c.Kind.toNat:Int),.int .i64 c.Owner,.int .i64 c.Prev,.int .u32 (c.Txg.toNat:Int),.int .u32 (c.Guid.toNat:Int),.int .i64 c.Key,.int .i64 c.Root.At,.int .u32 (c.Root.Birth.toNat:Int),.int .u32 (c.Root.Iv.toNat:Int),.int .u32 (c.Root.Tag.toNat:Int),.int .u32 (c.Root.Sum.toNat:Int),.slice h i j],.pointer (some ⟨f,0,none⟩)] [[(f,.cells #[.slice m p q,.slice s v x,.slice y z a0,.int .u32 (d.Store.Epoch.toNat:Int),.int .u32 (d.Store.Count.toNat:Int),.int .u32 (d.Gen.toNat:Int),.int .i64 d.Root.At,.int .u32 (d.Root.Birth.toNat:Int),.int .u32 (d.Root.Iv.toNat:Int),.int .u32 (d.Root.Tag.toNat:Int),.int .u32 (d.Root.Sum.toNat:Int),.slice a1 a2 a3,.slice a4 a5 a6,.slice a7 a8 a9,.slice b0 b1 b2,.slice b3 b4 b5,.int .i64 d.Logged,.int .i64 d.NextId,.int .u32 (d.NextGuid.toNat:Int)] 55 (0,0))]] H (λu K' H'=>∃ao0:Option Addr,∃n0:Nat,∃cap0:Nat,∃ao1:Option Addr,∃n1:Nat,∃cap1:Nat,∃ao2:Option Addr,∃n2:Nat,∃cap2:Nat,∃ao3:Option Addr,∃n3:Nat,∃cap3:Nat,∃ao4:Option Addr,∃n4:Nat,∃cap4:Nat,∃ao5:Option Addr,∃n5:Nat,∃cap5:Nat,∃ao6:Option Addr,∃n6:Nat,∃cap6:Nat,∃ao7:Option Addr,∃n7:Nat,∃cap7:Nat,u=.bool r.1∧K'= [[(f,.cells #[.slice ao0 n0 cap0,.slice ao1 n1 cap1,.slice ao2 n2 cap2,.int .u32 (r.2.Store.Epoch.toNat:Int),.int .u32 (r.2.Store.Count.toNat:Int),.int .u32 (r.2.Gen.toNat:Int),.int .i64 r.2.Root.At,.int .u32 (r.2.Root.Birth.toNat:Int),.int .u32 (r.2.Root.Iv.toNat:Int),.int .u32 (r.2.Root.Tag.toNat:Int),.int .u32 (r.2.Root.Sum.toNat:Int),.slice ao3 n3 cap3,.slice ao4 n4 cap4,.slice ao5 n5 cap5,.slice ao6 n6 cap6,.slice ao7 n7 cap7,.int .i64 r.2.Logged,.int .i64 r.2.NextId,.int .u32 (r.2.NextGuid.toNat:Int)] 55 (0,0))]]∧H=H'∧IsSlice H (RSl RU8 1) 1 (.slice ao0 n0 cap0) r.2.Store.Disk.Blocks∧IsSlice H R_Write 2 (.slice ao1 n1 cap1) r.2.Store.Disk.Waits∧IsSlice H RU8 1 (.slice ao2 n2 cap2) r.2.Store.Space∧IsSlice H RInt 1 (.slice ao3 n3 cap3) r.2.MetaL∧IsSlice H R_Line 13 (.slice ao4 n4 cap4) r.2.Lines∧IsSlice H (RSl RU8 1) 1 (.slice ao5 n5 cap5) r.2.Keys∧IsSlice H (RSl RU8 1) 1 (.slice ao6 n6 cap6) r.2.Loaded∧IsSlice H R_Change 12 (.slice ao7 n7 cap7) r.2.Changes∧True):=by
 refine Does.enterL (vs:=[.agg #[.int .i64 c.Id,.int .u8 (c.Kind.toNat:Int),.int .i64 c.Owner,.int .i64 c.Prev,.int .u32 (c.Txg.toNat:Int),.int .u32 (c.Guid.toNat:Int),.int .i64 c.Key,.int .i64 c.Root.At,.int .u32 (c.Root.Birth.toNat:Int),.int .u32 (c.Root.Iv.toNat:Int),.int .u32 (c.Root.Tag.toNat:Int),.int .u32 (c.Root.Sum.toNat:Int),.slice h i j],.pointer (some ⟨f,0,none⟩)]) (l:=[(0,.agg #[.int .i64 c.Id,.int .u8 (c.Kind.toNat:Int),.int .i64 c.Owner,.int .i64 c.Prev,.int .u32 (c.Txg.toNat:Int),.int .u32 (c.Guid.toNat:Int),.int .i64 c.Key,.int .i64 c.Root.At,.int .u32 (c.Root.Birth.toNat:Int),.int .u32 (c.Root.Iv.toNat:Int),.int .u32 (c.Root.Tag.toNat:Int),.int .u32 (c.Root.Sum.toNat:Int),.slice h i j]),(1,.pointer (some ⟨f,0,none⟩))]) Tryz.func143 rfl rfl ⟨rfl,rfl,trivial⟩ (λw hlt=> ?_)
 unfold txg_Check_1 at hx
 refine Run.cl [] 2 ZB rfl (ZV rfl rfl (λc6 c7=>Run.lc_s [] 4 ZB rfl (ZO hx [1] [1] rfl rfl (λk l0 o0 l o g=>l=(3,.bool k)::l0∧o=o0∧H=g) (λk c8 hx=> ?_) (λk c9 hx=> ?_))))
 ·
  rintro _ _ _ ⟨rfl,rfl,rfl⟩
  refine Run.nnz_s [] 2 ZB rfl (Zm (vs:=[.bool k]) (K:=[_]) (rst:=[]) (.inl rfl) rfl rfl (Zs rfl rfl) (Ze 0 rfl ZT) ?_)
  obtain rfl:=Option.some.inj hx
  exact⟨m,p,q,s,v,x,y,z,a0,a1,a2,a3,a4,a5,a6,a7,a8,a9,b0,b1,b2,b3,b4,b5,rfl,rfl,rfl,b6,b7,b8,b9,c0,c1,c2,c3,trivial⟩
 ·
  refine Run.clz [0,1] 7 ZB rfl (ZQ 9 hx rfl (λc4 hx=> ?_) (λc4 hx=> ?_))
  ·
   refine Run.lnz [] 8 ZB rfl ?_
   obtain rfl:=Option.some.inj hx
   refine JN.forget 0 ?_
   exact ZC ⟨rfl,rfl,rfl⟩ rfl rfl rfl
  ·
   refine Run.llz [0,1] 9 ZB rfl (ZA rfl rfl (R.geq32 (a:=c.Guid) (b:=d.NextGuid) rfl rfl) (Run.lnz [] 3 ZB rfl ?_))
   obtain rfl:=Option.some.inj hx
   refine JN.forget 0 ?_
   exact ZC ⟨rfl,rfl,rfl⟩ rfl rfl rfl
theorem slices_IndexFunc_Line_ok (g5:List Line)(c:Pool)(H:Heaplet){f:Option Addr}{h:Nat}{i:Nat}{d:Nat}{d8:Option Addr}{d9:Nat}{e0:Nat}{e1:Option Addr}{e2:Nat}{e3:Nat}{e4:Option Addr}{e5:Nat}{e6:Nat}{e7:Option Addr}{e8:Nat}{e9:Nat}{f0:Option Addr}{f1:Nat}{f2:Nat}{f3:Option Addr}{f4:Nat}{f5:Nat}{f6:Option Addr}{f7:Nat}{f8:Nat}{f9:Option Addr}{g0:Nat}{g1:Nat}(g2:IsSlice H R_Line 13 (.slice f h i) g5)(k8:IsSlice H (RSl RU8 1) 1 (.slice d8 d9 e0) c.Store.Disk.Blocks)(k9:IsSlice H R_Write 2 (.slice e1 e2 e3) c.Store.Disk.Waits)(l1:IsSlice H RU8 1 (.slice e4 e5 e6) c.Store.Space)(l2:IsSlice H RInt 1 (.slice e7 e8 e9) c.MetaL)(l3:IsSlice H R_Line 13 (.slice f0 f1 f2) c.Lines)(l4:IsSlice H (RSl RU8 1) 1 (.slice f3 f4 f5) c.Keys)(l5:IsSlice H (RSl RU8 1) 1 (.slice f6 f7 f8) c.Loaded)(l6:IsSlice H R_Change 12 (.slice f9 g0 g1) c.Changes)(r:Int×Pool)(hx:slices_IndexFunc_Line g5 c=some r):
  Does Tryz.prog 121 #[.slice f h i,.func (.func 143) #[] #[.pointer (some ⟨d,0,none⟩)]] [[(d,.cells #[.slice d8 d9 e0,.slice e1 e2 e3,.slice e4 e5 e6,.int .u32 (c.Store.Epoch.toNat:Int),.int .u32 (c.Store.Count.toNat:Int),.int .u32 (c.Gen.toNat:Int),.int .i64 c.Root.At,.int .u32 (c.Root.Birth.toNat:Int),.int .u32 (c.Root.Iv.toNat:Int),.int .u32 (c.Root.Tag.toNat:Int),.int .u32 (c.Root.Sum.toNat:Int),.slice e7 e8 e9,.slice f0 f1 f2,.slice f3 f4 f5,.slice f6 f7 f8,.slice f9 g0 g1,.int .i64 c.Logged,.int .i64 c.NextId,.int .u32 (c.NextGuid.toNat:Int)] 55 (0,0))]] H (λu K' H'=>∃ao0:Option Addr,∃n0:Nat,∃cap0:Nat,∃ao1:Option Addr,∃n1:Nat,∃cap1:Nat,∃ao2:Option Addr,∃n2:Nat,∃cap2:Nat,∃ao3:Option Addr,∃n3:Nat,∃cap3:Nat,∃ao4:Option Addr,∃n4:Nat,∃cap4:Nat,∃ao5:Option Addr,∃n5:Nat,∃cap5:Nat,∃ao6:Option Addr,∃n6:Nat,∃cap6:Nat,∃ao7:Option Addr,∃n7:Nat,∃cap7:Nat,u=.int .i64 r.1∧K'= [[(d,.cells #[.slice ao0 n0 cap0,.slice ao1 n1 cap1,.slice ao2 n2 cap2,.int .u32 (r.2.Store.Epoch.toNat:Int),.int .u32 (r.2.Store.Count.toNat:Int),.int .u32 (r.2.Gen.toNat:Int),.int .i64 r.2.Root.At,.int .u32 (r.2.Root.Birth.toNat:Int),.int .u32 (r.2.Root.Iv.toNat:Int),.int .u32 (r.2.Root.Tag.toNat:Int),.int .u32 (r.2.Root.Sum.toNat:Int),.slice ao3 n3 cap3,.slice ao4 n4 cap4,.slice ao5 n5 cap5,.slice ao6 n6 cap6,.slice ao7 n7 cap7,.int .i64 r.2.Logged,.int .i64 r.2.NextId,.int .u32 (r.2.NextGuid.toNat:Int)] 55 (0,0))]]∧H=H'∧IsSlice H (RSl RU8 1) 1 (.slice ao0 n0 cap0) r.2.Store.Disk.Blocks∧IsSlice H R_Write 2 (.slice ao1 n1 cap1) r.2.Store.Disk.Waits∧IsSlice H RU8 1 (.slice ao2 n2 cap2) r.2.Store.Space∧IsSlice H RInt 1 (.slice ao3 n3 cap3) r.2.MetaL∧IsSlice H R_Line 13 (.slice ao4 n4 cap4) r.2.Lines∧IsSlice H (RSl RU8 1) 1 (.slice ao5 n5 cap5) r.2.Keys∧IsSlice H (RSl RU8 1) 1 (.slice ao6 n6 cap6) r.2.Loaded∧IsSlice H R_Change 12 (.slice ao7 n7 cap7) r.2.Changes∧True):=by
 refine Does.enterL (vs:=[.slice f h i,.func (.func 143) #[] #[.pointer (some ⟨d,0,none⟩)]]) (l:=[(0,.slice f h i),(1,.func (.func 143) #[] #[.pointer (some ⟨d,0,none⟩)])]) Tryz.func121 rfl rfl ⟨rfl,rfl,trivial⟩ (λw hlt=> ?_)
 unfold slices_IndexFunc_Line at hx
 refine Run.cl [] 9 ZB rfl (ZA rfl rfl (ZM U52 rfl (IsSlice.long g2)) (Run.lcz_s [] 3 ZB rfl (ZO hx [1] [] rfl rfl (λg3 l0 o0 l o g=>∃b:Pool,∃j:Option Addr,∃k:Nat,∃m:Nat,∃p:Option Addr,∃q:Nat,∃s:Nat,∃v:Option Addr,∃x:Nat,∃y:Nat,∃z:Option Addr,∃a0:Nat,∃a1:Nat,∃a2:Option Addr,∃a3:Nat,∃a4:Nat,∃a5:Option Addr,∃a6:Nat,∃a7:Nat,∃a8:Option Addr,∃a9:Nat,∃b0:Nat,∃b1:Option Addr,∃b2:Nat,∃b3:Nat,l=l0∧o= [(d,.cells #[.slice j k m,.slice p q s,.slice v x y,.int .u32 (b.Store.Epoch.toNat:Int),.int .u32 (b.Store.Count.toNat:Int),.int .u32 (b.Gen.toNat:Int),.int .i64 b.Root.At,.int .u32 (b.Root.Birth.toNat:Int),.int .u32 (b.Root.Iv.toNat:Int),.int .u32 (b.Root.Tag.toNat:Int),.int .u32 (b.Root.Sum.toNat:Int),.slice z a0 a1,.slice a2 a3 a4,.slice a5 a6 a7,.slice a8 a9 b0,.slice b1 b2 b3,.int .i64 b.Logged,.int .i64 b.NextId,.int .u32 (b.NextGuid.toNat:Int)] 55 (0,0))]::o0∧H=g∧g3=.inl b∧IsSlice H (RSl RU8 1) 1 (.slice j k m) b.Store.Disk.Blocks∧IsSlice H R_Write 2 (.slice p q s) b.Store.Disk.Waits∧IsSlice H RU8 1 (.slice v x y) b.Store.Space∧IsSlice H RInt 1 (.slice z a0 a1) b.MetaL∧IsSlice H R_Line 13 (.slice a2 a3 a4) b.Lines∧IsSlice H (RSl RU8 1) 1 (.slice a5 a6 a7) b.Keys∧IsSlice H (RSl RU8 1) 1 (.slice a8 a9 b0) b.Loaded∧IsSlice H R_Change 12 (.slice b1 b2 b3) b.Changes) (λg3 o4 hx=> ?_) (λg3 l7 hx=> ?_))))
 ·
  rintro _ _ _ ⟨b,j,k,m,p,q,s,v,x,y,z,a0,a1,a2,a3,a4,a5,a6,a7,a8,a9,b0,b1,b2,b3,rfl,rfl,rfl,rfl,l8,l9,m0,m1,m2,m3,m4,m5⟩
  simp only[Sum.elim_inl]at hx
  refine Run.nnz_s [] 7 ZB rfl (Zm (vs:=[.int .i64 (-1)]) (K:=[_]) (rst:=[]) (.inl rfl) rfl rfl (Zs rfl rfl) (Ze 0 rfl ZT) ?_)
  obtain rfl:=Option.some.inj hx
  exact⟨j,k,m,p,q,s,v,x,y,z,a0,a1,a2,a3,a4,a5,a6,a7,a8,a9,b0,b1,b2,b3,rfl,rfl,rfl,l8,l9,m0,m1,m2,m3,m4,m5,trivial⟩
 ·
  refine JC.block (ZS [0,1,7] [] rfl rfl (λl0 o0 a l o g=>∃b4:Option Addr,∃b5:Nat,∃b6:Nat,∃b7:Option Addr,∃b8:Nat,∃b9:Nat,∃c0:Option Addr,∃c1:Nat,∃c2:Nat,∃c3:Option Addr,∃c4:Nat,∃c5:Nat,∃c6:Option Addr,∃c7:Nat,∃c8:Nat,∃c9:Option Addr,∃d0:Nat,∃d1:Nat,∃d2:Option Addr,∃d3:Nat,∃d4:Nat,∃d5:Option Addr,∃d6:Nat,∃d7:Nat,l=(8,.int .i64 ((a.2:Nat):Int))::l0∧o= [(d,.cells #[.slice b4 b5 b6,.slice b7 b8 b9,.slice c0 c1 c2,.int .u32 (a.1.Store.Epoch.toNat:Int),.int .u32 (a.1.Store.Count.toNat:Int),.int .u32 (a.1.Gen.toNat:Int),.int .i64 a.1.Root.At,.int .u32 (a.1.Root.Birth.toNat:Int),.int .u32 (a.1.Root.Iv.toNat:Int),.int .u32 (a.1.Root.Tag.toNat:Int),.int .u32 (a.1.Root.Sum.toNat:Int),.slice c3 c4 c5,.slice c6 c7 c8,.slice c9 d0 d1,.slice d2 d3 d4,.slice d5 d6 d7,.int .i64 a.1.Logged,.int .i64 a.1.NextId,.int .u32 (a.1.NextGuid.toNat:Int)] 55 (0,0))]::o0∧H=g∧IsSlice H (RSl RU8 1) 1 (.slice b4 b5 b6) a.1.Store.Disk.Blocks∧IsSlice H R_Write 2 (.slice b7 b8 b9) a.1.Store.Disk.Waits∧IsSlice H RU8 1 (.slice c0 c1 c2) a.1.Store.Space∧IsSlice H RInt 1 (.slice c3 c4 c5) a.1.MetaL∧IsSlice H R_Line 13 (.slice c6 c7 c8) a.1.Lines∧IsSlice H (RSl RU8 1) 1 (.slice c9 d0 d1) a.1.Keys∧IsSlice H (RSl RU8 1) 1 (.slice d2 d3 d4) a.1.Loaded∧IsSlice H R_Change 12 (.slice d5 d6 d7) a.1.Changes) hx ⟨d8,d9,e0,e1,e2,e3,e4,e5,e6,e7,e8,e9,f0,f1,f2,f3,f4,f5,f6,f7,f8,f9,g0,g1,rfl,rfl,rfl,k8,k9,l1,l2,l3,l4,l5,l6⟩ rfl ?_)
  ·
   rintro o5 a _ _ _ ⟨b4,b5,b6,b7,b8,b9,c0,c1,c2,c3,c4,c5,c6,c7,c8,c9,d0,d1,d2,d3,d4,d5,d6,d7,rfl,rfl,rfl,g6,g7,g8,g9,h0,h1,h2,h3⟩ o6 hx g4
   unfold slices_IndexFunc_Line_l1 at hx
   refine Run.cc [] 6 ZB rfl (ZG hx rfl (λh4 hx=> ?_) (λh4 hx=> ?_))
   ·
    refine Run.cl_s [] 15 ZB rfl ?_
    obtain⟨m6,m7,hx⟩:=ZJ hx
    obtain⟨o7,o8,o9,m8,m9,p0,n8⟩:=IsSlice.elem g2 m7
    obtain⟨p1,rfl,h5⟩:=m9
    obtain⟨p2,p3,rfl⟩:=IsSlice.val h5
    refine ZA rfl rfl (Zd U52 S99 rfl rfl m8) (ZA rfl rfl (Zz 0 S99 rfl n8 rfl rfl) ?_)
    obtain⟨n9,o1,hx⟩:=ZU hx
    refine Zg (vs:=[_]) (args:=[_,_]) (K:=[_]) (rst:=[]) E143 rfl rfl rfl (Ze 0 rfl ZT) (txg_Check_1_ok m6 a.1 _ h5 g6 g7 g8 g9 h0 h1 h2 h3 _ o1) rfl (λp4 p5 p6 o2 p7 p8=> ?_)
    obtain⟨h6,h7,h8,h9,i0,i1,i2,i3,i4,i5,i6,i7,i8,i9,j0,j1,j2,j3,j4,j5,j6,j7,j8,j9,rfl,rfl,rfl,k0,k1,k2,k3,k4,k5,k6,k7,-⟩:=o2
    refine Run.lcz_s [] 2 ZB rfl (ZG hx rfl (λo3 hx=> ?_) (λo3 hx=> ?_))
    ·
     refine Run.cnz_bk [] 9 ZB rfl ?_
     obtain rfl:=ZH g4 hx
     refine Run.nnz_kb [] 2 ZB rfl ?_
     clear hx;have hx:=l7
     simp only[Sum.elim_inl,Sum.elim_inr]at hx
     refine Run.nnz_kk [] 2 ZB rfl (Zm (vs:=[.int .i64 ((a.2:Nat):Int)]) (K:=[_]) (rst:=[]) (.inl rfl) rfl rfl (Zs rfl rfl) (Ze 0 rfl ZT) ?_)
     obtain rfl:=Option.some.inj hx
     exact⟨h6,h7,h8,h9,i0,i1,i2,i3,i4,i5,i6,i7,i8,i9,j0,j1,j2,j3,j4,j5,j6,j7,j8,j9,rfl,rfl,rfl,k0,k1,k2,k3,k4,k5,k6,k7,trivial⟩
    ·
     refine Run.clz_bs [] 4 ZB rfl (ZA rfl rfl (Zi rfl rfl (of_decide_eq_true h4) (IsSlice.lenI g2)) (Run.lnz [] 2 ZB rfl ?_))
     replace hx:=ZP g4 hx
     exact ZC ⟨(n9.2,a.2+1),⟨h6,h7,h8,h9,i0,i1,i2,i3,i4,i5,i6,i7,i8,i9,j0,j1,j2,j3,j4,j5,j6,j7,j8,j9,rfl,rfl,rfl,k0,k1,k2,k3,k4,k5,k6,k7⟩,hx⟩ rfl rfl rfl
   ·
    refine Run.cnz_k [] 2 ZB rfl ?_
    obtain rfl:=ZH g4 hx
    refine Run.nnz_kb [] 2 ZB rfl ?_
    exact ZC ⟨a.1,b4,b5,b6,b7,b8,b9,c0,c1,c2,c3,c4,c5,c6,c7,c8,c9,d0,d1,d2,d3,d4,d5,d6,d7,rfl,rfl,rfl,rfl,g6,g7,g8,g9,h0,h1,h2,h3⟩ rfl rfl rfl
theorem slices_ContainsFunc_Line_ok (h:List Line)(a:Pool)(H:Heaplet){c:Option Addr}{d:Nat}{f:Nat}{b:Nat}{i:Option Addr}{j:Nat}{k:Nat}{m:Option Addr}{p:Nat}{q:Nat}{s:Option Addr}{v:Nat}{x:Nat}{y:Option Addr}{z:Nat}{a0:Nat}{a1:Option Addr}{a2:Nat}{a3:Nat}{a4:Option Addr}{a5:Nat}{a6:Nat}{a7:Option Addr}{a8:Nat}{a9:Nat}{b0:Option Addr}{b1:Nat}{b2:Nat}(b3:IsSlice H R_Line 13 (.slice c d f) h)(b4:IsSlice H (RSl RU8 1) 1 (.slice i j k) a.Store.Disk.Blocks)(b5:IsSlice H R_Write 2 (.slice m p q) a.Store.Disk.Waits)(b6:IsSlice H RU8 1 (.slice s v x) a.Store.Space)(b7:IsSlice H RInt 1 (.slice y z a0) a.MetaL)(b8:IsSlice H R_Line 13 (.slice a1 a2 a3) a.Lines)(b9:IsSlice H (RSl RU8 1) 1 (.slice a4 a5 a6) a.Keys)(c0:IsSlice H (RSl RU8 1) 1 (.slice a7 a8 a9) a.Loaded)(c1:IsSlice H R_Change 12 (.slice b0 b1 b2) a.Changes)(r:Bool×Pool)(hx:slices_ContainsFunc_Line h a=some r):
  Does Tryz.prog 142 #[.slice c d f,.func (.func 143) #[] #[.pointer (some ⟨b,0,none⟩)]] [[(b,.cells #[.slice i j k,.slice m p q,.slice s v x,.int .u32 (a.Store.Epoch.toNat:Int),.int .u32 (a.Store.Count.toNat:Int),.int .u32 (a.Gen.toNat:Int),.int .i64 a.Root.At,.int .u32 (a.Root.Birth.toNat:Int),.int .u32 (a.Root.Iv.toNat:Int),.int .u32 (a.Root.Tag.toNat:Int),.int .u32 (a.Root.Sum.toNat:Int),.slice y z a0,.slice a1 a2 a3,.slice a4 a5 a6,.slice a7 a8 a9,.slice b0 b1 b2,.int .i64 a.Logged,.int .i64 a.NextId,.int .u32 (a.NextGuid.toNat:Int)] 55 (0,0))]] H (λu K' H'=>∃ao0:Option Addr,∃n0:Nat,∃cap0:Nat,∃ao1:Option Addr,∃n1:Nat,∃cap1:Nat,∃ao2:Option Addr,∃n2:Nat,∃cap2:Nat,∃ao3:Option Addr,∃n3:Nat,∃cap3:Nat,∃ao4:Option Addr,∃n4:Nat,∃cap4:Nat,∃ao5:Option Addr,∃n5:Nat,∃cap5:Nat,∃ao6:Option Addr,∃n6:Nat,∃cap6:Nat,∃ao7:Option Addr,∃n7:Nat,∃cap7:Nat,u=.bool r.1∧K'= [[(b,.cells #[.slice ao0 n0 cap0,.slice ao1 n1 cap1,.slice ao2 n2 cap2,.int .u32 (r.2.Store.Epoch.toNat:Int),.int .u32 (r.2.Store.Count.toNat:Int),.int .u32 (r.2.Gen.toNat:Int),.int .i64 r.2.Root.At,.int .u32 (r.2.Root.Birth.toNat:Int),.int .u32 (r.2.Root.Iv.toNat:Int),.int .u32 (r.2.Root.Tag.toNat:Int),.int .u32 (r.2.Root.Sum.toNat:Int),.slice ao3 n3 cap3,.slice ao4 n4 cap4,.slice ao5 n5 cap5,.slice ao6 n6 cap6,.slice ao7 n7 cap7,.int .i64 r.2.Logged,.int .i64 r.2.NextId,.int .u32 (r.2.NextGuid.toNat:Int)] 55 (0,0))]]∧H=H'∧IsSlice H (RSl RU8 1) 1 (.slice ao0 n0 cap0) r.2.Store.Disk.Blocks∧IsSlice H R_Write 2 (.slice ao1 n1 cap1) r.2.Store.Disk.Waits∧IsSlice H RU8 1 (.slice ao2 n2 cap2) r.2.Store.Space∧IsSlice H RInt 1 (.slice ao3 n3 cap3) r.2.MetaL∧IsSlice H R_Line 13 (.slice ao4 n4 cap4) r.2.Lines∧IsSlice H (RSl RU8 1) 1 (.slice ao5 n5 cap5) r.2.Keys∧IsSlice H (RSl RU8 1) 1 (.slice ao6 n6 cap6) r.2.Loaded∧IsSlice H R_Change 12 (.slice ao7 n7 cap7) r.2.Changes∧True):=by
 refine Does.enterL (vs:=[.slice c d f,.func (.func 143) #[] #[.pointer (some ⟨b,0,none⟩)]]) (l:=[(0,.slice c d f),(1,.func (.func 143) #[] #[.pointer (some ⟨b,0,none⟩)])]) Tryz.func142 rfl rfl ⟨rfl,rfl,trivial⟩ (λw hlt=> ?_)
 unfold slices_ContainsFunc_Line at hx
 refine Run.cl [] 9 ZB rfl ?_
 obtain⟨c2,c3,hx⟩:=ZU hx
 refine Zg (vs:=[_,_]) (args:=[_,_]) (K:=[_]) (rst:=[]) E121 rfl rfl rfl (Ze 0 rfl ZT) (slices_IndexFunc_Line_ok h a _ b3 b4 b5 b6 b7 b8 b9 c0 c1 _ c3) rfl (λf7 f8 f9 c4 g0 g1=> ?_)
 obtain⟨c5,c6,c7,c8,c9,d0,d1,d2,d3,d4,d5,d6,d7,d8,d9,e0,e1,e2,e3,e4,e5,e6,e7,e8,rfl,rfl,rfl,e9,f0,f1,f2,f3,f4,f5,f6,-⟩:=c4
 refine Run.lnz_s [] 5 ZB rfl (Zm (vs:=[.bool (decide (0≤c2.1))]) (K:=[_]) (rst:=[]) (.inl rfl) rfl rfl (Zs rfl rfl) (Ze 0 rfl ZT) ?_)
 obtain rfl:=Option.some.inj hx
 exact⟨c5,c6,c7,c8,c9,d0,d1,d2,d3,d4,d5,d6,d7,d8,d9,e0,e1,e2,e3,e4,e5,e6,e7,e8,rfl,rfl,rfl,e9,f0,f1,f2,f3,f4,f5,f6,trivial⟩
theorem txg_Check_ok {d}:Con Tryz.prog 87 true (sp_Pool false d) (txg_Check d) (λr=> [.i r]):=by
 intro H g9 h0 h1 a9 h2 h3 h4 b0 h5 h6 h7 s h8 h9 i0 j i1 i2 i3 m i4 i5 i6 b1 i7 i8 i9 b2 j0 j1 j2 k r hx
 refine Does.enterC Tryz.func87 rfl rfl ?_
 intro w
 unfold txg_Check at hx
 refine Run.cl [] 2 ZB rfl (ZV rfl rfl (λj3 j4=>Run.lc_s [] 5 ZB rfl (Zh (so:=[(_,[])]) 25 rfl Mixed ⟨by kernel_rfl,by kernel_rfl⟩ (ZX [0] rfl) ?_)))
 refine JB.run 2 [0,1] [0] ZB rfl ?_
 refine JB.one (i:=2) (by kernel_rfl) ?_
 refine JOB.step rfl trivial rfl (λK hK=>ZI hx E16 rfl store_Check_ok rfl ⟨a9,b0,s,trivial⟩ ?_)
 intro j5 j6 hx
 refine JL.nil (hK _ _ _ (Hle.refl _) (ZX [0] rfl) ?_)
 refine JB.run 2 [3,4] [] ZB rfl ?_
 refine JB.gX 12 hx rfl (λb9 hx=> ?_) (λb9 hx=> ?_)
 ·
  refine JB.run 20 [5,6,7,8,9,10,11,12,13,14,15,16,17,18,19,20,21,22,23,24] [] ZB rfl ?_
  refine JB.doneN (by kernel_rfl) ?_
  refine Run.nnz_sk [] 9 ZB rfl ?_
  exact ZD [] rfl hx rfl rfl
 ·
  refine JB.run 2 [5,6] [0] ZB rfl ?_
  refine JB.val (i:=7) [] rfl (R.gtr32 (a:=d.Gen) (b:=(16777215:UInt32)) rfl rfl) ?_
  refine JB.run 2 [8,9] [] ZB rfl ?_
  refine JB.gX 17 hx rfl (λc0 hx=> ?_) (λc0 hx=> ?_)
  ·
   refine JB.run 15 [10,11,12,13,14,15,16,17,18,19,20,21,22,23,24] [] ZB rfl ?_
   refine JB.doneN (by kernel_rfl) ?_
   refine Run.nnz_sk [] 9 ZB rfl ?_
   exact ZD [] rfl hx rfl rfl
  ·
   refine JB.run 2 [10,11] [0] ZB rfl ?_
   refine JB.one (i:=12) (by kernel_rfl) ?_
   refine JOB.step rfl ⟨_,_,rfl,rfl,rfl⟩ rfl (λK hK=>ZI hx E42 rfl ptr_Check_ok rfl trivial ?_)
   intro j7 j8 hx
   refine JL.nil (hK _ _ _ (Hle.refl _) (ZX [0] rfl) ?_)
   refine JB.run 3 [13,14,15] [] ZB rfl ?_
   refine JB.gX 23 hx rfl (λc1 hx=> ?_) (λc1 hx=> ?_)
   ·
    refine JB.run 9 [16,17,18,19,20,21,22,23,24] [] ZB rfl ?_
    refine JB.doneN (by kernel_rfl) ?_
    refine Run.nnz_sk [] 9 ZB rfl ?_
    exact ZD [] rfl hx rfl rfl
   ·
    refine JB.run 3 [16,17,18] [0] ZB rfl ?_
    refine JB.val (i:=19) [] rfl (R.eqlAgg QU31 QP31 QG31 QF31 rfl rfl (EqF.i (by decide) S3 U3 rfl rfl (EqF.u32 (a:=d.Root.Birth) (b:=(0:UInt32)) (by decide) S27 U27 rfl rfl (EqF.u32 (a:=d.Root.Iv) (b:=(0:UInt32)) (by decide) S27 U27 rfl rfl (EqF.u32 (a:=d.Root.Tag) (b:=(0:UInt32)) (by decide) S27 U27 rfl rfl (EqF.u32 (a:=d.Root.Sum) (b:=(0:UInt32)) (by decide) S27 U27 rfl rfl EqF.nil)))))) ?_
    refine JB.run 2 [20,21] [0] ZB rfl ?_
    refine JB.val (i:=22) [] rfl (R.eql32 (a:=d.Gen) (b:=(0:UInt32)) rfl rfl) ?_
    refine JB.val (i:=23) [] rfl (R.neqBool U4 rfl rfl) ?_
    refine JB.val (i:=24) [] rfl (R.pickF rfl rfl) ?_
    refine JB.doneN (by kernel_rfl) ?_
    refine Zw (ZG hx rfl (λc2 hx=> ?_) (λc2 hx=> ?_))
    ·
     refine Run.cnz_k [] 7 ZB rfl ?_
     exact ZD [] rfl hx rfl rfl
    ·
     refine Run.cl_s [0] 7 ZB rfl (ZA rfl rfl (ZM U51 rfl (IsSlice.long j)) (Run.lcz_s [] 3 ZB rfl (ZO hx [1] [0] rfl rfl (λz l0 o0 l o g=>∃b3:Unit,l=l0∧o=o0∧H=g∧z=.inl b3) (λz j9 hx=> ?_) (λz p hx=> ?_))))
     ·
      rintro _ _ _ ⟨b3,rfl,rfl,rfl,rfl⟩
      simp only[Sum.elim_inl]at hx
      refine Run.nl_s [0] 6 ZB rfl (ZI hx E137 rfl txg_mayLines_ok rfl ⟨m,trivial⟩ ?_)
      intro k0 k1 hx
      refine Run.llz [] 2 ZB rfl (ZQ 75 hx rfl (λc3 hx=> ?_) (λc3 hx=> ?_))
      ·
       refine Run.lnz_sk [] 41 ZB rfl ?_
       exact ZD [] rfl hx rfl rfl
      ·
       refine Run.llz [0] 5 ZB rfl (ZI hx E138 rfl txg_mayKeys_ok rfl ⟨b1,trivial⟩ ?_)
       intro k2 k3 hx
       refine Run.llz [] 4 ZB rfl (ZQ 81 hx rfl (λc4 hx=> ?_) (λc4 hx=> ?_))
       ·
        refine Run.lnz_sk [] 35 ZB rfl ?_
        exact ZD [] rfl hx rfl rfl
       ·
        refine Run.llz [0] 5 ZB rfl (ZI hx E138 rfl txg_mayKeys_ok rfl ⟨b2,trivial⟩ ?_)
        intro k4 k5 hx
        refine Run.llz [] 4 ZB rfl (ZQ 87 hx rfl (λa0 hx=> ?_) (λa0 hx=> ?_))
        ·
         refine Run.lnz_sk [] 29 ZB rfl ?_
         exact ZD [] rfl hx rfl rfl
        ·
         refine Run.llz [0] 8 ZB rfl (ZQ 92 hx rfl (λa1 hx=> ?_) (λa1 hx=> ?_))
         ·
          refine Run.lnz_sk [] 24 ZB rfl ?_
          exact ZD [] rfl hx rfl rfl
         ·
          refine Run.llz [0] 8 ZB rfl (ZQ 97 hx rfl (λc5 hx=> ?_) (λc5 hx=> ?_))
          ·
           refine Run.lnz_sk [] 19 ZB rfl ?_
           exact ZD [] rfl hx rfl rfl
          ·
           refine Run.llz [0] 8 ZB rfl (ZQ 102 hx rfl (λc6 hx=> ?_) (λc6 hx=> ?_))
           ·
            refine Run.lnz_sk [] 14 ZB rfl ?_
            exact ZD [] rfl hx rfl rfl
           ·
            refine Run.lcz_s [0] 9 ZB rfl (ZG hx rfl (λc7 hx=> ?_) (λc7 hx=> ?_))
            ·
             refine Run.cnz_k [] 7 ZB rfl ?_
             exact ZD [] rfl hx rfl rfl
            ·
             refine Run.cl_s [0] 7 ZB rfl (ZA rfl rfl (ZM U53 rfl (IsSlice.long k)) (Run.lcz_s [] 3 ZB rfl (ZO hx [1] [0] rfl rfl (λa2 l0 o0 l o g=>∃b4:Unit,l=l0∧o=o0∧H=g∧a2=.inl b4) (λa2 k6 hx=> ?_) (λa2 v hx=> ?_))))
             ·
              rintro _ _ _ ⟨b4,rfl,rfl,rfl,rfl⟩
              simp only[Sum.elim_inl]at hx
              refine Run.nl_s [0] 7 ZB rfl ?_
              obtain⟨k7,c8,hx⟩:=ZU hx
              refine Zg (vs:=[_,_]) (args:=[_,_]) (K:=[_]) (rst:=[]) E142 rfl rfl rfl (Ze 0 rfl ZT) (slices_ContainsFunc_Line_ok d.Lines d _ m a9 b0 s j m b1 b2 k _ c8) rfl (λk8 k9 l1 c9 l2 l3=> ?_)
              obtain⟨l4,l5,l6,l7,l8,l9,m0,m1,m2,m3,m4,m5,m6,m7,m8,m9,n0,n1,n2,n3,n4,n5,n6,n7,rfl,rfl,rfl,n8,n9,o1,o2,o3,o4,o5,o6,-⟩:=c9
              refine Run.lcz_s [] 2 ZB rfl (ZG hx rfl (λd0 hx=> ?_) (λd0 hx=> ?_))
              ·
               refine Run.cnz_k [] 7 ZB rfl ?_
               exact ZD [] rfl hx rfl rfl
              ·
               refine Run.cnz_s [] 8 ZB rfl ?_
               exact ZD [] rfl hx rfl rfl
             ·
              refine JC.block (ZS [1,108,109] [0] rfl rfl (λl0 o0 x l o g=>l=(110,.int .i64 ((x:Nat):Int))::l0∧o=o0∧H=g) hx ⟨rfl,rfl,rfl⟩ rfl ?_)
              ·
               rintro o7 x _ _ _ ⟨rfl,rfl,rfl⟩ o8 hx h
               unfold txg_Check_l2 at hx
               refine Run.cc [] 6 ZB rfl (ZG hx rfl (λq hx=> ?_) (λq hx=> ?_))
               ·
                refine Run.cl_s [] 7 ZB rfl ?_
                obtain⟨c,a3,hx⟩:=ZJ hx
                obtain⟨d1,d2,d3,a4,a5,d4,a6⟩:=IsSlice.elem k a3
                obtain⟨o9,rfl,a7⟩:=a5
                obtain⟨b5,b6,rfl⟩:=IsSlice.val a7
                refine ZA rfl rfl (Zd U53 S101 rfl rfl a4) (ZA rfl rfl (Zz 0 S101 rfl a6 rfl rfl) (JL.alloc Z101 rfl (λp0 p1=>Run.ll_s [0,1,0] 10 ZB rfl ?_)))
                obtain⟨p2,d5,hx⟩:=ZU hx
                refine Zg (vs:=[_,_]) (args:=[_,_]) (K:=[]) (rst:=[_,_]) E139 rfl rfl rfl ZT (txg_line_ok d.Lines c.Set _ m _ d5) rfl (λp3 p4 p5 d6 p6 p7=> ?_)
                obtain⟨p8,rfl,rfl,rfl,b7,-⟩:=d6
                refine Run.lc_s [] 4 ZB rfl (Zh (so:=[(_,[]),(_,[])]) 29 rfl Mixed ⟨by kernel_rfl,by kernel_rfl⟩ (ZX [0,1] rfl) ?_)
                refine JB.val (i:=0) [] rfl (ZW rfl) ?_
                refine JB.val (i:=1) [] rfl (R.eqlNP U190 rfl rfl b7) ?_
                refine JB.val (i:=2) [] rfl (ZW rfl) ?_
                refine JB.gX 122 hx rfl (λd7 hx=> ?_) (λd7 hx=> ?_)
                ·
                 refine JB.run 26 [3,4,5,6,7,8,9,10,11,12,13,14,15,16,17,18,19,20,21,22,23,24,25,26,27,28] [] ZB rfl ?_
                 refine JB.doneN (by kernel_rfl) ?_
                 refine Run.nnz_sbk [] 10 ZB rfl ?_
                 obtain rfl:=ZH h hx
                 refine Run.nnz_kb [] 2 ZB rfl ?_
                 clear hx;have hx:=v
                 simp only[Sum.elim_inl,Sum.elim_inr]at hx
                 refine Run.nnz_kk [] 2 ZB rfl ?_
                 exact ZD [] rfl hx rfl rfl
                ·
                 refine JB.val (i:=3) [] rfl (ZW rfl) ?_
                 obtain⟨p9,d8,hx⟩:=ZU hx
                 obtain⟨d9,e0,hx⟩:=ZJ hx
                 obtain⟨q0,q1,q2,e1,e2,q3,e3⟩:=PE.elem b7 d8 m e0
                 obtain⟨q4,rfl,e4⟩:=e2
                 obtain⟨q5,q6,rfl⟩:=IsSlice.val e4
                 refine JB.val (i:=4) [] rfl (R.nilO rfl e1) ?_
                 refine JB.val (i:=5) [] rfl (R.fa F99_1 rfl) ?_
                 refine JB.val (i:=6) [] rfl (ZY S5 rfl (e3 1 _ rfl)) ?_
                 refine JB.val (i:=7) [] rfl (R.neq8 (a:=d9.Kind) (b:=(1:UInt8)) rfl rfl) ?_
                 refine JB.run 2 [8,9] [] ZB rfl ?_
                 refine JB.gX 129 hx rfl (λe5 hx=> ?_) (λe5 hx=> ?_)
                 ·
                  refine JB.run 19 [10,11,12,13,14,15,16,17,18,19,20,21,22,23,24,25,26,27,28] [] ZB rfl ?_
                  refine JB.doneN (by kernel_rfl) ?_
                  refine Run.nnz_sbk [] 10 ZB rfl ?_
                  obtain rfl:=ZH h hx
                  refine Run.nnz_kb [] 2 ZB rfl ?_
                  clear hx;have hx:=v
                  simp only[Sum.elim_inl,Sum.elim_inr]at hx
                  refine Run.nnz_kk [] 2 ZB rfl ?_
                  exact ZD [] rfl hx rfl rfl
                 ·
                  refine JB.val (i:=10) [] rfl (R.ldoN 0 (vs:=[.int .i64 c.Set,.int .i64 c.Obj,.int .i64 c.Index,.int .u8 (c.Kind.toNat:Int),.int .i64 c.Links,.int .i64 c.Size,.slice b5 c.Data.length b6,.int .i64 c.Laid.At,.int .u32 (c.Laid.Birth.toNat:Int),.int .u32 (c.Laid.Iv.toNat:Int),.int .u32 (c.Laid.Tag.toNat:Int),.int .u32 (c.Laid.Sum.toNat:Int)]) S101 rfl rfl rfl rfl) ?_
                  refine JB.one (i:=11) (by kernel_rfl) ?_
                  refine JOB.step rfl ⟨_,_,rfl,rfl,rfl⟩ rfl (λK hK=>ZI hx E140 rfl txg_mayChange_ok rfl ⟨a7,trivial⟩ ?_)
                  intro q7 q8 hx
                  refine JL.nil (hK _ _ _ (Hle.refl _) (ZX [0,1] rfl) ?_)
                  refine JB.run 3 [12,13,14] [] ZB rfl ?_
                  refine JB.gX 134 hx rfl (λe6 hx=> ?_) (λe6 hx=> ?_)
                  ·
                   refine JB.run 14 [15,16,17,18,19,20,21,22,23,24,25,26,27,28] [] ZB rfl ?_
                   refine JB.doneN (by kernel_rfl) ?_
                   refine Run.nnz_sbk [] 10 ZB rfl ?_
                   obtain rfl:=ZH h hx
                   refine Run.nnz_kb [] 2 ZB rfl ?_
                   clear hx;have hx:=v
                   simp only[Sum.elim_inl,Sum.elim_inr]at hx
                   refine Run.nnz_kk [] 2 ZB rfl ?_
                   exact ZD [] rfl hx rfl rfl
                  ·
                   refine JB.run 3 [15,16,17] [] ZB rfl ?_
                   refine JB.gX 137 hx rfl (λe7 hx=> ?_) (λe7 hx=> ?_)
                   ·
                    refine JB.run 4 [18,19,20,21] [1] ZB rfl ?_
                    obtain⟨q9,e8,hx⟩:=ZJ hx
                    obtain⟨r0,r1,r2,e9,f0,r3,f1⟩:=IsSlice.elem k e8
                    obtain⟨r4,rfl,b8⟩:=f0
                    obtain⟨r5,r6,rfl⟩:=IsSlice.val b8
                    refine JB.val (i:=22) [] rfl (Zd U53 S101 rfl rfl e9) ?_
                    refine JB.val (i:=23) [] rfl (Zz 0 S101 rfl f1 rfl rfl) ?_
                    refine JB.val (i:=24) [] rfl (R.ldoN 0 (vs:=[.int .i64 c.Set,.int .i64 c.Obj,.int .i64 c.Index,.int .u8 (c.Kind.toNat:Int),.int .i64 c.Links,.int .i64 c.Size,.slice b5 c.Data.length b6,.int .i64 c.Laid.At,.int .u32 (c.Laid.Birth.toNat:Int),.int .u32 (c.Laid.Iv.toNat:Int),.int .u32 (c.Laid.Tag.toNat:Int),.int .u32 (c.Laid.Sum.toNat:Int)]) S101 rfl rfl rfl rfl) ?_
                    refine JB.one (i:=25) (by kernel_rfl) ?_
                    refine JOB.step rfl ⟨_,_,rfl,rfl,rfl⟩ rfl (λK hK=>ZI hx E141 rfl txg_order_ok rfl ⟨b8,a7,trivial⟩ ?_)
                    intro r7 r8 hx
                    refine JL.nil (hK _ _ _ (Hle.refl _) (ZX [0,1] rfl) ?_)
                    refine JB.run 3 [26,27,28] [] ZB rfl ?_
                    refine JB.doneN (by kernel_rfl) ?_
                    refine Zw (ZG hx rfl (λf2 hx=> ?_) (λf2 hx=> ?_))
                    ·
                     refine Run.cnz_bk [] 8 ZB rfl ?_
                     obtain rfl:=ZH h hx
                     refine Run.nnz_kb [] 2 ZB rfl ?_
                     clear hx;have hx:=v
                     simp only[Sum.elim_inl,Sum.elim_inr]at hx
                     refine Run.nnz_kk [] 2 ZB rfl ?_
                     exact ZD [] rfl hx rfl rfl
                    ·
                     refine Run.clz_bs [] 4 ZB rfl (ZA rfl rfl (Zi rfl rfl (of_decide_eq_true q) (IsSlice.lenI k)) (Run.lnz [] 2 ZB rfl ?_))
                     replace hx:=ZP h hx
                     refine JN.forget 0 ?_
                     exact ZC ⟨x+1,⟨rfl,rfl,rfl⟩,hx⟩ rfl rfl rfl
                   ·
                    refine JB.run 11 [18,19,20,21,22,23,24,25,26,27,28] [] ZB rfl ?_
                    refine JB.doneN (by kernel_rfl) ?_
                    refine Run.nlz_sbs [] 6 ZB rfl (ZA rfl rfl (Zi rfl rfl (of_decide_eq_true q) (IsSlice.lenI k)) (Run.lnz [] 2 ZB rfl ?_))
                    replace hx:=ZP h hx
                    refine JN.forget 0 ?_
                    exact ZC ⟨x+1,⟨rfl,rfl,rfl⟩,hx⟩ rfl rfl rfl
               ·
                refine Run.cnz_k [] 2 ZB rfl ?_
                obtain rfl:=ZH h hx
                refine Run.nnz_kb [] 2 ZB rfl ?_
                exact ZC ⟨(),rfl,rfl,rfl,rfl⟩ rfl rfl rfl
     ·
      refine JC.block (ZS [1,34,35] [0] rfl rfl (λl0 o0 y l o g=>l=(36,.int .i64 ((y:Nat):Int))::l0∧o=o0∧H=g) hx ⟨rfl,rfl,rfl⟩ rfl ?_)
      ·
       rintro r9 y _ _ _ ⟨rfl,rfl,rfl⟩ s0 hx f
       unfold txg_Check_l1 at hx
       refine Run.cc [] 6 ZB rfl (ZG hx rfl (λa8 hx=> ?_) (λa8 hx=> ?_))
       ·
        refine Run.cl_s [] 7 ZB rfl ?_
        obtain⟨s1,f3,hx⟩:=ZJ hx
        obtain⟨s2,s3,s4,f4,f5,s5,f6⟩:=IsSlice.elem j f3
        obtain rfl:=f5
        refine ZA rfl rfl (Zd U51 S3 rfl rfl f4) (ZA rfl rfl (ZY S3 rfl (f6 0 _ rfl)) (Run.ll_s [] 9 ZB rfl (ZQ 43 hx rfl (λf7 hx=> ?_) (λf7 hx=> ?_))))
        ·
         refine Run.lnz_sbk [] 37 ZB rfl ?_
         obtain rfl:=ZH f hx
         refine Run.nnz_kb [] 2 ZB rfl ?_
         clear hx;have hx:=p
         simp only[Sum.elim_inl,Sum.elim_inr]at hx
         refine Run.nnz_kk [] 2 ZB rfl ?_
         exact ZD [] rfl hx rfl rfl
        ·
         refine Run.llz [] 6 ZB rfl (ZQ 47 hx rfl (λa0 hx=> ?_) (λa0 hx=> ?_))
         ·
          refine Run.lnz_sbk [] 33 ZB rfl ?_
          obtain rfl:=ZH f hx
          refine Run.nnz_kb [] 2 ZB rfl ?_
          clear hx;have hx:=p
          simp only[Sum.elim_inl,Sum.elim_inr]at hx
          refine Run.nnz_kk [] 2 ZB rfl ?_
          exact ZD [] rfl hx rfl rfl
         ·
          refine Run.llz [] 6 ZB rfl (ZQ 50 hx rfl (λa1 hx=> ?_) (λa1 hx=> ?_))
          ·
           refine Run.llz [0] 11 ZB rfl ?_
           obtain⟨s6,f8,hx⟩:=ZJ hx
           obtain⟨s7,s8,s9,f9,g0,t0,g1⟩:=IsSlice.elem j f8
           obtain rfl:=g0
           refine ZA rfl rfl (Zd U51 S3 rfl rfl f9) (Zq rfl rfl rfl (ZA rfl rfl (ZY S3 rfl (g1 0 _ rfl)) (Run.llz [] 6 ZB rfl (ZQ 61 hx rfl (λq hx=> ?_) (λq hx=> ?_)))))
           ·
            refine Run.lnz_sbk [] 19 ZB rfl ?_
            obtain rfl:=ZH f hx
            refine Run.nnz_kb [] 2 ZB rfl ?_
            clear hx;have hx:=p
            simp only[Sum.elim_inl,Sum.elim_inr]at hx
            refine Run.nnz_kk [] 2 ZB rfl ?_
            exact ZD [] rfl hx rfl rfl
           ·
            refine Run.llz [0] 9 ZB rfl ?_
            obtain⟨c,a3,hx⟩:=ZJ hx
            obtain⟨d1,d2,d3,a4,a5,d4,a6⟩:=IsSlice.elem s a3
            obtain rfl:=a5
            refine ZA rfl rfl (Zd U26 S5 rfl rfl a4) (Zq rfl rfl rfl (ZA rfl rfl (ZY S5 rfl (a6 0 _ rfl)) (Zq rfl rfl rfl (ZA rfl rfl (R.neq8 (a:=c) (b:=(1:UInt8)) rfl rfl) (Run.lcz_s [] 3 ZB rfl (ZG hx rfl (λg2 hx=> ?_) (λg2 hx=> ?_)))))))
            ·
             refine Run.cnz_bk [] 8 ZB rfl ?_
             obtain rfl:=ZH f hx
             refine Run.nnz_kb [] 2 ZB rfl ?_
             clear hx;have hx:=p
             simp only[Sum.elim_inl,Sum.elim_inr]at hx
             refine Run.nnz_kk [] 2 ZB rfl ?_
             exact ZD [] rfl hx rfl rfl
            ·
             refine Run.clz_bs [] 4 ZB rfl (ZA rfl rfl (Zi rfl rfl (of_decide_eq_true a8) (IsSlice.lenI j)) (Run.lnz [] 2 ZB rfl ?_))
             replace hx:=ZP f hx
             exact ZC ⟨y+1,⟨rfl,rfl,rfl⟩,hx⟩ rfl rfl rfl
          ·
           refine Run.llz [0] 21 ZB rfl ?_
           obtain⟨g3,g4,hx⟩:=ZJ hx
           obtain⟨t1,t2,t3,g5,g6,t4,g7⟩:=IsSlice.elem s g4
           obtain rfl:=g6
           refine ZA rfl rfl (Zd U26 S5 rfl rfl g5) (Zq rfl rfl rfl (ZA rfl rfl (ZY S5 rfl (g7 0 _ rfl)) (Zq rfl rfl rfl (ZA rfl rfl (R.neq8 (a:=g3) (b:=(1:UInt8)) rfl rfl) (Run.lcz_s [] 3 ZB rfl (ZG hx rfl (λg8 hx=> ?_) (λg8 hx=> ?_)))))))
           ·
            refine Run.cnz_bk [] 8 ZB rfl ?_
            obtain rfl:=ZH f hx
            refine Run.nnz_kb [] 2 ZB rfl ?_
            clear hx;have hx:=p
            simp only[Sum.elim_inl,Sum.elim_inr]at hx
            refine Run.nnz_kk [] 2 ZB rfl ?_
            exact ZD [] rfl hx rfl rfl
           ·
            refine Run.clz_bs [] 4 ZB rfl (ZA rfl rfl (Zi rfl rfl (of_decide_eq_true a8) (IsSlice.lenI j)) (Run.lnz [] 2 ZB rfl ?_))
            replace hx:=ZP f hx
            exact ZC ⟨y+1,⟨rfl,rfl,rfl⟩,hx⟩ rfl rfl rfl
       ·
        refine Run.cnz_k [] 2 ZB rfl ?_
        obtain rfl:=ZH f hx
        refine Run.nnz_kb [] 2 ZB rfl ?_
        exact ZC ⟨(),rfl,rfl,rfl,rfl⟩ rfl rfl rfl
theorem data_find_1_ok (a:Line)(h:Int)(H:Heaplet){c:Option Addr}{d:Nat}{f:Nat}{b:Nat}(i:IsSlice H R_Ptr 5 (.slice c d f) a.Dead)(r:Bool×Int)(hx:data_find_1 a h=some r):
  Does Tryz.prog 122 #[.agg #[.int .i64 a.Id,.int .u8 (a.Kind.toNat:Int),.int .i64 a.Owner,.int .i64 a.Prev,.int .u32 (a.Txg.toNat:Int),.int .u32 (a.Guid.toNat:Int),.int .i64 a.Key,.int .i64 a.Root.At,.int .u32 (a.Root.Birth.toNat:Int),.int .u32 (a.Root.Iv.toNat:Int),.int .u32 (a.Root.Tag.toNat:Int),.int .u32 (a.Root.Sum.toNat:Int),.slice c d f],.pointer (some ⟨b,0,none⟩)] [[(b,.cells #[.int .i64 h] 3 (0,0))]] H (λu K' H'=>u=.bool r.1∧K'= [[(b,.cells #[.int .i64 r.2] 3 (0,0))]]∧H=H'∧True):=by
 refine Does.enterL (vs:=[.agg #[.int .i64 a.Id,.int .u8 (a.Kind.toNat:Int),.int .i64 a.Owner,.int .i64 a.Prev,.int .u32 (a.Txg.toNat:Int),.int .u32 (a.Guid.toNat:Int),.int .i64 a.Key,.int .i64 a.Root.At,.int .u32 (a.Root.Birth.toNat:Int),.int .u32 (a.Root.Iv.toNat:Int),.int .u32 (a.Root.Tag.toNat:Int),.int .u32 (a.Root.Sum.toNat:Int),.slice c d f],.pointer (some ⟨b,0,none⟩)]) (l:=[(0,.agg #[.int .i64 a.Id,.int .u8 (a.Kind.toNat:Int),.int .i64 a.Owner,.int .i64 a.Prev,.int .u32 (a.Txg.toNat:Int),.int .u32 (a.Guid.toNat:Int),.int .i64 a.Key,.int .i64 a.Root.At,.int .u32 (a.Root.Birth.toNat:Int),.int .u32 (a.Root.Iv.toNat:Int),.int .u32 (a.Root.Tag.toNat:Int),.int .u32 (a.Root.Sum.toNat:Int),.slice c d f]),(1,.pointer (some ⟨b,0,none⟩))]) Tryz.func122 rfl rfl ⟨rfl,rfl,trivial⟩ (λw hlt=> ?_)
 unfold data_find_1 at hx
 refine Run.cl [] 2 ZB rfl (ZV rfl rfl (λj k=>Run.lnz_s [0,1] 13 ZB rfl (Zm (vs:=[.bool (decide (a.Id=h))]) (K:=[_]) (rst:=[_]) (.inl rfl) rfl rfl (Zs rfl rfl) (Ze 1 rfl ZT) ?_)))
 obtain rfl:=Option.some.inj hx
 exact⟨rfl,rfl,rfl,trivial⟩
theorem slices_IndexFunc_Line_v2_ok (m:List Line)(p:Int)(H:Heaplet){c:Option Addr}{d:Nat}{f:Nat}{a:Nat}(h:IsSlice H R_Line 13 (.slice c d f) m)(r:Int×Int)(hx:slices_IndexFunc_Line_v2 m p=some r):
  Does Tryz.prog 121 #[.slice c d f,.func (.func 122) #[] #[.pointer (some ⟨a,0,none⟩)]] [[(a,.cells #[.int .i64 p] 3 (0,0))]] H (λu K' H'=>u=.int .i64 r.1∧K'= [[(a,.cells #[.int .i64 r.2] 3 (0,0))]]∧H=H'∧True):=by
 refine Does.enterL (vs:=[.slice c d f,.func (.func 122) #[] #[.pointer (some ⟨a,0,none⟩)]]) (l:=[(0,.slice c d f),(1,.func (.func 122) #[] #[.pointer (some ⟨a,0,none⟩)])]) Tryz.func121 rfl rfl ⟨rfl,rfl,trivial⟩ (λw hlt=> ?_)
 unfold slices_IndexFunc_Line_v2 at hx
 refine Run.cl [] 9 ZB rfl (ZA rfl rfl (ZM U52 rfl (IsSlice.long h)) (Run.lcz_s [] 3 ZB rfl (ZO hx [1] [] rfl rfl (λi l0 o0 l o g=>∃j:Int,l=l0∧o= [(a,.cells #[.int .i64 j] 3 (0,0))]::o0∧H=g∧i=.inl j) (λi a6 hx=> ?_) (λi v hx=> ?_))))
 ·
  rintro _ _ _ ⟨j,rfl,rfl,rfl,rfl⟩
  simp only[Sum.elim_inl]at hx
  refine Run.nnz_s [] 7 ZB rfl (Zm (vs:=[.int .i64 (-1)]) (K:=[_]) (rst:=[]) (.inl rfl) rfl rfl (Zs rfl rfl) (Ze 0 rfl ZT) ?_)
  obtain rfl:=Option.some.inj hx
  exact⟨rfl,rfl,rfl,trivial⟩
 ·
  refine JC.block (ZS [0,1,7] [] rfl rfl (λl0 o0 b l o g=>l=(8,.int .i64 ((b.2:Nat):Int))::l0∧o= [(a,.cells #[.int .i64 b.1] 3 (0,0))]::o0∧H=g) hx ⟨rfl,rfl,rfl⟩ rfl ?_)
  ·
   rintro a7 b _ _ _ ⟨rfl,rfl,rfl⟩ a8 hx k
   unfold slices_IndexFunc_Line_v2_l1 at hx
   refine Run.cc [] 6 ZB rfl (ZG hx rfl (λq hx=> ?_) (λq hx=> ?_))
   ·
    refine Run.cl_s [] 15 ZB rfl ?_
    obtain⟨x,y,hx⟩:=ZJ hx
    obtain⟨a9,b0,b1,z,a0,b2,a1⟩:=IsSlice.elem h y
    obtain⟨b3,rfl,s⟩:=a0
    obtain⟨b4,b5,rfl⟩:=IsSlice.val s
    refine ZA rfl rfl (Zd U52 S99 rfl rfl z) (ZA rfl rfl (Zz 0 S99 rfl a1 rfl rfl) ?_)
    obtain⟨a2,a3,hx⟩:=ZU hx
    refine Zg (vs:=[_]) (args:=[_,_]) (K:=[_]) (rst:=[]) E122 rfl rfl rfl (Ze 0 rfl ZT) (data_find_1_ok x b.1 _ s _ a3) rfl (λb6 b7 b8 a4 b9 c0=> ?_)
    obtain⟨rfl,rfl,rfl,-⟩:=a4
    refine Run.lcz_s [] 2 ZB rfl (ZG hx rfl (λa5 hx=> ?_) (λa5 hx=> ?_))
    ·
     refine Run.cnz_bk [] 9 ZB rfl ?_
     obtain rfl:=ZH k hx
     refine Run.nnz_kb [] 2 ZB rfl ?_
     clear hx;have hx:=v
     simp only[Sum.elim_inl,Sum.elim_inr]at hx
     refine Run.nnz_kk [] 2 ZB rfl (Zm (vs:=[.int .i64 ((b.2:Nat):Int)]) (K:=[_]) (rst:=[]) (.inl rfl) rfl rfl (Zs rfl rfl) (Ze 0 rfl ZT) ?_)
     obtain rfl:=Option.some.inj hx
     exact⟨rfl,rfl,rfl,trivial⟩
    ·
     refine Run.clz_bs [] 4 ZB rfl (ZA rfl rfl (Zi rfl rfl (of_decide_eq_true q) (IsSlice.lenI h)) (Run.lnz [] 2 ZB rfl ?_))
     replace hx:=ZP k hx
     exact ZC ⟨(a2.2,b.2+1),⟨rfl,rfl,rfl⟩,hx⟩ rfl rfl rfl
   ·
    refine Run.cnz_k [] 2 ZB rfl ?_
    obtain rfl:=ZH k hx
    refine Run.nnz_kb [] 2 ZB rfl ?_
    exact ZC ⟨b.1,rfl,rfl,rfl,rfl⟩ rfl rfl rfl
theorem data_find_ok{a b}:Con Tryz.prog 65 true (sp_Pool false a++ [.i b]) (data_find a b) (λr=>sp_Line false r.1++ [.i r.2]):=by
 intro H a3 a4 a5 f a6 a7 a8 h a9 b0 b1 j b2 b3 b4 k b5 b6 b7 c b8 b9 c0 m c1 c2 c3 p c4 c5 c6 q r hx
 refine Does.enterC Tryz.func65 rfl rfl ?_
 intro w
 unfold data_find at hx
 refine Run.cl [] 2 ZB rfl (ZV rfl rfl (λc7 c8=>ZV rfl rfl (λc9 d0=>JL.alloc Z99 rfl (λd1 d2=>Run.ll_s [2] 7 ZB rfl (ZI hx E87 rfl txg_Check_ok rfl ⟨f,h,j,k,c,m,p,q,trivial⟩ ?_)))))
 intro d3 d4 hx
 refine Run.lcz_s [] 9 ZB rfl (ZG hx rfl (λs hx=> ?_) (λs hx=> ?_))
 ·
  refine Run.cnz_k [0] 10 ZB rfl ?_
  exact JN.conCQ [0] [] ZB rfl hx rfl ⟨IsSlice.nil _ _ _,rfl⟩
 ·
  refine Run.cl_s [2] 7 ZB rfl ?_
  obtain⟨d5,v,hx⟩:=ZU hx
  refine Zg (vs:=[_,_]) (args:=[_,_]) (K:=[_]) (rst:=[_,_]) E121 rfl rfl rfl (Ze 1 rfl ZT) (slices_IndexFunc_Line_v2_ok a.Lines b _ c _ v) rfl (λd6 d7 d8 x d9 e0=> ?_)
  obtain⟨rfl,rfl,rfl,-⟩:=x
  refine Run.lc_s [] 10 ZB rfl (ZG hx rfl (λy hx=> ?_) (λy hx=> ?_))
  ·
   refine Run.cnz_k [1] 9 ZB rfl ?_
   exact JN.conCQ [1] [] ZB rfl hx rfl ⟨IsSlice.nil _ _ _,rfl⟩
  ·
   refine Run.cl_s [2] 7 ZB rfl ?_
   obtain⟨e1,z,hx⟩:=ZJ hx
   obtain⟨e2,e3,e4,a0,a1,e5,a2⟩:=IsSlice.elem c z
   obtain⟨e6,rfl,d⟩:=a1
   obtain⟨e7,e8,rfl⟩:=IsSlice.val d
   refine ZA rfl rfl (Zd U52 S99 rfl rfl a0) (ZA rfl rfl (Zz 0 S99 rfl a2 rfl rfl) (Run.lnz_s [1] 5 ZB rfl ?_))
   exact JN.conCQ [1] [] ZB rfl hx rfl ⟨d,rfl⟩
theorem slices_Chunk_int_ok (b:List Int)(a:Int)(H:Heaplet){ao:Option Addr}{n cap:Nat}(hs:IsSlice H RInt 1 (.slice ao n cap) b)(r:Unit)(hx:slices_Chunk_int b a=some r):
  Does Tryz.prog 123 #[.slice ao n cap,.int .i64 a] [] H (λu K' H'=>∃b2 b3:Nat,u=.func (.func 182) #[] #[.pointer (some ⟨b2,0,none⟩),.pointer (some ⟨b3,0,none⟩)]∧K'= []∧H' b2 0=some (.slice ao n cap)∧H' b3 0=some (.int .i64 a)∧(1≤a∧a≤1099511627776∧b.length≤LIM)∧True):=by
 unfold slices_Chunk_int at hx
 split at hx
 case isFalse=>cases hx
 rename_i hp
 refine Does.enter (vs:=[.slice ao n cap,.int .i64 a]) (l:=[(0,.slice ao n cap),(1,.int .i64 a)]) Tryz.func123 rfl rfl ⟨rfl,rfl,trivial⟩ (λw=>Run.cl [] 2 ZB rfl (ZV rfl rfl (λb2 hb2=>ZV rfl rfl (λb3 hb3=>Run.lc_s [0] 10 ZB rfl (JC.condB rfl (λc=> ?_) (λc=> ?_))))))
 ·
  exact absurd (of_decide_eq_true c) (by omega)
 refine Run.cnz_s [] 9 ZB rfl (JN.pubBox 0 rfl hb3 (λH1 hle1 hc1=>JN.forget 0 (JN.pubBox 0 rfl hb2 (λH2 hle2 hc2=>JN.forget 0 (JN.out1 (.inl rfl) rfl rfl rfl ?_)))))
 exact⟨_,_,rfl,rfl,hc2 0 _ rfl,hle2 _ _ _ (hc1 0 _ rfl),hp,trivial⟩
theorem slices_Chunk_int_it (m:List Int)(N:Int)(hN:1≤N∧N≤1099511627776∧m.length≤LIM)(H:Heaplet){v:Value}{b2 b3:Nat}(hs:IsSlice H RInt 1 v m)(hb2:H b2 0=some v)(hb3:H b3 0=some (.int .i64 N)):
  IterL Tryz.prog 182 #[.pointer (some ⟨b2,0,none⟩),.pointer (some ⟨b3,0,none⟩)] H (λH' args (y:List Int)=>∃ao:Option Addr,args= #[.slice ao y.length y.length]∧IsSlice H' RInt 1 (.slice ao y.length y.length) y) (chunks N.toNat m.length m):=by
 intro lr I X o hY hI
 obtain⟨hN1,hN2,hml⟩:=hN
 unfold LIM at hml
 obtain⟨ao,cap,rfl⟩:=hs.val
 show Does Tryz.prog 182 #[.func (.yield lr) #[] #[],.pointer (some ⟨b2,0,none⟩),.pointer (some ⟨b3,0,none⟩)] o H _
 refine Does.enter (vs:=[.func (.yield lr) #[] #[],.pointer (some ⟨b2,0,none⟩),.pointer (some ⟨b3,0,none⟩)]) (l:=[(0,.func (.yield lr) #[] #[]),(1,.pointer (some ⟨b2,0,none⟩)),(2,.pointer (some ⟨b3,0,none⟩))]) Tryz.func182 rfl rfl ⟨rfl,rfl,rfl,trivial⟩ (λw=>Run.cc [] 6 ZB rfl ?_)
 refine JC.loop (ι:=Nat×Nat×List (List Int)×List Own×Heaplet) (λi=> [(0,.func (.yield lr) #[] #[]),(1,.pointer (some ⟨b2,0,none⟩)),(2,.pointer (some ⟨b3,0,none⟩)),(4,.int .i64 ((i.1:Nat):Int))]) (λi=>i.2.2.2.1) (λi=>i.2.2.2.2)
  (λi=>i.1≤2199023255552∧m.length≤i.1+i.2.1∧i.2.2.1++chunks N.toNat i.2.1 (m.drop i.1)=chunks N.toNat m.length m∧I i.2.2.1 i.2.2.2.1 i.2.2.2.2∧Hle H i.2.2.2.2) (λi=>m.length+1-i.1) (0,m.length,[],o,H) (⟨by omega,by simp,by simp,hI,Hle.refl _⟩) ⟨rfl,rfl,rfl,rfl,trivial⟩ rfl rfl ?_
 rintro⟨i,f,pre,o2,H2⟩ hI0
 dsimp only at hI0⊢
 obtain⟨hi2,hf,hpre,hI2,hle⟩:=hI0
 have hb2':=hle _ _ _ hb2
 have hb3':=hle _ _ _ hb3
 have hs2:=IsSlice.mono RInt.mono hle hs
 refine Run.cl [] 4 ZB rfl (ZA rfl rfl (ZY S51 rfl hb2') (ZA rfl rfl (ZM U51 rfl (IsSlice.long hs2)) (Run.lcz_s [] 3 ZB rfl (JC.condB rfl (λc=> ?_) (λc=> ?_)))))
 ·
  have hlt:i<m.length:=by have:=of_decide_eq_true c;omega
  have hne:m.drop i≠[]:=λh=>by have:=List.drop_eq_nil_iff.1 h;omega
  obtain⟨f',rfl⟩:∃f',f=f'+1:=⟨f-1,by omega⟩
  rw[chunks_step hne,List.drop_drop]at hpre
  obtain⟨e,he⟩:∃e:Int,e=min N ((m.length:Int)-i):=⟨_,rfl⟩
  have hcut:(m.drop i).take N.toNat=cut m (i:Int) ((i:Int)+e):=by
   unfold cut
   rw[Int.toNat_natCast]
   by_cases h:N≤(m.length:Int)-i
   ·
    rw[show((i:Int)+e).toNat-i=N.toNat by omega]
   ·
    rw[List.take_of_length_le (by rw[List.length_drop];omega),List.take_of_length_le (by rw[List.length_drop];omega)]
  refine Run.cc_s [] 5 ZB rfl ?_
  obtain⟨v1,c1,h1,h2,h3,hs1⟩:=IsSlice.cutv (m':=cut m (i:Int) (m.length:Int)) hs2 rfl ⟨by omega,by omega,Int.le_refl _⟩
  have hl1:((cut m (i:Int) (m.length:Int)).length:Int)=(m.length:Int)-i:=cut_length (by omega) (by omega) (Int.le_refl _)
  refine JC.draw (so:=[]) 7 rfl Mixed trivial (JA.val ⟨by kernel_rfl,by kernel_rfl⟩ (ZK _) (i:=0) rfl ⟨by kernel_rfl,by kernel_rfl,rfl⟩ trivial (ZL (Hle.refl _) trivial) (ZY S3 rfl hb3') rfl (JA.val ⟨by kernel_rfl,by kernel_rfl⟩ (ZK _) (i:=1) rfl ⟨by kernel_rfl,by kernel_rfl,rfl⟩ trivial (ZL (Hle.refl _) trivial) (ZY S51 rfl hb2') rfl (JA.val ⟨by kernel_rfl,by kernel_rfl⟩ (ZK _) (i:=2) rfl ⟨by kernel_rfl,by kernel_rfl,rfl⟩ trivial (ZL (Hle.refl _) trivial) (ZW rfl) rfl (JA.val ⟨by kernel_rfl,by kernel_rfl⟩ (ZK _) (i:=3) rfl ⟨by kernel_rfl,by kernel_rfl,rfl⟩ trivial (ZL (Hle.refl _) trivial) (R.slc (cap:=c1) (a:=(i:Int)) (b:=(m.length:Int)) (c:=(c1:Int)) (m:=m) (R:=RInt) U51 S3 rfl ⟨_,rfl⟩ rfl (by obtain⟨ao,n,e,_⟩:=h1;exact⟨ao,n,e,rfl⟩) ⟨by omega,by omega,h2⟩ h3 (.inl rfl)) rfl (JA.val ⟨by kernel_rfl,by kernel_rfl⟩ (ZK _) (i:=4) rfl ⟨by kernel_rfl,by kernel_rfl,rfl⟩ trivial (ZL (Hle.refl _) trivial) (R.lenE U51 rfl ⟨_,IsSlice.long hs1,hl1⟩) rfl (JA.val ⟨by kernel_rfl,by kernel_rfl⟩ (ZK _) (i:=5) rfl ⟨by kernel_rfl,by kernel_rfl,rfl⟩ trivial (ZL (Hle.refl _) trivial) (R.min2 rfl rfl) rfl ?_))))))
  rw[←he]
  refine JA.val ⟨by kernel_rfl,by kernel_rfl⟩ (ZK _) (i:=6) rfl ⟨by kernel_rfl,by kernel_rfl,rfl⟩ trivial (ZL (Hle.refl _) trivial) (R.assign rfl) rfl (JA.doneN (by kernel_rfl) (Zw ?_))
  have hw:w64 ((i:Int)+e)=(i:Int)+e:=Za (by omega) (by omega)
  obtain⟨v2,c2,ao2,g1,g2,hs3⟩:=IsSlice.cutc (m':=(m.drop i).take N.toNat) hs2 hcut ⟨by omega,by omega,by omega⟩
  subst g2
  refine Run.cl [] 3 ZB rfl (ZA rfl rfl (ZY S51 rfl hb2') (Run.llz [] 4 ZB rfl ?_))
  rw[hw]
  refine Run.llz [] 3 ZB rfl ?_
  rw[hw]
  refine ZA rfl rfl (R.slc (cap:=c2) (a:=(i:Int)) (b:=(i:Int)+e) (c:=(i:Int)+e) (m:=m) (R:=RInt) U51 S3 rfl ⟨_,rfl⟩ ⟨_,rfl⟩ ⟨_,rfl⟩ ⟨by omega,by omega,Int.le_refl _⟩ g1 (.inr (λh=>by cases h))) (JL.yield (vs:=[_]) (mine:=[]) ((m.drop i).take N.toNat) hY rfl rfl hI2 (⟨⟨ao2,rfl,hs3⟩,_,by rw[←hpre]⟩) rfl rfl (λo17 H17 hle17 hI17=> ?_) (λo17 H17 hle17 hX17=> ?_))
  ·
   refine Run.llz_sbs [] 9 ZB rfl (ZA rfl rfl (ZY S3 rfl (hle17 _ _ _ hb3')) (Run.lnz [] 3 ZB rfl ?_))
   have hw2:w64 ((i:Int)+N)=((i+N.toNat:Nat):Int):=by rw[Za (by omega) (by omega)];omega
   refine JN.again (i:=(i,f'+1,pre,o2,H2)) (i+N.toNat,f',pre++ [(m.drop i).take N.toNat],o17,H17) (by
    refine⟨?_,?_,?_,hI17,hle.trans hle17⟩
    ·
     simp only;omega
    ·
     simp only;omega
    ·
     simp only[List.append_assoc,List.singleton_append];exact hpre) (by simp only;omega) (by exact⟨rfl,rfl,rfl,by show some _=some _;rw[hw2],trivial⟩) rfl rfl
  ·
   refine Run.lnz_sbk [] 7 ZB rfl (Run.nnz_kb [] 2 ZB rfl (JN.out0 (.inl rfl) rfl rfl ?_))
   exact⟨hle.trans hle17,.inr ⟨_,⟨chunks N.toNat f' (m.drop (i+N.toNat)),by rw[←hpre];simp⟩,hX17⟩⟩
 ·
  have hge:m.length≤i:=by have:=of_decide_eq_false c;omega
  refine Run.cnz_kkb [] 4 ZB rfl (JN.out0 (.inr rfl) rfl rfl (⟨hle,.inl ⟨pre,?_,hI2⟩⟩))
  rw[←hpre,List.drop_eq_nil_of_le hge,chunks_nil,List.append_nil]
theorem data_within_ok{d}:Con Tryz.prog 66 false ([.sl false RInt 1 d]) (data_within d) (λr=> [.b r]):=by
 intro H c5 c6 c7 s r hx
 refine Does.enterMC Tryz.func66 rfl rfl ?_
 intro w
 unfold data_within at hx
 refine Run.cl [] 2 ZB rfl (JL.alloc Z4 rfl (λj c8=>Run.ll_s [] 6 ZB rfl ?_))
 obtain⟨c9,z,hx⟩:=ZU hx
 refine Zg (vs:=[_,_]) (args:=[_,_]) (K:=[]) (rst:=[_]) E123 rfl rfl rfl ZT (slices_Chunk_int_ok d 2 _ s _ z) rfl (λd0 d1 k a0 a1 d2=> ?_)
 obtain⟨d3,d4,rfl,rfl,a2,a3,a4,-⟩:=a0
 refine Run.lc_s [] 3 ZB rfl ?_
 obtain⟨a5,a6,hx⟩:=ZU hx
 refine JC.rangeL (RA:=λH' args (y:List Int)=>∃ao:Option Addr,args= #[.slice ao y.length y.length]∧IsSlice H' RInt 1 (.slice ao y.length y.length) y) rfl data_within_r1 () a5 a6 (λv o g=>∃a:Heaplet,o= [[(j,.cells #[.bool false] 4 (0,0))]]∧a=g∧Hle k a) (λe c o g=>(c=.ret∧∃t_8e0:Unit,t_8e0=e∧∃m:Heaplet,o= [[(j,.cells #[.bool false] 4 (0,0))]]∧m=g∧Hle k m)) rfl E182 (slices_Chunk_int_it d 2 a4 _ (s.mono RInt.mono a1) a2 a3) (λ_ _ _ h=>by obtain⟨_,h,_⟩:=h;rw[h];rfl) rfl ⟨k,rfl,rfl,(Hle.refl _)⟩ ?_ ?_ ?_
 ·
  rintro d5 x v args o g d6 ⟨a,rfl,rfl,f⟩ hA hx2
  clear hx;have hx:=hx2;clear hx2;unfold data_within_r1 at hx
  obtain⟨a7,rfl,p⟩:=hA
  refine⟨[(2,.pointer (some ⟨j,0,none⟩)),(3,.slice a7 x.length x.length)],λa8 a9=> ?_,λa8 a9=> ?_⟩
  ·
   refine Run.cnz [] 3 ZB rfl ?_
   exact JN.assigned ⟨rfl,rfl,trivial⟩
  ·
   refine Run.cc [] 2 ZB rfl (Zh (so:=[(_,[])]) 13 rfl Mixed ⟨by kernel_rfl,by kernel_rfl⟩ (ZX [0] rfl) ?_)
   refine JB.val (i:=0) [] rfl (ZW rfl) ?_
   obtain⟨d7,b0,hx⟩:=ZJ hx
   obtain⟨d8,d9,e0,b1,b2,e1,b3⟩:=IsSlice.elem p b0
   obtain rfl:=b2
   refine JB.val (i:=1) [] rfl (Zd U51 S3 rfl rfl b1) ?_
   refine JB.val (i:=2) [] rfl (ZY S3 rfl (b3 0 _ rfl)) ?_
   refine JB.run 2 [3,4] [] ZB rfl ?_
   refine JB.gX 11 hx rfl (λb4 hx=> ?_) (λb4 hx=> ?_)
   ·
    refine JB.run 8 [5,6,7,8,9,10,11,12] [] ZB rfl ?_
    refine JB.doneN (by kernel_rfl) ?_
    refine Run.nnz_s [0] 8 ZB rfl (JN.blkR ?_)
    obtain rfl:=Option.some.inj hx
    exact JN.rR ⟨rfl,(),rfl,a,rfl,rfl,(f)⟩
   ·
    refine JB.val (i:=5) [] rfl (ZW rfl) ?_
    obtain⟨e2,b5,hx⟩:=ZJ hx
    obtain⟨e3,e4,e5,b6,b7,e6,b8⟩:=IsSlice.elem p b5
    obtain rfl:=b7
    refine JB.val (i:=6) [] rfl (Zd U51 S3 rfl rfl b6) ?_
    refine JB.val (i:=7) [] rfl (ZY S3 rfl (b8 0 _ rfl)) ?_
    refine JB.val (i:=8) [] rfl (ZW rfl) ?_
    obtain⟨e7,b9,hx⟩:=ZJ hx
    obtain⟨e8,e9,f0,c0,c1,f1,c2⟩:=IsSlice.elem p b9
    obtain rfl:=c1
    refine JB.val (i:=9) [] rfl (Zd U51 S3 rfl rfl c0) ?_
    refine JB.val (i:=10) [] rfl (ZY S3 rfl (c2 0 _ rfl)) ?_
    refine JB.run 2 [11,12] [] ZB rfl ?_
    refine JB.doneN (by kernel_rfl) ?_
    refine Zw (ZG hx rfl (λc3 hx=> ?_) (λc3 hx=> ?_))
    ·
     refine Run.cnz_b [0] 7 ZB rfl ?_
     obtain rfl:=Option.some.inj hx
     exact JN.rR ⟨rfl,(),rfl,a,rfl,rfl,(f)⟩
    ·
     refine Run.cnz_b [] 2 ZB rfl ?_
     obtain rfl:=Option.some.inj hx
     exact JN.rN ⟨a,rfl,rfl,(f)⟩
 ·
  rintro q v o g c4 htt ⟨a,rfl,rfl,f⟩ hle2
  subst htt;simp only[Sum.elim_inl]at hx
  refine Run.nnz_bs [1] 8 ZB rfl ?_
  exact JN.conCM (own2:=[_]) [q] [0] [] ZB (Ze 0 rfl ZT) ⟨rfl,rfl,rfl,rfl⟩ rfl rfl hx rfl rfl
 ·
  rintro q c e o g c4 htt hX hle2
  rcases hX with⟨rfl,t_8e0,rfl,m,rfl,rfl,f2⟩
  subst htt;simp only[Sum.elim_inl,Sum.elim_inr]at hx
  refine Run.cnz_bk [] 3 ZB rfl ?_
  exact JN.conCM (own2:=[_]) [q] [0] [] ZB (Ze 0 rfl ZT) ⟨rfl,rfl,rfl,rfl⟩ rfl rfl hx rfl rfl
theorem data_order_ok{a b}:Con Tryz.prog 125 true (sp_Change false a++sp_data_place false b) (data_order a b) (λr=> [.i r]):=by
 intro H m p q s r hx
 refine Does.enterC Tryz.func125 rfl rfl ?_
 intro w
 unfold data_order at hx
 refine Run.cl [] 2 ZB rfl (ZV rfl rfl (λv x=>ZV rfl rfl (λy z=>Run.lc_s [] 4 ZB rfl (Zh (so:=[(_,[]),(_,[])]) 18 rfl Mixed ⟨by kernel_rfl,by kernel_rfl⟩ (ZX [0,1] rfl) ?_))))
 refine JB.run 12 [0,1,2,3,5,6,7,8,10,11,12,13] [1,0,1,0,1,0] ZB rfl ?_
 refine JB.one (i:=4) (by kernel_rfl) ?_
 refine JOB.step rfl trivial rfl (λK hK=>ZI hx E184 rfl cmp_Compare_int_ok rfl trivial ?_)
 intro c a0 hx
 refine JL.nil (hK _ _ _ (Hle.refl _) (ZX [0,1] rfl) ?_)
 refine JB.one (i:=9) (by kernel_rfl) ?_
 refine JOB.step rfl trivial rfl (λK hK=>ZI hx E184 rfl cmp_Compare_int_ok rfl trivial ?_)
 intro d a1 hx
 refine JL.nil (hK _ _ _ (Hle.refl _) (ZX [0,1] rfl) ?_)
 refine JB.one (i:=14) (by kernel_rfl) ?_
 refine JOB.step rfl trivial rfl (λK hK=>ZI hx E184 rfl cmp_Compare_int_ok rfl trivial ?_)
 intro f a2 hx
 refine JL.nil (hK _ _ _ (Hle.refl _) (ZX [0,1] rfl) ?_)
 refine JB.one (i:=15) (by kernel_rfl) ?_
 refine JOB.step rfl trivial rfl (λK hK=>Zx (HF:=(New H H)) (R:=RInt) (ls:=[c,d,f]) (vs:=[.int .i64 c,.int .i64 d,.int .i64 f]) U51 I3 rfl rfl (⟨_,_,rfl,rfl,rfl,⟨_,_,rfl,rfl,rfl,⟨_,_,rfl,rfl,rfl,rfl⟩⟩⟩) RInt.one rfl rfl rfl (by simp[maxLen]) rfl (λa3 a4 h=> ?_))
 obtain⟨a5,a6,rfl⟩:=RowOf.val h
 refine JL.nil (hK _ _ _ (Hle.refl _) (ZX [1,2] rfl) ?_)
 refine JB.one (i:=16) (by kernel_rfl) ?_
 refine JOB.step rfl trivial rfl (λK hK=>JL.conL hx E183 rfl cmp_Or_int_ok rfl (λa7 j k=>⟨(Lent.row' 0 k RInt.mono j rfl (h.old RInt.mono)),trivial⟩) (λ_=>trivial) ?_)
 intro a8 a9 hx
 refine JL.nil (hK _ _ _ (Hle.refl _) (ZX [1,2] rfl) ?_)
 refine JB.val (i:=17) [] rfl (R.assign rfl) ?_
 refine JB.doneN (by kernel_rfl) ?_
 refine Run.nnz_s [] 2 ZB rfl ?_
 exact ZD [] rfl hx rfl rfl
theorem slices_BinarySearchFunc_place_ok{m d}:Con Tryz.prog 124 true ([.sl false R_Change 12 m]++sp_data_place false d++ [.fv 125]) (slices_BinarySearchFunc_place m d) (λr=> [.i r.1,.b r.2]):=by
 intro H a6 a7 a8 h r hx
 refine Does.enterC Tryz.func124 rfl rfl ?_
 intro w
 unfold slices_BinarySearchFunc_place at hx
 refine Run.cl [] 2 ZB rfl (ZV rfl rfl (λa9 b0=>Run.ll_s [] 7 ZB rfl (ZA rfl rfl (ZM U53 rfl (IsSlice.long h)) (Run.lc_s [] 11 ZB rfl (ZO hx [0,2,4,8] [0] rfl rfl (λf l0 o0 l o g=>l=(9,.int .i64 f)::l0∧o=o0∧H=g) (λf b1 hx=> ?_) (λf b2 hx=> ?_))))))
 ·
  rintro _ _ _ ⟨rfl,rfl,rfl⟩
  refine Run.nc_s [] 2 ZB rfl (ZO hx [] [] rfl rfl (λj l0 o0 l o g=>l=(6,.int .i64 f)::(7,.bool j)::l0∧o=o0∧H=g) (λj b3 hx=> ?_) (λj b4 hx=> ?_))
  ·
   rintro _ _ _ ⟨rfl,rfl,rfl⟩
   refine Run.nnz_s [] 2 ZB rfl ?_
   exact ZD [] rfl hx rfl rfl
  ·
   refine Zh (so:=[(_,[])]) 16 rfl Mixed ⟨by kernel_rfl,by kernel_rfl⟩ (ZX [0] rfl) ?_
   refine JB.run 5 [0,1,2,3,4] [] ZB rfl ?_
   refine JB.gX 39 hx rfl (λs hx=> ?_) (λs hx=> ?_)
   ·
    refine JB.run 3 [5,6,7] [] ZB rfl ?_
    obtain⟨b5,v,hx⟩:=ZJ hx
    obtain⟨b6,b7,b8,x,y,b9,z⟩:=IsSlice.elem h v
    obtain⟨c0,rfl,p⟩:=y
    obtain⟨c1,c2,rfl⟩:=IsSlice.val p
    refine JB.val (i:=8) [] rfl (Zd U53 S101 rfl rfl x) ?_
    refine JB.val (i:=9) [] rfl (Zz 0 S101 rfl z rfl rfl) ?_
    refine JB.val (i:=10) [] rfl (R.ldoN 0 (vs:=[.int .i64 d.set,.int .i64 d.obj,.int .i64 d.index]) S111 rfl rfl rfl rfl) ?_
    refine JB.one (i:=11) (by kernel_rfl) ?_
    refine JOB.step rfl ⟨_,_,rfl,rfl,rfl⟩ rfl (λK hK=>ZI hx E125 rfl data_order_ok rfl ⟨p,trivial⟩ ?_)
    intro c3 c4 hx
    refine JL.nil (hK _ _ _ (Hle.refl _) (ZX [0] rfl) ?_)
    refine JB.run 4 [12,13,14,15] [] ZB rfl ?_
    refine JB.doneN (by kernel_rfl) ?_
    obtain rfl:=Option.some.inj hx
    refine JN.forget 0 ?_
    exact ZC ⟨rfl,rfl,rfl⟩ rfl rfl rfl
   ·
    refine JB.run 11 [5,6,7,8,9,10,11,12,13,14,15] [] ZB rfl ?_
    refine JB.doneN (by kernel_rfl) ?_
    obtain rfl:=Option.some.inj hx
    refine JN.forget 0 ?_
    exact ZC ⟨rfl,rfl,rfl⟩ rfl rfl rfl
 ·
  refine JC.block (ZS [0,2,4,8] [0] rfl rfl (λl0 o0 c l o g=>l=(9,.int .i64 c.1)::(10,.int .i64 c.2)::l0∧o=o0∧H=g) hx ⟨rfl,rfl,rfl⟩ rfl ?_)
  ·
   rintro c5 c _ _ _ ⟨rfl,rfl,rfl⟩ c6 hx k
   unfold slices_BinarySearchFunc_place_l1 at hx
   refine Run.cc [] 8 ZB rfl (ZG hx rfl (λa0 hx=> ?_) (λa0 hx=> ?_))
   ·
    refine Run.cl_s [] 8 ZB rfl (ZA rfl rfl (R.cv_i64_u64 U3 U214 rfl) (ZA rfl rfl (R.shr64 (n:=((1:UInt64).toNat:Int)) (a:=u64i (w64 (c.1+c.2))) rfl rfl (by decide)) (ZA rfl rfl (R.cv_u64_i64 (a:=sr64 (u64i (w64 (c.1+c.2))) (((1:UInt64).toNat:Int)).toNat) U214 U3 rfl) ?_)))
    refine Run.lc_s [] 4 ZB rfl (Zh (so:=[(_,[])]) 8 rfl Mixed ⟨by kernel_rfl,by kernel_rfl⟩ (ZX [0] rfl) ?_)
    refine JB.run 3 [0,1,2] [] ZB rfl ?_
    obtain⟨c7,a1,hx⟩:=ZJ hx
    obtain⟨c8,c9,d0,a2,a3,d1,a4⟩:=IsSlice.elem h a1
    obtain⟨d2,rfl,q⟩:=a3
    obtain⟨d3,d4,rfl⟩:=IsSlice.val q
    refine JB.val (i:=3) [] rfl (Zd U53 S101 rfl rfl a2) ?_
    refine JB.val (i:=4) [] rfl (Zz 0 S101 rfl a4 rfl rfl) ?_
    refine JB.val (i:=5) [] rfl (R.ldoN 0 (vs:=[.int .i64 d.set,.int .i64 d.obj,.int .i64 d.index]) S111 rfl rfl rfl rfl) ?_
    refine JB.one (i:=6) (by kernel_rfl) ?_
    refine JOB.step rfl trivial rfl (λK hK=>ZI hx E125 rfl data_order_ok rfl ⟨q,trivial⟩ ?_)
    intro d5 d6 hx
    refine JL.nil (hK _ _ _ (Hle.refl _) (ZX [0] rfl) ?_)
    refine JB.val (i:=7) [] rfl (R.lss_i rfl rfl) ?_
    refine JB.doneN (by kernel_rfl) ?_
    refine Zw (ZG hx rfl (λa5 hx=> ?_) (λa5 hx=> ?_))
    ·
     refine Run.cnz_b [] 6 ZB rfl ?_
     replace hx:=ZP k hx
     exact ZC ⟨(w64 ((w64 ((sr64 (u64i (w64 (c.1+c.2))) (((1:UInt64).toNat:Int)).toNat).toNat:Int))+1),c.2),⟨rfl,rfl,rfl⟩,hx⟩ rfl rfl rfl
    ·
     refine Run.cnz_b [] 5 ZB rfl ?_
     replace hx:=ZP k hx
     exact ZC ⟨(c.1,w64 ((sr64 (u64i (w64 (c.1+c.2))) (((1:UInt64).toNat:Int)).toNat).toNat:Int)),⟨rfl,rfl,rfl⟩,hx⟩ rfl rfl rfl
   ·
    refine Run.cnz_k [] 2 ZB rfl ?_
    obtain rfl:=ZH k hx
    refine Run.nnz_kb [] 2 ZB rfl ?_
    exact ZC ⟨rfl,rfl,rfl⟩ rfl rfl rfl
theorem data_change_ok{a c}:Con Tryz.prog 68 true (sp_Pool false a++sp_data_place false c) (data_change a c) (λr=>sp_Change false r.1++ [.b r.2]):=by
 intro H p q s v x y z a0 a1 a2 a3 a4 a5 a6 a7 a8 a9 b0 b1 b2 b3 b4 b5 b6 b7 b8 b9 c0 c1 c2 c3 d r hx
 refine Does.enterC Tryz.func68 rfl rfl ?_
 intro w
 unfold data_change at hx
 refine Run.cl [] 2 ZB rfl (ZV rfl rfl (λc4 c5=>ZV rfl rfl (λc6 c7=>JL.alloc Z101 rfl (λc8 c9=>Run.ll_s [2,1] 8 ZB rfl (ZI hx E124 rfl slices_BinarySearchFunc_place_ok rfl ⟨d,trivial⟩ ?_)))))
 intro d0 d1 hx
 refine Run.lc_s [] 14 ZB rfl (ZG hx rfl (λh hx=> ?_) (λh hx=> ?_))
 ·
  refine Run.cnz_k [0] 9 ZB rfl ?_
  exact JN.conCQ [0] [] ZB rfl hx rfl ⟨IsSlice.nil _ _ _,rfl⟩
 ·
  refine Run.cl_s [2] 7 ZB rfl ?_
  obtain⟨d2,i,hx⟩:=ZJ hx
  obtain⟨d3,d4,d5,j,k,d6,m⟩:=IsSlice.elem d i
  obtain⟨d7,rfl,f⟩:=k
  obtain⟨d8,d9,rfl⟩:=IsSlice.val f
  refine ZA rfl rfl (Zd U53 S101 rfl rfl j) (ZA rfl rfl (Zz 0 S101 rfl m rfl rfl) (Run.lnz_s [0] 5 ZB rfl ?_))
  exact JN.conCQ [0] [] ZB rfl hx rfl ⟨f,rfl⟩
theorem slices_Clone_byte_L_ok (b:List (List UInt8))(H:Heaplet){ao:Option Addr}{n cap:Nat}(hs:IsSlice H (RSl RU8 1) 1 (.slice ao n cap) b)(r:List (List UInt8))(hx:slices_Clone_byte_L b=some r):
  Does Tryz.prog 160 #[.slice ao n cap] [] H (λu K' H'=>∃ao0:Option Addr,∃n0:Nat,∃cap0:Nat,∃K0:Own,u=.slice ao0 n0 cap0∧K'= [K0]∧H=H'∧RowOf H' (RSl RU8 1) 0 26 1 (.slice ao0 n0 cap0) r K0∧(∀p∈K0,p.1∉ids (List.flatten []))∧True):=by
 rw[slices_Clone_byte_L.eq_1]at hx
 obtain⟨q,hq,hl,hx⟩:=Zb hx
 obtain rfl:=Option.some.inj hx
 refine Does.enter (vs:=[.slice ao n cap]) (l:=[(0,.slice ao n cap)]) Tryz.func160 rfl rfl ⟨rfl,trivial⟩ (λw=>Run.cl [] 9 ZB rfl (ZA rfl rfl (R.eqlNil U22 rfl rfl) (Run.lcz_s [] 2 ZB rfl ?_)))
 cases ao with
 |none=>
  have hp:=hs.none_nil
  subst hp
  simp only[List.append_nil]at hq
  subst hq
  refine Run.cnz_k [] 8 ZB rfl (ZZ (Zm (vs:=[.slice none 0 0]) (K:=[_]) (rst:=[]) (.inl rfl) rfl rfl (Zs rfl rfl) (Ze 0 rfl ZT) ?_))
  exact⟨none,0,0,[],rfl,rfl,rfl,RowOf.nil _ _ _ _ _,(λp hp=>by cases hp),trivial⟩
 |some a=>
  refine Run.cl_s [] 5 ZB rfl (Zx (HF:=H) (R:=(RSl RU8 1)) (ls:=[]) (vs:=[]) U22 I26 rfl rfl rfl RSl.one rfl rfl rfl (by simp[maxLen]) rfl (λv1 K1 h1=> ?_))
  obtain⟨ao1,cap1,rfl⟩:=RowOf.val h1
  refine ZA rfl rfl (ZW rfl) (Zl (HF:=H) 0 U22 I26 rfl rfl h1 rfl (SrcF.slice RSl.one U22 (Hle.refl _) hs) hq hl rfl (Nat.le_refl _) rfl (λv2 K2 h2=> ?_))
  obtain⟨ao2,cap2,rfl⟩:=RowOf.val h2
  refine Run.lnz_s [] 4 ZB rfl (Zm (vs:=[.slice ao2 _ cap2]) (K:=[_]) (rst:=[]) (.inl rfl) rfl rfl (Zs rfl rfl) (Ze 0 rfl ZT) ?_)
  exact⟨_,_,_,_,rfl,rfl,rfl,RowOf.weak (Nat.zero_le _) h2,(λp hp hm=>by cases hm),trivial⟩
theorem dev_all_ok{a}:Con Tryz.prog 102 true ([.i a]) (dev_all a) (λr=> [.b r]):=by
 intro H r hx
 refine Does.enterC Tryz.func102 rfl rfl ?_
 intro w
 unfold dev_all at hx
 refine Run.cnz [] 11 ZB rfl ?_
 exact ZD [] rfl hx rfl rfl
theorem dev_lasts_ok (y:Disk)(H:Heaplet){m:Value}{c:Option Addr}{d:Nat}{f:Nat}(h:IsSlice H R_Write 2 (.slice c d f) y.Waits)(r:(List (Int×Write)))(hx:dev_lasts y=some r):
  Does Tryz.prog 161 #[.agg #[m,.slice c d f],.func (.func 102) #[] #[]] [] H (λu K' H'=>∃ao0:Option Addr,∃n0:Nat,∃cap0:Nat,∃K0:Own,u=.map (some n0)∧K'= [K0]∧H=H'∧MapOf H R_Write 0 n0 r K0∧(∀p∈K0,p.1∉ids (List.flatten []))∧True):=by
 refine Does.enterL (vs:=[.agg #[m,.slice c d f],.func (.func 102) #[] #[]]) (l:=[(0,.agg #[m,.slice c d f]),(1,.func (.func 102) #[] #[])]) Tryz.func161 rfl rfl ⟨rfl,rfl,trivial⟩ (λw hlt=> ?_)
 unfold dev_lasts at hx
 refine Run.cl [] 2 ZB rfl (ZV rfl rfl (λb2 b3=>Run.ll_s [] 5 ZB rfl (JL.mkMapF (New H H) R_Write rfl (λi a1 a2=>Run.ll_s [1] 8 ZB rfl (ZA rfl rfl (ZM U23 rfl (IsSlice.long h)) (Run.lcz_s [] 3 ZB rfl (ZO hx [5] [] rfl rfl (λq l0 o0 l o g=>∃j:Own,l=l0∧o=j::o0∧H=g∧MapOf H R_Write w.heap.size i q j) (λq b4 hx=> ?_) (λq b5 hx=> ?_))))))))
 ·
  rintro _ _ _ ⟨j,rfl,rfl,rfl,z⟩
  refine Run.nnz_s [] 8 ZB rfl (Zm (vs:=[.map (some i)]) (K:=[_]) (rst:=[]) (.inl rfl) rfl rfl (Zs rfl rfl) (Ze 0 rfl ZT) ?_)
  obtain rfl:=Option.some.inj hx
  exact⟨none,i,0,j,rfl,rfl,rfl,(MapOf.weak (Nat.zero_le _) z),(newM_ids z hlt),trivial⟩
 ·
  refine JC.block (JC.forget 1 (ZS [1,5,10,11] [] rfl rfl (λl0 o0 a l o g=>∃b:Own,l=(12,.int .i64 ((a.2:Nat):Int))::l0∧o=b::o0∧H=g∧MapOf H R_Write w.heap.size i a.1 b) hx ⟨a1,rfl,rfl,rfl,(a2.old R_Write.mono)⟩ rfl ?_))
  ·
   rintro b6 a _ _ _ ⟨b,rfl,rfl,rfl,s⟩ b7 hx v
   unfold dev_lasts_l1 at hx
   refine Run.cc [] 6 ZB rfl (ZG hx rfl (λx hx=> ?_) (λx hx=> ?_))
   ·
    refine Run.cl_s [] 7 ZB rfl ?_
    obtain⟨k,a3,hx⟩:=ZJ hx
    obtain⟨b8,b9,c0,a4,a5,c1,a6⟩:=IsSlice.elem h a3
    obtain⟨c2,rfl,a0⟩:=a5
    obtain⟨a7,a8,rfl⟩:=IsSlice.val a0
    refine ZA rfl rfl (Zd U23 S96 rfl rfl a4) (ZA rfl rfl (Zz 0 S96 rfl a6 rfl rfl) (JL.alloc Z96 rfl (λc3 c4=>Run.ll_s [0] 8 ZB rfl (ZI hx E102 rfl dev_all_ok rfl trivial ?_))))
    intro c5 c6 hx
    refine Run.lcz_s [] 2 ZB rfl (ZG hx rfl (λa9 hx=> ?_) (λa9 hx=> ?_))
    ·
     refine Run.clz [0,0] 5 ZB rfl (JL.mapUpdF 1 (cs:=[.int .i64 k.At,.slice a7 k.Data.length a8]) U215 U3 rfl rfl rfl rfl s ⟨_,rfl,a0⟩ (λb0 b1=>Run.llz_bs [] 4 ZB rfl (ZA rfl rfl (Zi rfl rfl (of_decide_eq_true x) (IsSlice.lenI h)) (Run.lnz [] 2 ZB rfl ?_))))
     replace hx:=ZP v hx
     refine JN.forget 0 ?_
     exact ZC ⟨((putM a.1 k.At k),a.2+1),⟨b0,rfl,rfl,rfl,b1⟩,hx⟩ rfl rfl rfl
    ·
     refine Run.clz_bs [] 4 ZB rfl (ZA rfl rfl (Zi rfl rfl (of_decide_eq_true x) (IsSlice.lenI h)) (Run.lnz [] 2 ZB rfl ?_))
     replace hx:=ZP v hx
     refine JN.forget 0 ?_
     exact ZC ⟨(a.1,a.2+1),⟨b,rfl,rfl,rfl,s⟩,hx⟩ rfl rfl rfl
   ·
    refine Run.cnz_k [] 2 ZB rfl ?_
    obtain rfl:=ZH v hx
    refine Run.nnz_kb [] 2 ZB rfl ?_
    exact ZC ⟨b,rfl,rfl,rfl,s⟩ rfl rfl rfl
theorem dev_cut_ok (d:List Int)(H:Heaplet){ao:Option Addr}{n cap:Nat}(hs:IsSlice H RInt 1 (.slice ao n cap) d)(r:List (List UInt8))(hx:dev_cut d=some r):
  Does Tryz.prog 111 #[.slice ao n cap] [] H (λu K' H'=>∃ao0:Option Addr,∃n0:Nat,∃cap0:Nat,∃K0:Own,u=.slice ao0 n0 cap0∧K'= [K0]∧H=H'∧Pcs 0 5 26 (.slice ao0 n0 cap0) r K0∧(∀p∈K0,p.1∉ids (List.flatten []))∧True):=by
 unfold dev_cut at hx
 split at hx
 case isFalse=>cases hx
 rename_i hp
 obtain rfl:=Option.some.inj hx
 obtain⟨ns,hns⟩:∃ns,ns=d.map Int.toNat:=⟨_,rfl⟩
 have hpn:d=ns.map (λn:Nat=>(n:Int)):=by
  rw[hns,List.map_map]
  have:∀(q:List Int),(∀n∈q,0≤n)→q=q.map ((λn:Nat=>(n:Int))∘Int.toNat):=by
   intro q
   induction q with
   |nil=>intro _;rfl
   |cons y q ih=>intro h;rw[List.map_cons,←ih (λn hn=>h n (by simp[hn]))];congr 1;have:=h y (by simp);simp only[Function.comp];omega
  exact this _ hp.1
 have hsum:ns.sum≤LIM:=by rw[hns];exact hp.2.1
 have hlen:ns.length≤LIM:=by rw[hns,List.length_map];exact hp.2.2
 have hpl:d.length=ns.length:=by rw[hns,List.length_map]
 have hat:∀i,i<ns.length→∃y:Nat,ns[i]? =some y∧Nth d (i:Int) (y:Int):=λi hi=>by
  refine⟨ns[i],List.getElem?_eq_getElem hi,Int.natCast_nonneg i,?_⟩
  rw[hpn];simp[hi]
 have htk:∀i,(ns.take i).sum≤ns.sum:=λi=>by
  have:=congrArg List.sum (List.take_append_drop i ns)
  rw[List.sum_append]at this;omega
 have hstep:∀i y,ns[i]? =some y→ns.take (i+1)=ns.take i++ [y]:=λi y h=>by rw[List.take_add_one,h];rfl
 have hL:LIM=1099511627776:=rfl
 have hr:(d.map λn=>List.replicate n.toNat (0:UInt8))=ns.map λn=>List.replicate n 0:=by rw[hpn,List.map_map];rfl
 rw[hr]
 clear hr
 obtain⟨ao,cap,e0⟩:=hs.val
 rw[e0]at hs
 simp only[e0]
 rw[hpl]at hs⊢
 refine Does.enterL (vs:=[.slice ao ns.length cap]) (l:=[(0,.slice ao ns.length cap)]) Tryz.func111 rfl rfl ⟨rfl,trivial⟩ (λw hlt=>Run.cc [] 11 ZB rfl ?_)
 -- how many in all
 refine JC.cut (λl o g=>l= [(0,.slice ao ns.length cap),(2,.slice none 0 0),(3,.int .i64 ((ns.sum:Nat):Int))]∧o= []∧H=g) ?_ ?_
 rotate_left
 ·
  refine Run.cl [] 3 ZB rfl (ZA rfl rfl (ZM U51 rfl ⟨_,_,rfl⟩) (Run.lc_s [] 4 ZB rfl (JC.loop (ι:=Nat) (λi=> [(0,.slice ao ns.length cap),(2,.slice none 0 0),(9,.slice ao ns.length cap),(10,.int .i64 (ns.length:Int)),(3,.int .i64 (((ns.take i).sum:Nat):Int)),(11,.int .i64 ((i:Nat):Int))]) (λ_=> []) (λ_=>H) (λi=>i≤ns.length) (λi=>ns.length-i) 0 (Nat.zero_le _) ⟨rfl,rfl,rfl,rfl,rfl,rfl,trivial⟩ rfl rfl ?_)))
  intro i hi
  refine Run.cc [] 6 ZB rfl (JC.condB rfl (λc=> ?_) (λc=> ?_))
  ·
   have hlt':i<ns.length:=by have:=of_decide_eq_true c;omega
   obtain⟨y,hy,hN⟩:=hat i hlt'
   obtain⟨b1,q1,cs1,hE1,hR1,hl1,hc1⟩:=IsSlice.elem hs hN
   obtain rfl:cs1= [.int .i64 (y:Int)]:=hR1
   have hsy:=hstep i y hy
   have hw:w64 ((((ns.take i).sum:Nat):Int)+(y:Int))=(((ns.take (i+1)).sum:Nat):Int):=by
    have h1:=htk (i+1)
    rw[hsy,List.sum_append]at h1⊢
    simp only[List.sum_cons,List.sum_nil,Nat.add_zero]at h1⊢
    rw[Za (by omega) (by omega)];omega
   refine Run.cl_s [] 6 ZB rfl (ZA rfl rfl (Zd U51 S3 rfl rfl hE1) (ZA rfl rfl (ZY S3 rfl (hc1 0 _ rfl)) (Run.llz_s [] 7 ZB rfl ?_)))
   rw[hw]
   refine Run.llz_bs [] 5 ZB rfl (ZA rfl rfl (Zi rfl rfl (of_decide_eq_true c) (by omega)) ?_)
   refine Run.lnz [] 2 ZB rfl (JN.again (i:=i) (i+1) hlt' (by omega) ⟨rfl,rfl,rfl,rfl,rfl,rfl,trivial⟩ rfl rfl)
  ·
   have hge:i=ns.length:=by have:=of_decide_eq_false c;omega
   subst hge
   refine Run.cnz_kkb [] 4 ZB rfl ?_
   rw[List.take_length]
   exact JN.cut ⟨rfl,rfl,rfl⟩ ⟨rfl,rfl,rfl,trivial⟩ rfl rfl
 rintro _ _ _ ⟨rfl,rfl,rfl⟩
 refine Run.nl_s [] 4 ZB rfl (JL.mkB U26 I5 rfl rfl hsum rfl rfl (λhb hhb=>Run.lc_s [] 4 ZB rfl (JC.cut (λl o g=>∃(ao2:Option Addr) (n2 cap2:Nat) (Ko:Own),l= [(2,.slice ao2 n2 cap2)]∧o= [Ko,[(hb,.cells (bvs (List.replicate ns.sum 0)).toArray 5 (0,0))]]∧H=g∧RowOf (λ_ _=>none) (RPc hb) w.heap.size 26 1 (.slice ao2 n2 cap2) (offs 0 ns) Ko) ?_ ?_)))
 rotate_left
 ·
  refine Run.cl [] 3 ZB rfl (ZA rfl rfl (ZM U51 rfl ⟨_,_,rfl⟩) (ZA rfl rfl (ZW rfl) (JL.seg0 (Run.lc_s [] 3 ZB rfl ?_))))
  refine JC.loop (ι:=Nat×Nat×Option Addr×Nat×Nat×Own) (λi=> [(21,.slice ao ns.length cap),(22,.int .i64 (ns.length:Int)),(2,.slice i.2.2.1 i.2.2.2.1 i.2.2.2.2.1),(6,.slice (some ⟨hb,i.2.1,none⟩) (ns.sum-(ns.take i.1).sum) (ns.sum-(ns.take i.1).sum)),(23,.int .i64 ((i.1:Nat):Int))])
   (λi=> [i.2.2.2.2.2,[(hb,.cells (bvs (List.replicate ns.sum 0)).toArray 5 (0,0))]]) (λ_=>H)
   (λi=>i.1≤ns.length∧(ns.sum-(ns.take i.1).sum=0∨i.2.1=(ns.take i.1).sum)∧RowOf (λ_ _=>none) (RPc hb) w.heap.size 26 1 (.slice i.2.2.1 i.2.2.2.1 i.2.2.2.2.1) (offs 0 (ns.take i.1)) i.2.2.2.2.2) (λi=>ns.length-i.1) (0,0,none,0,0,[])
   ⟨Nat.zero_le _,.inr rfl,RowOf.nil _ _ _ _ _⟩ ⟨rfl,rfl,rfl,rfl,rfl,trivial⟩ rfl rfl ?_
  rintro⟨i,s,ao2,n2,cap2,Ko⟩ ⟨hi,hsi,hout⟩
  dsimp only at hi hsi hout⊢
  refine Run.cc [] 6 ZB rfl (JC.condB rfl (λc=> ?_) (λc=> ?_))
  ·
   have hlt':i<ns.length:=by have:=of_decide_eq_true c;omega
   obtain⟨y,hy,hN⟩:=hat i hlt'
   obtain⟨b1,q1,cs1,hE1,hR1,hl1,hc1⟩:=IsSlice.elem hs hN
   obtain rfl:cs1= [.int .i64 (y:Int)]:=hR1
   have hsy:=hstep i y hy
   have htot:=htk (i+1)
   have hsm:(ns.take (i+1)).sum=(ns.take i).sum+y:=by rw[hsy,List.sum_append];simp
   obtain⟨rem,hrem⟩:∃rem,rem=ns.sum-(ns.take i).sum:=⟨_,rfl⟩
   rw[←hrem]at hsi⊢
   have hyr:y≤rem:=by omega
   have hcy:y=0∨s=(ns.take i).sum:=by
    rcases hsi with h|h
    ·
     left;omega
    ·
     exact .inr h
   have hrem2:ns.sum-(ns.take (i+1)).sum=rem-y:=by omega
   have e31:Value.slice (some ⟨hb,s,none⟩) y y=sliced (some ⟨hb,s,none⟩) (0:Int).toNat (y:Int).toNat (y:Int).toNat 1:=by
    unfold sliced
    simp only[Int.toNat_natCast,Int.toNat_zero,Nat.sub_zero,Option.map_some,Nat.zero_mul,add_lit,Nat.add_zero]
    split<;>rfl
   obtain⟨s2,hs2,e36⟩:∃s2,(rem-y=0∨s2=(ns.take (i+1)).sum)∧Value.slice (some ⟨hb,s2,none⟩) (rem-y) (rem-y)=sliced (some ⟨hb,s,none⟩) (y:Int).toNat (rem:Int).toNat (rem:Int).toNat 1:=by
    unfold sliced
    simp only[Int.toNat_natCast,Option.map_some,add_lit,Nat.mul_one]
    by_cases h:rem=y
    ·
     exact⟨s,.inl (by omega),by rw[if_pos h]⟩
    ·
     refine⟨s+y,.inr ?_,by rw[if_neg h]⟩
     rcases hsi with h'|h'<;>omega
   have hq:offs 0 (ns.take (i+1))=offs 0 (ns.take i)++ [((ns.take i).sum,y)]:=by rw[hsy,offs_append];simp[offs]
   have hll:(offs 0 (ns.take i)).length+ [((ns.take i).sum,y)].length≤LIM:=by rw[offs_length,List.length_take];simp only[List.length_cons,List.length_nil];omega
   refine Run.cl_s [] 6 ZB rfl (ZA rfl rfl (Zd U51 S3 rfl rfl hE1) (ZA rfl rfl (ZY S3 rfl (hc1 0 _ rfl)) (Run.ll_s [] 9 ZB rfl (ZA rfl rfl (R.slc (cap:=rem) (a:=0) (b:=(y:Int)) (c:=(y:Int)) (m:=List.replicate rem (0:UInt8)) (R:=RU8) (v':=.slice (some ⟨hb,s,none⟩) y y) U26 S5 rfl rfl ⟨_,rfl⟩ ⟨_,rfl⟩ ⟨Int.le_refl _,by omega,Int.le_refl _⟩ ⟨some ⟨hb,s,none⟩,by rw[List.length_replicate],by omega,e31⟩ (.inr (λh=>by cases h))) (Zx (HF:=λ_ _=>none) (R:=RPc hb) (ls:=[((ns.take i).sum,y)]) (vs:=[.slice (some ⟨hb,s,none⟩) y y]) U22 I26 rfl rfl (⟨_,_,rfl,rfl,⟨s,rfl,hcy⟩,rfl⟩) (RPc.one hb) rfl rfl rfl (by simp[maxLen]) rfl (λv3 K3 h3=> ?_))))))
   obtain⟨ao3,cap3,rfl⟩:=RowOf.val h3
   refine Zl (HF:=λ_ _=>none) 1 U22 I26 rfl rfl hout rfl (SrcF.row 0 U22 rfl h3) hq hll rfl (Nat.le_refl _) rfl (λv4 K4 h4=> ?_)
   obtain⟨ao4,cap4,rfl⟩:=RowOf.val h4
   refine Run.llz_s [] 6 ZB rfl (ZA rfl rfl (R.slc (cap:=rem) (a:=(y:Int)) (b:=(rem:Int)) (c:=(rem:Int)) (m:=List.replicate rem (0:UInt8)) (R:=RU8) (v':=.slice (some ⟨hb,s2,none⟩) (rem-y) (rem-y)) U26 S5 rfl ⟨_,rfl⟩ (by simp) ⟨some ⟨hb,s,none⟩,rem,rfl,rfl⟩ ⟨by omega,by omega,Int.le_refl _⟩ ⟨some ⟨hb,s,none⟩,by rw[List.length_replicate],by omega,e36⟩ (.inl rfl)) ?_)
   refine Run.llz_bs [] 5 ZB rfl (ZA rfl rfl (Zi rfl rfl (of_decide_eq_true c) (by omega)) ?_)
   refine Run.lnz [] 2 ZB rfl (JN.forget 0 (JN.again (i:=(i,s,ao2,n2,cap2,Ko)) (i+1,s2,ao4,_,cap4,K4) ⟨hlt',by dsimp only;rw[hrem2];exact hs2,h4⟩ (by dsimp only;omega) ⟨rfl,rfl,rfl,by dsimp only;rw[hrem2];rfl,rfl,trivial⟩ rfl rfl))
  ·
   have hge:i=ns.length:=by have:=of_decide_eq_false c;omega
   subst hge
   refine Run.cnz_kkb [] 4 ZB rfl ?_
   rw[List.take_length]at hout
   exact JN.cut ⟨_,_,_,_,rfl,rfl,rfl,hout⟩ ⟨rfl,trivial⟩ rfl rfl
 rintro _ _ _ ⟨ao2,n2,cap2,Ko,rfl,rfl,rfl,hout⟩
 refine Run.nnz_s [] 2 ZB rfl (Zm (vs:=[.slice ao2 n2 cap2]) (K:=[Ko++ [(hb,.cells (bvs (List.replicate ns.sum 0)).toArray 5 (0,0))]]) (rst:=[]) (.inl rfl) rfl rfl (Zs rfl rfl) (by simp) ?_)
 have hflat:(ns.map λn=>List.replicate n (0:UInt8)).flatten=List.replicate ns.sum 0:=by
  clear hat hstep htk hs hout hpn hns hpl hsum hlen
  induction ns with
  |nil=>rfl
  |cons y r ih=>rw[List.map_cons,List.flatten_cons,ih,List.sum_cons,List.replicate_append_replicate]
 have hlens:lens (ns.map λn=>List.replicate n (0:UInt8))=ns:=by unfold lens;rw[List.map_map];simp[Function.comp_def]
 refine⟨ao2,n2,cap2,_,rfl,rfl,rfl,⟨hb,Ko,?_,Nat.zero_le _,?_,?_⟩,(λp hp hm=>by cases hm),trivial⟩
 ·
  rw[hflat]
 ·
  rw[hflat,List.length_replicate];exact lim_max hsum
 ·
  rw[hlens];exact RowOf.weak (Nat.zero_le _) hout
theorem bytes_Clone_ok (b:List UInt8)(H:Heaplet){ao:Option Addr}{n cap:Nat}(hs:IsSlice H RU8 1 (.slice ao n cap) b)(r:List UInt8)(hx:bytes_Clone b=some r):
  Does Tryz.prog 59 #[.slice ao n cap] [] H (λu K' H'=>∃ao0:Option Addr,∃n0:Nat,∃cap0:Nat,∃K0:Own,u=.slice ao0 n0 cap0∧K'= [K0]∧H=H'∧RowOf (New H H') RU8 0 5 1 (.slice ao0 n0 cap0) r K0∧(∀p∈K0,p.1∉ids (List.flatten []))∧True):=by
 rw[bytes_Clone.eq_1]at hx
 obtain⟨q,hq,hl,hx⟩:=Zb hx
 obtain rfl:=Option.some.inj hx
 refine Does.enter (vs:=[.slice ao n cap]) (l:=[(0,.slice ao n cap)]) Tryz.func59 rfl rfl ⟨rfl,trivial⟩ (λw=>Run.cl [] 9 ZB rfl (ZA rfl rfl (R.eqlNil U26 rfl rfl) (Run.lcz_s [] 2 ZB rfl ?_)))
 cases ao with
 |none=>
  have hp:=hs.none_nil
  subst hp
  simp only[List.append_nil]at hq
  subst hq
  refine Run.cnz_k [] 8 ZB rfl (ZZ (Zm (vs:=[.slice none 0 0]) (K:=[_]) (rst:=[]) (.inl rfl) rfl rfl (Zs rfl rfl) (Ze 0 rfl ZT) ?_))
  exact⟨none,0,0,[],rfl,rfl,rfl,RowOf.nil _ _ _ _ _,(λp hp=>by cases hp),trivial⟩
 |some a=>
  refine Run.cl_s [] 5 ZB rfl (Zx (HF:=New H H) (R:=RU8) (ls:=[]) (vs:=[]) U26 I5 rfl rfl rfl RU8.one rfl rfl rfl (by simp[maxLen]) rfl (λv1 K1 h1=> ?_))
  obtain⟨ao1,cap1,rfl⟩:=RowOf.val h1
  refine ZA rfl rfl (ZW rfl) (Zl (HF:=New H H) 0 U26 I5 rfl rfl h1 rfl (SrcF.sliceC RU8.const RU8.one U26 hs) hq hl rfl (Nat.le_refl _) rfl (λv2 K2 h2=> ?_))
  obtain⟨ao2,cap2,rfl⟩:=RowOf.val h2
  refine Run.lnz_s [] 4 ZB rfl (Zm (vs:=[.slice ao2 _ cap2]) (K:=[_]) (rst:=[]) (.inl rfl) rfl rfl (Zs rfl rfl) (Ze 0 rfl ZT) ?_)
  exact⟨_,_,_,_,rfl,rfl,rfl,RowOf.weak (Nat.zero_le _) h2,(λp hp hm=>by cases hm),trivial⟩
theorem dev_Twin_ok (b9:Disk)(H:Heaplet){y:Option Addr}{z:Nat}{a0:Nat}{a1:Option Addr}{a2:Nat}{a3:Nat}(a:IsSlice H (RSl RU8 1) 1 (.slice y z a0) b9.Blocks)(c0:IsSlice H R_Write 2 (.slice a1 a2 a3) b9.Waits)(r:Disk)(hx:dev_Twin b9=some r):
  Does Tryz.prog 51 #[.agg #[.slice y z a0,.slice a1 a2 a3]] [] H (λu K' H'=>∃ao0:Option Addr,∃n0:Nat,∃cap0:Nat,∃K0:Own,∃ao1:Option Addr,∃n1:Nat,∃cap1:Nat,∃K1:Own,u=.agg #[.slice ao0 n0 cap0,.slice ao1 n1 cap1]∧K'= [K0,K1]∧Pcs 0 5 26 (.slice ao0 n0 cap0) r.Blocks K0∧(∀p∈K0,p.1∉ids (List.flatten []))∧RowOf (New H H') R_Write 0 96 2 (.slice ao1 n1 cap1) r.Waits K1∧(∀p∈K1,p.1∉ids (List.flatten []))∧True):=by
 refine Does.enterL (vs:=[.agg #[.slice y z a0,.slice a1 a2 a3]]) (l:=[(0,.agg #[.slice y z a0,.slice a1 a2 a3])]) Tryz.func51 rfl rfl ⟨rfl,trivial⟩ (λw hlt=> ?_)
 unfold dev_Twin at hx
 refine Run.cl [] 2 ZB rfl (ZV rfl rfl (λk0 k1=>JL.alloc Z25 rfl (λd4 k2=>Run.ll_s [1] 12 ZB rfl (ZA rfl rfl (ZM U22 rfl (IsSlice.long a)) (Run.lcz_s [] 3 ZB rfl (ZO hx [1,2] [1,0] rfl rfl (λa4 l0 o0 l o g=>∃c1:Option Addr,∃c2:Nat,∃c3:Nat,∃c4:Own,l=(3,.slice c1 c2 c3)::l0∧o=c4::o0∧H=g∧RowOf (New H H) RInt w.heap.size 3 1 (.slice c1 c2 c3) a4 c4) (λa4 k3 hx=> ?_) (λa4 k4 hx=> ?_)))))))
 ·
  rintro _ _ _ ⟨c1,c2,c3,c4,rfl,rfl,rfl,f7⟩
  refine Run.nl_s [] 4 ZB rfl (JL.pubN 0 RInt.mono rfl f7 (Nat.le_refl _) (λj d5 f8=>JL.forget 0 ?_))
  obtain⟨k5,f9,hx⟩:=ZU hx
  refine Zg (vs:=[_]) (args:=[_]) (K:=[]) (rst:=[_,_]) E111 rfl rfl rfl ZT (dev_cut_ok a4 _ (f8.old RInt.mono) _ f9) rfl (λk6 k7 k8 g0 k9 g1=> ?_)
  obtain⟨b,c,d,g2,rfl,rfl,rfl,c5,g3,-⟩:=g0
  replace c5:=(Pcs.base c5 (λp hp=>(g1 p (mem_seg 0 rfl hp)).resolve_left (g3 p hp)))
  refine Run.ll_s [2,1] 9 ZB rfl (ZA rfl rfl (ZM U22 rfl (IsSlice.long a)) (Run.lcz_s [] 3 ZB rfl (ZO hx [1,2] [1,2] rfl rfl (λc6 l0 o0 l o g=>∃a5:Own,l=l0∧o=a5::o0∧j=g∧Pcs w.heap.size 5 26 (.slice b c d) c6 a5) (λc6 l1 hx=> ?_) (λc6 l2 hx=> ?_))))
  ·
   rintro _ _ _ ⟨a5,rfl,rfl,rfl,d6⟩
   refine Run.nl_s [1] 6 ZB rfl (ZA rfl rfl (ZM U23 rfl (IsSlice.long c0)) (Run.lcz_s [] 3 ZB rfl (ZO hx [2] [0] rfl rfl (λc7 l0 o0 l o g=>∃a6:Heaplet,∃k:Option Addr,∃m:Nat,∃q:Nat,∃a7:Own,l=l0∧o= [(d4,.cells #[.slice b c d,.slice k m q] 25 (0,0))]::a7::o0∧a6=g∧Hle j a6∧RowOf (New H a6) R_Write w.heap.size 96 2 (.slice k m q) c7 a7) (λc7 l3 hx=> ?_) (λc7 l4 hx=> ?_))))
   ·
    rintro _ _ _ ⟨a6,k,m,q,a7,rfl,rfl,rfl,l5,d7⟩
    refine Run.nnz_s [] 2 ZB rfl (Zm (vs:=[.agg #[.slice b c d,.slice k m q]]) (K:=[_,_]) (rst:=[_]) (.inl rfl) rfl rfl (Res.cellN 0 rfl rfl S25 rfl) (Ze 2 rfl (Ze 1 rfl ZT)) ?_)
    obtain rfl:=Option.some.inj hx
    exact⟨b,c,d,a5,k,m,q,a7,rfl,rfl,(Pcs.weak (Nat.zero_le _) d6),(newP_ids d6 hlt),(RowOf.weak (Nat.zero_le _) d7),(new_ids d7 hlt),trivial⟩
   ·
    refine JC.block (JC.seg0 (JC.forget 2 (ZR 1 rfl (ZR 1 rfl (ZR 2 rfl (ZS [2,43,44] [2] rfl rfl (λl0 o0 a8 l o g=>∃f:Heaplet,∃a9:Option Addr,∃b0:Nat,∃b1:Nat,∃b2:Own,l=(45,.int .i64 ((a8.2:Nat):Int))::l0∧o= [(d4,.cells #[.slice b c d,.slice a9 b0 b1] 25 (0,0))]::b2::o0∧f=g∧Hle j f∧RowOf (New H f) R_Write w.heap.size 96 2 (.slice a9 b0 b1) a8.1 b2) hx ⟨j,none,0,0,[],rfl,rfl,rfl,(Hle.refl _),(RowOf.nil _ _ _ _ _)⟩ rfl ?_))))))
    ·
     rintro l6 a8 _ _ _ ⟨f,a9,b0,b1,b2,rfl,rfl,rfl,c8,d8⟩ l7 hx d9
     unfold dev_Twin_l3 at hx
     refine Run.cc [] 6 ZB rfl (ZG hx rfl (λe0 hx=> ?_) (λe0 hx=> ?_))
     ·
      refine Run.cl_s [] 6 ZB rfl ?_
      obtain⟨s,g4,hx⟩:=ZJ hx
      obtain⟨l8,l9,m0,g5,g6,m1,g7⟩:=IsSlice.elem (c0.mono R_Write.mono (d5.trans c8)) g4
      obtain⟨m2,rfl,e1⟩:=g6
      obtain⟨m3,m4,rfl⟩:=IsSlice.val e1
      refine ZA rfl rfl (Zd U23 S96 rfl rfl g5) (ZA rfl rfl (Zz 0 S96 rfl g7 rfl rfl) (JL.alloc Z96 rfl (λm5 m6=>Run.lcz_s [0] 3 ZB rfl (Zh (so:=[(_,[]),(_,[9,11]),(_,[9]),(_,[])]) 12 rfl Mixed ⟨by kernel_rfl,by kernel_rfl⟩ (ZX [0,1,2,3] rfl) ?_))))
      refine JB.val (i:=0) [] rfl (R.fa F25_1 rfl) ?_
      refine JB.val (i:=1) [9,10,11] rfl (R.ldo 1 S23 rfl rfl rfl) ?_
      refine JB.run 4 [2,3,4,5] [0,0] ZB rfl ?_
      refine JB.one (i:=6) (by kernel_rfl) ?_
      refine JOB.step rfl trivial rfl (λK hK=> ?_)
      obtain⟨g8,g9,hx⟩:=ZU hx
      refine Zg (vs:=[_]) (args:=[_]) (K:=[]) (rst:=[_,_,_,_]) E59 rfl rfl rfl ZT (bytes_Clone_ok s.Data _ e1 _ g9) rfl (λm7 m8 m9 h0 n2 h1=> ?_)
      obtain⟨c9,d0,d1,n3,rfl,rfl,rfl,d2,h2,-⟩:=h0
      replace d2:=(RowOf.base (RowOf.const (H2:=New H f) RU8.const d2) (λp hp=>(h1 p (mem_seg 0 rfl hp)).resolve_left (h2 p hp)))
      refine JL.nil (hK _ _ _ (Hle.refl _) (ZX [1,2,3,4] rfl) ?_)
      refine JB.val (i:=7) [] rfl (R.bldP (vs:=[(0,.int .i64 s.At),(1,.slice c9 d0 d1)]) (cs:=[.int .i64 s.At,.slice c9 d0 d1]) Z96 B96 rfl rfl rfl) ?_
      refine JB.one (i:=8) (by kernel_rfl) ?_
      refine JOB.step rfl trivial rfl (λK hK=>JL.pubN 0 RU8.mono rfl d2 (Nat.le_refl _) (λd3 v h3=>JL.forget 0 (Zx (HF:=(New H d3)) (R:=R_Write) (ls:=[Write.mk s.At g8]) (vs:=[.agg #[.int .i64 s.At,.slice c9 d0 d1]]) U23 I96 rfl rfl (⟨_,_,rfl,rfl,⟨_,rfl,h3⟩,rfl⟩) R_Write.one rfl rfl rfl (by simp[maxLen]) rfl (λn4 n5 e2=> ?_))))
      obtain⟨n6,n7,rfl⟩:=RowOf.val e2
      refine JL.nil (hK _ _ _ v (ZX [1,2,3,4] rfl) ?_)
      refine JB.one (i:=9) (by kernel_rfl) ?_
      refine JOB.step rfl trivial rfl (λK hK=> ?_)
      obtain⟨e3,h4,h5,hx⟩:=Zb hx
      refine Zl (HF:=(New H d3)) 3 U23 I96 rfl rfl (d8.mono R_Write.mono (New.mono v)) rfl (SrcF.row 0 U23 rfl e2) h4 h5 rfl (Nat.le_refl _) rfl (λn8 h6 e4=> ?_)
      obtain⟨h7,h8,rfl⟩:=RowOf.val e4
      refine JL.nil (hK _ _ _ v (kept1 [false,true,true,false] [1,0,0,4] (by kernel_rfl) rfl) ?_)
      refine JB.val (i:=10) [] rfl (R.fa F25_1 rfl) ?_
      refine JB.one (i:=11) (by kernel_rfl) ?_
      refine JOB.step rfl trivial rfl (λK hK=>Run.lnz [2] 2 ZB rfl (hK _ _ _ v (kept1 [false,true,true,false] [1,0,0,4] (by kernel_rfl) rfl) ?_))
      refine JB.doneN (by kernel_rfl) ?_
      refine Run.nlz_bs [] 3 ZB rfl (ZA rfl rfl (Zi rfl rfl (of_decide_eq_true e0) (IsSlice.lenI c0)) (Run.lnz [] 2 ZB rfl ?_))
      replace hx:=ZP d9 hx
      refine JN.forget 1 (JN.forget 0 (ZE 2 rfl (ZE 2 rfl (ZE 2 rfl ?_))))
      exact ZC ⟨(e3,a8.2+1),⟨d3,h7,e3.length,h8,h6,rfl,rfl,rfl,((c8.trans v)),e4⟩,hx⟩ rfl rfl rfl
     ·
      refine Run.cnz_k [] 2 ZB rfl ?_
      obtain rfl:=ZH d9 hx
      refine Run.nnz_kb [] 2 ZB rfl (ZE 2 rfl (ZE 2 rfl (ZE 2 rfl ?_)))
      exact ZC ⟨f,a9,b0,b1,b2,rfl,rfl,rfl,(c8),d8⟩ rfl rfl rfl
  ·
   refine JC.block (ZR 2 rfl (ZR 2 rfl (ZR 2 rfl (ZS [1,2,27,28] [1,2] rfl rfl (λl0 o0 b3 l o g=>∃x:Own,l=(29,.int .i64 ((b3.2:Nat):Int))::l0∧o=x::o0∧j=g∧Pcs w.heap.size 5 26 (.slice b c d) b3.1 x) hx ⟨g2,rfl,rfl,rfl,c5⟩ rfl ?_))))
   ·
    rintro n9 b3 _ _ _ ⟨x,rfl,rfl,rfl,h⟩ o1 hx e5
    unfold dev_Twin_l2 at hx
    refine Run.cc [] 6 ZB rfl (ZG hx rfl (λe6 hx=> ?_) (λe6 hx=> ?_))
    ·
     refine Run.cl_s [] 7 ZB rfl ?_
     obtain⟨o2,h9,hx⟩:=ZJ hx
     obtain⟨o3,o4,o5,i0,i1,o6,i2⟩:=IsSlice.elem (a.mono (RSl.mono RU8.mono) d5) h9
     obtain⟨o7,rfl,e7⟩:=i1
     obtain⟨o8,o9,rfl⟩:=IsSlice.val e7
     refine ZA rfl rfl (Zd U22 S26 rfl rfl i0) (ZA rfl rfl (ZY S26 rfl (i2 0 _ rfl)) (Run.llz_s [2] 8 ZB rfl ?_))
     obtain⟨p0,e8,hx⟩:=ZJ hx
     obtain⟨p1,p2,p3,p4,i3,i4,i5,i6⟩:=Pcs.at h e8
     refine ZA rfl rfl (Zd U22 S26 rfl rfl i3) (ZA rfl rfl (R.ldM 0 S26 rfl rfl i4 i5) (ZA rfl rfl (ZW rfl) ?_))
     obtain⟨i7,hx⟩:=chk_some hx
     obtain⟨i8,i9,p5,hx⟩:=setI_some hx
     refine JL.copyP 0 U26 S5 rfl h e8 i6 rfl rfl (Hle.refl _) e7 i7 rfl (λj0 e9=> ?_)
     rw[←i9]at e9
     refine Run.llz_bs [] 4 ZB rfl (ZA rfl rfl (Zi rfl rfl (of_decide_eq_true e6) (IsSlice.lenI a)) (Run.lnz [] 2 ZB rfl ?_))
     replace hx:=ZP e5 hx
     refine ZE 2 rfl (ZE 2 rfl (ZE 2 rfl ?_))
     exact ZC ⟨(i8,b3.2+1),⟨j0,rfl,rfl,rfl,e9⟩,hx⟩ rfl rfl rfl
    ·
     refine Run.cnz_k [] 2 ZB rfl ?_
     obtain rfl:=ZH e5 hx
     refine Run.nnz_kb [] 2 ZB rfl (ZE 2 rfl (ZE 2 rfl (ZE 2 rfl ?_)))
     exact ZC ⟨x,rfl,rfl,rfl,h⟩ rfl rfl rfl
 ·
  refine JC.block (JC.seg0 (ZR 1 rfl (ZR 2 rfl (ZR 2 rfl (ZS [1,2,11,12] [1,2] rfl rfl (λl0 o0 b4 l o g=>∃b5:Option Addr,∃b6:Nat,∃b7:Nat,∃b8:Own,l=(3,.slice b5 b6 b7)::(13,.int .i64 ((b4.2:Nat):Int))::l0∧o=b8::o0∧H=g∧RowOf (New H H) RInt w.heap.size 3 1 (.slice b5 b6 b7) b4.1 b8) hx ⟨none,0,0,[],rfl,rfl,rfl,(RowOf.nil _ _ _ _ _)⟩ rfl ?_)))))
  ·
   rintro p6 b4 _ _ _ ⟨b5,b6,b7,b8,rfl,rfl,rfl,f0⟩ p7 hx f1
   unfold dev_Twin_l1 at hx
   refine Run.cc [] 6 ZB rfl (ZG hx rfl (λf2 hx=> ?_) (λf2 hx=> ?_))
   ·
    refine Run.cl_s [] 6 ZB rfl ?_
    obtain⟨f3,j1,hx⟩:=ZJ hx
    obtain⟨p8,p9,q0,j2,j3,q1,j4⟩:=IsSlice.elem a j1
    obtain⟨q2,rfl,f4⟩:=j3
    obtain⟨q3,q4,rfl⟩:=IsSlice.val f4
    refine ZA rfl rfl (Zd U22 S26 rfl rfl j2) (ZA rfl rfl (ZY S26 rfl (j4 0 _ rfl)) (Run.llz_s [] 6 ZB rfl (ZA rfl rfl (ZM U26 rfl (IsSlice.long f4)) (Zx (HF:=(New H H)) (R:=RInt) (ls:=[(f3.length:Int)]) (vs:=[.int .i64 (f3.length:Int)]) U51 I3 rfl rfl (⟨_,_,rfl,rfl,rfl,rfl⟩) RInt.one rfl rfl rfl (by simp[maxLen]) rfl (λq5 x h=> ?_)))))
    obtain⟨q6,q7,rfl⟩:=RowOf.val h
    obtain⟨f5,j5,j6,hx⟩:=Zb hx
    refine Zl (HF:=(New H H)) 1 U51 I3 rfl rfl f0 rfl (SrcF.row 0 U51 rfl h) j5 j6 rfl (Nat.le_refl _) rfl (λq8 j7 f6=> ?_)
    obtain⟨j8,j9,rfl⟩:=RowOf.val f6
    refine Run.llz_bs [] 5 ZB rfl (ZA rfl rfl (Zi rfl rfl (of_decide_eq_true f2) (IsSlice.lenI a)) (Run.lnz [] 2 ZB rfl ?_))
    replace hx:=ZP f1 hx
    refine JN.forget 0 (ZE 2 rfl (ZE 2 rfl (ZE 2 rfl ?_)))
    exact ZC ⟨(f5,b4.2+1),⟨j8,f5.length,j9,j7,rfl,rfl,rfl,f6⟩,hx⟩ rfl rfl rfl
   ·
    refine Run.cnz_k [] 2 ZB rfl ?_
    obtain rfl:=ZH f1 hx
    refine Run.nnz_kb [] 2 ZB rfl (ZE 2 rfl (ZE 2 rfl (ZE 2 rfl ?_)))
    exact ZC ⟨b5,b6,b7,b8,rfl,rfl,rfl,f0⟩ rfl rfl rfl
theorem dev_left_ok (s:Disk)(H:Heaplet){a4:Option Addr}{a5:Nat}{a6:Nat}{c:Option Addr}{d:Nat}{m:Nat}(b5:IsSlice H (RSl RU8 1) 1 (.slice a4 a5 a6) s.Blocks)(e9:IsSlice H R_Write 2 (.slice c d m) s.Waits)(r:Disk)(hx:dev_left s=some r):
  Does Tryz.prog 101 #[.agg #[.slice a4 a5 a6,.slice c d m],.func (.func 102) #[] #[]] [] H (λu K' H'=>∃ao0:Option Addr,∃n0:Nat,∃cap0:Nat,∃K0:Own,∃ao1:Option Addr,∃n1:Nat,∃cap1:Nat,∃K1:Own,u=.agg #[.slice ao0 n0 cap0,.slice ao1 n1 cap1]∧K'= [K0,K1]∧Pcs 0 5 26 (.slice ao0 n0 cap0) r.Blocks K0∧(∀p∈K0,p.1∉ids (List.flatten []))∧RowOf (New H H') R_Write 0 96 2 (.slice ao1 n1 cap1) r.Waits K1∧(∀p∈K1,p.1∉ids (List.flatten []))∧True):=by
 refine Does.enterL (vs:=[.agg #[.slice a4 a5 a6,.slice c d m],.func (.func 102) #[] #[]]) (l:=[(0,.agg #[.slice a4 a5 a6,.slice c d m]),(1,.func (.func 102) #[] #[])]) Tryz.func101 rfl rfl ⟨rfl,rfl,trivial⟩ (λw hlt=> ?_)
 unfold dev_left at hx
 refine Run.cl [] 2 ZB rfl (ZV rfl rfl (λb6 j2=>JL.alloc Z25 rfl (λd3 j3=>Run.lc_s [] 3 ZB rfl (ZO hx [1,2,4] [0] rfl rfl (λv l0 o0 l o g=>∃a0:Option Addr,∃a1:Nat,∃a2:Nat,∃a7:Own,l=l0∧o= [(b6,.cells #[.slice a0 a1 a2,.slice c d m] 25 (0,0))]::a7::o0∧H=g∧RowOf H (RSl RU8 1) w.heap.size 26 1 (.slice a0 a1 a2) v a7) (λv j4 hx=> ?_) (λv j5 hx=> ?_)))))
 ·
  rintro _ _ _ ⟨a0,a1,a2,a7,rfl,rfl,rfl,f0⟩
  refine Run.nl_s [0] 6 ZB rfl ?_
  obtain⟨x,f1,hx⟩:=ZU hx
  refine Zg (vs:=[_,_]) (args:=[_,_]) (K:=[]) (rst:=[_,_,_]) E161 rfl rfl rfl ZT (dev_lasts_ok (Disk.mk v s.Waits) _ e9 _ f1) rfl (λj6 j7 j8 f2 j9 f3=> ?_)
  obtain⟨k0,d4,k1,k2,rfl,rfl,rfl,b7,f4,-⟩:=f2
  replace b7:=(MapOf.base b7 (λp hp=>(f3 p (mem_seg 0 rfl hp)).resolve_left (f4 p hp)))
  refine JL.rangeMapF 0 U215 rfl rfl b7 rfl (λd5 f5 f6 a8=> ?_)
  subst f6
  refine Run.lcz_s [] 2 ZB rfl ?_
  obtain⟨f7,f8,b8,hx⟩:=layR_some hx
  refine JC.block (JC.loop (ι:=Array Nat×(List (List UInt8))×Own) (λ_=> [(2,.pointer (some ⟨b6,0,none⟩)),(4,.pointer (some ⟨d3,0,none⟩)),(16,.pointer (some ⟨d5,0,none⟩))]) (λi=> [[(d5,.mapIter (some d4) (x).length i.1 (x).length)],[(d4,.map f5 (x).length)],[(b6,.cells #[.slice a0 a1 a2,.slice c d m] 25 (0,0))],i.2.2,[(d3,.cells #[.slice none 0 0,.slice none 0 0] 25 (0,0))]]) (λ_=>H) (λi=>i.1.toList.Nodup∧(∀q∈i.1.toList,q<(x).length)∧Laid (λy:Write=>y.Data) v x i.1.toList i.2.1∧RowOf H (RSl RU8 1) w.heap.size 26 1 (.slice a0 a1 a2) i.2.1 i.2.2) (λi=>(x).length-i.1.size) (#[],v,a7) ⟨by simp,by simp,Laid.start _ _ _,f0⟩ ⟨rfl,rfl,rfl,trivial⟩ rfl rfl ?_)
  rintro⟨d6,a3,f9⟩ ⟨b9,c0,a9,b0⟩
  dsimp only at b9 c0 a9 b0⊢
  refine Run.cl [] 2 ZB rfl (JL.nextMap 0 1 rfl rfl rfl a8 (Nat.le_refl _) rfl (λg0=> ?_) (λg1 z b1 k3 b2 g2 d7 g3=> ?_))
  ·
   refine Run.lnz_sk [] 8 ZB rfl (JN.exitSame ?_)
   obtain rfl:=f8.trans (a9.full a8.nodup b8 g0).symm
   refine JN.forget 1 (JN.forget 0 (Run.nl_s [0,0] 10 ZB rfl (JL.pub 1 (RSl.mono RU8.mono) rfl b0 (Nat.le_refl _) (λk4 g4 g5=>JL.forget 1 ?_))))
   obtain⟨k5,g6,hx⟩:=ZU hx
   refine Zg (vs:=[_]) (args:=[_]) (K:=[]) (rst:=[_,_]) E51 rfl rfl rfl ZT (dev_Twin_ok (Disk.mk f7 ([]:List Write)) _ g5 (IsSlice.nil _ _ _) _ g6) rfl (λk6 k7 k8 g7 k9 d8=> ?_)
   obtain⟨d9,e0,e1,g8,e2,e3,e4,g9,rfl,rfl,b3,h0,b4,h1,-⟩:=g7
   replace b3:=(Pcs.base b3 (λp hp=>(d8 p (mem_seg 0 rfl hp)).resolve_left (h0 p hp)))
   replace b4:=(RowOf.base (RowOf.mono R_Write.mono (New.call g4) b4) (λp hp=>(d8 p (mem_seg 1 rfl hp)).resolve_left (h1 p hp)))
   refine Run.lnz_s [3] 4 ZB rfl (Zm (vs:=[.agg #[.slice d9 e0 e1,.slice e2 e3 e4]]) (K:=[_,_]) (rst:=[_,_]) (.inl rfl) rfl rfl (Res.cellN 3 rfl rfl S25 rfl) (Ze 0 rfl (Ze 0 rfl ZT)) ?_)
   obtain rfl:=Option.some.inj hx
   exact⟨d9,e0,e1,g8,e2,e3,e4,g9,rfl,rfl,(Pcs.weak (Nat.zero_le _) b3),(newP_ids b3 hlt),(RowOf.weak (Nat.zero_le _) b4),(new_ids b4 hlt),trivial⟩
  ·
   have h2:=seen_more b9 c0 (List.getElem?_eq_some_iff.1 b2).1 d7
   refine Run.ll_s [] 10 ZB rfl ?_
   obtain⟨l1,rfl,e5⟩:=g3
   obtain⟨l2,l3,rfl⟩:=IsSlice.val e5
   refine JL.entryMap 0 1 rfl rfl rfl a8 g2 rfl ?_
   have e6:=b8 _ (List.mem_of_getElem? b2)
   rw[←a9.len]at e6
   clear hx
   have hx:(chk (0≤z∧z.toNat<a3.length)<|setI a3 z b1.Data λe7=>some e7)=some (a3.set z.toNat b1.Data):=lay_step e6
   refine Run.llz [] 2 ZB rfl (JL.alloc Z96 rfl (λl4 l5=>Run.llz_s [0,3,0] 10 ZB rfl ?_))
   obtain⟨h3,hx⟩:=chk_some hx
   obtain⟨l6,l7,e8⟩:=RowOf.place b0 h3
   refine ZA rfl rfl (Zd U22 S26 rfl rfl e8) ?_
   obtain⟨e7,h4,l8,hx⟩:=setI_some hx
   refine JL.stE 4 (k:=z) (y:=b1.Data) S26 rfl b0 rfl e8 rfl rfl (⟨_,rfl,e5⟩) RSl.one h4 (λh5 h6 l9=>Run.lnz_b [] 2 ZB rfl ?_)
   obtain rfl:=Option.some.inj hx
   refine JN.forget 0 (ZE 4 rfl (ZE 4 rfl (ZE 4 rfl (ZE 4 rfl (ZE 4 rfl ?_)))))
   exact JN.again (i:=(d6,a3,f9)) (d6.push g1,a3.set z.toNat b1.Data,h5) ⟨by simp only[Array.toList_push];exact List.nodup_append.2 ⟨b9,by simp,λa ha b hb e=>by simp at hb;subst hb;subst e;exact d7 ha⟩,by simp only[Array.toList_push];intro q hq;rcases List.mem_append.1 hq with h|h;exact c0 q h;simp at h;subst h;exact(List.getElem?_eq_some_iff.1 b2).1,a9.step (f:=(λy:Write=>y.Data)) a8.nodup b8 b2 _ (λq=>by simp),h6⟩ (by simp only[Array.size_push];simp only[Array.length_toList]at h2;omega) ⟨rfl,rfl,rfl,trivial⟩ rfl rfl
 ·
  refine JC.draw (so:=[_]) 7 rfl Mixed ⟨⟨0,rfl⟩,trivial⟩ (JA.val ⟨by kernel_rfl,by kernel_rfl⟩ (ZK _) (i:=0) rfl ⟨by kernel_rfl,by kernel_rfl,rfl⟩ trivial (ZL (Hle.refl _) ⟨⟨0,rfl⟩,trivial⟩) (R.fa F25_0 rfl) rfl (JA.val ⟨by kernel_rfl,by kernel_rfl⟩ (ZK _) (i:=3) rfl ⟨by kernel_rfl,by kernel_rfl,rfl⟩ trivial (ZL (Hle.refl _) ⟨⟨0,rfl⟩,trivial⟩) (R.fa F25_1 rfl) rfl (JA.two (i:=1) (j:=4) (by kernel_rfl) ?_ ?_)))
  ·
   refine JO.step rfl trivial rfl (λK hK=>Run.lnz [1] 2 ZB rfl (hK _ _ _ (ZL (Hle.refl _) ⟨⟨0,rfl⟩,trivial⟩) (JA.two (i:=2) (j:=4) (by kernel_rfl) ?_ ?_)))
   ·
    refine JO.step rfl trivial rfl (λK hK=> ?_)
    obtain⟨m0,h7,hx⟩:=ZU hx
    refine Zg (vs:=[_]) (args:=[_]) (K:=[]) (rst:=[_,_]) E160 rfl rfl rfl ZT (slices_Clone_byte_L_ok s.Blocks _ b5 _ h7) rfl (λm1 m2 m3 h8 m4 h9=> ?_)
    obtain⟨c1,c2,c3,i0,rfl,rfl,rfl,c4,i1,-⟩:=h8
    replace c4:=(RowOf.base c4 (λp hp=>(h9 p (mem_seg 0 rfl hp)).resolve_left (i1 p hp)))
    refine JL.nil (hK _ _ _ (ZL (Hle.refl _) ⟨⟨1,rfl⟩,trivial⟩) (JA.one (i:=4) (by kernel_rfl) (JO.step rfl trivial rfl (λK hK=> ?_))))
    refine Run.lnz [2] 2 ZB rfl (hK _ _ _ (ZL (Hle.refl _) ⟨⟨1,rfl⟩,trivial⟩) (JA.val ⟨by kernel_rfl,by kernel_rfl⟩ (ZK _) (i:=5) rfl ⟨by kernel_rfl,by kernel_rfl,rfl⟩ trivial (ZL (Hle.refl _) ⟨⟨1,rfl⟩,trivial⟩) (R.bldP (vs:=[(0,.slice c1 c2 c3),(1,.slice c d m)]) (cs:=[.slice c1 c2 c3,.slice c d m]) Z25 B25 rfl rfl rfl) rfl (JA.one (i:=6) (by kernel_rfl) (JO.step rfl trivial rfl (λK hK=> ?_)))))
    refine Run.lnz [2] 2 ZB rfl (hK _ _ _ (ZL (Hle.refl _) ⟨⟨1,rfl⟩,trivial⟩) (JA.doneN (by kernel_rfl) ?_))
    obtain rfl:=Option.some.inj hx
    refine ZE 1 rfl (ZE 1 rfl (ZE 2 rfl ?_))
    exact ZC ⟨c1,c2,c3,i0,rfl,rfl,rfl,c4⟩ rfl rfl rfl
   ·
    refine JO.step rfl trivial rfl (λK hK=>Run.lnz [1] 2 ZB rfl (hK _ _ _ (ZL (Hle.refl _) ⟨⟨0,rfl⟩,trivial⟩) (JA.one (i:=2) (by kernel_rfl) (JO.step rfl trivial rfl (λK hK=> ?_)))))
    obtain⟨m5,i2,hx⟩:=ZU hx
    refine Zg (vs:=[_]) (args:=[_]) (K:=[]) (rst:=[_,_]) E160 rfl rfl rfl ZT (slices_Clone_byte_L_ok s.Blocks _ b5 _ i2) rfl (λm6 m7 m8 i3 m9 i4=> ?_)
    obtain⟨c5,c6,c7,i5,rfl,rfl,rfl,c8,i6,-⟩:=i3
    replace c8:=(RowOf.base c8 (λp hp=>(i4 p (mem_seg 0 rfl hp)).resolve_left (i6 p hp)))
    refine JL.nil (hK _ _ _ (ZL (Hle.refl _) ⟨⟨1,rfl⟩,trivial⟩) (JA.val ⟨by kernel_rfl,by kernel_rfl⟩ (ZK _) (i:=5) rfl ⟨by kernel_rfl,by kernel_rfl,rfl⟩ trivial (ZL (Hle.refl _) ⟨⟨1,rfl⟩,trivial⟩) (R.bldP (vs:=[(0,.slice c5 c6 c7),(1,.slice c d m)]) (cs:=[.slice c5 c6 c7,.slice c d m]) Z25 B25 rfl rfl rfl) rfl (JA.one (i:=6) (by kernel_rfl) (JO.step rfl trivial rfl (λK hK=> ?_)))))
    refine Run.lnz [2] 2 ZB rfl (hK _ _ _ (ZL (Hle.refl _) ⟨⟨1,rfl⟩,trivial⟩) (JA.doneN (by kernel_rfl) ?_))
    obtain rfl:=Option.some.inj hx
    refine ZE 1 rfl (ZE 1 rfl (ZE 2 rfl ?_))
    exact ZC ⟨c5,c6,c7,i5,rfl,rfl,rfl,c8⟩ rfl rfl rfl
  ·
   refine JO.step rfl trivial rfl (λK hK=>Run.lnz [1] 2 ZB rfl (hK _ _ _ (ZL (Hle.refl _) ⟨⟨0,rfl⟩,trivial⟩) (JA.one (i:=1) (by kernel_rfl) (JO.step rfl trivial rfl (λK hK=> ?_)))))
   refine Run.lnz [1] 2 ZB rfl (hK _ _ _ (ZL (Hle.refl _) ⟨⟨0,rfl⟩,trivial⟩) (JA.one (i:=2) (by kernel_rfl) (JO.step rfl trivial rfl (λK hK=> ?_))))
   obtain⟨n2,i7,hx⟩:=ZU hx
   refine Zg (vs:=[_]) (args:=[_]) (K:=[]) (rst:=[_,_]) E160 rfl rfl rfl ZT (slices_Clone_byte_L_ok s.Blocks _ b5 _ i7) rfl (λn3 n4 n5 i8 n6 i9=> ?_)
   obtain⟨c9,d0,d1,j0,rfl,rfl,rfl,d2,j1,-⟩:=i8
   replace d2:=(RowOf.base d2 (λp hp=>(i9 p (mem_seg 0 rfl hp)).resolve_left (j1 p hp)))
   refine JL.nil (hK _ _ _ (ZL (Hle.refl _) ⟨⟨1,rfl⟩,trivial⟩) (JA.val ⟨by kernel_rfl,by kernel_rfl⟩ (ZK _) (i:=5) rfl ⟨by kernel_rfl,by kernel_rfl,rfl⟩ trivial (ZL (Hle.refl _) ⟨⟨1,rfl⟩,trivial⟩) (R.bldP (vs:=[(0,.slice c9 d0 d1),(1,.slice c d m)]) (cs:=[.slice c9 d0 d1,.slice c d m]) Z25 B25 rfl rfl rfl) rfl (JA.one (i:=6) (by kernel_rfl) (JO.step rfl trivial rfl (λK hK=> ?_)))))
   refine Run.lnz [2] 2 ZB rfl (hK _ _ _ (ZL (Hle.refl _) ⟨⟨1,rfl⟩,trivial⟩) (JA.doneN (by kernel_rfl) ?_))
   obtain rfl:=Option.some.inj hx
   refine ZE 1 rfl (ZE 1 rfl (ZE 2 rfl ?_))
   exact ZC ⟨c9,d0,d1,j0,rfl,rfl,rfl,d2⟩ rfl rfl rfl
theorem dev_Read_1_ok (j:Disk)(H:Heaplet){a:Nat}{b:Option Addr}{c:Nat}{d:Nat}{f:Option Addr}{h:Nat}{i:Nat}(q:IsSlice H (RSl RU8 1) 1 (.slice b c d) j.Blocks)(s:IsSlice H R_Write 2 (.slice f h i) j.Waits)(r:Disk×Disk)(hx:dev_Read_1 j=some r):
  Does Tryz.prog 100 #[.pointer (some ⟨a,0,none⟩)] [[(a,.cells #[.slice b c d,.slice f h i] 25 (0,0))]] H (λu K' H'=>∃ao0:Option Addr,∃n0:Nat,∃cap0:Nat,∃ao1:Option Addr,∃n1:Nat,∃cap1:Nat,∃ao2:Option Addr,∃n2:Nat,∃cap2:Nat,∃K2:Own,∃ao3:Option Addr,∃n3:Nat,∃cap3:Nat,∃K3:Own,u=.agg #[.slice ao2 n2 cap2,.slice ao3 n3 cap3]∧K'= [[(a,.cells #[.slice ao0 n0 cap0,.slice ao1 n1 cap1] 25 (0,0))],K2,K3]∧IsSlice H' (RSl RU8 1) 1 (.slice ao0 n0 cap0) r.2.Blocks∧IsSlice H' R_Write 2 (.slice ao1 n1 cap1) r.2.Waits∧Pcs 0 5 26 (.slice ao2 n2 cap2) r.1.Blocks K2∧(∀p∈K2,p.1∉ids (List.flatten [[(a,.cells #[.slice b c d,.slice f h i] 25 (0,0))]]))∧RowOf (New H H') R_Write 0 96 2 (.slice ao3 n3 cap3) r.1.Waits K3∧(∀p∈K3,p.1∉ids (List.flatten [[(a,.cells #[.slice b c d,.slice f h i] 25 (0,0))]]))∧True):=by
 refine Does.enterL (vs:=[.pointer (some ⟨a,0,none⟩)]) (l:=[(0,.pointer (some ⟨a,0,none⟩))]) Tryz.func100 rfl rfl ⟨rfl,trivial⟩ (λw hlt=> ?_)
 unfold dev_Read_1 at hx
 refine Run.cl [] 2 ZB rfl (JL.alloc Z25 rfl (λb0 b1=>Run.ll_s [1] 5 ZB rfl ?_))
 obtain⟨b2,a4,hx⟩:=ZU hx
 refine Zg (vs:=[_,_]) (args:=[_,_]) (K:=[]) (rst:=[_,_]) E101 rfl rfl rfl ZT (dev_left_ok j _ q s _ a4) rfl (λb3 b4 b5 a5 v x=> ?_)
 obtain⟨y,z,a0,a6,a1,a2,a3,a7,rfl,rfl,k,a8,m,a9,-⟩:=a5
 replace k:=(Pcs.base k (λp hp=>(x p (mem_seg 0 rfl hp)).resolve_left (a8 p hp)))
 replace m:=(RowOf.base (RowOf.mono R_Write.mono (New.call (Hle.refl _)) m) (λp hp=>(x p (mem_seg 1 rfl hp)).resolve_left (a9 p hp)))
 refine Run.lnz_s [2] 4 ZB rfl (Zm (vs:=[.agg #[.slice y z a0,.slice a1 a2 a3]]) (K:=[_,_,_]) (rst:=[_]) (.inl rfl) rfl rfl (Res.cellN 2 rfl rfl S25 rfl) (Ze 3 rfl (Ze 0 rfl (Ze 0 rfl ZT))) ?_)
 obtain rfl:=Option.some.inj hx
 exact⟨b,c,d,f,h,i,y,z,a0,a6,a1,a2,a3,a7,rfl,rfl,(q.mono (RSl.mono RU8.mono) v),(s.mono R_Write.mono v),(Pcs.weak (Nat.zero_le _) k),(newP_ids k hlt),(RowOf.weak (Nat.zero_le _) m),(new_ids m hlt),trivial⟩
theorem dev_guarded_v2_ok (a1:Disk)(j:Bool)(k:Disk)(H:Heaplet){m:Option Addr}{q:Nat}{s:Nat}{v:Option Addr}{x:Nat}{y:Nat}{a:Nat}{b:Option Addr}{c:Nat}{d:Nat}{f:Option Addr}{h:Nat}{i:Nat}(b2:IsSlice H (RSl RU8 1) 1 (.slice m q s) a1.Blocks)(b3:IsSlice H R_Write 2 (.slice v x y) a1.Waits)(a2:IsSlice H (RSl RU8 1) 1 (.slice b c d) k.Blocks)(a3:IsSlice H R_Write 2 (.slice f h i) k.Waits)(r:Disk×Int×Disk)(hx:dev_guarded_v2 a1 j k=some r):
  Does Tryz.prog 98 #[.agg #[.slice m q s,.slice v x y],.bool j,.func (.func 100) #[] #[.pointer (some ⟨a,0,none⟩)]] [[(a,.cells #[.slice b c d,.slice f h i] 25 (0,0))]] H (λu K' H'=>∃ao0:Option Addr,∃n0:Nat,∃cap0:Nat,∃ao1:Option Addr,∃n1:Nat,∃cap1:Nat,∃ao2:Option Addr,∃n2:Nat,∃cap2:Nat,∃ao3:Option Addr,∃n3:Nat,∃cap3:Nat,∃K3:Own,u=.tuple #[.agg #[.slice ao2 n2 cap2,.slice ao3 n3 cap3],.int .i64 r.2.1]∧K'= [[(a,.cells #[.slice ao0 n0 cap0,.slice ao1 n1 cap1] 25 (0,0))],K3]∧IsSlice H' (RSl RU8 1) 1 (.slice ao0 n0 cap0) r.2.2.Blocks∧IsSlice H' R_Write 2 (.slice ao1 n1 cap1) r.2.2.Waits∧IsSlice (New H H') (RSl RU8 1) 1 (.slice ao2 n2 cap2) r.1.Blocks∧RowOf (New H H') R_Write 0 96 2 (.slice ao3 n3 cap3) r.1.Waits K3∧(∀p∈K3,p.1∉ids (List.flatten [[(a,.cells #[.slice b c d,.slice f h i] 25 (0,0))]]))∧True):=by
 refine Does.enterL (vs:=[.agg #[.slice m q s,.slice v x y],.bool j,.func (.func 100) #[] #[.pointer (some ⟨a,0,none⟩)]]) (l:=[(0,.agg #[.slice m q s,.slice v x y]),(1,.bool j),(2,.func (.func 100) #[] #[.pointer (some ⟨a,0,none⟩)])]) Tryz.func98 rfl rfl ⟨rfl,rfl,rfl,trivial⟩ (λw hlt=> ?_)
 unfold dev_guarded_v2 at hx
 refine Run.cl [] 2 ZB rfl (ZV rfl rfl (λd1 d2=>JL.alloc Z25 rfl (λd3 d4=>Run.ll_s [1] 6 ZB rfl (ZI hx E55 rfl dev_Check_ok rfl ⟨b2,b3,trivial⟩ ?_))))
 intro b4 d5 hx
 refine Run.lc_s [] 12 ZB rfl (ZG hx rfl (λb5 hx=> ?_) (λb5 hx=> ?_))
 ·
  refine Run.cnz_bk [0] 11 ZB rfl (ZZ (Zm (vs:=[.agg #[.slice none 0 0,.slice none 0 0],.int .i64 b4]) (K:=[_,_]) (rst:=[_,_]) (.inl rfl) rfl rfl (Res.cellN 1 rfl rfl S25 (Zs rfl rfl)) (Ze 3 rfl (Ze 0 rfl ZT)) ?_))
  obtain rfl:=Option.some.inj hx
  exact⟨b,c,d,f,h,i,none,0,0,none,0,0,[],rfl,rfl,a2,a3,(IsSlice.nil _ _ _),(RowOf.nil _ _ _ _ _),(λp hp=>by cases hp),trivial⟩
 ·
  refine Run.ccz [] 7 ZB rfl (ZG hx rfl (λb6 hx=> ?_) (λb6 hx=> ?_))
  ·
   refine Run.cnz_bk [0] 10 ZB rfl (ZZ (Zm (vs:=[.agg #[.slice none 0 0,.slice none 0 0],.int .i64 2]) (K:=[_,_]) (rst:=[_,_]) (.inl rfl) rfl rfl (Res.cellN 1 rfl rfl S25 (Zs rfl rfl)) (Ze 3 rfl (Ze 0 rfl ZT)) ?_))
   obtain rfl:=Option.some.inj hx
   exact⟨b,c,d,f,h,i,none,0,0,none,0,0,[],rfl,rfl,a2,a3,(IsSlice.nil _ _ _),(RowOf.nil _ _ _ _ _),(λp hp=>by cases hp),trivial⟩
  ·
   refine Run.cl_bs [] 6 ZB rfl ?_
   obtain⟨d6,b7,hx⟩:=ZU hx
   refine Zg (vs:=[]) (args:=[_]) (K:=[_]) (rst:=[_,_]) E100 rfl rfl rfl (Ze 2 rfl ZT) (dev_Read_1_ok k _ a2 a3 _ b7) rfl (λd7 d8 d9 b8 e0 a5=> ?_)
   obtain⟨b9,c0,c1,c2,c3,c4,a6,a7,a8,e1,a9,b0,b1,c5,rfl,rfl,c6,c7,a4,c8,z,c9,-⟩:=b8
   replace a4:=(Pcs.base a4 (λp hp=>(a5 p (mem_seg 1 rfl hp)).resolve_left (c8 p hp)))
   replace z:=(RowOf.base (RowOf.mono R_Write.mono (New.call (Hle.refl _)) z) (λp hp=>(a5 p (mem_seg 2 rfl hp)).resolve_left (c9 p hp)))
   refine Run.lnz_s [3] 5 ZB rfl (JN.pubPcs 1 rfl a4 (Nat.le_refl _) (λe2 a0 d0=>JN.forget 1 (Zm (vs:=[.agg #[.slice a6 a7 a8,.slice a9 b0 b1],.int .i64 0]) (K:=[_,_]) (rst:=[_,_]) (.inl rfl) rfl rfl (Res.cellN 2 rfl rfl S25 (Zs rfl rfl)) (Ze 0 rfl (Ze 0 rfl ZT)) ?_)))
   obtain rfl:=Option.some.inj hx
   exact⟨b9,c0,c1,c2,c3,c4,a6,a7,a8,a9,b0,b1,c5,rfl,rfl,(c6.mono (RSl.mono RU8.mono) a0),(c7.mono R_Write.mono a0),d0,(RowOf.weak (Nat.zero_le _) (z.mono R_Write.mono (New.mono a0))),(new_ids (z.mono R_Write.mono (New.mono a0)) hlt),trivial⟩
end Go.Proofs.YtebhagohhbmgoaaGreat
