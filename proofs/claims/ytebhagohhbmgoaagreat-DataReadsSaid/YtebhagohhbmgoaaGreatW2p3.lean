import Derived.Test.YtebhagohhbmgoaaGreatW2p2
/- walks: what the code computes, function by function. -/
set_option linter.unusedSimpArgs false
set_option linter.unusedVariables false
namespace Go.Proofs.YtebhagohhbmgoaaGreat
open Go.Ow Go.RowKit Go.Proofs
set_option maxHeartbeats 8000000
theorem data_Read_ok{d a5 q s}:Con Tryz.prog 25 false (sp_Pool false d++ [.i a5,.i q,.i s]) (data_Read d a5 q s) (λr=> [.row true RU8 5 1 r.1,.i r.2]):=by
 intro H b6 b7 b8 v b9 c0 c1 x c2 c3 c4 z c5 c6 c7 a1 c8 c9 d0 a2 d1 d2 d3 a3 d4 d5 d6 a0 d7 d8 d9 a4 r hx
 refine Does.enterC Tryz.func25 rfl rfl ?_
 intro w
 unfold data_Read at hx
 refine Run.cl [] 2 ZB rfl (ZV rfl rfl (λa6 j5=>Run.ll_s [0] 8 ZB rfl (ZI hx E65 rfl data_find_ok rfl ⟨v,x,z,a1,a2,a3,a0,a4,trivial⟩ ?_)))
 intro f j6 hx e0 e1 e2 b1
 refine Run.llz [] 3 ZB rfl (JL.alloc Z99 rfl (λa7 j7=>Run.lc_s [0] 11 ZB rfl (ZG hx rfl (λe9 hx=> ?_) (λe9 hx=> ?_))))
 ·
  refine Run.cnz_k [] 9 ZB rfl (ZZ ?_)
  exact Zj [0] rfl hx rfl ⟨⟨0,RowOf.nil _ _ _ _ _⟩,rfl⟩
 ·
  refine Run.cl_s [] 7 ZB rfl (Zx (HF:=(New H H)) (R:=RInt) (ls:=[q,16,s,15]) (vs:=[.int .i64 q,.int .i64 16,.int .i64 s,.int .i64 15]) U51 I3 rfl rfl (⟨_,_,rfl,rfl,rfl,⟨_,_,rfl,rfl,rfl,⟨_,_,rfl,rfl,rfl,⟨_,_,rfl,rfl,rfl,rfl⟩⟩⟩⟩) RInt.one rfl rfl rfl (by simp[maxLen]) rfl (λj8 f0 e3=> ?_))
  obtain⟨j9,k0,rfl⟩:=RowOf.val e3
  refine JL.conL hx E66 rfl data_within_ok rfl (λk1 f1 f2=>⟨(Lent.row' 0 f2 RInt.mono f1 rfl (e3.old RInt.mono)),trivial⟩) (λ_=>trivial) ?_
  intro k2 k3 hx
  refine Run.lcz_s [] 3 ZB rfl (ZG hx rfl (λf3 hx=> ?_) (λf3 hx=> ?_))
  ·
   refine Run.cnz_k [] 8 ZB rfl (ZZ ?_)
   exact Zj [0] rfl hx rfl ⟨⟨0,RowOf.nil _ _ _ _ _⟩,rfl⟩
  ·
   refine Run.cl_s [2,1] 8 ZB rfl ?_
   obtain⟨e4,f4,hx⟩:=ZJ hx
   obtain⟨k4,k5,k6,f5,f6,k7,f7⟩:=IsSlice.elem a0 f4
   obtain⟨k8,rfl,b2⟩:=f6
   obtain⟨e5,e6,rfl⟩:=IsSlice.val b2
   refine ZA rfl rfl (Zd U22 S26 rfl rfl f5) (ZA rfl rfl (ZY S26 rfl (f7 0 _ rfl)) (Run.ll_s [] 7 ZB rfl (ZA rfl rfl (ZM U26 rfl (IsSlice.long b2)) (Run.lcz_s [] 3 ZB rfl (ZG hx rfl (λf8 hx=> ?_) (λf8 hx=> ?_))))))
   ·
    refine Run.cnz_k [] 8 ZB rfl (ZZ ?_)
    exact Zj [0] rfl hx rfl ⟨⟨0,RowOf.nil _ _ _ _ _⟩,rfl⟩
   ·
    refine Run.cl_s [2,1] 8 ZB rfl (Zv hx E67 rfl data_head_ok rfl ⟨v,x,z,a1,a2,a3,a0,a4,b1,trivial⟩ ?_)
    intro h k9 hx a8 c f9 g0 g1 l1
    refine Run.llz [] 3 ZB rfl (JL.alloc Z101 rfl (λg2 l2=>Run.lcz_s [0] 10 ZB rfl (JC.tidy (l':=[(1,.int .i64 a5),(2,.int .i64 q),(3,.int .i64 s),(4,.pointer (some ⟨a6,0,none⟩)),(8,.slice none 0 0),(9,.int .i64 0),(10,.pointer (some ⟨a7,0,none⟩)),(12,.slice e5 e4.length e6),(14,.int .i64 h.2),(51,.bool (!decide (h.2=0)))]) (own':=[[(g2,.cells #[.int .i64 h.1.Set,.int .i64 h.1.Obj,.int .i64 h.1.Index,.int .u8 (h.1.Kind.toNat:Int),.int .i64 h.1.Links,.int .i64 h.1.Size,.slice f9 g0 g1,.int .i64 h.1.Laid.At,.int .u32 (h.1.Laid.Birth.toNat:Int),.int .u32 (h.1.Laid.Iv.toNat:Int),.int .u32 (h.1.Laid.Tag.toNat:Int),.int .u32 (h.1.Laid.Sum.toNat:Int)] 101 (0,0))],f0,[(a7,.cells #[.int .i64 f.1.Id,.int .u8 (f.1.Kind.toNat:Int),.int .i64 f.1.Owner,.int .i64 f.1.Prev,.int .u32 (f.1.Txg.toNat:Int),.int .u32 (f.1.Guid.toNat:Int),.int .i64 f.1.Key,.int .i64 f.1.Root.At,.int .u32 (f.1.Root.Birth.toNat:Int),.int .u32 (f.1.Root.Iv.toNat:Int),.int .u32 (f.1.Root.Tag.toNat:Int),.int .u32 (f.1.Root.Sum.toNat:Int),.slice e0 e1 e2] 99 (0,0))],[(a6,.cells #[.slice b6 b7 b8,.slice b9 c0 c1,.slice c2 c3 c4,.int .u32 (d.Store.Epoch.toNat:Int),.int .u32 (d.Store.Count.toNat:Int),.int .u32 (d.Gen.toNat:Int),.int .i64 d.Root.At,.int .u32 (d.Root.Birth.toNat:Int),.int .u32 (d.Root.Iv.toNat:Int),.int .u32 (d.Root.Tag.toNat:Int),.int .u32 (d.Root.Sum.toNat:Int),.slice c5 c6 c7,.slice c8 c9 d0,.slice d1 d2 d3,.slice d4 d5 d6,.slice d7 d8 d9,.int .i64 d.Logged,.int .i64 d.NextId,.int .u32 (d.NextGuid.toNat:Int)] 55 (0,0))]]) ⟨rfl,rfl,rfl,rfl,rfl,rfl,rfl,rfl,rfl,rfl,trivial⟩ rfl (JC.tidyP (l':=[(1,.int .i64 a5),(2,.int .i64 q),(3,.int .i64 s),(4,.pointer (some ⟨a6,0,none⟩)),(8,.slice none 0 0),(9,.int .i64 0),(10,.pointer (some ⟨a7,0,none⟩)),(12,.slice e5 e4.length e6),(14,.int .i64 h.2),(51,.bool (!decide (h.2=0)))]) (own':=[[(a7,.cells #[.int .i64 f.1.Id,.int .u8 (f.1.Kind.toNat:Int),.int .i64 f.1.Owner,.int .i64 f.1.Prev,.int .u32 (f.1.Txg.toNat:Int),.int .u32 (f.1.Guid.toNat:Int),.int .i64 f.1.Key,.int .i64 f.1.Root.At,.int .u32 (f.1.Root.Birth.toNat:Int),.int .u32 (f.1.Root.Iv.toNat:Int),.int .u32 (f.1.Root.Tag.toNat:Int),.int .u32 (f.1.Root.Sum.toNat:Int),.slice e0 e1 e2] 99 (0,0))],[(a6,.cells #[.slice b6 b7 b8,.slice b9 c0 c1,.slice c2 c3 c4,.int .u32 (d.Store.Epoch.toNat:Int),.int .u32 (d.Store.Count.toNat:Int),.int .u32 (d.Gen.toNat:Int),.int .i64 d.Root.At,.int .u32 (d.Root.Birth.toNat:Int),.int .u32 (d.Root.Iv.toNat:Int),.int .u32 (d.Root.Tag.toNat:Int),.int .u32 (d.Root.Sum.toNat:Int),.slice c5 c6 c7,.slice c8 c9 d0,.slice d1 d2 d3,.slice d4 d5 d6,.slice d7 d8 d9,.int .i64 d.Logged,.int .i64 d.NextId,.int .u32 (d.NextGuid.toNat:Int)] 55 (0,0))]]) (rst:=[_,_]) ⟨rfl,rfl,rfl,rfl,rfl,rfl,rfl,rfl,rfl,rfl,trivial⟩ (Ze 2 rfl (Ze 2 rfl ZT)) (ZG hx rfl (λg3 hx=> ?_) (λg3 hx=> ?_))))))
    ·
     refine Run.cnz_k [] 9 ZB rfl (ZZ ?_)
     exact Zj [0] rfl hx rfl ⟨⟨0,RowOf.nil _ _ _ _ _⟩,rfl⟩
    ·
     refine Run.cl_s [1] 9 ZB rfl (ZI hx E68 rfl data_change_ok rfl ⟨(v.mono (RSl.mono RU8.mono) c),(x.mono R_Write.mono c),(z.mono RU8.mono c),(a1.mono RInt.mono c),(a2.mono R_Line.mono c),(a3.mono (RSl.mono RU8.mono) c),(a0.mono (RSl.mono RU8.mono) c),(a4.mono R_Change.mono c),trivial⟩ ?_)
     intro k l3 hx l4 l5 l6 e7
     refine Run.llz [] 3 ZB rfl (JL.alloc Z101 rfl (λl7 l8=>Run.ll_s [0,0] 8 ZB rfl (JL.alloc Z31 rfl (λg4 l9=>Run.lc_s [0] 4 ZB rfl (ZO hx [4,12,17] [3] rfl rfl (λb3 l0 o0 l o g=>∃m:Ptr,∃a9:Heaplet,l=l0∧o= [(g4,.cells #[.int .i64 m.At,.int .u32 (m.Birth.toNat:Int),.int .u32 (m.Iv.toNat:Int),.int .u32 (m.Tag.toNat:Int),.int .u32 (m.Sum.toNat:Int)] 31 (0,0))]::o0∧a9=g∧b3=.inl m∧Hle a8 a9) (λb3 m0 hx=> ?_) (λb3 b4 hx=> ?_))))))
     ·
      rintro _ _ _ ⟨m,a9,rfl,rfl,rfl,rfl,b0⟩
      simp only[Sum.elim_inl]at hx
      refine Run.nl_s [0] 6 ZB rfl (ZA rfl rfl (R.eqlAgg QU31 QP31 QG31 QF31 rfl rfl (EqF.i (by decide) S3 U3 rfl rfl (EqF.u32 (a:=m.Birth) (b:=(0:UInt32)) (by decide) S27 U27 rfl rfl (EqF.u32 (a:=m.Iv) (b:=(0:UInt32)) (by decide) S27 U27 rfl rfl (EqF.u32 (a:=m.Tag) (b:=(0:UInt32)) (by decide) S27 U27 rfl rfl (EqF.u32 (a:=m.Sum) (b:=(0:UInt32)) (by decide) S27 U27 rfl rfl EqF.nil)))))) ?_)
      refine Run.lcz_s [] 2 ZB rfl (ZG hx rfl (λg5 hx=> ?_) (λg5 hx=> ?_))
      ·
       refine Run.cl [] 2 ZB rfl ?_
       obtain⟨m1,g6,g7,hx⟩:=mks_some hx
       refine JL.mkF (HF:=New H a9) (R:=RU8) (y:=(0:UInt8)) (n:=256) U26 I5 rfl rfl (λ_=>rfl) RU8.one g6 g7 rfl rfl (λm2 m3 e8=> ?_)
       obtain⟨m4,m5,rfl⟩:=RowOf.val e8
       refine Run.lnz_sk [] 6 ZB rfl ?_
       exact Zj [0] rfl hx rfl ⟨⟨_,e8⟩,rfl⟩
      ·
       refine Run.cl_s [1,0] 8 ZB rfl (Zv hx E11 rfl store_Open_ok rfl ⟨(v.mono (RSl.mono RU8.mono) (c.trans b0)),(x.mono R_Write.mono (c.trans b0)),(z.mono RU8.mono (c.trans b0)),(b2.mono RU8.mono (c.trans b0)),trivial⟩ ?_)
       intro m6 m7 hx m8 m9 n0 n1 n2 n3 g8
       refine Run.lnz_s [] 7 ZB rfl ?_
       exact Zj [0] rfl hx rfl ⟨⟨_,g8⟩,rfl⟩
     ·
      refine Run.cl [] 5 ZB rfl (ZQ 66 hx rfl (λg9 hx=> ?_) (λg9 hx=> ?_))
      ·
       refine Run.llz [1] 5 ZB rfl (ZA rfl rfl (ZM U26 rfl (IsSlice.long e7)) (Run.lcz_s [] 6 ZB rfl (ZG hx rfl (λh0 hx=> ?_) (λh0 hx=> ?_))))
       ·
        refine Run.cl [1] 4 ZB rfl ?_
        obtain⟨n4,h1,hx⟩:=ZU hx
        refine Zg (vs:=[_]) (args:=[_]) (K:=[]) (rst:=[_,_,_,_]) E59 rfl rfl rfl ZT (bytes_Clone_ok k.1.Data _ e7 _ h1) rfl (λn5 n6 n7 h2 n8 h3=> ?_)
        obtain⟨n9,o1,o2,o3,rfl,rfl,rfl,b5,h4,-⟩:=h2
        replace b5:=(RowOf.base (RowOf.const (H2:=New H a8) RU8.const b5) (λp hp=>(h3 p (mem_seg 0 rfl hp)).resolve_left (h4 p hp)))
        refine Run.lnz_s [] 5 ZB rfl (JN.blkR ?_)
        obtain rfl:=Option.some.inj hx
        clear hx;have hx:=b4
        simp only[Sum.elim_inl,Sum.elim_inr]at hx
        refine Run.nnz_kk [] 2 ZB rfl ?_
        exact Zj [0] rfl hx rfl ⟨⟨_,b5⟩,rfl⟩
       ·
        refine Run.ccz [] 7 ZB rfl (ZG hx rfl (λh5 hx=> ?_) (λh5 hx=> ?_))
        ·
         refine Run.cl [3,2] 5 ZB rfl (Zv hx E69 rfl data_rooted_ok rfl ⟨(v.mono (RSl.mono RU8.mono) c),(x.mono R_Write.mono c),(z.mono RU8.mono c),(a1.mono RInt.mono c),(a2.mono R_Line.mono c),(a3.mono (RSl.mono RU8.mono) c),(a0.mono (RSl.mono RU8.mono) c),(a4.mono R_Change.mono c),(b1.mono R_Ptr.mono c),trivial⟩ ?_)
         intro o4 o5 hx h6 h7 o6 o7 o8 h8
         refine Run.llz [] 3 ZB rfl (JL.alloc Z113 rfl (λo9 p0=>Run.lc_s [0] 11 ZB rfl (ZG hx rfl (λh9 hx=> ?_) (λh9 hx=> ?_))))
         ·
          refine Run.cnz_kb [] 10 ZB rfl ?_
          obtain rfl:=Option.some.inj hx
          clear hx;have hx:=b4
          simp only[Sum.elim_inl,Sum.elim_inr]at hx
          refine Run.nnz_kk [] 2 ZB rfl (ZZ ?_)
          exact Zj [0] rfl hx rfl ⟨⟨0,RowOf.nil _ _ _ _ _⟩,rfl⟩
         ·
          refine Run.clz_s [0] 6 ZB rfl ?_
          obtain⟨i0,i1,hx⟩:=ZJ hx
          obtain⟨p1,p2,p3,i2,i3,p4,i4⟩:=IsSlice.elem h8 i1
          obtain rfl:=i3
          refine ZA rfl rfl (Zd U97 S31 rfl rfl i2) (ZA rfl rfl (Zz 0 S31 rfl (λj u e=>New.le _ _ _ _ _ (i4 j u e)) rfl rfl) (Run.lnz_b [1] 3 ZB rfl ?_))
          obtain rfl:=Option.some.inj hx
          refine JN.forget 3 (JN.forget 2 (JN.forget 0 (ZE 1 rfl (ZE 1 rfl ?_))))
          exact ZC ⟨i0,h6,rfl,rfl,rfl,rfl,(h7)⟩ rfl rfl rfl
        ·
         refine Run.cnz_b [] 2 ZB rfl ?_
         obtain rfl:=Option.some.inj hx
         refine JN.forget 2 (JN.forget 1 (ZE 1 rfl (ZE 1 rfl ?_)))
         exact ZC ⟨Ptr.mk k.1.Laid.At k.1.Laid.Birth k.1.Laid.Iv k.1.Laid.Tag k.1.Laid.Sum,a8,rfl,rfl,rfl,rfl,(Hle.refl _)⟩ rfl rfl rfl
      ·
       refine Run.lcz_s [] 16 ZB rfl (ZG hx rfl (λi5 hx=> ?_) (λi5 hx=> ?_))
       ·
        refine Run.cl [3,2] 5 ZB rfl (Zv hx E69 rfl data_rooted_ok rfl ⟨(v.mono (RSl.mono RU8.mono) c),(x.mono R_Write.mono c),(z.mono RU8.mono c),(a1.mono RInt.mono c),(a2.mono R_Line.mono c),(a3.mono (RSl.mono RU8.mono) c),(a0.mono (RSl.mono RU8.mono) c),(a4.mono R_Change.mono c),(b1.mono R_Ptr.mono c),trivial⟩ ?_)
        intro p5 p6 hx i6 i7 p7 p8 p9 i8
        refine Run.llz [] 3 ZB rfl (JL.alloc Z113 rfl (λq0 q1=>Run.lc_s [0] 11 ZB rfl (ZG hx rfl (λi9 hx=> ?_) (λi9 hx=> ?_))))
        ·
         refine Run.cnz_kb [] 10 ZB rfl ?_
         obtain rfl:=Option.some.inj hx
         clear hx;have hx:=b4
         simp only[Sum.elim_inl,Sum.elim_inr]at hx
         refine Run.nnz_kk [] 2 ZB rfl (ZZ ?_)
         exact Zj [0] rfl hx rfl ⟨⟨0,RowOf.nil _ _ _ _ _⟩,rfl⟩
        ·
         refine Run.clz_s [0] 6 ZB rfl ?_
         obtain⟨j0,j1,hx⟩:=ZJ hx
         obtain⟨q2,q3,q4,j2,j3,q5,j4⟩:=IsSlice.elem i8 j1
         obtain rfl:=j3
         refine ZA rfl rfl (Zd U97 S31 rfl rfl j2) (ZA rfl rfl (Zz 0 S31 rfl (λj u e=>New.le _ _ _ _ _ (j4 j u e)) rfl rfl) (Run.lnz_b [1] 3 ZB rfl ?_))
         obtain rfl:=Option.some.inj hx
         refine JN.forget 3 (JN.forget 2 (JN.forget 0 (ZE 1 rfl (ZE 1 rfl ?_))))
         exact ZC ⟨j0,i6,rfl,rfl,rfl,rfl,(i7)⟩ rfl rfl rfl
       ·
        refine Run.cnz_b [] 2 ZB rfl ?_
        obtain rfl:=Option.some.inj hx
        refine JN.forget 2 (JN.forget 1 (ZE 1 rfl (ZE 1 rfl ?_)))
        exact ZC ⟨Ptr.mk k.1.Laid.At k.1.Laid.Birth k.1.Laid.Iv k.1.Laid.Tag k.1.Laid.Sum,a8,rfl,rfl,rfl,rfl,(Hle.refl _)⟩ rfl rfl rfl
theorem ref09_place_ok{c}:Con Tryz.prog 166 true ([.i c]) (ref09_place c) (λr=> [.b r]):=by
 intro H r hx
 refine Does.enterC Tryz.func166 rfl rfl ?_
 intro w
 unfold ref09_place at hx
 refine Run.cc [] 6 ZB rfl (ZO hx [] [] rfl rfl (λa l0 o0 l o g=>l=(2,.bool a)::l0∧o=o0∧H=g) (λa f hx=> ?_) (λa h hx=> ?_))
 ·
  rintro _ _ _ ⟨rfl,rfl,rfl⟩
  refine Run.nnz_s [] 2 ZB rfl ?_
  exact ZD [] rfl hx rfl rfl
 ·
  refine Run.clz [] 4 ZB rfl (ZQ 5 hx rfl (λd hx=> ?_) (λd hx=> ?_))
  ·
   refine Run.lnz [] 7 ZB rfl ?_
   obtain rfl:=Option.some.inj hx
   exact ZC ⟨rfl,rfl,rfl⟩ rfl rfl rfl
  ·
   refine Run.lnz [] 5 ZB rfl ?_
   obtain rfl:=Option.some.inj hx
   exact ZC ⟨rfl,rfl,rfl⟩ rfl rfl rfl
theorem ref09_May_ok{s}:Con Tryz.prog 104 true (sp_Disk false s) (ref09_May s) (λr=> [.b r]):=by
 intro H b8 b9 c0 f c1 c2 c3 c r hx
 refine Does.enterC Tryz.func104 rfl rfl ?_
 intro w
 unfold ref09_May at hx
 refine Run.cl [] 2 ZB rfl (ZV rfl rfl (λc4 c5=>Run.lc_s [] 14 ZB rfl (ZO hx [1] [0] rfl rfl (λk l0 o0 l o g=>l=(3,.int .i64 k)::l0∧o=o0∧H=g) (λk c6 hx=> ?_) (λk c7 hx=> ?_))))
 ·
  rintro _ _ _ ⟨rfl,rfl,rfl⟩
  refine Run.nc_s [] 7 ZB rfl (ZO hx [1] [0] rfl rfl (λm l0 o0 l o g=>l=(3,.int .i64 m)::l0∧o=o0∧H=g) (λm c8 hx=> ?_) (λm c9 hx=> ?_))
  ·
   rintro _ _ _ ⟨rfl,rfl,rfl⟩
   refine Run.nc_s [] 2 ZB rfl (ZO hx [] [] rfl rfl (λp l0 o0 l o g=>l=(2,.bool p)::l0∧o=o0∧H=g) (λp d0 hx=> ?_) (λp d1 hx=> ?_))
   ·
    rintro _ _ _ ⟨rfl,rfl,rfl⟩
    refine Run.nnz_s [] 2 ZB rfl ?_
    exact ZD [] rfl hx rfl rfl
   ·
    refine Run.clz [] 4 ZB rfl (ZQ 59 hx rfl (λy hx=> ?_) (λy hx=> ?_))
    ·
     refine Run.llz [0] 5 ZB rfl (ZA rfl rfl (ZM U22 rfl (IsSlice.long f)) (Run.llz [] 4 ZB rfl (ZQ 65 hx rfl (λz hx=> ?_) (λz hx=> ?_))))
     ·
      refine Run.llz [0] 5 ZB rfl (ZA rfl rfl (ZM U23 rfl (IsSlice.long c)) (Run.lnz [] 5 ZB rfl ?_))
      obtain rfl:=Option.some.inj hx
      refine JN.forget 0 ?_
      exact ZC ⟨rfl,rfl,rfl⟩ rfl rfl rfl
     ·
      refine Run.lnz [] 7 ZB rfl ?_
      obtain rfl:=Option.some.inj hx
      refine JN.forget 0 ?_
      exact ZC ⟨rfl,rfl,rfl⟩ rfl rfl rfl
    ·
     refine Run.lnz [] 13 ZB rfl ?_
     obtain rfl:=Option.some.inj hx
     refine JN.forget 0 ?_
     exact ZC ⟨rfl,rfl,rfl⟩ rfl rfl rfl
  ·
   refine JC.block (ZS [1] [0] rfl rfl (λl0 o0 a l o g=>l=(3,.int .i64 a.1)::(5,.int .i64 ((a.2:Nat):Int))::l0∧o=o0∧H=g) hx ⟨rfl,rfl,rfl⟩ rfl ?_)
   ·
    rintro d2 a _ _ _ ⟨rfl,rfl,rfl⟩ d3 hx h
    unfold ref09_May_l2 at hx
    refine Run.cl [0] 6 ZB rfl (ZA rfl rfl (ZM U23 rfl (IsSlice.long c)) (Run.llz [] 2 ZB rfl (ZQ 31 hx rfl (λi hx=> ?_) (λi hx=> ?_))))
    ·
     refine Run.lcz_s [] 7 ZB rfl (ZG hx rfl (λa0 hx=> ?_) (λa0 hx=> ?_))
     ·
      refine Run.cl_s [0] 9 ZB rfl ?_
      obtain⟨d4,a1,hx⟩:=ZJ hx
      obtain⟨d5,d6,d7,a2,a3,d8,a4⟩:=IsSlice.elem c a1
      obtain⟨d9,rfl,v⟩:=a3
      obtain⟨e0,e1,rfl⟩:=IsSlice.val v
      refine ZA rfl rfl (Zd U23 S96 rfl rfl a2) (ZA rfl rfl (R.fa F96_1 rfl) (ZA rfl rfl (ZY S26 rfl (a4 1 _ rfl)) (ZA rfl rfl (ZM U26 rfl (IsSlice.long v)) (Run.llz [] 2 ZB rfl (ZQ 45 hx rfl (λa5 hx=> ?_) (λa5 hx=> ?_))))))
      ·
       refine Run.llz_sbs [] 21 ZB rfl (ZA rfl rfl (Zi rfl rfl (of_decide_eq_true i) (IsSlice.lenI c)) (Run.lnz [] 2 ZB rfl ?_))
       replace hx:=ZP h hx
       exact ZC ⟨(w64 (a.1+1),a.2+1),⟨rfl,rfl,rfl⟩,hx⟩ rfl rfl rfl
      ·
       refine Run.llz [0] 7 ZB rfl ?_
       obtain⟨e2,a6,hx⟩:=ZJ hx
       obtain⟨e3,e4,e5,a7,a8,e6,a9⟩:=IsSlice.elem c a6
       obtain⟨e7,rfl,b0⟩:=a8
       obtain⟨e8,e9,rfl⟩:=IsSlice.val b0
       refine ZA rfl rfl (Zd U23 S96 rfl rfl a7) (Run.llz [] 3 ZB rfl (ZA rfl rfl (ZY S3 rfl (a9 0 _ rfl)) (Zq rfl rfl rfl (ZI hx E166 rfl ref09_place_ok rfl trivial ?_))))
       intro f0 f1 hx
       refine Run.lcz_s [] 5 ZB rfl (ZG hx rfl (λb1 hx=> ?_) (λb1 hx=> ?_))
       ·
        refine Run.clz_bs [] 9 ZB rfl (ZA rfl rfl (Zi rfl rfl (of_decide_eq_true i) (IsSlice.lenI c)) (Run.lnz [] 2 ZB rfl ?_))
        replace hx:=ZP h hx
        exact ZC ⟨(w64 (a.1+1),a.2+1),⟨rfl,rfl,rfl⟩,hx⟩ rfl rfl rfl
       ·
        refine Run.clz_bs [] 5 ZB rfl (ZA rfl rfl (Zi rfl rfl (of_decide_eq_true i) (IsSlice.lenI c)) (Run.lnz [] 2 ZB rfl ?_))
        replace hx:=ZP h hx
        exact ZC ⟨(a.1,a.2+1),⟨rfl,rfl,rfl⟩,hx⟩ rfl rfl rfl
     ·
      refine Run.cnz_k [] 2 ZB rfl ?_
      obtain rfl:=ZH h hx
      refine Run.nnz_kb [] 2 ZB rfl ?_
      exact ZC ⟨rfl,rfl,rfl⟩ rfl rfl rfl
    ·
     refine Run.lnz_sk [] 8 ZB rfl ?_
     obtain rfl:=ZH h hx
     refine Run.nnz_kb [] 2 ZB rfl ?_
     exact ZC ⟨rfl,rfl,rfl⟩ rfl rfl rfl
 ·
  refine JC.block (ZS [1] [0] rfl rfl (λl0 o0 d l o g=>l=(3,.int .i64 d.1)::(4,.int .i64 ((d.2:Nat):Int))::l0∧o=o0∧H=g) hx ⟨rfl,rfl,rfl⟩ rfl ?_)
  ·
   rintro f2 d _ _ _ ⟨rfl,rfl,rfl⟩ f3 hx j
   unfold ref09_May_l1 at hx
   refine Run.cl [0] 6 ZB rfl (ZA rfl rfl (ZM U22 rfl (IsSlice.long f)) (Run.llz [] 2 ZB rfl (ZQ 11 hx rfl (λq hx=> ?_) (λq hx=> ?_))))
   ·
    refine Run.lcz_s [] 7 ZB rfl (ZG hx rfl (λb2 hx=> ?_) (λb2 hx=> ?_))
    ·
     refine Run.cl_s [0] 9 ZB rfl ?_
     obtain⟨f4,b3,hx⟩:=ZJ hx
     obtain⟨f5,f6,f7,b4,b5,f8,b6⟩:=IsSlice.elem f b3
     obtain⟨f9,rfl,x⟩:=b5
     obtain⟨g0,g1,rfl⟩:=IsSlice.val x
     refine ZA rfl rfl (Zd U22 S26 rfl rfl b4) (ZA rfl rfl (ZY S26 rfl (b6 0 _ rfl)) (ZA rfl rfl (ZM U26 rfl (IsSlice.long x)) (Run.lcz_s [] 3 ZB rfl (ZG hx rfl (λb7 hx=> ?_) (λb7 hx=> ?_)))))
     ·
      refine Run.clz_bs [] 9 ZB rfl (ZA rfl rfl (Zi rfl rfl (of_decide_eq_true q) (IsSlice.lenI f)) (Run.lnz [] 2 ZB rfl ?_))
      replace hx:=ZP j hx
      exact ZC ⟨(w64 (d.1+1),d.2+1),⟨rfl,rfl,rfl⟩,hx⟩ rfl rfl rfl
     ·
      refine Run.clz_bs [] 5 ZB rfl (ZA rfl rfl (Zi rfl rfl (of_decide_eq_true q) (IsSlice.lenI f)) (Run.lnz [] 2 ZB rfl ?_))
      replace hx:=ZP j hx
      exact ZC ⟨(d.1,d.2+1),⟨rfl,rfl,rfl⟩,hx⟩ rfl rfl rfl
    ·
     refine Run.cnz_k [] 2 ZB rfl ?_
     obtain rfl:=ZH j hx
     refine Run.nnz_kb [] 2 ZB rfl ?_
     exact ZC ⟨rfl,rfl,rfl⟩ rfl rfl rfl
   ·
    refine Run.lnz_sk [] 8 ZB rfl ?_
    obtain rfl:=ZH j hx
    refine Run.nnz_kb [] 2 ZB rfl ?_
    exact ZC ⟨rfl,rfl,rfl⟩ rfl rfl rfl
theorem ref12_May_ok{j}:Con Tryz.prog 105 true ([.sl false RU8 1 j]) (ref12_May j) (λr=> [.b r]):=by
 intro H a7 a8 a9 f r hx
 refine Does.enterC Tryz.func105 rfl rfl ?_
 intro w
 unfold ref12_May at hx
 refine Run.cl [] 9 ZB rfl (ZA rfl rfl (ZM U26 rfl (IsSlice.long f)) (Run.lcz_s [] 3 ZB rfl (ZG hx rfl (λp hx=> ?_) (λp hx=> ?_))))
 ·
  refine Run.cnz_k [] 7 ZB rfl ?_
  exact ZD [] rfl hx rfl rfl
 ·
  refine Run.cc_s [] 8 ZB rfl (ZO hx [] [] rfl rfl (λh l0 o0 l o g=>∃k:Unit,l=l0∧o=o0∧H=g∧h=.inl k) (λh b0 hx=> ?_) (λh m hx=> ?_))
  ·
   rintro _ _ _ ⟨k,rfl,rfl,rfl,rfl⟩
   simp only[Sum.elim_inl]at hx
   refine Run.nnz_s [] 7 ZB rfl ?_
   exact ZD [] rfl hx rfl rfl
  ·
   refine JC.block (ZS [0] [] rfl rfl (λl0 o0 d l o g=>l=(3,.int .i64 ((d:Nat):Int))::l0∧o=o0∧H=g) hx ⟨rfl,rfl,rfl⟩ rfl ?_)
   ·
    rintro b1 d _ _ _ ⟨rfl,rfl,rfl⟩ b2 hx c
    unfold ref12_May_l1 at hx
    refine Run.cc [] 7 ZB rfl (ZG hx rfl (λi hx=> ?_) (λi hx=> ?_))
    ·
     refine Run.cl_s [] 8 ZB rfl ?_
     obtain⟨q,s,hx⟩:=ZJ hx
     obtain⟨b3,b4,b5,v,x,b6,y⟩:=IsSlice.elem f s
     obtain rfl:=x
     refine ZA rfl rfl (Zd U26 S5 rfl rfl v) (ZA rfl rfl (ZY S5 rfl (y 0 _ rfl)) (ZA rfl rfl (R.gtr8 (a:=q) (b:=(2:UInt8)) rfl rfl) (ZA rfl rfl (ZW rfl) (ZQ 16 hx rfl (λz hx=> ?_) (λz hx=> ?_)))))
     ·
      refine Run.lnz_sbk [] 21 ZB rfl ?_
      obtain rfl:=ZH c hx
      refine Run.nnz_kb [] 2 ZB rfl ?_
      clear hx;have hx:=m
      simp only[Sum.elim_inl,Sum.elim_inr]at hx
      refine Run.nnz_kk [] 2 ZB rfl ?_
      exact ZD [] rfl hx rfl rfl
     ·
      refine Run.llz [] 6 ZB rfl (ZQ 19 hx rfl (λa0 hx=> ?_) (λa0 hx=> ?_))
      ·
       refine Run.llz [] 5 ZB rfl ?_
       obtain⟨a1,a2,hx⟩:=ZJ hx
       obtain⟨b7,b8,b9,a3,a4,c0,a5⟩:=IsSlice.elem f a2
       obtain rfl:=a4
       refine ZA rfl rfl (Zd U26 S5 rfl rfl a3) (Zq rfl rfl rfl (ZA rfl rfl (ZY S5 rfl (a5 0 _ rfl)) (Zq rfl rfl rfl (ZA rfl rfl (R.neq8 (a:=a1) (b:=(1:UInt8)) rfl rfl) (Run.lcz_s [] 5 ZB rfl (ZG hx rfl (λa6 hx=> ?_) (λa6 hx=> ?_)))))))
       ·
        refine Run.cnz_bk [] 8 ZB rfl ?_
        obtain rfl:=ZH c hx
        refine Run.nnz_kb [] 2 ZB rfl ?_
        clear hx;have hx:=m
        simp only[Sum.elim_inl,Sum.elim_inr]at hx
        refine Run.nnz_kk [] 2 ZB rfl ?_
        exact ZD [] rfl hx rfl rfl
       ·
        refine Run.clz_bs [] 5 ZB rfl (ZA rfl rfl (Zi rfl rfl (of_decide_eq_true i) (by decide)) ?_)
        refine Run.lnz [] 2 ZB rfl ?_
        replace hx:=ZP c hx
        exact ZC ⟨d+1,⟨rfl,rfl,rfl⟩,hx⟩ rfl rfl rfl
      ·
       refine Run.llz_sbs [] 16 ZB rfl (ZA rfl rfl (Zi rfl rfl (of_decide_eq_true i) (by decide)) ?_)
       refine Run.lnz [] 2 ZB rfl ?_
       replace hx:=ZP c hx
       exact ZC ⟨d+1,⟨rfl,rfl,rfl⟩,hx⟩ rfl rfl rfl
    ·
     refine Run.cnz_k [] 2 ZB rfl ?_
     obtain rfl:=ZH c hx
     refine Run.nnz_kb [] 2 ZB rfl ?_
     exact ZC ⟨(),rfl,rfl,rfl,rfl⟩ rfl rfl rfl
theorem ref13_May_ok{c}:Con Tryz.prog 45 true (sp_Store false c) (ref13_May c) (λr=> [.b r]):=by
 intro H q s v f x y z h a0 a1 a2 i r hx
 refine Does.enterC Tryz.func45 rfl rfl ?_
 intro w
 unfold ref13_May at hx
 refine Run.cl [] 2 ZB rfl (ZV rfl rfl (λa3 a4=>Run.lc_s [] 4 ZB rfl (ZO hx [] [] rfl rfl (λd l0 o0 l o g=>l=(2,.bool d)::l0∧o=o0∧H=g) (λd a5 hx=> ?_) (λd a6 hx=> ?_))))
 ·
  rintro _ _ _ ⟨rfl,rfl,rfl⟩
  refine Run.nnz_s [] 2 ZB rfl ?_
  exact ZD [] rfl hx rfl rfl
 ·
  refine Run.clz [0] 3 ZB rfl (ZI hx E104 rfl ref09_May_ok rfl ⟨f,h,trivial⟩ ?_)
  intro a7 a8 hx
  refine ZA rfl rfl (ZW rfl) (ZQ 6 hx rfl (λj hx=> ?_) (λj hx=> ?_))
  ·
   refine Run.llz [0] 5 ZB rfl (ZI hx E105 rfl ref12_May_ok rfl ⟨i,trivial⟩ ?_)
   intro a9 b0 hx
   refine Run.llz [] 2 ZB rfl (ZQ 11 hx rfl (λk hx=> ?_) (λk hx=> ?_))
   ·
    refine Run.llz [0] 5 ZB rfl (ZA rfl rfl (R.geq32 (a:=c.Epoch) (b:=(1:UInt32)) rfl rfl) (Run.llz [] 2 ZB rfl (ZQ 16 hx rfl (λm hx=> ?_) (λm hx=> ?_))))
    ·
     refine Run.llz [0] 5 ZB rfl (ZA rfl rfl (R.leq32 (a:=c.Epoch) (b:=(65535:UInt32)) rfl rfl) (Run.llz [] 2 ZB rfl (ZQ 21 hx rfl (λp hx=> ?_) (λp hx=> ?_))))
     ·
      refine Run.llz [0] 5 ZB rfl (ZA rfl rfl (R.leq32 (a:=c.Count) (b:=(65535:UInt32)) rfl rfl) (Run.lnz [] 3 ZB rfl ?_))
      obtain rfl:=Option.some.inj hx
      refine JN.forget 0 ?_
      exact ZC ⟨rfl,rfl,rfl⟩ rfl rfl rfl
     ·
      refine Run.lnz [] 6 ZB rfl ?_
      obtain rfl:=Option.some.inj hx
      refine JN.forget 0 ?_
      exact ZC ⟨rfl,rfl,rfl⟩ rfl rfl rfl
    ·
     refine Run.lnz [] 11 ZB rfl ?_
     obtain rfl:=Option.some.inj hx
     refine JN.forget 0 ?_
     exact ZC ⟨rfl,rfl,rfl⟩ rfl rfl rfl
   ·
    refine Run.lnz [] 16 ZB rfl ?_
    obtain rfl:=Option.some.inj hx
    refine JN.forget 0 ?_
    exact ZC ⟨rfl,rfl,rfl⟩ rfl rfl rfl
  ·
   refine Run.lnz [] 21 ZB rfl ?_
   obtain rfl:=Option.some.inj hx
   refine JN.forget 0 ?_
   exact ZC ⟨rfl,rfl,rfl⟩ rfl rfl rfl
theorem ref10_None_ok{c}:Con Tryz.prog 52 true (sp_Ptr false c) (ref10_None c) (λr=> [.b r]):=by
 intro H r hx
 refine Does.enterC Tryz.func52 rfl rfl ?_
 intro w
 unfold ref10_None at hx
 refine Run.cl [] 2 ZB rfl (ZV rfl rfl (λd f=>Run.ll_s [0] 7 ZB rfl (ZA rfl rfl (R.eqlAgg QU31 QP31 QG31 QF31 rfl rfl (EqF.i (by decide) S3 U3 rfl rfl (EqF.u32 (a:=c.Birth) (b:=(0:UInt32)) (by decide) S27 U27 rfl rfl (EqF.u32 (a:=c.Iv) (b:=(0:UInt32)) (by decide) S27 U27 rfl rfl (EqF.u32 (a:=c.Tag) (b:=(0:UInt32)) (by decide) S27 U27 rfl rfl (EqF.u32 (a:=c.Sum) (b:=(0:UInt32)) (by decide) S27 U27 rfl rfl EqF.nil)))))) ?_)))
 refine Run.lnz_s [] 4 ZB rfl ?_
 exact ZD [] rfl hx rfl rfl
theorem ref10_May_ok{c}:Con Tryz.prog 46 true (sp_Ptr false c) (ref10_May c) (λr=> [.b r]):=by
 intro H r hx
 refine Does.enterC Tryz.func46 rfl rfl ?_
 intro w
 unfold ref10_May at hx
 refine Run.cl [] 2 ZB rfl (ZV rfl rfl (λk m=>Run.lc_s [] 4 ZB rfl (ZO hx [] [] rfl rfl (λd l0 o0 l o g=>l=(2,.bool d)::l0∧o=o0∧H=g) (λd p hx=> ?_) (λd q hx=> ?_))))
 ·
  rintro _ _ _ ⟨rfl,rfl,rfl⟩
  refine Run.nnz_s [] 2 ZB rfl ?_
  exact ZD [] rfl hx rfl rfl
 ·
  refine Run.clz [0] 2 ZB rfl (ZI hx E52 rfl ref10_None_ok rfl trivial ?_)
  intro s v hx
  refine ZA rfl rfl (ZW rfl) (ZQ 5 hx rfl (λf hx=> ?_) (λf hx=> ?_))
  ·
   refine Run.lnz [] 21 ZB rfl ?_
   obtain rfl:=Option.some.inj hx
   refine JN.forget 0 ?_
   exact ZC ⟨rfl,rfl,rfl⟩ rfl rfl rfl
  ·
   refine Run.llz [0] 8 ZB rfl (ZQ 9 hx rfl (λh hx=> ?_) (λh hx=> ?_))
   ·
    refine Run.llz [0] 10 ZB rfl (ZQ 14 hx rfl (λi hx=> ?_) (λi hx=> ?_))
    ·
     refine Run.llz [0] 5 ZB rfl (ZA rfl rfl (R.geq32 (a:=c.Birth) (b:=(1:UInt32)) rfl rfl) (Run.llz [] 4 ZB rfl (ZQ 19 hx rfl (λj hx=> ?_) (λj hx=> ?_))))
     ·
      refine Run.llz [0] 5 ZB rfl (ZA rfl rfl (R.leq32 (a:=c.Birth) (b:=(16777215:UInt32)) rfl rfl) (Run.lnz [] 5 ZB rfl ?_))
      obtain rfl:=Option.some.inj hx
      refine JN.forget 0 ?_
      exact ZC ⟨rfl,rfl,rfl⟩ rfl rfl rfl
     ·
      refine Run.lnz [] 8 ZB rfl ?_
      obtain rfl:=Option.some.inj hx
      refine JN.forget 0 ?_
      exact ZC ⟨rfl,rfl,rfl⟩ rfl rfl rfl
    ·
     refine Run.lnz [] 15 ZB rfl ?_
     obtain rfl:=Option.some.inj hx
     refine JN.forget 0 ?_
     exact ZC ⟨rfl,rfl,rfl⟩ rfl rfl rfl
   ·
    refine Run.lnz [] 22 ZB rfl ?_
    obtain rfl:=Option.some.inj hx
    refine JN.forget 0 ?_
    exact ZC ⟨rfl,rfl,rfl⟩ rfl rfl rfl
theorem ref16_one_ok{c}:Con Tryz.prog 252 true (sp_Ptr false c) (ref16_one c) (λr=> [.b r]):=by
 intro H r hx
 refine Does.enterC Tryz.func252 rfl rfl ?_
 intro w
 unfold ref16_one at hx
 refine Run.cl [] 2 ZB rfl (ZV rfl rfl (λf h=>Run.lc_s [] 4 ZB rfl (ZO hx [] [] rfl rfl (λa l0 o0 l o g=>l=(2,.bool a)::l0∧o=o0∧H=g) (λa i hx=> ?_) (λa j hx=> ?_))))
 ·
  rintro _ _ _ ⟨rfl,rfl,rfl⟩
  refine Run.nnz_s [] 2 ZB rfl ?_
  exact ZD [] rfl hx rfl rfl
 ·
  refine Run.clz [0] 2 ZB rfl (ZI hx E46 rfl ref10_May_ok rfl trivial ?_)
  intro k m hx
  refine ZA rfl rfl (ZW rfl) (ZQ 5 hx rfl (λd hx=> ?_) (λd hx=> ?_))
  ·
   refine Run.llz [0] 3 ZB rfl (ZI hx E52 rfl ref10_None_ok rfl trivial ?_)
   intro p q hx
   refine Run.lnz [] 5 ZB rfl ?_
   obtain rfl:=Option.some.inj hx
   refine JN.forget 0 ?_
   exact ZC ⟨rfl,rfl,rfl⟩ rfl rfl rfl
  ·
   refine Run.lnz [] 6 ZB rfl ?_
   obtain rfl:=Option.some.inj hx
   refine JN.forget 0 ?_
   exact ZC ⟨rfl,rfl,rfl⟩ rfl rfl rfl
theorem ref16_May_ok{j}:Con Tryz.prog 210 true ([.sl false R_Ptr 5 j]) (ref16_May j) (λr=> [.b r]):=by
 intro H a9 b0 b1 a r hx
 refine Does.enterC Tryz.func210 rfl rfl ?_
 intro w
 unfold ref16_May at hx
 refine Run.cl [] 9 ZB rfl (ZA rfl rfl (ZM U97 rfl (IsSlice.long a)) (Run.lcz_s [] 3 ZB rfl (ZG hx rfl (λp hx=> ?_) (λp hx=> ?_))))
 ·
  refine Run.cnz_k [] 7 ZB rfl ?_
  exact ZD [] rfl hx rfl rfl
 ·
  refine Run.cc_s [] 8 ZB rfl (ZO hx [] [] rfl rfl (λf l0 o0 l o g=>∃k:Unit,l=l0∧o=o0∧H=g∧f=.inl k) (λf b2 hx=> ?_) (λf m hx=> ?_))
  ·
   rintro _ _ _ ⟨k,rfl,rfl,rfl,rfl⟩
   simp only[Sum.elim_inl]at hx
   refine Run.nnz_s [] 7 ZB rfl ?_
   exact ZD [] rfl hx rfl rfl
  ·
   refine JC.block (ZS [0] [] rfl rfl (λl0 o0 d l o g=>l=(3,.int .i64 ((d:Nat):Int))::l0∧o=o0∧H=g) hx ⟨rfl,rfl,rfl⟩ rfl ?_)
   ·
    rintro b3 d _ _ _ ⟨rfl,rfl,rfl⟩ b4 hx c
    unfold ref16_May_l1 at hx
    refine Run.cl [] 5 ZB rfl (ZA rfl rfl (ZM U97 rfl (IsSlice.long a)) (Run.lcz_s [] 3 ZB rfl (ZG hx rfl (λh hx=> ?_) (λh hx=> ?_))))
    ·
     refine Run.cc_s [] 5 ZB rfl (Zh (so:=[]) 24 rfl Mixed ⟨by kernel_rfl,by kernel_rfl⟩ (ZX [] rfl) ?_)
     refine JB.run 2 [0,1] [] ZB rfl ?_
     obtain⟨b5,q,hx⟩:=ZJ hx
     obtain⟨b6,b7,b8,s,v,b9,x⟩:=IsSlice.elem a q
     obtain rfl:=v
     refine JB.val (i:=2) [] rfl (Zd U97 S31 rfl rfl s) ?_
     refine JB.val (i:=3) [] rfl (Zz 0 S31 rfl x rfl rfl) ?_
     refine JB.one (i:=4) (by kernel_rfl) ?_
     refine JOB.step rfl trivial rfl (λK hK=>ZI hx E252 rfl ref16_one_ok rfl trivial ?_)
     intro c0 c1 hx
     refine JL.nil (hK _ _ _ (Hle.refl _) (ZX [] rfl) ?_)
     refine JB.run 2 [5,6] [] ZB rfl ?_
     refine JB.gX 19 hx rfl (λy hx=> ?_) (λy hx=> ?_)
     ·
      refine JB.run 17 [7,8,9,10,11,12,13,14,15,16,17,18,19,20,21,22,23] [] ZB rfl ?_
      refine JB.doneN (by kernel_rfl) ?_
      refine Run.nnz_sbk [] 10 ZB rfl ?_
      obtain rfl:=ZH c hx
      refine Run.nnz_kb [] 2 ZB rfl ?_
      clear hx;have hx:=m
      simp only[Sum.elim_inl,Sum.elim_inr]at hx
      refine Run.nnz_kk [] 2 ZB rfl ?_
      exact ZD [] rfl hx rfl rfl
     ·
      refine JB.run 3 [7,8,9] [] ZB rfl ?_
      refine JB.gX 22 hx rfl (λz hx=> ?_) (λz hx=> ?_)
      ·
       refine JB.run 2 [10,11] [] ZB rfl ?_
       obtain⟨c2,a0,hx⟩:=ZJ hx
       obtain⟨c3,c4,c5,a1,a2,c6,a3⟩:=IsSlice.elem a a0
       obtain rfl:=a2
       refine JB.val (i:=12) [] rfl (Zd U97 S31 rfl rfl a1) ?_
       refine JB.val (i:=13) [] rfl (R.fa F31_0 rfl) ?_
       refine JB.val (i:=14) [] rfl (ZY S3 rfl (a3 0 _ rfl)) ?_
       refine JB.run 3 [15,16,17] [] ZB rfl ?_
       obtain⟨c7,a4,hx⟩:=ZJ hx
       obtain⟨c8,c9,d0,a5,a6,d1,a7⟩:=IsSlice.elem a a4
       obtain rfl:=a6
       refine JB.val (i:=18) [] rfl (Zd U97 S31 rfl rfl a5) ?_
       refine JB.val (i:=19) [] rfl (R.fa F31_0 rfl) ?_
       refine JB.val (i:=20) [] rfl (ZY S3 rfl (a7 0 _ rfl)) ?_
       refine JB.run 3 [21,22,23] [] ZB rfl ?_
       refine JB.doneN (by kernel_rfl) ?_
       refine Zw (ZG hx rfl (λa8 hx=> ?_) (λa8 hx=> ?_))
       ·
        refine Run.cnz_bk [] 8 ZB rfl ?_
        obtain rfl:=ZH c hx
        refine Run.nnz_kb [] 2 ZB rfl ?_
        clear hx;have hx:=m
        simp only[Sum.elim_inl,Sum.elim_inr]at hx
        refine Run.nnz_kk [] 2 ZB rfl ?_
        exact ZD [] rfl hx rfl rfl
       ·
        refine Run.clz_bs [] 5 ZB rfl (ZA rfl rfl (Zi rfl rfl (of_decide_eq_true h) (IsSlice.lenI a)) (Run.lnz [] 2 ZB rfl ?_))
        replace hx:=ZP c hx
        exact ZC ⟨d+1,⟨rfl,rfl,rfl⟩,hx⟩ rfl rfl rfl
      ·
       refine JB.run 14 [10,11,12,13,14,15,16,17,18,19,20,21,22,23] [] ZB rfl ?_
       refine JB.doneN (by kernel_rfl) ?_
       refine Run.nlz_sbs [] 7 ZB rfl (ZA rfl rfl (Zi rfl rfl (of_decide_eq_true h) (IsSlice.lenI a)) (Run.lnz [] 2 ZB rfl ?_))
       replace hx:=ZP c hx
       exact ZC ⟨d+1,⟨rfl,rfl,rfl⟩,hx⟩ rfl rfl rfl
    ·
     refine Run.cnz_k [] 2 ZB rfl ?_
     obtain rfl:=ZH c hx
     refine Run.nnz_kb [] 2 ZB rfl ?_
     exact ZC ⟨(),rfl,rfl,rfl,rfl⟩ rfl rfl rfl
theorem ref17_Line_ok{f h}:Con Tryz.prog 127 true ([.sl false R_Line 13 f,.i h]) (ref17_Line f h) (λr=> [.i r]):=by
 intro H z a0 a1 a r hx
 refine Does.enterC Tryz.func127 rfl rfl ?_
 intro w
 unfold ref17_Line at hx
 refine Run.cc [] 11 ZB rfl (ZO hx [] [] rfl rfl (λb l0 o0 l o g=>∃j:Unit,l=l0∧o=o0∧H=g∧b=.inl j) (λb a2 hx=> ?_) (λb m hx=> ?_))
 ·
  rintro _ _ _ ⟨j,rfl,rfl,rfl,rfl⟩
  simp only[Sum.elim_inl]at hx
  refine Run.nnz_s [] 7 ZB rfl ?_
  exact ZD [] rfl hx rfl rfl
 ·
  refine JC.block (ZS [0,1] [] rfl rfl (λl0 o0 c l o g=>l=(5,.int .i64 ((c:Nat):Int))::l0∧o=o0∧H=g) hx ⟨rfl,rfl,rfl⟩ rfl ?_)
  ·
   rintro a3 c _ _ _ ⟨rfl,rfl,rfl⟩ a4 hx d
   unfold ref17_Line_l1 at hx
   refine Run.cl [] 5 ZB rfl (ZA rfl rfl (ZM U52 rfl (IsSlice.long a)) (Run.lcz_s [] 3 ZB rfl (ZG hx rfl (λk hx=> ?_) (λk hx=> ?_))))
   ·
    refine Run.cl_s [] 8 ZB rfl ?_
    obtain⟨a5,p,hx⟩:=ZJ hx
    obtain⟨a6,a7,a8,q,s,a9,v⟩:=IsSlice.elem a p
    obtain⟨b0,rfl,x⟩:=s
    obtain⟨b1,b2,rfl⟩:=IsSlice.val x
    refine ZA rfl rfl (Zd U52 S99 rfl rfl q) (ZA rfl rfl (R.fa F99_0 rfl) (ZA rfl rfl (ZY S3 rfl (v 0 _ rfl)) (Run.lcz_s [] 4 ZB rfl (ZG hx rfl (λy hx=> ?_) (λy hx=> ?_)))))
    ·
     refine Run.cnz_bk [] 9 ZB rfl ?_
     obtain rfl:=ZH d hx
     refine Run.nnz_kb [] 2 ZB rfl ?_
     clear hx;have hx:=m
     simp only[Sum.elim_inl,Sum.elim_inr]at hx
     refine Run.nnz_kk [] 2 ZB rfl ?_
     exact ZD [] rfl hx rfl rfl
    ·
     refine Run.clz_bs [] 5 ZB rfl (ZA rfl rfl (Zi rfl rfl (of_decide_eq_true k) (IsSlice.lenI a)) (Run.lnz [] 2 ZB rfl ?_))
     replace hx:=ZP d hx
     exact ZC ⟨c+1,⟨rfl,rfl,rfl⟩,hx⟩ rfl rfl rfl
   ·
    refine Run.cnz_k [] 2 ZB rfl ?_
    obtain rfl:=ZH d hx
    refine Run.nnz_kb [] 2 ZB rfl ?_
    exact ZC ⟨(),rfl,rfl,rfl,rfl⟩ rfl rfl rfl
theorem ref17_kin_ok{k d}:Con Tryz.prog 211 true ([.sl false R_Line 13 k]++sp_Line false d) (ref17_kin k d) (λr=> [.b r]):=by
 intro H d2 d3 d4 c d5 d6 d7 d8 r hx
 refine Does.enterC Tryz.func211 rfl rfl ?_
 intro w
 unfold ref17_kin at hx
 refine Run.cl [] 2 ZB rfl (ZV rfl rfl (λd9 e0=>Run.ll_s [0] 8 ZB rfl (ZI hx E127 rfl ref17_Line_ok rfl ⟨c,trivial⟩ ?_)))
 intro e1 e2 hx
 refine Run.lc_s [] 4 ZB rfl (ZO hx [0,3] [0] rfl rfl (λf l0 o0 l o g=>∃m:Unit,l=l0∧o=o0∧H=g∧f=.inl m) (λf e3 hx=> ?_) (λf h hx=> ?_))
 ·
  rintro _ _ _ ⟨m,rfl,rfl,rfl,rfl⟩
  simp only[Sum.elim_inl]at hx
  refine Run.nc_s [0] 9 ZB rfl (ZG hx rfl (λp hx=> ?_) (λp hx=> ?_))
  ·
   refine Run.cnz_k [] 7 ZB rfl ?_
   exact ZD [] rfl hx rfl rfl
  ·
   refine Run.cl_s [0] 7 ZB rfl (ZI hx E127 rfl ref17_Line_ok rfl ⟨c,trivial⟩ ?_)
   intro e4 e5 hx
   refine Run.lc_s [] 5 ZB rfl (Zh (so:=[(_,[])]) 20 rfl Mixed ⟨by kernel_rfl,by kernel_rfl⟩ (ZX [0] rfl) ?_)
   refine JB.run 3 [0,1,2] [] ZB rfl ?_
   refine JB.gX 42 hx rfl (λq hx=> ?_) (λq hx=> ?_)
   ·
    refine JB.run 17 [3,4,5,6,7,8,9,10,11,12,13,14,15,16,17,18,19] [] ZB rfl ?_
    refine JB.doneN (by kernel_rfl) ?_
    refine Run.nnz_sk [] 9 ZB rfl ?_
    exact ZD [] rfl hx rfl rfl
   ·
    refine JB.run 2 [3,4] [] ZB rfl ?_
    obtain⟨s,v,hx⟩:=ZJ hx
    obtain⟨e6,e7,e8,x,y,e9,z⟩:=IsSlice.elem c v
    obtain⟨f0,rfl,a0⟩:=y
    obtain⟨f1,f2,rfl⟩:=IsSlice.val a0
    refine JB.val (i:=5) [] rfl (Zd U52 S99 rfl rfl x) ?_
    refine JB.val (i:=6) [] rfl (R.fa F99_1 rfl) ?_
    refine JB.val (i:=7) [] rfl (ZY S5 rfl (z 1 _ rfl)) ?_
    refine JB.val (i:=8) [] rfl (R.neq8 (a:=s.Kind) (b:=(2:UInt8)) rfl rfl) ?_
    refine JB.run 2 [9,10] [] ZB rfl ?_
    refine JB.gX 50 hx rfl (λa1 hx=> ?_) (λa1 hx=> ?_)
    ·
     refine JB.run 9 [11,12,13,14,15,16,17,18,19] [] ZB rfl ?_
     refine JB.doneN (by kernel_rfl) ?_
     refine Run.nnz_sk [] 9 ZB rfl ?_
     exact ZD [] rfl hx rfl rfl
    ·
     refine JB.run 2 [11,12] [] ZB rfl ?_
     obtain⟨f3,a2,hx⟩:=ZJ hx
     obtain⟨f4,f5,f6,a3,a4,f7,a5⟩:=IsSlice.elem c a2
     obtain⟨f8,rfl,a6⟩:=a4
     obtain⟨f9,g0,rfl⟩:=IsSlice.val a6
     refine JB.val (i:=13) [] rfl (Zd U52 S99 rfl rfl a3) ?_
     refine JB.val (i:=14) [] rfl (R.fa F99_6 rfl) ?_
     refine JB.val (i:=15) [] rfl (ZY S3 rfl (a5 6 _ rfl)) ?_
     refine JB.run 4 [16,17,18,19] [0] ZB rfl ?_
     refine JB.doneN (by kernel_rfl) ?_
     refine Zw (ZG hx rfl (λa7 hx=> ?_) (λa7 hx=> ?_))
     ·
      refine Run.cnz_k [] 7 ZB rfl ?_
      exact ZD [] rfl hx rfl rfl
     ·
      refine Run.cc_s [] 3 ZB rfl (ZO hx [] [] rfl rfl (λj l0 o0 l o g=>l=(4,.bool j)::l0∧o=o0∧H=g) (λj g1 hx=> ?_) (λj g2 hx=> ?_))
      ·
       rintro _ _ _ ⟨rfl,rfl,rfl⟩
       refine Run.nnz_s [] 2 ZB rfl ?_
       exact ZD [] rfl hx rfl rfl
      ·
       refine Zh (so:=[(_,[])]) 24 rfl Mixed ⟨by kernel_rfl,by kernel_rfl⟩ (ZX [0] rfl) ?_
       refine JB.run 2 [0,1] [] ZB rfl ?_
       obtain⟨a8,a9,hx⟩:=ZJ hx
       obtain⟨g3,g4,g5,b0,b1,g6,b2⟩:=IsSlice.elem c a9
       obtain⟨g7,rfl,b3⟩:=b1
       obtain⟨g8,g9,rfl⟩:=IsSlice.val b3
       refine JB.val (i:=2) [] rfl (Zd U52 S99 rfl rfl b0) ?_
       refine JB.val (i:=3) [] rfl (R.fa F99_4 rfl) ?_
       refine JB.val (i:=4) [] rfl (ZY S27 rfl (b2 4 _ rfl)) ?_
       refine JB.run 2 [5,6] [0] ZB rfl ?_
       refine JB.val (i:=7) [] rfl (R.lss32 (a:=a8.Txg) (b:=d.Txg) rfl rfl) ?_
       refine JB.val (i:=8) [] rfl (ZW rfl) ?_
       refine JB.gX 68 hx rfl (λb4 hx=> ?_) (λb4 hx=> ?_)
       ·
        refine JB.run 15 [9,10,11,12,13,14,15,16,17,18,19,20,21,22,23] [] ZB rfl ?_
        refine JB.doneN (by kernel_rfl) ?_
        obtain rfl:=Option.some.inj hx
        refine JN.forget 0 ?_
        exact ZC ⟨rfl,rfl,rfl⟩ rfl rfl rfl
       ·
        refine JB.run 2 [9,10] [] ZB rfl ?_
        obtain⟨b5,b6,hx⟩:=ZJ hx
        obtain⟨h0,h1,h2,b7,b8,h3,b9⟩:=IsSlice.elem c b6
        obtain⟨h4,rfl,c0⟩:=b8
        obtain⟨h5,h6,rfl⟩:=IsSlice.val c0
        refine JB.val (i:=11) [] rfl (Zd U52 S99 rfl rfl b7) ?_
        refine JB.val (i:=12) [] rfl (R.fa F99_4 rfl) ?_
        refine JB.val (i:=13) [] rfl (ZY S27 rfl (b9 4 _ rfl)) ?_
        refine JB.run 2 [14,15] [0] ZB rfl ?_
        refine JB.val (i:=16) [] rfl (R.eql32 (a:=b5.Txg) (b:=d.Txg) rfl rfl) ?_
        refine JB.val (i:=17) [] rfl (ZW rfl) ?_
        refine JB.gX 77 hx rfl (λc1 hx=> ?_) (λc1 hx=> ?_)
        ·
         refine JB.run 2 [18,19] [0] ZB rfl ?_
         refine JB.val (i:=20) [] rfl (R.eql8 (a:=d.Kind) (b:=(1:UInt8)) rfl rfl) ?_
         refine JB.run 3 [21,22,23] [] ZB rfl ?_
         refine JB.doneN (by kernel_rfl) ?_
         obtain rfl:=Option.some.inj hx
         refine JN.forget 0 ?_
         exact ZC ⟨rfl,rfl,rfl⟩ rfl rfl rfl
        ·
         refine JB.run 6 [18,19,20,21,22,23] [] ZB rfl ?_
         refine JB.doneN (by kernel_rfl) ?_
         obtain rfl:=Option.some.inj hx
         refine JN.forget 0 ?_
         exact ZC ⟨rfl,rfl,rfl⟩ rfl rfl rfl
 ·
  refine Run.cl [] 5 ZB rfl (ZQ 13 hx rfl (λc2 hx=> ?_) (λc2 hx=> ?_))
  ·
   refine Run.lnz_s [] 28 ZB rfl ?_
   obtain rfl:=Option.some.inj hx
   clear hx;have hx:=h
   simp only[Sum.elim_inl,Sum.elim_inr]at hx
   refine Run.nnz_kk [] 2 ZB rfl ?_
   exact ZD [] rfl hx rfl rfl
  ·
   refine Run.llz [] 5 ZB rfl ?_
   obtain⟨c3,c4,hx⟩:=ZJ hx
   obtain⟨h7,h8,h9,c5,c6,i0,c7⟩:=IsSlice.elem c c4
   obtain⟨i1,rfl,c8⟩:=c6
   obtain⟨i2,i3,rfl⟩:=IsSlice.val c8
   refine ZA rfl rfl (Zd U52 S99 rfl rfl c5) (Run.llz [] 3 ZB rfl (ZA rfl rfl (ZY S5 rfl (c7 1 _ rfl)) (Zq rfl rfl rfl (ZA rfl rfl (R.neq8 (a:=c3.Kind) (b:=(1:UInt8)) rfl rfl) (Run.llz [] 2 ZB rfl (ZQ 21 hx rfl (λc9 hx=> ?_) (λc9 hx=> ?_)))))))
   ·
    refine Run.lnz_s [] 20 ZB rfl ?_
    obtain rfl:=Option.some.inj hx
    clear hx;have hx:=h
    simp only[Sum.elim_inl,Sum.elim_inr]at hx
    refine Run.nnz_kk [] 2 ZB rfl ?_
    exact ZD [] rfl hx rfl rfl
   ·
    refine Run.llz [0] 5 ZB rfl (ZA rfl rfl (R.eql8 (a:=d.Kind) (b:=(1:UInt8)) rfl rfl) (Run.llz [] 2 ZB rfl (ZQ 25 hx rfl (λd0 hx=> ?_) (λd0 hx=> ?_))))
    ·
     refine Run.lcz_s [0,0] 15 ZB rfl (ZG hx rfl (λd1 hx=> ?_) (λd1 hx=> ?_))
     ·
      refine Run.cnz [] 6 ZB rfl ?_
      obtain rfl:=Option.some.inj hx
      clear hx;have hx:=h
      simp only[Sum.elim_inl,Sum.elim_inr]at hx
      refine Run.nnz_kk [] 2 ZB rfl ?_
      exact ZD [] rfl hx rfl rfl
     ·
      refine JC.skip ?_
      obtain rfl:=Option.some.inj hx
      exact ZC ⟨(),rfl,rfl,rfl,rfl⟩ rfl rfl rfl
    ·
     refine Run.lnz_s [] 12 ZB rfl ?_
     obtain rfl:=Option.some.inj hx
     exact ZC ⟨(),rfl,rfl,rfl,rfl⟩ rfl rfl rfl
theorem ref17_mayLines_ok{s}:Con Tryz.prog 151 true ([.sl false R_Line 13 s]) (ref17_mayLines s) (λr=> [.b r]):=by
 intro H d2 d3 d4 j r hx
 refine Does.enterC Tryz.func151 rfl rfl ?_
 intro w
 unfold ref17_mayLines at hx
 refine Run.cl [] 9 ZB rfl (ZA rfl rfl (ZM U52 rfl (IsSlice.long j)) (Run.lcz_s [] 3 ZB rfl (ZG hx rfl (λz hx=> ?_) (λz hx=> ?_))))
 ·
  refine Run.cnz_k [] 7 ZB rfl ?_
  exact ZD [] rfl hx rfl rfl
 ·
  refine Run.cc_s [] 8 ZB rfl (ZO hx [] [] rfl rfl (λk l0 o0 l o g=>∃v:Unit,l=l0∧o=o0∧H=g∧k=.inl v) (λk d5 hx=> ?_) (λk d hx=> ?_))
  ·
   rintro _ _ _ ⟨v,rfl,rfl,rfl,rfl⟩
   simp only[Sum.elim_inl]at hx
   refine Run.nnz_s [] 7 ZB rfl ?_
   exact ZD [] rfl hx rfl rfl
  ·
   refine JC.block (ZS [0] [] rfl rfl (λl0 o0 m l o g=>l=(3,.int .i64 ((m:Nat):Int))::l0∧o=o0∧H=g) hx ⟨rfl,rfl,rfl⟩ rfl ?_)
   ·
    rintro d6 m _ _ _ ⟨rfl,rfl,rfl⟩ d7 hx c
    unfold ref17_mayLines_l1 at hx
    refine Run.cl [] 5 ZB rfl (ZA rfl rfl (ZM U52 rfl (IsSlice.long j)) (Run.lcz_s [] 3 ZB rfl (ZG hx rfl (λx hx=> ?_) (λx hx=> ?_))))
    ·
     refine Run.cl_s [] 8 ZB rfl ?_
     obtain⟨h,a0,hx⟩:=ZJ hx
     obtain⟨d8,d9,e0,a1,a2,e1,a3⟩:=IsSlice.elem j a0
     obtain⟨e2,rfl,p⟩:=a2
     obtain⟨e3,e4,rfl⟩:=IsSlice.val p
     refine ZA rfl rfl (Zd U52 S99 rfl rfl a1) (ZA rfl rfl (Zz 0 S99 rfl a3 rfl rfl) (JL.alloc Z99 rfl (λe5 e6=>Run.lc_s [0] 4 ZB rfl (ZO hx [0,3,4] [0] rfl rfl (λq l0 o0 l o g=>∃y:Unit,l=l0∧o=o0∧H=g∧q=.inl y) (λq e7 hx=> ?_) (λq f hx=> ?_)))))
     ·
      rintro _ _ _ ⟨y,rfl,rfl,rfl,rfl⟩
      simp only[Sum.elim_inl]at hx
      refine Run.nl_s [0] 5 ZB rfl (ZI hx E46 rfl ref10_May_ok rfl trivial ?_)
      intro e8 e9 hx
      refine Run.llz [] 2 ZB rfl (ZQ 70 hx rfl (λa4 hx=> ?_) (λa4 hx=> ?_))
      ·
       refine Run.lnz_sbk [] 22 ZB rfl ?_
       obtain rfl:=ZH c hx
       refine Run.nnz_kb [] 2 ZB rfl ?_
       clear hx;have hx:=d
       simp only[Sum.elim_inl,Sum.elim_inr]at hx
       refine Run.nnz_kk [] 2 ZB rfl ?_
       exact ZD [] rfl hx rfl rfl
      ·
       refine Run.llz [0] 5 ZB rfl (ZI hx E210 rfl ref16_May_ok rfl ⟨p,trivial⟩ ?_)
       intro f0 f1 hx
       refine Run.llz [] 4 ZB rfl (ZQ 76 hx rfl (λa5 hx=> ?_) (λa5 hx=> ?_))
       ·
        refine Run.lnz_sbk [] 16 ZB rfl ?_
        obtain rfl:=ZH c hx
        refine Run.nnz_kb [] 2 ZB rfl ?_
        clear hx;have hx:=d
        simp only[Sum.elim_inl,Sum.elim_inr]at hx
        refine Run.nnz_kk [] 2 ZB rfl ?_
        exact ZD [] rfl hx rfl rfl
       ·
        refine Run.llz [0] 5 ZB rfl (ZI hx E211 rfl ref17_kin_ok rfl ⟨j,p,trivial⟩ ?_)
        intro f2 f3 hx
        refine Run.lcz_s [] 5 ZB rfl (ZG hx rfl (λa6 hx=> ?_) (λa6 hx=> ?_))
        ·
         refine Run.cnz_bk [] 8 ZB rfl ?_
         obtain rfl:=ZH c hx
         refine Run.nnz_kb [] 2 ZB rfl ?_
         clear hx;have hx:=d
         simp only[Sum.elim_inl,Sum.elim_inr]at hx
         refine Run.nnz_kk [] 2 ZB rfl ?_
         exact ZD [] rfl hx rfl rfl
        ·
         refine Run.clz_bs [] 5 ZB rfl (ZA rfl rfl (Zi rfl rfl (of_decide_eq_true x) (IsSlice.lenI j)) (Run.lnz [] 2 ZB rfl ?_))
         replace hx:=ZP c hx
         refine JN.forget 0 ?_
         exact ZC ⟨m+1,⟨rfl,rfl,rfl⟩,hx⟩ rfl rfl rfl
     ·
      refine JC.seq (Zh (so:=[(_,[])]) 48 rfl Mixed ⟨by kernel_rfl,by kernel_rfl⟩ (ZX [0] rfl) ?_)
      refine JB.run 4 [0,1,2,3] [0] ZB rfl ?_
      refine JB.gX 21 hx rfl (λa7 hx=> ?_) (λa7 hx=> ?_)
      ·
       refine JB.run 44 [4,5,6,7,8,9,10,11,12,13,14,15,16,17,18,19,20,21,22,23,24,25,26,27,28,29,30,31,32,33,34,35,36,37,38,39,40,41,42,43,44,45,46,47] [] ZB rfl ?_
       refine JB.doneN (by kernel_rfl) ?_
       refine Run.nnz_s [] 8 ZB rfl ?_
       obtain rfl:=Option.some.inj hx
       clear hx;have hx:=f
       simp only[Sum.elim_inl,Sum.elim_inr]at hx
       refine Run.nnz_kkb [] 3 ZB rfl (JN.passR ?_)
       obtain rfl:=ZH c hx
       refine Run.nnz_kb [] 2 ZB rfl ?_
       clear hx;have hx:=d
       simp only[Sum.elim_inl,Sum.elim_inr]at hx
       refine Run.nnz_kk [] 2 ZB rfl ?_
       exact ZD [] rfl hx rfl rfl
      ·
       refine JB.run 5 [4,5,6,7,8] [0] ZB rfl ?_
       refine JB.gX 26 hx rfl (λa8 hx=> ?_) (λa8 hx=> ?_)
       ·
        refine JB.run 39 [9,10,11,12,13,14,15,16,17,18,19,20,21,22,23,24,25,26,27,28,29,30,31,32,33,34,35,36,37,38,39,40,41,42,43,44,45,46,47] [] ZB rfl ?_
        refine JB.doneN (by kernel_rfl) ?_
        refine Run.nnz_s [] 8 ZB rfl ?_
        obtain rfl:=Option.some.inj hx
        clear hx;have hx:=f
        simp only[Sum.elim_inl,Sum.elim_inr]at hx
        refine Run.nnz_kkb [] 3 ZB rfl (JN.passR ?_)
        obtain rfl:=ZH c hx
        refine Run.nnz_kb [] 2 ZB rfl ?_
        clear hx;have hx:=d
        simp only[Sum.elim_inl,Sum.elim_inr]at hx
        refine Run.nnz_kk [] 2 ZB rfl ?_
        exact ZD [] rfl hx rfl rfl
       ·
        refine JB.run 3 [9,10,11] [] ZB rfl ?_
        refine JB.gX 29 hx rfl (λa9 hx=> ?_) (λa9 hx=> ?_)
        ·
         refine JB.run 5 [12,13,14,15,16] [0] ZB rfl ?_
         obtain⟨f4,b0,hx⟩:=ZJ hx
         obtain⟨f5,f6,f7,b1,b2,f8,b3⟩:=IsSlice.elem j b0
         obtain⟨f9,rfl,b4⟩:=b2
         obtain⟨g0,g1,rfl⟩:=IsSlice.val b4
         refine JB.val (i:=17) [] rfl (Zd U52 S99 rfl rfl b1) ?_
         refine JB.val (i:=18) [] rfl (R.fa F99_0 rfl) ?_
         refine JB.val (i:=19) [] rfl (ZY S3 rfl (b3 0 _ rfl)) ?_
         refine JB.run 4 [20,21,22,23] [] ZB rfl ?_
         refine JB.gX 41 hx rfl (λb5 hx=> ?_) (λb5 hx=> ?_)
         ·
          refine JB.run 24 [24,25,26,27,28,29,30,31,32,33,34,35,36,37,38,39,40,41,42,43,44,45,46,47] [] ZB rfl ?_
          refine JB.doneN (by kernel_rfl) ?_
          refine Run.nnz_s [] 8 ZB rfl ?_
          obtain rfl:=Option.some.inj hx
          clear hx;have hx:=f
          simp only[Sum.elim_inl,Sum.elim_inr]at hx
          refine Run.nnz_kkb [] 3 ZB rfl (JN.passR ?_)
          obtain rfl:=ZH c hx
          refine Run.nnz_kb [] 2 ZB rfl ?_
          clear hx;have hx:=d
          simp only[Sum.elim_inl,Sum.elim_inr]at hx
          refine Run.nnz_kk [] 2 ZB rfl ?_
          exact ZD [] rfl hx rfl rfl
         ·
          refine JB.run 2 [24,25] [0] ZB rfl ?_
          refine JB.val (i:=26) [] rfl (R.neq8 (a:=h.Kind) (b:=(1:UInt8)) rfl rfl) ?_
          refine JB.val (i:=27) [] rfl (ZW rfl) ?_
          refine JB.gX 45 hx rfl (λb6 hx=> ?_) (λb6 hx=> ?_)
          ·
           refine JB.run 2 [28,29] [0] ZB rfl ?_
           refine JB.val (i:=30) [] rfl (R.neq8 (a:=h.Kind) (b:=(2:UInt8)) rfl rfl) ?_
           refine JB.run 3 [31,32,33] [] ZB rfl ?_
           refine JB.gX 51 hx rfl (λb7 hx=> ?_) (λb7 hx=> ?_)
           ·
            refine JB.run 14 [34,35,36,37,38,39,40,41,42,43,44,45,46,47] [] ZB rfl ?_
            refine JB.doneN (by kernel_rfl) ?_
            refine Run.nnz_s [] 8 ZB rfl ?_
            obtain rfl:=Option.some.inj hx
            clear hx;have hx:=f
            simp only[Sum.elim_inl,Sum.elim_inr]at hx
            refine Run.nnz_kkb [] 3 ZB rfl (JN.passR ?_)
            obtain rfl:=ZH c hx
            refine Run.nnz_kb [] 2 ZB rfl ?_
            clear hx;have hx:=d
            simp only[Sum.elim_inl,Sum.elim_inr]at hx
            refine Run.nnz_kk [] 2 ZB rfl ?_
            exact ZD [] rfl hx rfl rfl
           ·
            refine JB.run 2 [34,35] [0] ZB rfl ?_
            refine JB.val (i:=36) [] rfl (R.gtr32 (a:=h.Txg) (b:=(16777215:UInt32)) rfl rfl) ?_
            refine JB.run 2 [37,38] [] ZB rfl ?_
            refine JB.gX 56 hx rfl (λb8 hx=> ?_) (λb8 hx=> ?_)
            ·
             refine JB.run 9 [39,40,41,42,43,44,45,46,47] [] ZB rfl ?_
             refine JB.doneN (by kernel_rfl) ?_
             refine Run.nnz_s [] 8 ZB rfl ?_
             obtain rfl:=Option.some.inj hx
             clear hx;have hx:=f
             simp only[Sum.elim_inl,Sum.elim_inr]at hx
             refine Run.nnz_kkb [] 3 ZB rfl (JN.passR ?_)
             obtain rfl:=ZH c hx
             refine Run.nnz_kb [] 2 ZB rfl ?_
             clear hx;have hx:=d
             simp only[Sum.elim_inl,Sum.elim_inr]at hx
             refine Run.nnz_kk [] 2 ZB rfl ?_
             exact ZD [] rfl hx rfl rfl
            ·
             refine JB.run 5 [39,40,41,42,43] [0] ZB rfl ?_
             refine JB.gX 61 hx rfl (λb9 hx=> ?_) (λb9 hx=> ?_)
             ·
              refine JB.run 4 [44,45,46,47] [] ZB rfl ?_
              refine JB.doneN (by kernel_rfl) ?_
              refine Run.nnz_s [] 8 ZB rfl ?_
              obtain rfl:=Option.some.inj hx
              clear hx;have hx:=f
              simp only[Sum.elim_inl,Sum.elim_inr]at hx
              refine Run.nnz_kkb [] 3 ZB rfl (JN.passR ?_)
              obtain rfl:=ZH c hx
              refine Run.nnz_kb [] 2 ZB rfl ?_
              clear hx;have hx:=d
              simp only[Sum.elim_inl,Sum.elim_inr]at hx
              refine Run.nnz_kk [] 2 ZB rfl ?_
              exact ZD [] rfl hx rfl rfl
             ·
              refine JB.run 4 [44,45,46,47] [0] ZB rfl ?_
              refine JB.doneN (by kernel_rfl) ?_
              refine Zw (ZG hx rfl (λc0 hx=> ?_) (λc0 hx=> ?_))
              ·
               refine Run.cnz [] 6 ZB rfl ?_
               obtain rfl:=Option.some.inj hx
               clear hx;have hx:=f
               simp only[Sum.elim_inl,Sum.elim_inr]at hx
               refine Run.nnz_kkb [] 3 ZB rfl (JN.passR ?_)
               obtain rfl:=ZH c hx
               refine Run.nnz_kb [] 2 ZB rfl ?_
               clear hx;have hx:=d
               simp only[Sum.elim_inl,Sum.elim_inr]at hx
               refine Run.nnz_kk [] 2 ZB rfl ?_
               exact ZD [] rfl hx rfl rfl
              ·
               refine JC.skip ?_
               obtain rfl:=Option.some.inj hx
               exact ZC ⟨(),rfl,rfl,rfl,rfl⟩ rfl rfl rfl
          ·
           refine JB.run 8 [28,29,30,31,32,33,34,35] [0] ZB rfl ?_
           refine JB.val (i:=36) [] rfl (R.gtr32 (a:=h.Txg) (b:=(16777215:UInt32)) rfl rfl) ?_
           refine JB.run 2 [37,38] [] ZB rfl ?_
           refine JB.gX 56 hx rfl (λc1 hx=> ?_) (λc1 hx=> ?_)
           ·
            refine JB.run 9 [39,40,41,42,43,44,45,46,47] [] ZB rfl ?_
            refine JB.doneN (by kernel_rfl) ?_
            refine Run.nnz_s [] 8 ZB rfl ?_
            obtain rfl:=Option.some.inj hx
            clear hx;have hx:=f
            simp only[Sum.elim_inl,Sum.elim_inr]at hx
            refine Run.nnz_kkb [] 3 ZB rfl (JN.passR ?_)
            obtain rfl:=ZH c hx
            refine Run.nnz_kb [] 2 ZB rfl ?_
            clear hx;have hx:=d
            simp only[Sum.elim_inl,Sum.elim_inr]at hx
            refine Run.nnz_kk [] 2 ZB rfl ?_
            exact ZD [] rfl hx rfl rfl
           ·
            refine JB.run 5 [39,40,41,42,43] [0] ZB rfl ?_
            refine JB.gX 61 hx rfl (λc2 hx=> ?_) (λc2 hx=> ?_)
            ·
             refine JB.run 4 [44,45,46,47] [] ZB rfl ?_
             refine JB.doneN (by kernel_rfl) ?_
             refine Run.nnz_s [] 8 ZB rfl ?_
             obtain rfl:=Option.some.inj hx
             clear hx;have hx:=f
             simp only[Sum.elim_inl,Sum.elim_inr]at hx
             refine Run.nnz_kkb [] 3 ZB rfl (JN.passR ?_)
             obtain rfl:=ZH c hx
             refine Run.nnz_kb [] 2 ZB rfl ?_
             clear hx;have hx:=d
             simp only[Sum.elim_inl,Sum.elim_inr]at hx
             refine Run.nnz_kk [] 2 ZB rfl ?_
             exact ZD [] rfl hx rfl rfl
            ·
             refine JB.run 4 [44,45,46,47] [0] ZB rfl ?_
             refine JB.doneN (by kernel_rfl) ?_
             refine Zw (ZG hx rfl (λc3 hx=> ?_) (λc3 hx=> ?_))
             ·
              refine Run.cnz [] 6 ZB rfl ?_
              obtain rfl:=Option.some.inj hx
              clear hx;have hx:=f
              simp only[Sum.elim_inl,Sum.elim_inr]at hx
              refine Run.nnz_kkb [] 3 ZB rfl (JN.passR ?_)
              obtain rfl:=ZH c hx
              refine Run.nnz_kb [] 2 ZB rfl ?_
              clear hx;have hx:=d
              simp only[Sum.elim_inl,Sum.elim_inr]at hx
              refine Run.nnz_kk [] 2 ZB rfl ?_
              exact ZD [] rfl hx rfl rfl
             ·
              refine JC.skip ?_
              obtain rfl:=Option.some.inj hx
              exact ZC ⟨(),rfl,rfl,rfl,rfl⟩ rfl rfl rfl
        ·
         refine JB.run 14 [12,13,14,15,16,17,18,19,20,21,22,23,24,25] [0] ZB rfl ?_
         refine JB.val (i:=26) [] rfl (R.neq8 (a:=h.Kind) (b:=(1:UInt8)) rfl rfl) ?_
         refine JB.val (i:=27) [] rfl (ZW rfl) ?_
         refine JB.gX 45 hx rfl (λc4 hx=> ?_) (λc4 hx=> ?_)
         ·
          refine JB.run 2 [28,29] [0] ZB rfl ?_
          refine JB.val (i:=30) [] rfl (R.neq8 (a:=h.Kind) (b:=(2:UInt8)) rfl rfl) ?_
          refine JB.run 3 [31,32,33] [] ZB rfl ?_
          refine JB.gX 51 hx rfl (λc5 hx=> ?_) (λc5 hx=> ?_)
          ·
           refine JB.run 14 [34,35,36,37,38,39,40,41,42,43,44,45,46,47] [] ZB rfl ?_
           refine JB.doneN (by kernel_rfl) ?_
           refine Run.nnz_s [] 8 ZB rfl ?_
           obtain rfl:=Option.some.inj hx
           clear hx;have hx:=f
           simp only[Sum.elim_inl,Sum.elim_inr]at hx
           refine Run.nnz_kkb [] 3 ZB rfl (JN.passR ?_)
           obtain rfl:=ZH c hx
           refine Run.nnz_kb [] 2 ZB rfl ?_
           clear hx;have hx:=d
           simp only[Sum.elim_inl,Sum.elim_inr]at hx
           refine Run.nnz_kk [] 2 ZB rfl ?_
           exact ZD [] rfl hx rfl rfl
          ·
           refine JB.run 2 [34,35] [0] ZB rfl ?_
           refine JB.val (i:=36) [] rfl (R.gtr32 (a:=h.Txg) (b:=(16777215:UInt32)) rfl rfl) ?_
           refine JB.run 2 [37,38] [] ZB rfl ?_
           refine JB.gX 56 hx rfl (λc6 hx=> ?_) (λc6 hx=> ?_)
           ·
            refine JB.run 9 [39,40,41,42,43,44,45,46,47] [] ZB rfl ?_
            refine JB.doneN (by kernel_rfl) ?_
            refine Run.nnz_s [] 8 ZB rfl ?_
            obtain rfl:=Option.some.inj hx
            clear hx;have hx:=f
            simp only[Sum.elim_inl,Sum.elim_inr]at hx
            refine Run.nnz_kkb [] 3 ZB rfl (JN.passR ?_)
            obtain rfl:=ZH c hx
            refine Run.nnz_kb [] 2 ZB rfl ?_
            clear hx;have hx:=d
            simp only[Sum.elim_inl,Sum.elim_inr]at hx
            refine Run.nnz_kk [] 2 ZB rfl ?_
            exact ZD [] rfl hx rfl rfl
           ·
            refine JB.run 5 [39,40,41,42,43] [0] ZB rfl ?_
            refine JB.gX 61 hx rfl (λc7 hx=> ?_) (λc7 hx=> ?_)
            ·
             refine JB.run 4 [44,45,46,47] [] ZB rfl ?_
             refine JB.doneN (by kernel_rfl) ?_
             refine Run.nnz_s [] 8 ZB rfl ?_
             obtain rfl:=Option.some.inj hx
             clear hx;have hx:=f
             simp only[Sum.elim_inl,Sum.elim_inr]at hx
             refine Run.nnz_kkb [] 3 ZB rfl (JN.passR ?_)
             obtain rfl:=ZH c hx
             refine Run.nnz_kb [] 2 ZB rfl ?_
             clear hx;have hx:=d
             simp only[Sum.elim_inl,Sum.elim_inr]at hx
             refine Run.nnz_kk [] 2 ZB rfl ?_
             exact ZD [] rfl hx rfl rfl
            ·
             refine JB.run 4 [44,45,46,47] [0] ZB rfl ?_
             refine JB.doneN (by kernel_rfl) ?_
             refine Zw (ZG hx rfl (λc8 hx=> ?_) (λc8 hx=> ?_))
             ·
              refine Run.cnz [] 6 ZB rfl ?_
              obtain rfl:=Option.some.inj hx
              clear hx;have hx:=f
              simp only[Sum.elim_inl,Sum.elim_inr]at hx
              refine Run.nnz_kkb [] 3 ZB rfl (JN.passR ?_)
              obtain rfl:=ZH c hx
              refine Run.nnz_kb [] 2 ZB rfl ?_
              clear hx;have hx:=d
              simp only[Sum.elim_inl,Sum.elim_inr]at hx
              refine Run.nnz_kk [] 2 ZB rfl ?_
              exact ZD [] rfl hx rfl rfl
             ·
              refine JC.skip ?_
              obtain rfl:=Option.some.inj hx
              exact ZC ⟨(),rfl,rfl,rfl,rfl⟩ rfl rfl rfl
         ·
          refine JB.run 8 [28,29,30,31,32,33,34,35] [0] ZB rfl ?_
          refine JB.val (i:=36) [] rfl (R.gtr32 (a:=h.Txg) (b:=(16777215:UInt32)) rfl rfl) ?_
          refine JB.run 2 [37,38] [] ZB rfl ?_
          refine JB.gX 56 hx rfl (λc9 hx=> ?_) (λc9 hx=> ?_)
          ·
           refine JB.run 9 [39,40,41,42,43,44,45,46,47] [] ZB rfl ?_
           refine JB.doneN (by kernel_rfl) ?_
           refine Run.nnz_s [] 8 ZB rfl ?_
           obtain rfl:=Option.some.inj hx
           clear hx;have hx:=f
           simp only[Sum.elim_inl,Sum.elim_inr]at hx
           refine Run.nnz_kkb [] 3 ZB rfl (JN.passR ?_)
           obtain rfl:=ZH c hx
           refine Run.nnz_kb [] 2 ZB rfl ?_
           clear hx;have hx:=d
           simp only[Sum.elim_inl,Sum.elim_inr]at hx
           refine Run.nnz_kk [] 2 ZB rfl ?_
           exact ZD [] rfl hx rfl rfl
          ·
           refine JB.run 5 [39,40,41,42,43] [0] ZB rfl ?_
           refine JB.gX 61 hx rfl (λd0 hx=> ?_) (λd0 hx=> ?_)
           ·
            refine JB.run 4 [44,45,46,47] [] ZB rfl ?_
            refine JB.doneN (by kernel_rfl) ?_
            refine Run.nnz_s [] 8 ZB rfl ?_
            obtain rfl:=Option.some.inj hx
            clear hx;have hx:=f
            simp only[Sum.elim_inl,Sum.elim_inr]at hx
            refine Run.nnz_kkb [] 3 ZB rfl (JN.passR ?_)
            obtain rfl:=ZH c hx
            refine Run.nnz_kb [] 2 ZB rfl ?_
            clear hx;have hx:=d
            simp only[Sum.elim_inl,Sum.elim_inr]at hx
            refine Run.nnz_kk [] 2 ZB rfl ?_
            exact ZD [] rfl hx rfl rfl
           ·
            refine JB.run 4 [44,45,46,47] [0] ZB rfl ?_
            refine JB.doneN (by kernel_rfl) ?_
            refine Zw (ZG hx rfl (λd1 hx=> ?_) (λd1 hx=> ?_))
            ·
             refine Run.cnz [] 6 ZB rfl ?_
             obtain rfl:=Option.some.inj hx
             clear hx;have hx:=f
             simp only[Sum.elim_inl,Sum.elim_inr]at hx
             refine Run.nnz_kkb [] 3 ZB rfl (JN.passR ?_)
             obtain rfl:=ZH c hx
             refine Run.nnz_kb [] 2 ZB rfl ?_
             clear hx;have hx:=d
             simp only[Sum.elim_inl,Sum.elim_inr]at hx
             refine Run.nnz_kk [] 2 ZB rfl ?_
             exact ZD [] rfl hx rfl rfl
            ·
             refine JC.skip ?_
             obtain rfl:=Option.some.inj hx
             exact ZC ⟨(),rfl,rfl,rfl,rfl⟩ rfl rfl rfl
    ·
     refine Run.cnz_k [] 2 ZB rfl ?_
     obtain rfl:=ZH c hx
     refine Run.nnz_kb [] 2 ZB rfl ?_
     exact ZC ⟨(),rfl,rfl,rfl,rfl⟩ rfl rfl rfl
theorem ref17_noughts_ok{i}:Con Tryz.prog 212 true ([.sl false RU8 1 i]) (ref17_noughts i) (λr=> [.b r]):=by
 intro H z a0 a1 c r hx
 refine Does.enterC Tryz.func212 rfl rfl ?_
 intro w
 unfold ref17_noughts at hx
 refine Run.cc [] 11 ZB rfl (ZO hx [] [] rfl rfl (λd l0 o0 l o g=>∃j:Unit,l=l0∧o=o0∧H=g∧d=.inl j) (λd a2 hx=> ?_) (λd m hx=> ?_))
 ·
  rintro _ _ _ ⟨j,rfl,rfl,rfl,rfl⟩
  simp only[Sum.elim_inl]at hx
  refine Run.nnz_s [] 7 ZB rfl ?_
  exact ZD [] rfl hx rfl rfl
 ·
  refine JC.block (ZS [0] [] rfl rfl (λl0 o0 f l o g=>l=(3,.int .i64 ((f:Nat):Int))::l0∧o=o0∧H=g) hx ⟨rfl,rfl,rfl⟩ rfl ?_)
  ·
   rintro a3 f _ _ _ ⟨rfl,rfl,rfl⟩ a4 hx h
   unfold ref17_noughts_l1 at hx
   refine Run.cl [] 5 ZB rfl (ZA rfl rfl (ZM U26 rfl (IsSlice.long c)) (Run.lcz_s [] 3 ZB rfl (ZG hx rfl (λk hx=> ?_) (λk hx=> ?_))))
   ·
    refine Run.cl_s [] 8 ZB rfl ?_
    obtain⟨p,q,hx⟩:=ZJ hx
    obtain⟨a5,a6,a7,s,v,a8,x⟩:=IsSlice.elem c q
    obtain rfl:=v
    refine ZA rfl rfl (Zd U26 S5 rfl rfl s) (ZA rfl rfl (ZY S5 rfl (x 0 _ rfl)) (ZA rfl rfl (R.neq8 (a:=p) (b:=(0:UInt8)) rfl rfl) (Run.lcz_s [] 2 ZB rfl (ZG hx rfl (λy hx=> ?_) (λy hx=> ?_)))))
    ·
     refine Run.cnz_bk [] 8 ZB rfl ?_
     obtain rfl:=ZH h hx
     refine Run.nnz_kb [] 2 ZB rfl ?_
     clear hx;have hx:=m
     simp only[Sum.elim_inl,Sum.elim_inr]at hx
     refine Run.nnz_kk [] 2 ZB rfl ?_
     exact ZD [] rfl hx rfl rfl
    ·
     refine Run.clz_bs [] 5 ZB rfl (ZA rfl rfl (Zi rfl rfl (of_decide_eq_true k) (IsSlice.lenI c)) (Run.lnz [] 2 ZB rfl ?_))
     replace hx:=ZP h hx
     exact ZC ⟨f+1,⟨rfl,rfl,rfl⟩,hx⟩ rfl rfl rfl
   ·
    refine Run.cnz_k [] 2 ZB rfl ?_
    obtain rfl:=ZH h hx
    refine Run.nnz_kb [] 2 ZB rfl ?_
    exact ZC ⟨(),rfl,rfl,rfl,rfl⟩ rfl rfl rfl
theorem ref17_mayKeys_ok{k m}:Con Tryz.prog 152 true ([.sl false (RSl RU8 1) 1 k,.i m]) (ref17_mayKeys k m) (λr=> [.b r]):=by
 intro H d1 d2 d3 c r hx
 refine Does.enterC Tryz.func152 rfl rfl ?_
 intro w
 unfold ref17_mayKeys at hx
 refine Run.cl [] 9 ZB rfl (ZA rfl rfl (ZM U22 rfl (IsSlice.long c)) (Run.lcz_s [] 3 ZB rfl (ZG hx rfl (λa0 hx=> ?_) (λa0 hx=> ?_))))
 ·
  refine Run.cnz_k [] 7 ZB rfl ?_
  exact ZD [] rfl hx rfl rfl
 ·
  refine Run.cc_s [] 8 ZB rfl (ZO hx [] [] rfl rfl (λh l0 o0 l o g=>∃p:Unit,l=l0∧o=o0∧H=g∧h=.inl p) (λh d4 hx=> ?_) (λh j hx=> ?_))
  ·
   rintro _ _ _ ⟨p,rfl,rfl,rfl,rfl⟩
   simp only[Sum.elim_inl]at hx
   refine Run.nnz_s [] 7 ZB rfl ?_
   exact ZD [] rfl hx rfl rfl
  ·
   refine JC.block (ZS [0,1] [] rfl rfl (λl0 o0 d l o g=>l=(5,.int .i64 ((d:Nat):Int))::l0∧o=o0∧H=g) hx ⟨rfl,rfl,rfl⟩ rfl ?_)
   ·
    rintro d5 d _ _ _ ⟨rfl,rfl,rfl⟩ d6 hx a
    unfold ref17_mayKeys_l1 at hx
    refine Run.cc [] 7 ZB rfl (ZG hx rfl (λf hx=> ?_) (λf hx=> ?_))
    ·
     refine Run.cl_s [] 8 ZB rfl ?_
     obtain⟨d7,a1,hx⟩:=ZJ hx
     obtain⟨d8,d9,e0,a2,a3,e1,a4⟩:=IsSlice.elem c a1
     obtain⟨e2,rfl,q⟩:=a3
     obtain⟨e3,e4,rfl⟩:=IsSlice.val q
     refine ZA rfl rfl (Zd U22 S26 rfl rfl a2) (ZA rfl rfl (ZY S26 rfl (a4 0 _ rfl)) (ZA rfl rfl (ZM U26 rfl (IsSlice.long q)) (Run.llz [] 2 ZB rfl (ZQ 19 hx rfl (λa5 hx=> ?_) (λa5 hx=> ?_)))))
     ·
      refine Run.llz [] 5 ZB rfl ?_
      obtain⟨e5,a6,hx⟩:=ZJ hx
      obtain⟨e6,e7,e8,a7,a8,e9,a9⟩:=IsSlice.elem c a6
      obtain⟨f0,rfl,s⟩:=a8
      obtain⟨f1,f2,rfl⟩:=IsSlice.val s
      refine ZA rfl rfl (Zd U22 S26 rfl rfl a7) (Zq rfl rfl rfl (ZA rfl rfl (ZY S26 rfl (a9 0 _ rfl)) (Zq rfl rfl rfl (ZA rfl rfl (ZM U26 rfl (IsSlice.long s)) (Run.llz [] 6 ZB rfl (ZQ 28 hx rfl (λb0 hx=> ?_) (λb0 hx=> ?_)))))))
      ·
       refine Run.lnz_sbk [] 25 ZB rfl ?_
       obtain rfl:=ZH a hx
       refine Run.nnz_kb [] 2 ZB rfl ?_
       clear hx;have hx:=j
       simp only[Sum.elim_inl,Sum.elim_inr]at hx
       refine Run.nnz_kk [] 2 ZB rfl ?_
       exact ZD [] rfl hx rfl rfl
      ·
       refine Run.llz [] 5 ZB rfl ?_
       obtain⟨f3,b1,hx⟩:=ZJ hx
       obtain⟨f4,f5,f6,b2,b3,f7,b4⟩:=IsSlice.elem c b1
       obtain⟨f8,rfl,v⟩:=b3
       obtain⟨f9,g0,rfl⟩:=IsSlice.val v
       refine ZA rfl rfl (Zd U22 S26 rfl rfl b2) (Zq rfl rfl rfl (ZA rfl rfl (ZY S26 rfl (b4 0 _ rfl)) (Zq rfl rfl rfl (ZA rfl rfl (ZM U26 rfl (IsSlice.long v)) (Run.llz [] 4 ZB rfl (ZQ 35 hx rfl (λb5 hx=> ?_) (λb5 hx=> ?_)))))))
       ·
        refine Run.llz [] 5 ZB rfl ?_
        obtain⟨g1,b6,hx⟩:=ZJ hx
        obtain⟨g2,g3,g4,b7,b8,g5,b9⟩:=IsSlice.elem c b6
        obtain⟨g6,rfl,x⟩:=b8
        obtain⟨g7,g8,rfl⟩:=IsSlice.val x
        refine ZA rfl rfl (Zd U22 S26 rfl rfl b7) (Zq rfl rfl rfl (ZA rfl rfl (ZY S26 rfl (b9 0 _ rfl)) (Zq rfl rfl rfl (ZI hx E212 rfl ref17_noughts_ok rfl ⟨x,trivial⟩ ?_))))
        intro g9 h0 hx
        refine Run.lcz_s [] 5 ZB rfl (ZG hx rfl (λc0 hx=> ?_) (λc0 hx=> ?_))
        ·
         refine Run.cnz_bk [] 8 ZB rfl ?_
         obtain rfl:=ZH a hx
         refine Run.nnz_kb [] 2 ZB rfl ?_
         clear hx;have hx:=j
         simp only[Sum.elim_inl,Sum.elim_inr]at hx
         refine Run.nnz_kk [] 2 ZB rfl ?_
         exact ZD [] rfl hx rfl rfl
        ·
         refine Run.clz_bs [] 5 ZB rfl (ZA rfl rfl (Zi rfl rfl (of_decide_eq_true f) (by decide)) ?_)
         refine Run.lnz [] 2 ZB rfl ?_
         replace hx:=ZP a hx
         exact ZC ⟨d+1,⟨rfl,rfl,rfl⟩,hx⟩ rfl rfl rfl
       ·
        refine Run.llz_sbs [] 16 ZB rfl (ZA rfl rfl (Zi rfl rfl (of_decide_eq_true f) (by decide)) ?_)
        refine Run.lnz [] 2 ZB rfl ?_
        replace hx:=ZP a hx
        exact ZC ⟨d+1,⟨rfl,rfl,rfl⟩,hx⟩ rfl rfl rfl
     ·
      refine Run.llz [] 14 ZB rfl ?_
      obtain⟨h1,c1,hx⟩:=ZJ hx
      obtain⟨h2,h3,h4,c2,c3,h5,c4⟩:=IsSlice.elem c c1
      obtain⟨h6,rfl,y⟩:=c3
      obtain⟨h7,h8,rfl⟩:=IsSlice.val y
      refine ZA rfl rfl (Zd U22 S26 rfl rfl c2) (Zq rfl rfl rfl (ZA rfl rfl (ZY S26 rfl (c4 0 _ rfl)) (Zq rfl rfl rfl (ZA rfl rfl (ZM U26 rfl (IsSlice.long y)) (Run.llz [] 4 ZB rfl (ZQ 35 hx rfl (λc5 hx=> ?_) (λc5 hx=> ?_)))))))
      ·
       refine Run.llz [] 5 ZB rfl ?_
       obtain⟨h9,c6,hx⟩:=ZJ hx
       obtain⟨i0,i1,i2,c7,c8,i3,c9⟩:=IsSlice.elem c c6
       obtain⟨i4,rfl,z⟩:=c8
       obtain⟨i5,i6,rfl⟩:=IsSlice.val z
       refine ZA rfl rfl (Zd U22 S26 rfl rfl c7) (Zq rfl rfl rfl (ZA rfl rfl (ZY S26 rfl (c9 0 _ rfl)) (Zq rfl rfl rfl (ZI hx E212 rfl ref17_noughts_ok rfl ⟨z,trivial⟩ ?_))))
       intro i7 i8 hx
       refine Run.lcz_s [] 5 ZB rfl (ZG hx rfl (λd0 hx=> ?_) (λd0 hx=> ?_))
       ·
        refine Run.cnz_bk [] 8 ZB rfl ?_
        obtain rfl:=ZH a hx
        refine Run.nnz_kb [] 2 ZB rfl ?_
        clear hx;have hx:=j
        simp only[Sum.elim_inl,Sum.elim_inr]at hx
        refine Run.nnz_kk [] 2 ZB rfl ?_
        exact ZD [] rfl hx rfl rfl
       ·
        refine Run.clz_bs [] 5 ZB rfl (ZA rfl rfl (Zi rfl rfl (of_decide_eq_true f) (by decide)) ?_)
        refine Run.lnz [] 2 ZB rfl ?_
        replace hx:=ZP a hx
        exact ZC ⟨d+1,⟨rfl,rfl,rfl⟩,hx⟩ rfl rfl rfl
      ·
       refine Run.llz_sbs [] 16 ZB rfl (ZA rfl rfl (Zi rfl rfl (of_decide_eq_true f) (by decide)) ?_)
       refine Run.lnz [] 2 ZB rfl ?_
       replace hx:=ZP a hx
       exact ZC ⟨d+1,⟨rfl,rfl,rfl⟩,hx⟩ rfl rfl rfl
    ·
     refine Run.cnz_k [] 2 ZB rfl ?_
     obtain rfl:=ZH a hx
     refine Run.nnz_kb [] 2 ZB rfl ?_
     exact ZC ⟨(),rfl,rfl,rfl,rfl⟩ rfl rfl rfl
theorem ref17_MayChange_ok{c}:Con Tryz.prog 85 true (sp_Change false c) (ref17_MayChange c) (λr=> [.b r]):=by
 intro H a9 b0 b1 d r hx
 refine Does.enterC Tryz.func85 rfl rfl ?_
 intro w
 unfold ref17_MayChange at hx
 refine Run.cl [] 2 ZB rfl (ZV rfl rfl (λb2 b3=>Run.ll_s [0] 10 ZB rfl (ZQ 7 hx rfl (λj hx=> ?_) (λj hx=> ?_))))
 ·
  refine Run.lnz_sk [] 24 ZB rfl ?_
  exact ZD [] rfl hx rfl rfl
 ·
  refine Run.llz [0] 8 ZB rfl (ZQ 12 hx rfl (λk hx=> ?_) (λk hx=> ?_))
  ·
   refine Run.lnz_sk [] 19 ZB rfl ?_
   exact ZD [] rfl hx rfl rfl
  ·
   refine Run.llz [0] 8 ZB rfl (ZQ 17 hx rfl (λm hx=> ?_) (λm hx=> ?_))
   ·
    refine Run.lnz_sk [] 14 ZB rfl ?_
    exact ZD [] rfl hx rfl rfl
   ·
    refine Run.lcz_s [0] 9 ZB rfl (ZG hx rfl (λp hx=> ?_) (λp hx=> ?_))
    ·
     refine Run.cnz_k [] 7 ZB rfl ?_
     exact ZD [] rfl hx rfl rfl
    ·
     refine Run.cc_s [0] 10 ZB rfl (ZG hx rfl (λq hx=> ?_) (λq hx=> ?_))
     ·
      refine JC.seq (ZO hx [1] [0] rfl rfl (λf l0 o0 l o g=>l=(3,.bool f)::l0∧o=o0∧H=g) (λf b4 hx=> ?_) (λf b5 hx=> ?_))
      ·
       rintro _ _ _ ⟨rfl,rfl,rfl⟩
       refine Run.nc_s [] 2 ZB rfl (ZO hx [] [] rfl rfl (λh l0 o0 l o g=>l=(2,.bool h)::l0∧o=o0∧H=g) (λh b6 hx=> ?_) (λh b7 hx=> ?_))
       ·
        rintro _ _ _ ⟨rfl,rfl,rfl⟩
        refine Run.nnz_sk [] 3 ZB rfl ?_
        exact ZD [] rfl hx rfl rfl
       ·
        refine Run.clz [] 3 ZB rfl (ZQ 35 hx rfl (λs hx=> ?_) (λs hx=> ?_))
        ·
         refine Run.llz [0] 5 ZB rfl (ZA rfl rfl (R.leq8 (a:=c.Kind) (b:=(7:UInt8)) rfl rfl) (Run.llz [] 2 ZB rfl (ZQ 40 hx rfl (λv hx=> ?_) (λv hx=> ?_))))
         ·
          refine Run.llz [0] 8 ZB rfl (ZQ 45 hx rfl (λx hx=> ?_) (λx hx=> ?_))
          ·
           refine Run.llz [0] 8 ZB rfl (ZQ 50 hx rfl (λy hx=> ?_) (λy hx=> ?_))
           ·
            refine Run.llz [0] 8 ZB rfl (ZQ 55 hx rfl (λz hx=> ?_) (λz hx=> ?_))
            ·
             refine Run.llz [0] 8 ZB rfl (ZQ 60 hx rfl (λa0 hx=> ?_) (λa0 hx=> ?_))
             ·
              refine Run.llz [0] 5 ZB rfl (ZA rfl rfl (R.gtr8 (a:=c.Kind) (b:=(0:UInt8)) rfl rfl) (Run.llz [] 2 ZB rfl (ZQ 64 hx rfl (λa1 hx=> ?_) (λa1 hx=> ?_))))
              ·
               refine Run.lnz [] 13 ZB rfl ?_
               obtain rfl:=Option.some.inj hx
               refine JN.forget 0 ?_
               exact ZC ⟨rfl,rfl,rfl⟩ rfl rfl rfl
              ·
               refine Run.llz [0] 8 ZB rfl (ZQ 68 hx rfl (λa2 hx=> ?_) (λa2 hx=> ?_))
               ·
                refine Run.lnz [0] 13 ZB rfl ?_
                obtain rfl:=Option.some.inj hx
                refine JN.forget 0 ?_
                exact ZC ⟨rfl,rfl,rfl⟩ rfl rfl rfl
               ·
                refine Run.lnz [] 10 ZB rfl ?_
                obtain rfl:=Option.some.inj hx
                refine JN.forget 0 ?_
                exact ZC ⟨rfl,rfl,rfl⟩ rfl rfl rfl
             ·
              refine Run.lnz [] 16 ZB rfl ?_
              obtain rfl:=Option.some.inj hx
              refine JN.forget 0 ?_
              exact ZC ⟨rfl,rfl,rfl⟩ rfl rfl rfl
            ·
             refine Run.lnz [] 21 ZB rfl ?_
             obtain rfl:=Option.some.inj hx
             refine JN.forget 0 ?_
             exact ZC ⟨rfl,rfl,rfl⟩ rfl rfl rfl
           ·
            refine Run.lnz [] 26 ZB rfl ?_
            obtain rfl:=Option.some.inj hx
            refine JN.forget 0 ?_
            exact ZC ⟨rfl,rfl,rfl⟩ rfl rfl rfl
          ·
           refine Run.lnz [] 31 ZB rfl ?_
           obtain rfl:=Option.some.inj hx
           refine JN.forget 0 ?_
           exact ZC ⟨rfl,rfl,rfl⟩ rfl rfl rfl
         ·
          refine Run.lnz [] 36 ZB rfl ?_
          obtain rfl:=Option.some.inj hx
          refine JN.forget 0 ?_
          exact ZC ⟨rfl,rfl,rfl⟩ rfl rfl rfl
        ·
         refine Run.lnz [] 41 ZB rfl ?_
         obtain rfl:=Option.some.inj hx
         refine JN.forget 0 ?_
         exact ZC ⟨rfl,rfl,rfl⟩ rfl rfl rfl
      ·
       refine Run.clz [0] 3 ZB rfl (ZA rfl rfl (ZM U26 rfl (IsSlice.long d)) (Run.llz [] 2 ZB rfl (ZQ 29 hx rfl (λa3 hx=> ?_) (λa3 hx=> ?_))))
       ·
        refine Run.llz [0] 5 ZB rfl (ZI hx E52 rfl ref10_None_ok rfl trivial ?_)
        intro b8 b9 hx
        refine Run.lnz [] 3 ZB rfl ?_
        obtain rfl:=Option.some.inj hx
        exact ZC ⟨rfl,rfl,rfl⟩ rfl rfl rfl
       ·
        refine Run.lnz [] 6 ZB rfl ?_
        obtain rfl:=Option.some.inj hx
        exact ZC ⟨rfl,rfl,rfl⟩ rfl rfl rfl
     ·
      refine Run.cl_s [0] 7 ZB rfl (ZA rfl rfl (R.neq8 (a:=c.Kind) (b:=(0:UInt8)) rfl rfl) (ZA rfl rfl (ZW rfl) (ZQ 78 hx rfl (λa4 hx=> ?_) (λa4 hx=> ?_))))
      ·
       refine Run.lnz_sk [] 19 ZB rfl ?_
       exact ZD [] rfl hx rfl rfl
      ·
       refine Run.llz [0] 8 ZB rfl (ZQ 83 hx rfl (λa5 hx=> ?_) (λa5 hx=> ?_))
       ·
        refine Run.lnz_sk [] 14 ZB rfl ?_
        exact ZD [] rfl hx rfl rfl
       ·
        refine Run.lcz_s [0] 9 ZB rfl (ZG hx rfl (λa6 hx=> ?_) (λa6 hx=> ?_))
        ·
         refine Run.cnz_k [] 7 ZB rfl ?_
         exact ZD [] rfl hx rfl rfl
        ·
         refine Run.cc_s [] 3 ZB rfl (ZO hx [] [] rfl rfl (λi l0 o0 l o g=>l=(2,.bool i)::l0∧o=o0∧H=g) (λi c0 hx=> ?_) (λi c1 hx=> ?_))
         ·
          rintro _ _ _ ⟨rfl,rfl,rfl⟩
          refine Run.nnz_s [] 2 ZB rfl ?_
          exact ZD [] rfl hx rfl rfl
         ·
          refine Run.clz [0] 3 ZB rfl (ZA rfl rfl (ZM U26 rfl (IsSlice.long d)) (Run.llz [] 2 ZB rfl (ZQ 92 hx rfl (λa7 hx=> ?_) (λa7 hx=> ?_))))
          ·
           refine Run.llz [0] 11 ZB rfl (ZI hx E46 rfl ref10_May_ok rfl trivial ?_)
           intro c2 c3 hx
           refine Run.lnz [] 3 ZB rfl ?_
           obtain rfl:=Option.some.inj hx
           refine JN.forget 0 ?_
           exact ZC ⟨rfl,rfl,rfl⟩ rfl rfl rfl
          ·
           refine Run.llz [0] 5 ZB rfl (ZA rfl rfl (ZM U26 rfl (IsSlice.long d)) (Run.llz [] 4 ZB rfl (ZQ 98 hx rfl (λa8 hx=> ?_) (λa8 hx=> ?_))))
           ·
            refine Run.llz [0] 5 ZB rfl (ZI hx E46 rfl ref10_May_ok rfl trivial ?_)
            intro c4 c5 hx
            refine Run.lnz [] 3 ZB rfl ?_
            obtain rfl:=Option.some.inj hx
            refine JN.forget 0 ?_
            exact ZC ⟨rfl,rfl,rfl⟩ rfl rfl rfl
           ·
            refine Run.lnz [] 6 ZB rfl ?_
            obtain rfl:=Option.some.inj hx
            refine JN.forget 0 ?_
            exact ZC ⟨rfl,rfl,rfl⟩ rfl rfl rfl
theorem ref17_place_ok{a}:Con Tryz.prog 130 true (sp_Change false a) (ref17_place a) (λr=> [.i r]):=by
 intro H b c d f r hx
 refine Does.enterC Tryz.func130 rfl rfl ?_
 intro w
 unfold ref17_place at hx
 refine Run.cl [] 2 ZB rfl (ZV rfl rfl (λh j=>Run.lnz_s [0,0,0] 19 ZB rfl ?_))
 exact ZD [] rfl hx rfl rfl
theorem ref17_mayChanges_ok{q}:Con Tryz.prog 153 true (sp_Pool false q) (ref17_mayChanges q) (λr=> [.b r]):=by
 intro H b9 c0 c1 c2 c3 c4 c5 c6 c7 c8 c9 d0 d1 d2 d3 d4 d5 d6 d7 s d8 d9 e0 e1 e2 e3 e4 e5 e6 e7 e8 f r hx
 refine Does.enterC Tryz.func153 rfl rfl ?_
 intro w
 unfold ref17_mayChanges at hx
 refine Run.cl [] 2 ZB rfl (ZV rfl rfl (λe9 f0=>Run.lc_s [] 9 ZB rfl (ZO hx [] [] rfl rfl (λk l0 o0 l o g=>∃v:Unit,l=l0∧o=o0∧H=g∧k=.inl v) (λk f1 hx=> ?_) (λk h hx=> ?_))))
 ·
  rintro _ _ _ ⟨v,rfl,rfl,rfl,rfl⟩
  simp only[Sum.elim_inl]at hx
  refine Run.nnz_s [] 7 ZB rfl ?_
  exact ZD [] rfl hx rfl rfl
 ·
  refine JC.block (ZS [1] [0] rfl rfl (λl0 o0 j l o g=>l=(3,.int .i64 ((j:Nat):Int))::l0∧o=o0∧H=g) hx ⟨rfl,rfl,rfl⟩ rfl ?_)
  ·
   rintro f2 j _ _ _ ⟨rfl,rfl,rfl⟩ f3 hx d
   unfold ref17_mayChanges_l1 at hx
   refine Run.cl [0] 6 ZB rfl (ZA rfl rfl (ZM U53 rfl (IsSlice.long f)) (Run.lcz_s [] 3 ZB rfl (ZG hx rfl (λm hx=> ?_) (λm hx=> ?_))))
   ·
    refine Run.cl_s [0] 9 ZB rfl ?_
    obtain⟨c,y,hx⟩:=ZJ hx
    obtain⟨f4,f5,f6,z,a0,f7,a1⟩:=IsSlice.elem f y
    obtain⟨f8,rfl,p⟩:=a0
    obtain⟨a2,a3,rfl⟩:=IsSlice.val p
    refine ZA rfl rfl (Zd U53 S101 rfl rfl z) (ZA rfl rfl (Zz 0 S101 rfl a1 rfl rfl) (JL.alloc Z101 rfl (λf9 g0=>Run.ll_s [0,1,0] 9 ZB rfl (ZI hx E127 rfl ref17_Line_ok rfl ⟨s,trivial⟩ ?_))))
    intro g1 g2 hx
    refine Run.lc_s [] 4 ZB rfl (Zh (so:=[(_,[]),(_,[])]) 32 rfl Mixed ⟨by kernel_rfl,by kernel_rfl⟩ (ZX [0,1] rfl) ?_)
    refine JB.run 3 [0,1,2] [] ZB rfl ?_
    refine JB.gX 25 hx rfl (λa4 hx=> ?_) (λa4 hx=> ?_)
    ·
     refine JB.run 29 [3,4,5,6,7,8,9,10,11,12,13,14,15,16,17,18,19,20,21,22,23,24,25,26,27,28,29,30,31] [] ZB rfl ?_
     refine JB.doneN (by kernel_rfl) ?_
     refine Run.nnz_sbk [] 10 ZB rfl ?_
     obtain rfl:=ZH d hx
     refine Run.nnz_kb [] 2 ZB rfl ?_
     clear hx;have hx:=h
     simp only[Sum.elim_inl,Sum.elim_inr]at hx
     refine Run.nnz_kk [] 2 ZB rfl ?_
     exact ZD [] rfl hx rfl rfl
    ·
     refine JB.run 3 [3,4,5] [1] ZB rfl ?_
     obtain⟨a5,a6,hx⟩:=ZJ hx
     obtain⟨g3,g4,g5,a7,a8,g6,a9⟩:=IsSlice.elem s a6
     obtain⟨g7,rfl,b0⟩:=a8
     obtain⟨g8,g9,rfl⟩:=IsSlice.val b0
     refine JB.val (i:=6) [] rfl (Zd U52 S99 rfl rfl a7) ?_
     refine JB.val (i:=7) [] rfl (R.fa F99_1 rfl) ?_
     refine JB.val (i:=8) [] rfl (ZY S5 rfl (a9 1 _ rfl)) ?_
     refine JB.val (i:=9) [] rfl (R.neq8 (a:=a5.Kind) (b:=(1:UInt8)) rfl rfl) ?_
     refine JB.run 2 [10,11] [] ZB rfl ?_
     refine JB.gX 34 hx rfl (λb1 hx=> ?_) (λb1 hx=> ?_)
     ·
      refine JB.run 20 [12,13,14,15,16,17,18,19,20,21,22,23,24,25,26,27,28,29,30,31] [] ZB rfl ?_
      refine JB.doneN (by kernel_rfl) ?_
      refine Run.nnz_sbk [] 10 ZB rfl ?_
      obtain rfl:=ZH d hx
      refine Run.nnz_kb [] 2 ZB rfl ?_
      clear hx;have hx:=h
      simp only[Sum.elim_inl,Sum.elim_inr]at hx
      refine Run.nnz_kk [] 2 ZB rfl ?_
      exact ZD [] rfl hx rfl rfl
     ·
      refine JB.val (i:=12) [] rfl (R.ldoN 0 (vs:=[.int .i64 c.Set,.int .i64 c.Obj,.int .i64 c.Index,.int .u8 (c.Kind.toNat:Int),.int .i64 c.Links,.int .i64 c.Size,.slice a2 c.Data.length a3,.int .i64 c.Laid.At,.int .u32 (c.Laid.Birth.toNat:Int),.int .u32 (c.Laid.Iv.toNat:Int),.int .u32 (c.Laid.Tag.toNat:Int),.int .u32 (c.Laid.Sum.toNat:Int)]) S101 rfl rfl rfl rfl) ?_
      refine JB.one (i:=13) (by kernel_rfl) ?_
      refine JOB.step rfl ⟨_,_,rfl,rfl,rfl⟩ rfl (λK hK=>ZI hx E85 rfl ref17_MayChange_ok rfl ⟨p,trivial⟩ ?_)
      intro h0 h1 hx
      refine JL.nil (hK _ _ _ (Hle.refl _) (ZX [0,1] rfl) ?_)
      refine JB.run 3 [14,15,16] [] ZB rfl ?_
      refine JB.gX 39 hx rfl (λb2 hx=> ?_) (λb2 hx=> ?_)
      ·
       refine JB.run 15 [17,18,19,20,21,22,23,24,25,26,27,28,29,30,31] [] ZB rfl ?_
       refine JB.doneN (by kernel_rfl) ?_
       refine Run.nnz_sbk [] 10 ZB rfl ?_
       obtain rfl:=ZH d hx
       refine Run.nnz_kb [] 2 ZB rfl ?_
       clear hx;have hx:=h
       simp only[Sum.elim_inl,Sum.elim_inr]at hx
       refine Run.nnz_kk [] 2 ZB rfl ?_
       exact ZD [] rfl hx rfl rfl
      ·
       refine JB.run 3 [17,18,19] [] ZB rfl ?_
       refine JB.gX 42 hx rfl (λb3 hx=> ?_) (λb3 hx=> ?_)
       ·
        refine JB.run 5 [20,22,23,24,25] [0,1] ZB rfl ?_
        obtain⟨h2,b4,hx⟩:=ZJ hx
        obtain⟨h3,h4,h5,b5,b6,h6,b7⟩:=IsSlice.elem f b4
        obtain⟨h7,rfl,x⟩:=b6
        obtain⟨h8,h9,rfl⟩:=IsSlice.val x
        refine JB.val (i:=26) [] rfl (Zd U53 S101 rfl rfl b5) ?_
        refine JB.val (i:=27) [] rfl (Zz 0 S101 rfl b7 rfl rfl) ?_
        refine JB.one (i:=21) (by kernel_rfl) ?_
        refine JOB.step rfl ⟨_,_,rfl,rfl,rfl⟩ rfl (λK hK=>ZI hx E130 rfl ref17_place_ok rfl ⟨p,trivial⟩ ?_)
        intro i0 i1 hx
        refine JL.nil (hK _ _ _ (Hle.refl _) (ZX [0,1] rfl) ?_)
        refine JB.one (i:=28) (by kernel_rfl) ?_
        refine JOB.step rfl ⟨_,_,rfl,rfl,rfl⟩ rfl (λK hK=>ZI hx E130 rfl ref17_place_ok rfl ⟨x,trivial⟩ ?_)
        intro i2 i3 hx
        refine JL.nil (hK _ _ _ (Hle.refl _) (ZX [0,1] rfl) ?_)
        refine JB.run 3 [29,30,31] [] ZB rfl ?_
        refine JB.doneN (by kernel_rfl) ?_
        refine Zw (ZG hx rfl (λb8 hx=> ?_) (λb8 hx=> ?_))
        ·
         refine Run.cnz_bk [] 8 ZB rfl ?_
         obtain rfl:=ZH d hx
         refine Run.nnz_kb [] 2 ZB rfl ?_
         clear hx;have hx:=h
         simp only[Sum.elim_inl,Sum.elim_inr]at hx
         refine Run.nnz_kk [] 2 ZB rfl ?_
         exact ZD [] rfl hx rfl rfl
        ·
         refine Run.clz_bs [] 5 ZB rfl (ZA rfl rfl (Zi rfl rfl (of_decide_eq_true m) (IsSlice.lenI f)) (Run.lnz [] 2 ZB rfl ?_))
         replace hx:=ZP d hx
         refine JN.forget 0 ?_
         exact ZC ⟨j+1,⟨rfl,rfl,rfl⟩,hx⟩ rfl rfl rfl
       ·
        refine JB.run 12 [20,21,22,23,24,25,26,27,28,29,30,31] [] ZB rfl ?_
        refine JB.doneN (by kernel_rfl) ?_
        refine Run.nlz_sbs [] 7 ZB rfl (ZA rfl rfl (Zi rfl rfl (of_decide_eq_true m) (IsSlice.lenI f)) (Run.lnz [] 2 ZB rfl ?_))
        replace hx:=ZP d hx
        refine JN.forget 0 ?_
        exact ZC ⟨j+1,⟨rfl,rfl,rfl⟩,hx⟩ rfl rfl rfl
   ·
    refine Run.cnz_k [] 2 ZB rfl ?_
    obtain rfl:=ZH d hx
    refine Run.nnz_kb [] 2 ZB rfl (JN.forget 0 ?_)
    exact ZC ⟨(),rfl,rfl,rfl,rfl⟩ rfl rfl rfl
end Go.Proofs.YtebhagohhbmgoaaGreat
