import Derived.Test.YtebhagohhbmgoaaGreatW2p4
/- walks: what the code computes, function by function. -/
set_option linter.unusedSimpArgs false
set_option linter.unusedVariables false
namespace Go.Proofs.YtebhagohhbmgoaaGreat
open Go.Ow Go.RowKit Go.Proofs
set_option maxHeartbeats 8000000
theorem ref02_Key_ok{x}:Con Tryz.prog 264 true ([.sl false RU8 1 x]) (ref02_Key x) (λr=> [.row true RU8 5 1 r]):=by
 intro H b5 b6 b7 a7 r hx
 refine Does.enterC Tryz.func264 rfl rfl ?_
 intro w
 unfold ref02_Key at hx
 refine Run.cl [] 8 ZB rfl (ZI hx E168 rfl ref02_Four_ok rfl ⟨a7,trivial⟩ ?_)
 intro y b8 hx
 refine JL.alloc Z156 rfl (λb9 c0=>Run.lc_s [0] 14 ZB rfl (ZO hx [] [] rfl rfl (λm l0 o0 l o g=>∃p:Option Addr,∃q:Nat,∃s:Nat,∃v:Own,l=(4,.slice p q s)::l0∧o=v::o0∧H=g∧RowOf (New H H) RU8 w.heap.size 5 1 (.slice p q s) m v) (λm c1 hx=> ?_) (λm c2 hx=> ?_)))
 ·
  rintro _ _ _ ⟨p,q,s,v,rfl,rfl,rfl,a8⟩
  refine Run.nnz_s [] 8 ZB rfl ?_
  exact ZD [0] rfl hx rfl ⟨⟨_,a8⟩,rfl⟩
 ·
  refine JC.block (JC.seg0 (ZR 1 rfl (ZR 1 rfl (ZS [3] [1] rfl rfl (λl0 o0 f l o g=>∃h:Option Addr,∃i:Nat,∃j:Nat,∃k:Own,l=(4,.slice h i j)::(5,.int .i64 ((f.2:Nat):Int))::l0∧o=k::o0∧H=g∧RowOf (New H H) RU8 w.heap.size 5 1 (.slice h i j) f.1 k) hx ⟨none,0,0,[],rfl,rfl,rfl,(RowOf.nil _ _ _ _ _)⟩ rfl ?_))))
  ·
   rintro c3 f _ _ _ ⟨h,i,j,k,rfl,rfl,rfl,z⟩ c4 hx a0
   unfold ref02_Key_l2 at hx
   refine Run.cc [] 7 ZB rfl (ZG hx rfl (λa1 hx=> ?_) (λa1 hx=> ?_))
   ·
    refine Run.cl_s [] 7 ZB rfl (ZA rfl rfl (R.quo_i rfl rfl (by decide)) ?_)
    obtain⟨c5,a2,hx⟩:=ZJ hx
    refine ZA rfl rfl (R.ixAd (L:=y.l) U156 S27 rfl rfl rfl a2) (ZA rfl rfl (R.ldoA (enc:=(λa:UInt32=>Value.int .u32 (a.toNat:Int))) (L:=y.l) 1 S27 rfl rfl rfl a2) (Run.lc_s [] 9 ZB rfl (ZO hx [3,4,5] [1,0] rfl rfl (λc l0 o0 l o g=>l=(6,.int .u32 (c.toNat:Int))::l0∧o=o0∧H=g) (λc c6 hx=> ?_) (λc c7 hx=> ?_))))
    ·
     rintro _ _ _ ⟨rfl,rfl,rfl⟩
     refine Run.nlz_s [] 4 ZB rfl (ZA rfl rfl (R.rem32 (a:=c) (b:=(256:UInt32)) rfl rfl (by decide)) (ZA rfl rfl (R.cv_u32_u8 (a:=c%(256:UInt32)) U27 U5 rfl) (Zx (HF:=(New H H)) (R:=RU8) (ls:=[(c%(256:UInt32)).toUInt8]) (vs:=[.int .u8 (((c%(256:UInt32)).toUInt8).toNat:Int)]) U26 I5 rfl rfl (⟨_,_,rfl,rfl,rfl,rfl⟩) RU8.one rfl rfl rfl (by simp[maxLen]) rfl (λc8 c9 a3=> ?_))))
     obtain⟨d0,d1,rfl⟩:=RowOf.val a3
     obtain⟨a4,a9,b0,hx⟩:=Zb hx
     refine Zl (HF:=(New H H)) 2 U26 I5 rfl rfl z rfl (SrcF.row 0 U26 rfl a3) a9 b0 rfl (Nat.le_refl _) rfl (λd2 b1 a5=> ?_)
     obtain⟨b2,b3,rfl⟩:=RowOf.val a5
     refine Run.llz_bs [] 6 ZB rfl (ZA rfl rfl (Zi rfl rfl (of_decide_eq_true a1) (by decide)) ?_)
     refine Run.lnz [] 2 ZB rfl ?_
     replace hx:=ZP a0 hx
     refine JN.forget 0 (ZE 1 rfl ?_)
     exact ZC ⟨(a4,f.2+1),⟨b2,a4.length,b3,b1,rfl,rfl,rfl,a5⟩,hx⟩ rfl rfl rfl
    ·
     refine JC.block (ZR 1 rfl (ZS [3,4,5] [0,1] rfl rfl (λl0 o0 d l o g=>l=(6,.int .u32 (d.1.toNat:Int))::(7,.int .i64 d.2)::l0∧o=o0∧H=g) hx ⟨rfl,rfl,rfl⟩ rfl ?_))
     ·
      rintro d3 d _ _ _ ⟨rfl,rfl,rfl⟩ d4 hx a6
      unfold ref02_Key_l1 at hx
      refine Run.cl [] 5 ZB rfl (ZA rfl rfl (R.rem_i rfl rfl (by decide)) ?_)
      refine Run.lcz_s [] 3 ZB rfl (ZG hx rfl (λb4 hx=> ?_) (λb4 hx=> ?_))
      ·
       refine Run.cl_s [] 6 ZB rfl (ZA rfl rfl (R.quo32 (a:=d.1) (b:=(256:UInt32)) rfl rfl (by decide)) ?_)
       refine Run.lnz_bs [] 9 ZB rfl ?_
       replace hx:=ZP a6 hx
       refine ZE 1 rfl (ZE 1 rfl ?_)
       exact ZC ⟨(d.1/(256:UInt32),w64 (d.2+1)),⟨rfl,rfl,rfl⟩,hx⟩ rfl rfl rfl
      ·
       refine Run.cnz_k [] 2 ZB rfl ?_
       obtain rfl:=ZH a6 hx
       refine Run.nnz_kb [] 2 ZB rfl (ZE 1 rfl (ZE 1 rfl ?_))
       exact ZC ⟨rfl,rfl,rfl⟩ rfl rfl rfl
   ·
    refine Run.cnz_k [] 2 ZB rfl ?_
    obtain rfl:=ZH a0 hx
    refine Run.nnz_kb [] 2 ZB rfl (JN.forget 1 ?_)
    exact ZC ⟨h,i,j,k,rfl,rfl,rfl,z⟩ rfl rfl rfl
theorem ref03_Inner_ok{a b}:Con Tryz.prog 263 true ([.sl false RU8 1 a,.sl false RU8 1 b]) (ref03_Inner a b) (λr=> [.row true RU8 5 1 r]):=by
 intro H a0 a1 a2 i a3 a4 a5 j r hx
 refine Does.enterC Tryz.func263 rfl rfl ?_
 intro w
 unfold ref03_Inner at hx
 refine Run.cl [] 14 ZB rfl (JL.seg0 ?_)
 obtain⟨a6,k,m,hx⟩:=Zb hx
 refine Zl (HF:=(New H H)) 0 U26 I5 rfl rfl (RowOf.nil _ RU8 _ _ _) rfl (SrcF.sliceC RU8.const RU8.one U26 i) k m rfl (Nat.le_refl _) rfl (λa7 a8 c=> ?_)
 obtain⟨a9,b0,rfl⟩:=RowOf.val c
 refine Run.ll_s [] 6 ZB rfl (Zx (HF:=(New H H)) (R:=RU8) (ls:=[(1:UInt8)]) (vs:=[.int .u8 ((1:UInt8).toNat:Int)]) U26 I5 rfl rfl (⟨_,_,rfl,rfl,rfl,rfl⟩) RU8.one rfl rfl rfl (by simp[maxLen]) rfl (λb1 b2 d=> ?_))
 obtain⟨b3,b4,rfl⟩:=RowOf.val d
 obtain⟨b5,p,q,hx⟩:=Zb hx
 refine Zl (HF:=(New H H)) 1 U26 I5 rfl rfl c rfl (SrcF.row 0 U26 rfl d) p q rfl (Nat.le_refl _) rfl (λb6 b7 f=> ?_)
 obtain⟨b8,b9,rfl⟩:=RowOf.val f
 refine Run.ll_s [] 7 ZB rfl ?_
 obtain⟨c0,s,v,hx⟩:=Zb hx
 refine Zl (HF:=(New H H)) 1 U26 I5 rfl rfl f rfl (SrcF.sliceC RU8.const RU8.one U26 j) s v rfl (Nat.le_refl _) rfl (λc1 c2 h=> ?_)
 obtain⟨c3,c4,rfl⟩:=RowOf.val h
 refine Run.ll_s [] 6 ZB rfl (JL.conL hx E264 rfl ref02_Key_ok rfl (λc5 x y=>⟨(Lent.row' 1 y RU8.mono x rfl (h.old RU8.mono)),trivial⟩) (λ_=>⟨RU8.const,trivial⟩) ?_)
 intro c6 c7 hx c8 c9 d0 d1 z
 refine Run.lnz_s [] 4 ZB rfl ?_
 exact ZD [0] rfl hx rfl ⟨⟨_,z⟩,rfl⟩
theorem ref03_Of_ok{a b}:Con Tryz.prog 226 true ([.sl false RU8 1 a,.sl false RU8 1 b]) (ref03_Of a b) (λr=> [.w32 r]):=by
 intro H a0 a1 a2 c a3 a4 a5 j r hx
 refine Does.enterC Tryz.func226 rfl rfl ?_
 intro w
 unfold ref03_Of at hx
 refine Run.cl [] 14 ZB rfl (JL.seg0 ?_)
 obtain⟨a6,k,m,hx⟩:=Zb hx
 refine Zl (HF:=(New H H)) 0 U26 I5 rfl rfl (RowOf.nil _ RU8 _ _ _) rfl (SrcF.sliceC RU8.const RU8.one U26 c) k m rfl (Nat.le_refl _) rfl (λa7 a8 d=> ?_)
 obtain⟨a9,b0,rfl⟩:=RowOf.val d
 refine Run.ll_s [] 6 ZB rfl (Zx (HF:=(New H H)) (R:=RU8) (ls:=[(2:UInt8)]) (vs:=[.int .u8 ((2:UInt8).toNat:Int)]) U26 I5 rfl rfl (⟨_,_,rfl,rfl,rfl,rfl⟩) RU8.one rfl rfl rfl (by simp[maxLen]) rfl (λb1 b2 f=> ?_))
 obtain⟨b3,b4,rfl⟩:=RowOf.val f
 obtain⟨b5,p,q,hx⟩:=Zb hx
 refine Zl (HF:=(New H H)) 1 U26 I5 rfl rfl d rfl (SrcF.row 0 U26 rfl f) p q rfl (Nat.le_refl _) rfl (λb6 b7 h=> ?_)
 obtain⟨b8,b9,rfl⟩:=RowOf.val h
 refine Run.ll_s [] 8 ZB rfl (ZI hx E263 rfl ref03_Inner_ok rfl ⟨c,j,trivial⟩ ?_)
 intro c0 c1 hx c2 c3 c4 c5 s
 obtain⟨c6,v,x,hx⟩:=Zb hx
 refine Zl (HF:=(New H H)) 2 U26 I5 rfl rfl h rfl (SrcF.row 0 U26 rfl s) v x rfl (Nat.le_refl _) rfl (λc7 c8 i=> ?_)
 obtain⟨c9,d0,rfl⟩:=RowOf.val i
 refine Run.ll_s [] 6 ZB rfl (JL.conL hx E107 rfl ref02_Sum_ok rfl (λd1 y z=>⟨(Lent.row' 2 z RU8.mono y rfl (i.old RU8.mono)),trivial⟩) (λ_=>trivial) ?_)
 intro d2 d3 hx
 refine Run.lnz_s [] 4 ZB rfl ?_
 exact ZD [] rfl hx rfl rfl
theorem ref06_Tag_ok{c b d}:Con Tryz.prog 174 true ([.sl false RU8 1 c,.w32 b,.sl false RU8 1 d]) (ref06_Tag c b d) (λr=> [.w32 r]):=by
 intro H s v x i y z a0 j r hx
 refine Does.enterC Tryz.func174 rfl rfl ?_
 intro w
 unfold ref06_Tag at hx
 refine Run.cl [] 8 ZB rfl (ZA rfl rfl (R.cv_u32_i64 (a:=b) U27 U3 rfl) (ZI hx E225 rfl ref01_Bytes_ok rfl trivial ?_))
 intro a1 a2 hx a3 a4 a5 a6 k
 refine Run.ll_s [] 8 ZB rfl ?_
 obtain⟨a7,m,p,hx⟩:=Zb hx
 refine Zl (HF:=(New H H)) 0 U26 I5 rfl rfl k rfl (SrcF.sliceC RU8.const RU8.one U26 j) m p rfl (Nat.le_refl _) rfl (λa8 a9 f=> ?_)
 obtain⟨b0,b1,rfl⟩:=RowOf.val f
 refine JL.conL hx E226 rfl ref03_Of_ok rfl (λb2 h q=>⟨(IsSlice.mono RU8.mono h i),(Lent.row' 0 q RU8.mono h rfl (f.old RU8.mono)),trivial⟩) (λ_=>trivial) ?_
 intro b3 b4 hx
 refine Run.lnz_s [] 4 ZB rfl ?_
 exact ZD [] rfl hx rfl rfl
theorem ref05_Bytes_ok{a1 q s}:Con Tryz.prog 227 false ([.sl false RU8 1 a1,.w32 q,.i s]) (ref05_Bytes a1 q s) (λr=> [.sl true RU8 1 r]):=by
 intro H d2 d3 d4 b1 r hx
 refine Does.enterC Tryz.func227 rfl rfl ?_
 intro w
 unfold ref05_Bytes at hx
 refine Run.cc [] 16 ZB rfl (ZO hx [2] [] rfl rfl (λd l0 o0 l o g=>∃v:Option Addr,∃x:Nat,∃y:Nat,∃z:Own,l=(7,.slice v x y)::l0∧o=z::o0∧H=g∧RowOf (New H H) RU8 w.heap.size 5 1 (.slice v x y) d z) (λd d5 hx=> ?_) (λd d6 hx=> ?_))
 ·
  rintro _ _ _ ⟨v,x,y,z,rfl,rfl,rfl,b2⟩
  refine Run.nl_s [] 5 ZB rfl (JL.pubN 0 RU8.mono rfl b2 (Nat.le_refl _) (λd7 d8 b3=>JL.forget 0 ?_))
  obtain⟨d9,b4,a0,hx⟩:=slc_some hx
  obtain⟨e0,a2,h1v_17,h2v_17,h3v_17,a3⟩:=IsSlice.cutv b3 b4 a0
  refine ZA rfl rfl (R.slc (cap:=a2) (a:=0) (b:=s) (c:=(a2:Int)) (m:=d) (R:=RU8) U26 S5 rfl rfl ⟨_,rfl⟩ (by obtain⟨ao,n,e,_⟩:=h1v_17;exact⟨ao,n,e,rfl⟩) ⟨a0.1,a0.2.1,h2v_17⟩ h3v_17 (.inl rfl)) ?_
  obtain⟨e1,e2,rfl⟩:=IsSlice.val a3
  refine Run.lnz_s [] 4 ZB rfl ?_
  exact Zj [] rfl hx rfl ⟨a3,rfl⟩
 ·
  refine JC.block (JC.seg0 (ZS [0,1,2] [] rfl rfl (λl0 o0 f l o g=>∃h:Option Addr,∃j:Nat,∃k:Nat,∃p:Own,l=(7,.slice h j k)::(8,.int .i64 f.2)::l0∧o=p::o0∧H=g∧RowOf (New H H) RU8 w.heap.size 5 1 (.slice h j k) f.1 p) hx ⟨none,0,0,[],rfl,rfl,rfl,(RowOf.nil _ _ _ _ _)⟩ rfl ?_))
  ·
   rintro e3 f _ _ _ ⟨h,j,k,p,rfl,rfl,rfl,a4⟩ e4 hx a5
   unfold ref05_Bytes_l1 at hx
   refine Run.cc [] 9 ZB rfl (ZG hx rfl (λb5 hx=> ?_) (λb5 hx=> ?_))
   ·
    refine Run.cl_s [] 13 ZB rfl (JL.seg0 ?_)
    obtain⟨e5,b6,b7,hx⟩:=Zb hx
    refine Zl (HF:=(New H H)) 0 U26 I5 rfl rfl (RowOf.nil _ RU8 _ _ _) rfl (SrcF.sliceC RU8.const RU8.one U26 b1) b6 b7 rfl (Nat.le_refl _) rfl (λe6 e7 a6=> ?_)
    obtain⟨e8,e9,rfl⟩:=RowOf.val a6
    refine Run.ll_s [] 7 ZB rfl (ZA rfl rfl (R.cv_u32_i64 (a:=q) U27 U3 rfl) (ZI hx E225 rfl ref01_Bytes_ok rfl trivial ?_))
    intro f0 f1 hx f2 f3 f4 f5 b8
    obtain⟨f6,b9,c0,hx⟩:=Zb hx
    refine Zl (HF:=(New H H)) 1 U26 I5 rfl rfl a6 rfl (SrcF.row 0 U26 rfl b8) b9 c0 rfl (Nat.le_refl _) rfl (λf7 f8 a7=> ?_)
    obtain⟨f9,g0,rfl⟩:=RowOf.val a7
    refine Run.ll_s [] 7 ZB rfl (ZI hx E225 rfl ref01_Bytes_ok rfl trivial ?_)
    intro g1 g2 hx g3 g4 g5 g6 c1
    obtain⟨g7,c2,c3,hx⟩:=Zb hx
    refine Zl (HF:=(New H H)) 2 U26 I5 rfl rfl a7 rfl (SrcF.row 0 U26 rfl c1) c2 c3 rfl (Nat.le_refl _) rfl (λg8 g9 a8=> ?_)
    obtain⟨h0,h1,rfl⟩:=RowOf.val a8
    refine Run.llz_s [] 6 ZB rfl (JL.conL hx E264 rfl ref02_Key_ok rfl (λh2 c4 c5=>⟨(Lent.row' 2 c5 RU8.mono c4 rfl (a8.old RU8.mono)),trivial⟩) (λ_=>⟨RU8.const,trivial⟩) ?_)
    intro h3 h4 hx h5 h6 h7 h8 c6
    obtain⟨a9,c7,c8,hx⟩:=Zb hx
    refine Zl (HF:=(New H H)) 4 U26 I5 rfl rfl a4 rfl (SrcF.row 0 U26 rfl c6) c7 c8 rfl (Nat.le_refl _) rfl (λh9 c9 b0=> ?_)
    obtain⟨d0,d1,rfl⟩:=RowOf.val b0
    refine Run.lnz_bs [] 9 ZB rfl ?_
    replace hx:=ZP a5 hx
    refine JN.forget 3 (JN.forget 2 (JN.forget 1 (JN.forget 0 ?_)))
    exact ZC ⟨(a9,w64 (f.2+1)),⟨d0,a9.length,d1,c9,rfl,rfl,rfl,b0⟩,hx⟩ rfl rfl rfl
   ·
    refine Run.cnz_k [] 2 ZB rfl ?_
    obtain rfl:=ZH a5 hx
    refine Run.nnz_kb [] 2 ZB rfl ?_
    exact ZC ⟨h,j,k,p,rfl,rfl,rfl,a4⟩ rfl rfl rfl
theorem ref05_Turned_ok{a1 a2 a3}:Con Tryz.prog 175 false ([.sl false RU8 1 a1,.w32 a2,.sl false RU8 1 a3]) (ref05_Turned a1 a2 a3) (λr=> [.row true RU8 5 1 r]):=by
 intro H c7 c8 c9 b0 d0 d1 d2 d r hx
 refine Does.enterC Tryz.func175 rfl rfl ?_
 intro w
 unfold ref05_Turned at hx
 refine Run.cl [] 10 ZB rfl (ZA rfl rfl (ZM U26 rfl (IsSlice.long d)) (Zv hx E227 rfl ref05_Bytes_ok rfl ⟨b0,trivial⟩ ?_))
 intro d3 d4 hx c b1 d5 d6 d7 b2
 refine Run.lc_s [] 14 ZB rfl (ZO hx [] [] rfl rfl (λq l0 o0 l o g=>∃s:Option Addr,∃v:Nat,∃x:Nat,∃y:Own,l=(8,.slice s v x)::l0∧o=y::o0∧c=g∧RowOf (New H c) RU8 w.heap.size 5 1 (.slice s v x) q y) (λq d8 hx=> ?_) (λq d9 hx=> ?_))
 ·
  rintro _ _ _ ⟨s,v,x,y,rfl,rfl,rfl,b3⟩
  refine Run.nnz_s [] 8 ZB rfl ?_
  exact Zj [0] rfl hx rfl ⟨⟨_,b3⟩,rfl⟩
 ·
  refine JC.block (JC.seg0 (ZS [2,7] [] rfl rfl (λl0 o0 f l o g=>∃h:Option Addr,∃k:Nat,∃m:Nat,∃p:Own,l=(8,.slice h k m)::(9,.int .i64 ((f.2:Nat):Int))::l0∧o=p::o0∧c=g∧RowOf (New H c) RU8 w.heap.size 5 1 (.slice h k m) f.1 p) hx ⟨none,0,0,[],rfl,rfl,rfl,(RowOf.nil _ _ _ _ _)⟩ rfl ?_))
  ·
   rintro e0 f _ _ _ ⟨h,k,m,p,rfl,rfl,rfl,a4⟩ e1 hx a5
   unfold ref05_Turned_l1 at hx
   refine Run.cl [] 5 ZB rfl (ZA rfl rfl (ZM U26 rfl (IsSlice.long d)) (Run.lcz_s [] 3 ZB rfl (ZG hx rfl (λa6 hx=> ?_) (λa6 hx=> ?_))))
   ·
    refine Run.cc_s [] 4 ZB rfl (Zh (so:=[(_,[11])]) 13 rfl Mixed ⟨by kernel_rfl,by kernel_rfl⟩ (ZX [0] rfl) ?_)
    refine JB.run 3 [0,1,2] [] ZB rfl ?_
    obtain⟨z,b4,hx⟩:=ZJ hx
    obtain⟨e2,e3,e4,b5,b6,e5,b7⟩:=IsSlice.elem (d.mono RU8.mono b1) b4
    obtain rfl:=b6
    refine JB.val (i:=3) [] rfl (Zd U26 S5 rfl rfl b5) ?_
    refine JB.val (i:=4) [] rfl (ZY S5 rfl (b7 0 _ rfl)) ?_
    refine JB.run 2 [5,6] [] ZB rfl ?_
    obtain⟨a0,b8,hx⟩:=ZJ hx
    obtain⟨e6,e7,e8,b9,c0,e9,c1⟩:=IsSlice.elem b2 b8
    obtain rfl:=c0
    refine JB.val (i:=7) [] rfl (Zd U26 S5 rfl rfl b9) ?_
    refine JB.val (i:=8) [] rfl (ZY S5 rfl ((λj u e=>New.le _ _ _ _ _ (c1 j u e)) 0 _ rfl)) ?_
    refine JB.val (i:=9) [] rfl (R.xor8 (a:=z) (b:=a0) rfl rfl) ?_
    refine JB.one (i:=10) (by kernel_rfl) ?_
    refine JOB.step rfl trivial rfl (λK hK=>Zx (HF:=(New H c)) (R:=RU8) (ls:=[z^^^a0]) (vs:=[.int .u8 ((z^^^a0).toNat:Int)]) U26 I5 rfl rfl (⟨_,_,rfl,rfl,rfl,rfl⟩) RU8.one rfl rfl rfl (by simp[maxLen]) rfl (λf0 f1 a7=> ?_))
    obtain⟨f2,f3,rfl⟩:=RowOf.val a7
    refine JL.nil (hK _ _ _ (Hle.refl _) (ZX [1] rfl) ?_)
    refine JB.one (i:=11) (by kernel_rfl) ?_
    refine JOB.step rfl trivial rfl (λK hK=> ?_)
    obtain⟨a8,c2,c3,hx⟩:=Zb hx
    refine Zl (HF:=(New H c)) 1 U26 I5 rfl rfl a4 rfl (SrcF.row 0 U26 rfl a7) c2 c3 rfl (Nat.le_refl _) rfl (λf4 c4 a9=> ?_)
    obtain⟨c5,c6,rfl⟩:=RowOf.val a9
    refine JL.nil (hK _ _ _ (Hle.refl _) (kept1 [true] [0] (by kernel_rfl) rfl) ?_)
    refine JB.val (i:=12) [] rfl (R.assign rfl) ?_
    refine JB.doneN (by kernel_rfl) ?_
    refine Run.nlz_bs [] 4 ZB rfl (ZA rfl rfl (Zi rfl rfl (of_decide_eq_true a6) (IsSlice.lenI d)) (Run.lnz [] 2 ZB rfl ?_))
    replace hx:=ZP a5 hx
    refine JN.forget 0 ?_
    exact ZC ⟨(a8,f.2+1),⟨c5,a8.length,c6,c4,rfl,rfl,rfl,a9⟩,hx⟩ rfl rfl rfl
   ·
    refine Run.cnz_k [] 2 ZB rfl ?_
    obtain rfl:=ZH a5 hx
    refine Run.nnz_kb [] 2 ZB rfl ?_
    exact ZC ⟨h,k,m,p,rfl,rfl,rfl,a4⟩ rfl rfl rfl
theorem ref06_Open_ok{h j k c}:Con Tryz.prog 110 false ([.sl false RU8 1 h,.w32 j,.sl false RU8 1 k,.w32 c]) (ref06_Open h j k c) (λr=> [.row true RU8 5 1 r.1,.i r.2]):=by
 intro H v x y d z a0 a1 f r hx
 refine Does.enterC Tryz.func110 rfl rfl ?_
 intro w
 unfold ref06_Open at hx
 refine Run.cl [] 10 ZB rfl (ZI hx E173 rfl ref06_asked_ok rfl ⟨d,f,trivial⟩ ?_)
 intro a2 a3 hx
 refine Run.lc_s [] 10 ZB rfl (ZG hx rfl (λm hx=> ?_) (λm hx=> ?_))
 ·
  refine Run.cnz_k [] 9 ZB rfl (ZZ ?_)
  exact Zj [0] rfl hx rfl ⟨⟨0,RowOf.nil _ _ _ _ _⟩,rfl⟩
 ·
  refine Run.cl_s [] 8 ZB rfl (ZI hx E174 rfl ref06_Tag_ok rfl ⟨d,f,trivial⟩ ?_)
  intro p a4 hx
  refine ZA rfl rfl (ZW rfl) (ZA rfl rfl (R.neq32 (a:=p) (b:=c) rfl rfl) (Run.lcz_s [] 2 ZB rfl (ZG hx rfl (λq hx=> ?_) (λq hx=> ?_))))
  ·
   refine Run.cnz_k [] 8 ZB rfl (ZZ ?_)
   exact Zj [0] rfl hx rfl ⟨⟨0,RowOf.nil _ _ _ _ _⟩,rfl⟩
  ·
   refine Run.cl_s [] 7 ZB rfl (Zv hx E175 rfl ref05_Turned_ok rfl ⟨d,f,trivial⟩ ?_)
   intro a5 a6 hx a7 a8 a9 b0 b1 b2 s
   refine Run.lnz_s [] 5 ZB rfl ?_
   exact Zj [0] rfl hx rfl ⟨⟨_,s⟩,rfl⟩
theorem ref13_Opened_ok{a b c}:Con Tryz.prog 49 true (sp_Store false a++sp_Ptr false b++ [.sl false RU8 1 c]) (ref13_Opened a b c) (λr=> [.row true RU8 5 1 r.1,.i r.2]):=by
 intro H y z a0 h a1 a2 a3 j a4 a5 a6 k a7 a8 a9 d r hx
 refine Does.enterC Tryz.func49 rfl rfl ?_
 intro w
 unfold ref13_Opened at hx
 refine Run.cl [] 2 ZB rfl (ZV rfl rfl (λb0 b1=>ZV rfl rfl (λb2 b3=>Run.ll_s [1,0] 8 ZB rfl (ZI hx E47 rfl ref13_Seen_ok rfl ⟨h,j,k,trivial⟩ ?_))))
 intro b4 b5 hx b6 b7 b8 b9 m
 refine Run.lc_s [] 14 ZB rfl (ZG hx rfl (λp hx=> ?_) (λp hx=> ?_))
 ·
  refine Run.cnz_k [] 9 ZB rfl (ZZ ?_)
  exact ZD [0] rfl hx rfl ⟨⟨0,RowOf.nil _ _ _ _ _⟩,rfl⟩
 ·
  refine Run.cl_s [] 6 ZB rfl (ZA rfl rfl (ZM U26 rfl (IsSlice.long d)) (Run.lcz_s [] 3 ZB rfl (ZG hx rfl (λq hx=> ?_) (λq hx=> ?_))))
  ·
   refine Run.cnz_k [] 8 ZB rfl (ZZ ?_)
   exact ZD [0] rfl hx rfl ⟨⟨0,RowOf.nil _ _ _ _ _⟩,rfl⟩
  ·
   refine Run.cl_s [1,1] 10 ZB rfl (JL.conL hx E110 rfl ref06_Open_ok rfl (λc0 f s=>⟨(IsSlice.mono RU8.mono f d),(Lent.row' 0 s RU8.mono f rfl (m.old RU8.mono)),trivial⟩) (λ_=>⟨RU8.const,trivial⟩) ?_)
   intro c1 c2 hx c3 c4 c5 c6 v
   refine Run.lc_s [] 14 ZB rfl (ZG hx rfl (λx hx=> ?_) (λx hx=> ?_))
   ·
    refine Run.cnz_k [] 8 ZB rfl (ZZ ?_)
    exact ZD [0] rfl hx rfl ⟨⟨0,RowOf.nil _ _ _ _ _⟩,rfl⟩
   ·
    refine Run.cnz_s [] 10 ZB rfl ?_
    exact ZD [0] rfl hx rfl ⟨⟨_,v⟩,rfl⟩
theorem ref20_Read_ok{a h j m}:Con Tryz.prog 26 false (sp_Pool false a++ [.i h,.i j,.i m]) (ref20_Read a h j m) (λr=> [.row true RU8 5 1 r.1,.i r.2]):=by
 intro H b0 b1 b2 p b3 b4 b5 q b6 b7 b8 s b9 c0 c1 a5 c2 c3 c4 v c5 c6 c7 a6 c8 c9 d0 x d1 d2 d3 z r hx
 refine Does.enterC Tryz.func26 rfl rfl ?_
 intro w
 unfold ref20_Read at hx
 refine Run.cl [] 2 ZB rfl (ZV rfl rfl (λa0 h8=>Run.ll_s [0] 8 ZB rfl (ZI hx E70 rfl ref20_Asked_ok rfl ⟨p,q,s,a5,v,a6,x,z,trivial⟩ ?_)))
 intro d4 h9 hx
 refine Run.lc_s [] 14 ZB rfl (ZG hx rfl (λe1 hx=> ?_) (λe1 hx=> ?_))
 ·
  refine Run.cnz_k [] 9 ZB rfl (ZZ ?_)
  exact Zj [0] rfl hx rfl ⟨⟨0,RowOf.nil _ _ _ _ _⟩,rfl⟩
 ·
  refine Run.cl_s [] 8 ZB rfl (ZQ 31 hx rfl (λe2 hx=> ?_) (λe2 hx=> ?_))
  ·
   refine Run.lnz_sk [] 22 ZB rfl (ZZ ?_)
   exact Zj [0] rfl hx rfl ⟨⟨0,RowOf.nil _ _ _ _ _⟩,rfl⟩
  ·
   refine Run.llz [] 6 ZB rfl (ZQ 35 hx rfl (λe3 hx=> ?_) (λe3 hx=> ?_))
   ·
    refine Run.lnz_sk [] 18 ZB rfl (ZZ ?_)
    exact Zj [0] rfl hx rfl ⟨⟨0,RowOf.nil _ _ _ _ _⟩,rfl⟩
   ·
    refine Run.llz [] 6 ZB rfl (ZQ 39 hx rfl (λe4 hx=> ?_) (λe4 hx=> ?_))
    ·
     refine Run.lnz_sk [] 14 ZB rfl (ZZ ?_)
     exact Zj [0] rfl hx rfl ⟨⟨0,RowOf.nil _ _ _ _ _⟩,rfl⟩
    ·
     refine Run.lcz_s [] 7 ZB rfl (ZG hx rfl (λe5 hx=> ?_) (λe5 hx=> ?_))
     ·
      refine Run.cnz_k [] 8 ZB rfl (ZZ ?_)
      exact Zj [0] rfl hx rfl ⟨⟨0,RowOf.nil _ _ _ _ _⟩,rfl⟩
     ·
      refine Run.cc_s [] 3 ZB rfl (Zh (so:=[(_,[])]) 11 rfl Mixed ⟨by kernel_rfl,by kernel_rfl⟩ (ZX [0] rfl) ?_)
      refine JB.run 5 [0,1,2,3,4] [0,0] ZB rfl ?_
      obtain⟨i0,e6,hx⟩:=ZJ hx
      obtain⟨i1,i2,i3,e7,e8,i4,e9⟩:=IsSlice.elem v e6
      obtain⟨i5,rfl,f0⟩:=e8
      obtain⟨i6,i7,rfl⟩:=IsSlice.val f0
      refine JB.val (i:=5) [] rfl (Zd U52 S99 rfl rfl e7) ?_
      refine JB.val (i:=6) [] rfl (R.fa F99_6 rfl) ?_
      refine JB.val (i:=7) [] rfl (ZY S3 rfl (e9 6 _ rfl)) ?_
      obtain⟨a1,f1,hx⟩:=ZJ hx
      obtain⟨i8,i9,j0,f2,f3,j1,f4⟩:=IsSlice.elem x f1
      obtain⟨j2,rfl,a7⟩:=f3
      obtain⟨d5,d6,rfl⟩:=IsSlice.val a7
      refine JB.val (i:=8) [] rfl (Zd U22 S26 rfl rfl f2) ?_
      refine JB.val (i:=9) [] rfl (ZY S26 rfl (f4 0 _ rfl)) ?_
      refine JB.val (i:=10) [] rfl (R.assign rfl) ?_
      refine JB.doneN (by kernel_rfl) ?_
      refine Run.nl_s [] 5 ZB rfl (ZA rfl rfl (ZM U26 rfl (IsSlice.long a7)) (Run.lcz_s [] 3 ZB rfl (JC.tidy (l':=[(1,.int .i64 h),(2,.int .i64 j),(3,.int .i64 m),(4,.pointer (some ⟨a0,0,none⟩)),(8,.slice none 0 0),(9,.int .i64 0),(10,.int .i64 d4.1),(12,.slice d5 a1.length d6),(55,.bool (decide ((a1.length:Int)=0)))]) (own':=[[(a0,.cells #[.slice b0 b1 b2,.slice b3 b4 b5,.slice b6 b7 b8,.int .u32 (a.Store.Epoch.toNat:Int),.int .u32 (a.Store.Count.toNat:Int),.int .u32 (a.Gen.toNat:Int),.int .i64 a.Root.At,.int .u32 (a.Root.Birth.toNat:Int),.int .u32 (a.Root.Iv.toNat:Int),.int .u32 (a.Root.Tag.toNat:Int),.int .u32 (a.Root.Sum.toNat:Int),.slice b9 c0 c1,.slice c2 c3 c4,.slice c5 c6 c7,.slice c8 c9 d0,.slice d1 d2 d3,.int .i64 a.Logged,.int .i64 a.NextId,.int .u32 (a.NextGuid.toNat:Int)] 55 (0,0))]]) ⟨rfl,rfl,rfl,rfl,rfl,rfl,rfl,rfl,rfl,trivial⟩ rfl (JC.tidyP (l':=[(1,.int .i64 h),(2,.int .i64 j),(3,.int .i64 m),(4,.pointer (some ⟨a0,0,none⟩)),(8,.slice none 0 0),(9,.int .i64 0),(10,.int .i64 d4.1),(12,.slice d5 a1.length d6),(55,.bool (decide ((a1.length:Int)=0)))]) (own':=[[(a0,.cells #[.slice b0 b1 b2,.slice b3 b4 b5,.slice b6 b7 b8,.int .u32 (a.Store.Epoch.toNat:Int),.int .u32 (a.Store.Count.toNat:Int),.int .u32 (a.Gen.toNat:Int),.int .i64 a.Root.At,.int .u32 (a.Root.Birth.toNat:Int),.int .u32 (a.Root.Iv.toNat:Int),.int .u32 (a.Root.Tag.toNat:Int),.int .u32 (a.Root.Sum.toNat:Int),.slice b9 c0 c1,.slice c2 c3 c4,.slice c5 c6 c7,.slice c8 c9 d0,.slice d1 d2 d3,.int .i64 a.Logged,.int .i64 a.NextId,.int .u32 (a.NextGuid.toNat:Int)] 55 (0,0))]]) (rst:=[]) ⟨rfl,rfl,rfl,rfl,rfl,rfl,rfl,rfl,rfl,trivial⟩ (Ze 0 rfl ZT) (ZG hx rfl (λf5 hx=> ?_) (λf5 hx=> ?_))))))
      ·
       refine Run.cnz_k [] 8 ZB rfl (ZZ ?_)
       exact Zj [0] rfl hx rfl ⟨⟨0,RowOf.nil _ _ _ _ _⟩,rfl⟩
      ·
       refine Run.cl_s [0] 7 ZB rfl (Zv hx E71 rfl ref20_got_ok rfl ⟨p,q,s,a5,v,a6,x,z,trivial⟩ ?_)
       intro j3 j4 hx a2 b j5 j6 j7 j8
       refine Run.llz [] 3 ZB rfl (JL.alloc Z101 rfl (λj9 k0=>Run.lc_s [0] 11 ZB rfl (ZG hx rfl (λf6 hx=> ?_) (λf6 hx=> ?_))))
       ·
        refine Run.cnz_k [] 9 ZB rfl (ZZ ?_)
        exact Zj [0] rfl hx rfl ⟨⟨0,RowOf.nil _ _ _ _ _⟩,rfl⟩
       ·
        refine Run.cl_s [1] 9 ZB rfl (ZI hx E72 rfl ref20_Change_ok rfl ⟨(z.mono R_Change.mono b),trivial⟩ ?_)
        intro f k1 hx k2 k3 k4 d7
        refine Run.llz [] 3 ZB rfl (JL.alloc Z101 rfl (λk5 k6=>Run.ll_s [0,0] 8 ZB rfl (JL.alloc Z31 rfl (λf7 k7=>Run.lc_s [0] 4 ZB rfl (ZO hx [2,3,4,10,12,16,17] [3,0] rfl rfl (λa8 l0 o0 l o g=>∃d8:Unit,l=l0∧o=o0∧a2=g∧a8=.inl d8) (λa8 k8 hx=> ?_) (λa8 f8 hx=> ?_))))))
        ·
         rintro _ _ _ ⟨d8,rfl,rfl,rfl,rfl⟩
         simp only[Sum.elim_inl]at hx
         refine Run.nc_s [] 8 ZB rfl (ZO hx [4,12,17] [0] rfl rfl (λa9 l0 o0 l o g=>∃d:Ptr,∃a3:Heaplet,l=l0∧o= [(f7,.cells #[.int .i64 d.At,.int .u32 (d.Birth.toNat:Int),.int .u32 (d.Iv.toNat:Int),.int .u32 (d.Tag.toNat:Int),.int .u32 (d.Sum.toNat:Int)] 31 (0,0))]::o0∧a3=g∧a9=.inl d∧Hle a2 a3) (λa9 k9 hx=> ?_) (λa9 f9 hx=> ?_))
         ·
          rintro _ _ _ ⟨d,a3,rfl,rfl,rfl,rfl,a4⟩
          simp only[Sum.elim_inl]at hx
          refine Run.nl_s [0] 5 ZB rfl (ZI hx E52 rfl ref10_None_ok rfl trivial ?_)
          intro l1 l2 hx
          refine Run.lcz_s [] 2 ZB rfl (ZG hx rfl (λg0 hx=> ?_) (λg0 hx=> ?_))
          ·
           refine Run.cl [] 2 ZB rfl ?_
           obtain⟨l3,g1,g2,hx⟩:=mks_some hx
           refine JL.mkF (HF:=New H a3) (R:=RU8) (y:=(0:UInt8)) (n:=256) U26 I5 rfl rfl (λ_=>rfl) RU8.one g1 g2 rfl rfl (λl4 l5 d9=> ?_)
           obtain⟨l6,l7,rfl⟩:=RowOf.val d9
           refine Run.lnz_sk [] 6 ZB rfl ?_
           exact Zj [0] rfl hx rfl ⟨⟨_,d9⟩,rfl⟩
          ·
           refine Run.cl_s [1,0] 8 ZB rfl (ZI hx E49 rfl ref13_Opened_ok rfl ⟨(p.mono (RSl.mono RU8.mono) (b.trans a4)),(q.mono R_Write.mono (b.trans a4)),(s.mono RU8.mono (b.trans a4)),(a7.mono RU8.mono (b.trans a4)),trivial⟩ ?_)
           intro l8 l9 hx m0 m1 m2 m3 g3
           refine Run.lnz_s [] 7 ZB rfl ?_
           exact Zj [0] rfl hx rfl ⟨⟨_,g3⟩,rfl⟩
         ·
          refine ZG hx rfl (λg4 hx=> ?_) (λg4 hx=> ?_)
          ·
           refine Run.cl [0] 5 ZB rfl (Zv hx E73 rfl ref20_rooted_ok rfl ⟨(p.mono (RSl.mono RU8.mono) b),(q.mono R_Write.mono b),(s.mono RU8.mono b),(a5.mono RInt.mono b),(v.mono R_Line.mono b),(a6.mono (RSl.mono RU8.mono) b),(x.mono (RSl.mono RU8.mono) b),(z.mono R_Change.mono b),trivial⟩ ?_)
           intro m4 m5 hx g5 g6 m6 m7 m8 m9 g7
           refine Run.llz [] 3 ZB rfl (JL.alloc Z113 rfl (λn0 n1=>Run.lc_s [0] 11 ZB rfl (ZG hx rfl (λg8 hx=> ?_) (λg8 hx=> ?_))))
           ·
            refine Run.cnz_k [] 9 ZB rfl ?_
            obtain rfl:=Option.some.inj hx
            clear hx;have hx:=f9
            simp only[Sum.elim_inl,Sum.elim_inr]at hx
            refine Run.nnz_kk [] 2 ZB rfl (ZZ ?_)
            exact Zj [0] rfl hx rfl ⟨⟨0,RowOf.nil _ _ _ _ _⟩,rfl⟩
           ·
            refine Run.clz_s [0] 6 ZB rfl ?_
            obtain⟨c,g9,hx⟩:=ZJ hx
            obtain⟨n2,n3,n4,n5,h0,h1,h2,n6,h3⟩:=RowOf.elem g7 g9
            subst h0
            obtain rfl:=h2
            refine ZA rfl rfl (Zd U97 S31 rfl rfl h1) (ZA rfl rfl (R.ldoE 1 (cs:=[.int .i64 c.At,.int .u32 (c.Birth.toNat:Int),.int .u32 (c.Iv.toNat:Int),.int .u32 (c.Tag.toNat:Int),.int .u32 (c.Sum.toNat:Int)]) (k:=0) (vs:=[.int .i64 c.At,.int .u32 (c.Birth.toNat:Int),.int .u32 (c.Iv.toNat:Int),.int .u32 (c.Tag.toNat:Int),.int .u32 (c.Sum.toNat:Int)]) S31 rfl rfl h3 rfl rfl) (Run.lnz [3] 2 ZB rfl ?_))
            obtain rfl:=Option.some.inj hx
            refine JN.forget 1 (JN.forget 0 (ZE 1 rfl ?_))
            exact ZC ⟨c,g5,rfl,rfl,rfl,rfl,(g6)⟩ rfl rfl rfl
          ·
           refine JC.skip ?_
           obtain rfl:=Option.some.inj hx
           refine ZE 1 rfl ?_
           exact ZC ⟨Ptr.mk f.1.Laid.At f.1.Laid.Birth f.1.Laid.Iv f.1.Laid.Tag f.1.Laid.Sum,a2,rfl,rfl,rfl,rfl,(Hle.refl _)⟩ rfl rfl rfl
        ·
         refine Run.cl [] 4 ZB rfl (ZQ 78 hx rfl (λh4 hx=> ?_) (λh4 hx=> ?_))
         ·
          refine Run.llz [1] 5 ZB rfl (ZA rfl rfl (ZM U26 rfl (IsSlice.long d7)) (Run.lcz_s [] 5 ZB rfl (ZG hx rfl (λh5 hx=> ?_) (λh5 hx=> ?_))))
          ·
           refine Run.cl [1] 4 ZB rfl (JL.seg0 ?_)
           obtain⟨n7,h6,h7,hx⟩:=Zb hx
           refine Zl (HF:=(New H a2)) 0 U26 I5 rfl rfl (RowOf.nil _ RU8 _ _ _) rfl (SrcF.sliceC RU8.const RU8.one U26 d7) h6 h7 rfl (Nat.le_refl _) rfl (λn8 n9 e0=> ?_)
           obtain⟨o1,o2,rfl⟩:=RowOf.val e0
           refine Run.lnz_s [] 5 ZB rfl ?_
           obtain rfl:=Option.some.inj hx
           clear hx;have hx:=f8
           simp only[Sum.elim_inl,Sum.elim_inr]at hx
           refine Run.nnz_kk [] 2 ZB rfl ?_
           exact Zj [0] rfl hx rfl ⟨⟨_,e0⟩,rfl⟩
          ·
           refine JC.skip ?_
           obtain rfl:=Option.some.inj hx
           refine JN.forget 2 (JN.forget 1 (ZE 1 rfl ?_))
           exact ZC ⟨(),rfl,rfl,rfl,rfl⟩ rfl rfl rfl
         ·
          refine Run.lnz_s [] 9 ZB rfl ?_
          obtain rfl:=Option.some.inj hx
          refine JN.forget 2 (JN.forget 1 (ZE 1 rfl ?_))
          exact ZC ⟨(),rfl,rfl,rfl,rfl⟩ rfl rfl rfl
theorem data_Get_ok{c d a}:Con Tryz.prog 27 false (sp_Pool false c++ [.i d,.i a]) (data_Get c d a) (λr=> [.w8 r.1,.i r.2.1,.i r.2.2.1,.i r.2.2.2]):=by
 intro H a3 a4 a5 f a6 a7 a8 h a9 b0 b1 j b2 b3 b4 k b5 b6 b7 m b8 b9 c0 p c1 c2 c3 q c4 c5 c6 s r hx
 refine Does.enterC Tryz.func27 rfl rfl ?_
 intro w
 unfold data_Get at hx
 refine Run.cl [] 2 ZB rfl (ZV rfl rfl (λc7 c8=>Run.ll_s [0] 10 ZB rfl (ZI hx E65 rfl data_find_ok rfl ⟨f,h,j,k,m,p,q,s,trivial⟩ ?_)))
 intro c9 d0 hx d1 d2 d3 x
 refine Run.llz [] 3 ZB rfl (JL.alloc Z99 rfl (λd4 d5=>Run.lc_s [0] 5 ZB rfl (ZO hx [2,3,10] [1,0] rfl rfl (λb l0 o0 l o g=>l=(9,.int .i64 b)::l0∧o=o0∧H=g) (λb d6 hx=> ?_) (λb d7 hx=> ?_))))
 ·
  rintro _ _ _ ⟨rfl,rfl,rfl⟩
  refine Run.nc_s [] 8 ZB rfl (ZG hx rfl (λy hx=> ?_) (λy hx=> ?_))
  ·
   refine Run.cnz_k [] 11 ZB rfl ?_
   exact Zj [] rfl hx rfl rfl
  ·
   refine Run.cl_s [0,1] 7 ZB rfl (Zv hx E67 rfl data_head_ok rfl ⟨f,h,j,k,m,p,q,s,x,trivial⟩ ?_)
   intro d8 d9 hx e0 e1 e2 e3 e4 e5
   refine Run.llz [] 3 ZB rfl (JL.alloc Z101 rfl (λe6 e7=>Run.lc_s [0] 5 ZB rfl (Zh (so:=[(_,[]),(_,[]),(_,[])]) 11 rfl Mixed ⟨by kernel_rfl,by kernel_rfl⟩ (ZX [0,1,2] rfl) ?_)))
   refine JB.run 11 [0,1,2,3,4,5,6,7,8,9,10] [0,0,0] ZB rfl ?_
   refine JB.doneN (by kernel_rfl) ?_
   refine Run.nnz_s [] 2 ZB rfl ?_
   exact Zj [] rfl hx rfl rfl
 ·
  refine Run.cl [] 5 ZB rfl (ZQ 20 hx rfl (λz hx=> ?_) (λz hx=> ?_))
  ·
   refine Run.llz [] 3 ZB rfl (Zx (HF:=(New H H)) (R:=RInt) (ls:=[a,16]) (vs:=[.int .i64 a,.int .i64 16]) U51 I3 rfl rfl (⟨_,_,rfl,rfl,rfl,⟨_,_,rfl,rfl,rfl,rfl⟩⟩) RInt.one rfl rfl rfl (by simp[maxLen]) rfl (λe8 e9 v=> ?_))
   obtain⟨f0,f1,rfl⟩:=RowOf.val v
   refine Zq rfl rfl rfl (JL.conL hx E66 rfl data_within_ok rfl (λf2 a0 a1=>⟨(Lent.row' 0 a1 RInt.mono a0 rfl (v.old RInt.mono)),trivial⟩) (λ_=>trivial) ?_)
   intro f3 f4 hx
   refine Run.lcz_s [] 5 ZB rfl (ZG hx rfl (λa2 hx=> ?_) (λa2 hx=> ?_))
   ·
    refine Run.cnz [] 3 ZB rfl ?_
    obtain rfl:=Option.some.inj hx
    refine JN.forget 0 (ZE 1 rfl ?_)
    exact ZC ⟨rfl,rfl,rfl⟩ rfl rfl rfl
   ·
    refine JC.skip ?_
    obtain rfl:=Option.some.inj hx
    refine JN.forget 0 (ZE 1 rfl ?_)
    exact ZC ⟨rfl,rfl,rfl⟩ rfl rfl rfl
  ·
   refine Run.lnz_s [] 9 ZB rfl ?_
   obtain rfl:=Option.some.inj hx
   refine ZE 1 rfl ?_
   exact ZC ⟨rfl,rfl,rfl⟩ rfl rfl rfl
theorem ref20_Get_ok{a b c}:Con Tryz.prog 28 false (sp_Pool false a++ [.i b,.i c]) (ref20_Get a b c) (λr=> [.w8 r.1,.i r.2.1,.i r.2.2.1,.i r.2.2.2]):=by
 intro H y z a0 d a1 a2 a3 f a4 a5 a6 h a7 a8 a9 j b0 b1 b2 k b3 b4 b5 m b6 b7 b8 p b9 c0 c1 q r hx
 refine Does.enterC Tryz.func28 rfl rfl ?_
 intro w
 unfold ref20_Get at hx
 refine Run.cl [] 2 ZB rfl (ZV rfl rfl (λc2 c3=>Run.ll_s [0] 10 ZB rfl (ZI hx E70 rfl ref20_Asked_ok rfl ⟨d,f,h,j,k,m,p,q,trivial⟩ ?_)))
 intro c4 c5 hx
 refine Run.lc_s [] 14 ZB rfl (ZG hx rfl (λs hx=> ?_) (λs hx=> ?_))
 ·
  refine Run.cnz_k [] 11 ZB rfl ?_
  exact Zj [] rfl hx rfl rfl
 ·
  refine Run.cl_s [] 8 ZB rfl (ZQ 25 hx rfl (λv hx=> ?_) (λv hx=> ?_))
  ·
   refine Run.lnz_sk [] 16 ZB rfl ?_
   exact Zj [] rfl hx rfl rfl
  ·
   refine Run.lcz_s [] 7 ZB rfl (ZG hx rfl (λx hx=> ?_) (λx hx=> ?_))
   ·
    refine Run.cnz_k [] 10 ZB rfl ?_
    exact Zj [] rfl hx rfl rfl
   ·
    refine Run.cl_s [0] 7 ZB rfl (Zv hx E71 rfl ref20_got_ok rfl ⟨d,f,h,j,k,m,p,q,trivial⟩ ?_)
    intro c6 c7 hx c8 c9 d0 d1 d2 d3
    refine Run.llz [] 3 ZB rfl (JL.alloc Z101 rfl (λd4 d5=>Run.lc_s [0] 5 ZB rfl (Zh (so:=[(_,[]),(_,[])]) 11 rfl Mixed ⟨by kernel_rfl,by kernel_rfl⟩ (ZX [0,1] rfl) ?_)))
    refine JB.run 11 [0,1,2,3,4,5,6,7,8,9,10] [0,0,0] ZB rfl ?_
    refine JB.doneN (by kernel_rfl) ?_
    refine Run.nnz_s [] 2 ZB rfl ?_
    exact Zj [] rfl hx rfl rfl
theorem ref09_Same_ok{v x}:Con Tryz.prog 54 true (sp_Disk false v++sp_Disk false x) (ref09_Same v x) (λr=> [.b r]):=by
 intro H c9 d0 d1 h d2 d3 d4 f d5 d6 d7 y d8 d9 e0 z r hx
 refine Does.enterC Tryz.func54 rfl rfl ?_
 intro w
 unfold ref09_Same at hx
 refine Run.cl [] 2 ZB rfl (ZV rfl rfl (λe1 e2=>ZV rfl rfl (λe3 e4=>Run.ll_s [1] 8 ZB rfl (ZA rfl rfl (ZM U22 rfl (IsSlice.long h)) (Run.llz [0] 2 ZB rfl (ZA rfl rfl (ZM U22 rfl (IsSlice.long y)) (Run.llz [] 2 ZB rfl (ZQ 17 hx rfl (λa4 hx=> ?_) (λa4 hx=> ?_)))))))))
 ·
  refine Run.lnz_sk [] 18 ZB rfl ?_
  exact ZD [] rfl hx rfl rfl
 ·
  refine Run.llz [1] 5 ZB rfl (ZA rfl rfl (ZM U23 rfl (IsSlice.long f)) (Run.llz [0] 5 ZB rfl (ZA rfl rfl (ZM U23 rfl (IsSlice.long z)) (Run.lcz_s [] 5 ZB rfl (ZG hx rfl (λa5 hx=> ?_) (λa5 hx=> ?_))))))
  ·
   refine Run.cnz_k [] 7 ZB rfl ?_
   exact ZD [] rfl hx rfl rfl
  ·
   refine Run.cc_s [] 13 ZB rfl (ZO hx [2,3] [1,0] rfl rfl (λm l0 o0 l o g=>l=(5,.int .i64 m)::l0∧o=o0∧H=g) (λm e5 hx=> ?_) (λm e6 hx=> ?_))
   ·
    rintro _ _ _ ⟨rfl,rfl,rfl⟩
    refine Run.nc_s [] 7 ZB rfl (ZO hx [] [] rfl rfl (λp l0 o0 l o g=>l=(5,.int .i64 p)::l0∧o=o0∧H=g) (λp e7 hx=> ?_) (λp e8 hx=> ?_))
    ·
     rintro _ _ _ ⟨rfl,rfl,rfl⟩
     refine Run.nnz_s [] 9 ZB rfl ?_
     exact ZD [] rfl hx rfl rfl
    ·
     refine JC.block (ZR 1 rfl (ZR 1 rfl (ZS [2,3] [0,1] rfl rfl (λl0 o0 c l o g=>l=(5,.int .i64 c.1)::(7,.int .i64 ((c.2:Nat):Int))::l0∧o=o0∧H=g) hx ⟨rfl,rfl,rfl⟩ rfl ?_)))
     ·
      rintro e9 c _ _ _ ⟨rfl,rfl,rfl⟩ f0 hx j
      unfold ref09_Same_l2 at hx
      refine Run.cl [0] 6 ZB rfl (ZA rfl rfl (ZM U23 rfl (IsSlice.long f)) (Run.lcz_s [] 3 ZB rfl (ZG hx rfl (λk hx=> ?_) (λk hx=> ?_))))
      ·
       refine Run.cl_s [0] 9 ZB rfl ?_
       obtain⟨a6,a7,hx⟩:=ZJ hx
       obtain⟨f1,f2,f3,a8,a9,f4,b0⟩:=IsSlice.elem f a7
       obtain⟨f5,rfl,a0⟩:=a9
       obtain⟨f6,f7,rfl⟩:=IsSlice.val a0
       refine ZA rfl rfl (Zd U23 S96 rfl rfl a8) (ZA rfl rfl (Zz 0 S96 rfl b0 rfl rfl) (JL.alloc Z96 rfl (λf8 f9=>Run.ll_s [0,2] 8 ZB rfl ?_)))
       obtain⟨b1,b2,hx⟩:=ZJ hx
       obtain⟨g0,g1,g2,b3,b4,g3,b5⟩:=IsSlice.elem z b2
       obtain⟨g4,rfl,a1⟩:=b4
       obtain⟨g5,g6,rfl⟩:=IsSlice.val a1
       refine ZA rfl rfl (Zd U23 S96 rfl rfl b3) (ZA rfl rfl (Zz 0 S96 rfl b5 rfl rfl) (JL.alloc Z96 rfl (λg7 g8=>Run.ll_s [0,1,0] 11 ZB rfl (ZQ 70 hx rfl (λb6 hx=> ?_) (λb6 hx=> ?_)))))
       ·
        refine Run.llz_sbs [] 20 ZB rfl (ZA rfl rfl (Zi rfl rfl (of_decide_eq_true k) (IsSlice.lenI f)) (Run.lnz [] 2 ZB rfl ?_))
        replace hx:=ZP j hx
        refine JN.forget 1 (JN.forget 0 (ZE 1 rfl (ZE 1 rfl ?_)))
        exact ZC ⟨(w64 (c.1+1),c.2+1),⟨rfl,rfl,rfl⟩,hx⟩ rfl rfl rfl
       ·
        refine Run.llz [1] 5 ZB rfl (ZA rfl rfl (R.toStr U26 U5 U9 rfl a0) (Run.llz [0] 5 ZB rfl (ZA rfl rfl (R.toStr U26 U5 U9 rfl a1) (Zq rfl rfl rfl (ZA rfl rfl (R.neqStr (a:=a6.Data) (b:=b1.Data) rfl rfl) (Run.lcz_s [] 3 ZB rfl (ZG hx rfl (λb7 hx=> ?_) (λb7 hx=> ?_))))))))
        ·
         refine Run.clz_bs [] 9 ZB rfl (ZA rfl rfl (Zi rfl rfl (of_decide_eq_true k) (IsSlice.lenI f)) (Run.lnz [] 2 ZB rfl ?_))
         replace hx:=ZP j hx
         refine JN.forget 1 (JN.forget 0 (ZE 1 rfl (ZE 1 rfl ?_)))
         exact ZC ⟨(w64 (c.1+1),c.2+1),⟨rfl,rfl,rfl⟩,hx⟩ rfl rfl rfl
        ·
         refine Run.clz_bs [] 5 ZB rfl (ZA rfl rfl (Zi rfl rfl (of_decide_eq_true k) (IsSlice.lenI f)) (Run.lnz [] 2 ZB rfl ?_))
         replace hx:=ZP j hx
         refine JN.forget 1 (JN.forget 0 (ZE 1 rfl (ZE 1 rfl ?_)))
         exact ZC ⟨(c.1,c.2+1),⟨rfl,rfl,rfl⟩,hx⟩ rfl rfl rfl
      ·
       refine Run.cnz_k [] 2 ZB rfl ?_
       obtain rfl:=ZH j hx
       refine Run.nnz_kb [] 2 ZB rfl (JN.forget 1 (JN.forget 0 ?_))
       exact ZC ⟨rfl,rfl,rfl⟩ rfl rfl rfl
   ·
    refine JC.block (ZR 1 rfl (ZS [2,3] [0,1] rfl rfl (λl0 o0 d l o g=>l=(5,.int .i64 d.1)::(6,.int .i64 ((d.2:Nat):Int))::l0∧o=o0∧H=g) hx ⟨rfl,rfl,rfl⟩ rfl ?_))
    ·
     rintro g9 d _ _ _ ⟨rfl,rfl,rfl⟩ h0 hx q
     unfold ref09_Same_l1 at hx
     refine Run.cl [0] 6 ZB rfl (ZA rfl rfl (ZM U22 rfl (IsSlice.long h)) (Run.lcz_s [] 3 ZB rfl (ZG hx rfl (λs hx=> ?_) (λs hx=> ?_))))
     ·
      refine Run.cc_s [] 5 ZB rfl (Zh (so:=[(_,[]),(_,[])]) 13 rfl Mixed ⟨by kernel_rfl,by kernel_rfl⟩ (ZX [0,1] rfl) ?_)
      refine JB.run 3 [0,1,2] [0] ZB rfl ?_
      obtain⟨b8,b9,hx⟩:=ZJ hx
      obtain⟨h1,h2,h3,c0,c1,h4,c2⟩:=IsSlice.elem h b9
      obtain⟨h5,rfl,a2⟩:=c1
      obtain⟨h6,h7,rfl⟩:=IsSlice.val a2
      refine JB.val (i:=3) [] rfl (Zd U22 S26 rfl rfl c0) ?_
      refine JB.val (i:=4) [] rfl (ZY S26 rfl (c2 0 _ rfl)) ?_
      refine JB.val (i:=5) [] rfl (R.toStr U26 U5 U9 rfl a2) ?_
      refine JB.run 3 [6,7,8] [1] ZB rfl ?_
      obtain⟨c3,c4,hx⟩:=ZJ hx
      obtain⟨h8,h9,i0,c5,c6,i1,c7⟩:=IsSlice.elem y c4
      obtain⟨i2,rfl,a3⟩:=c6
      obtain⟨i3,i4,rfl⟩:=IsSlice.val a3
      refine JB.val (i:=9) [] rfl (Zd U22 S26 rfl rfl c5) ?_
      refine JB.val (i:=10) [] rfl (ZY S26 rfl (c7 0 _ rfl)) ?_
      refine JB.val (i:=11) [] rfl (R.toStr U26 U5 U9 rfl a3) ?_
      refine JB.val (i:=12) [] rfl (R.neqStr (a:=b8) (b:=c3) rfl rfl) ?_
      refine JB.doneN (by kernel_rfl) ?_
      refine Zw (ZG hx rfl (λc8 hx=> ?_) (λc8 hx=> ?_))
      ·
       refine Run.clz_bs [] 9 ZB rfl (ZA rfl rfl (Zi rfl rfl (of_decide_eq_true s) (IsSlice.lenI h)) (Run.lnz [] 2 ZB rfl ?_))
       replace hx:=ZP q hx
       refine ZE 1 rfl (ZE 1 rfl ?_)
       exact ZC ⟨(w64 (d.1+1),d.2+1),⟨rfl,rfl,rfl⟩,hx⟩ rfl rfl rfl
      ·
       refine Run.clz_bs [] 5 ZB rfl (ZA rfl rfl (Zi rfl rfl (of_decide_eq_true s) (IsSlice.lenI h)) (Run.lnz [] 2 ZB rfl ?_))
       replace hx:=ZP q hx
       refine ZE 1 rfl (ZE 1 rfl ?_)
       exact ZC ⟨(d.1,d.2+1),⟨rfl,rfl,rfl⟩,hx⟩ rfl rfl rfl
     ·
      refine Run.cnz_k [] 2 ZB rfl ?_
      obtain rfl:=ZH q hx
      refine Run.nnz_kb [] 2 ZB rfl (ZE 1 rfl (ZE 1 rfl ?_))
      exact ZC ⟨rfl,rfl,rfl⟩ rfl rfl rfl
theorem ref13_Same_ok{c d}:Con Tryz.prog 15 true (sp_Store false c++sp_Store false d) (ref13_Same c d) (λr=> [.b r]):=by
 intro H x y z h a0 a1 a2 i a3 a4 a5 j a6 a7 a8 k a9 b0 b1 m b2 b3 b4 p r hx
 refine Does.enterC Tryz.func15 rfl rfl ?_
 intro w
 unfold ref13_Same at hx
 refine Run.cl [] 2 ZB rfl (ZV rfl rfl (λb5 b6=>ZV rfl rfl (λb7 b8=>Run.lc_s [] 4 ZB rfl (ZO hx [] [] rfl rfl (λf l0 o0 l o g=>l=(4,.bool f)::l0∧o=o0∧H=g) (λf b9 hx=> ?_) (λf c0 hx=> ?_)))))
 ·
  rintro _ _ _ ⟨rfl,rfl,rfl⟩
  refine Run.nnz_s [] 2 ZB rfl ?_
  exact ZD [] rfl hx rfl rfl
 ·
  refine Run.clz [1,0] 5 ZB rfl (ZI hx E54 rfl ref09_Same_ok rfl ⟨h,i,k,m,trivial⟩ ?_)
  intro c1 c2 hx
  refine ZA rfl rfl (ZW rfl) (ZQ 10 hx rfl (λq hx=> ?_) (λq hx=> ?_))
  ·
   refine Run.llz [1] 5 ZB rfl (ZA rfl rfl (R.toStr U26 U5 U9 rfl j) (Run.llz [0] 5 ZB rfl (ZA rfl rfl (R.toStr U26 U5 U9 rfl p) (Zq rfl rfl rfl (ZA rfl rfl (R.eqlStr (a:=c.Space) (b:=d.Space) rfl rfl) (Run.llz [] 2 ZB rfl (ZQ 19 hx rfl (λs hx=> ?_) (λs hx=> ?_))))))))
   ·
    refine Run.llz [1,0] 9 ZB rfl (ZA rfl rfl (R.eql32 (a:=c.Epoch) (b:=d.Epoch) rfl rfl) (Run.llz [] 2 ZB rfl (ZQ 26 hx rfl (λv hx=> ?_) (λv hx=> ?_))))
    ·
     refine Run.llz [1,0] 9 ZB rfl (ZA rfl rfl (R.eql32 (a:=c.Count) (b:=d.Count) rfl rfl) (Run.lnz [] 3 ZB rfl ?_))
     obtain rfl:=Option.some.inj hx
     refine JN.forget 1 (JN.forget 0 ?_)
     exact ZC ⟨rfl,rfl,rfl⟩ rfl rfl rfl
    ·
     refine Run.lnz [] 8 ZB rfl ?_
     obtain rfl:=Option.some.inj hx
     refine JN.forget 1 (JN.forget 0 ?_)
     exact ZC ⟨rfl,rfl,rfl⟩ rfl rfl rfl
   ·
    refine Run.lnz [] 15 ZB rfl ?_
    obtain rfl:=Option.some.inj hx
    refine JN.forget 1 (JN.forget 0 ?_)
    exact ZC ⟨rfl,rfl,rfl⟩ rfl rfl rfl
  ·
   refine Run.lnz [] 24 ZB rfl ?_
   obtain rfl:=Option.some.inj hx
   refine JN.forget 1 (JN.forget 0 ?_)
   exact ZC ⟨rfl,rfl,rfl⟩ rfl rfl rfl
theorem ref12_Same_ok{h j}:Con Tryz.prog 39 true ([.sl false RInt 1 h,.sl false RInt 1 j]) (ref12_Same h j) (λr=> [.b r]):=by
 intro H a5 a6 a7 a a8 a9 b0 k r hx
 refine Does.enterC Tryz.func39 rfl rfl ?_
 intro w
 unfold ref12_Same at hx
 refine Run.cl [] 9 ZB rfl (ZA rfl rfl (ZM U51 rfl (IsSlice.long a)) (ZA rfl rfl (ZW rfl) (ZA rfl rfl (ZM U51 rfl (IsSlice.long k)) (Run.lcz_s [] 3 ZB rfl (ZG hx rfl (λq hx=> ?_) (λq hx=> ?_))))))
 ·
  refine Run.cnz_k [] 7 ZB rfl ?_
  exact ZD [] rfl hx rfl rfl
 ·
  refine Run.cc_s [] 8 ZB rfl (ZO hx [] [] rfl rfl (λc l0 o0 l o g=>∃m:Unit,l=l0∧o=o0∧H=g∧c=.inl m) (λc b1 hx=> ?_) (λc s hx=> ?_))
  ·
   rintro _ _ _ ⟨m,rfl,rfl,rfl,rfl⟩
   simp only[Sum.elim_inl]at hx
   refine Run.nnz_s [] 7 ZB rfl ?_
   exact ZD [] rfl hx rfl rfl
  ·
   refine JC.block (ZS [0,1] [] rfl rfl (λl0 o0 d l o g=>l=(5,.int .i64 ((d:Nat):Int))::l0∧o=o0∧H=g) hx ⟨rfl,rfl,rfl⟩ rfl ?_)
   ·
    rintro b2 d _ _ _ ⟨rfl,rfl,rfl⟩ b3 hx f
    unfold ref12_Same_l1 at hx
    refine Run.cl [] 5 ZB rfl (ZA rfl rfl (ZM U51 rfl (IsSlice.long a)) (Run.lcz_s [] 3 ZB rfl (ZG hx rfl (λp hx=> ?_) (λp hx=> ?_))))
    ·
     refine Run.cc_s [] 5 ZB rfl (Zh (so:=[]) 9 rfl Mixed ⟨by kernel_rfl,by kernel_rfl⟩ (ZX [] rfl) ?_)
     refine JB.run 2 [0,1] [] ZB rfl ?_
     obtain⟨b4,v,hx⟩:=ZJ hx
     obtain⟨b5,b6,b7,x,y,b8,z⟩:=IsSlice.elem a v
     obtain rfl:=y
     refine JB.val (i:=2) [] rfl (Zd U51 S3 rfl rfl x) ?_
     refine JB.val (i:=3) [] rfl (ZY S3 rfl (z 0 _ rfl)) ?_
     refine JB.run 2 [4,5] [] ZB rfl ?_
     obtain⟨b9,a0,hx⟩:=ZJ hx
     obtain⟨c0,c1,c2,a1,a2,c3,a3⟩:=IsSlice.elem k a0
     obtain rfl:=a2
     refine JB.val (i:=6) [] rfl (Zd U51 S3 rfl rfl a1) ?_
     refine JB.val (i:=7) [] rfl (ZY S3 rfl (a3 0 _ rfl)) ?_
     refine JB.val (i:=8) [] rfl (R.neq_i rfl rfl) ?_
     refine JB.doneN (by kernel_rfl) ?_
     refine Zw (ZG hx rfl (λa4 hx=> ?_) (λa4 hx=> ?_))
     ·
      refine Run.cnz_bk [] 8 ZB rfl ?_
      obtain rfl:=ZH f hx
      refine Run.nnz_kb [] 2 ZB rfl ?_
      clear hx;have hx:=s
      simp only[Sum.elim_inl,Sum.elim_inr]at hx
      refine Run.nnz_kk [] 2 ZB rfl ?_
      exact ZD [] rfl hx rfl rfl
     ·
      refine Run.clz_bs [] 5 ZB rfl (ZA rfl rfl (Zi rfl rfl (of_decide_eq_true p) (IsSlice.lenI a)) (Run.lnz [] 2 ZB rfl ?_))
      replace hx:=ZP f hx
      exact ZC ⟨d+1,⟨rfl,rfl,rfl⟩,hx⟩ rfl rfl rfl
    ·
     refine Run.cnz_k [] 2 ZB rfl ?_
     obtain rfl:=ZH f hx
     refine Run.nnz_kb [] 2 ZB rfl ?_
     exact ZC ⟨(),rfl,rfl,rfl,rfl⟩ rfl rfl rfl
theorem ref10_Same_ok{m p}:Con Tryz.prog 129 true ([.sl false R_Ptr 5 m,.sl false R_Ptr 5 p]) (ref10_Same m p) (λr=> [.b r]):=by
 intro H a8 a9 b0 c b1 b2 b3 q r hx
 refine Does.enterC Tryz.func129 rfl rfl ?_
 intro w
 unfold ref10_Same at hx
 refine Run.cl [] 9 ZB rfl (ZA rfl rfl (ZM U97 rfl (IsSlice.long c)) (ZA rfl rfl (ZW rfl) (ZA rfl rfl (ZM U97 rfl (IsSlice.long q)) (Run.lcz_s [] 3 ZB rfl (ZG hx rfl (λx hx=> ?_) (λx hx=> ?_))))))
 ·
  refine Run.cnz_k [] 7 ZB rfl ?_
  exact ZD [] rfl hx rfl rfl
 ·
  refine Run.cc_s [] 8 ZB rfl (ZO hx [] [] rfl rfl (λh l0 o0 l o g=>∃s:Unit,l=l0∧o=o0∧H=g∧h=.inl s) (λh b4 hx=> ?_) (λh y hx=> ?_))
  ·
   rintro _ _ _ ⟨s,rfl,rfl,rfl,rfl⟩
   simp only[Sum.elim_inl]at hx
   refine Run.nnz_s [] 7 ZB rfl ?_
   exact ZD [] rfl hx rfl rfl
  ·
   refine JC.block (ZS [0,1] [] rfl rfl (λl0 o0 j l o g=>l=(5,.int .i64 ((j:Nat):Int))::l0∧o=o0∧H=g) hx ⟨rfl,rfl,rfl⟩ rfl ?_)
   ·
    rintro b5 j _ _ _ ⟨rfl,rfl,rfl⟩ b6 hx k
    unfold ref10_Same_l1 at hx
    refine Run.cl [] 5 ZB rfl (ZA rfl rfl (ZM U97 rfl (IsSlice.long c)) (Run.lcz_s [] 3 ZB rfl (ZG hx rfl (λv hx=> ?_) (λv hx=> ?_))))
    ·
     refine Run.cc_s [] 5 ZB rfl (Zh (so:=[]) 9 rfl Mixed ⟨by kernel_rfl,by kernel_rfl⟩ (ZX [] rfl) ?_)
     refine JB.run 2 [0,1] [] ZB rfl ?_
     obtain⟨d,z,hx⟩:=ZJ hx
     obtain⟨b7,b8,b9,a0,a1,c0,a2⟩:=IsSlice.elem c z
     obtain rfl:=a1
     refine JB.val (i:=2) [] rfl (Zd U97 S31 rfl rfl a0) ?_
     refine JB.val (i:=3) [] rfl (Zz 0 S31 rfl a2 rfl rfl) ?_
     refine JB.run 2 [4,5] [] ZB rfl ?_
     obtain⟨f,a3,hx⟩:=ZJ hx
     obtain⟨c1,c2,c3,a4,a5,c4,a6⟩:=IsSlice.elem q a3
     obtain rfl:=a5
     refine JB.val (i:=6) [] rfl (Zd U97 S31 rfl rfl a4) ?_
     refine JB.val (i:=7) [] rfl (Zz 0 S31 rfl a6 rfl rfl) ?_
     refine JB.val (i:=8) [] rfl (R.neqAgg QU31 QP31 QG31 QF31 rfl rfl (EqF.i (by decide) S3 U3 rfl rfl (EqF.u32 (a:=d.Birth) (b:=f.Birth) (by decide) S27 U27 rfl rfl (EqF.u32 (a:=d.Iv) (b:=f.Iv) (by decide) S27 U27 rfl rfl (EqF.u32 (a:=d.Tag) (b:=f.Tag) (by decide) S27 U27 rfl rfl (EqF.u32 (a:=d.Sum) (b:=f.Sum) (by decide) S27 U27 rfl rfl EqF.nil)))))) ?_
     refine JB.doneN (by kernel_rfl) ?_
     refine Zw (ZG hx rfl (λa7 hx=> ?_) (λa7 hx=> ?_))
     ·
      refine Run.cnz_bk [] 8 ZB rfl ?_
      obtain rfl:=ZH k hx
      refine Run.nnz_kb [] 2 ZB rfl ?_
      clear hx;have hx:=y
      simp only[Sum.elim_inl,Sum.elim_inr]at hx
      refine Run.nnz_kk [] 2 ZB rfl ?_
      exact ZD [] rfl hx rfl rfl
     ·
      refine Run.clz_bs [] 5 ZB rfl (ZA rfl rfl (Zi rfl rfl (of_decide_eq_true v) (IsSlice.lenI c)) (Run.lnz [] 2 ZB rfl ?_))
      replace hx:=ZP k hx
      exact ZC ⟨j+1,⟨rfl,rfl,rfl⟩,hx⟩ rfl rfl rfl
    ·
     refine Run.cnz_k [] 2 ZB rfl ?_
     obtain rfl:=ZH k hx
     refine Run.nnz_kb [] 2 ZB rfl ?_
     exact ZC ⟨(),rfl,rfl,rfl,rfl⟩ rfl rfl rfl
theorem ref17_SameLine_ok{c d}:Con Tryz.prog 74 true (sp_Line false c++sp_Line false d) (ref17_SameLine c d) (λr=> [.b r]):=by
 intro H z a0 a1 h a2 a3 a4 j r hx
 refine Does.enterC Tryz.func74 rfl rfl ?_
 intro w
 unfold ref17_SameLine at hx
 refine Run.cl [] 2 ZB rfl (ZV rfl rfl (λa5 a6=>ZV rfl rfl (λa7 a8=>Run.lc_s [] 4 ZB rfl (ZO hx [] [] rfl rfl (λf l0 o0 l o g=>l=(4,.bool f)::l0∧o=o0∧H=g) (λf a9 hx=> ?_) (λf b0 hx=> ?_)))))
 ·
  rintro _ _ _ ⟨rfl,rfl,rfl⟩
  refine Run.nnz_s [] 2 ZB rfl ?_
  exact ZD [] rfl hx rfl rfl
 ·
  refine Run.clz [1,0] 7 ZB rfl (ZQ 10 hx rfl (λk hx=> ?_) (λk hx=> ?_))
  ·
   refine Run.llz [1,0] 9 ZB rfl (ZA rfl rfl (R.eql8 (a:=c.Kind) (b:=d.Kind) rfl rfl) (Run.llz [] 2 ZB rfl (ZQ 17 hx rfl (λm hx=> ?_) (λm hx=> ?_))))
   ·
    refine Run.llz [1,0] 12 ZB rfl (ZQ 24 hx rfl (λp hx=> ?_) (λp hx=> ?_))
    ·
     refine Run.llz [1,0] 12 ZB rfl (ZQ 31 hx rfl (λq hx=> ?_) (λq hx=> ?_))
     ·
      refine Run.llz [1,0] 9 ZB rfl (ZA rfl rfl (R.eql32 (a:=c.Txg) (b:=d.Txg) rfl rfl) (Run.llz [] 2 ZB rfl (ZQ 38 hx rfl (λs hx=> ?_) (λs hx=> ?_))))
      ·
       refine Run.llz [1,0] 9 ZB rfl (ZA rfl rfl (R.eql32 (a:=c.Guid) (b:=d.Guid) rfl rfl) (Run.llz [] 2 ZB rfl (ZQ 45 hx rfl (λv hx=> ?_) (λv hx=> ?_))))
       ·
        refine Run.llz [1,0] 12 ZB rfl (ZQ 52 hx rfl (λx hx=> ?_) (λx hx=> ?_))
        ·
         refine Run.llz [1,0] 9 ZB rfl (ZA rfl rfl (R.eqlAgg QU31 QP31 QG31 QF31 rfl rfl (EqF.i (by decide) S3 U3 rfl rfl (EqF.u32 (a:=c.Root.Birth) (b:=d.Root.Birth) (by decide) S27 U27 rfl rfl (EqF.u32 (a:=c.Root.Iv) (b:=d.Root.Iv) (by decide) S27 U27 rfl rfl (EqF.u32 (a:=c.Root.Tag) (b:=d.Root.Tag) (by decide) S27 U27 rfl rfl (EqF.u32 (a:=c.Root.Sum) (b:=d.Root.Sum) (by decide) S27 U27 rfl rfl EqF.nil)))))) ?_)
         refine Run.llz [] 2 ZB rfl (ZQ 59 hx rfl (λy hx=> ?_) (λy hx=> ?_))
         ·
          refine Run.llz [1,0] 9 ZB rfl (ZI hx E129 rfl ref10_Same_ok rfl ⟨h,j,trivial⟩ ?_)
          intro b1 b2 hx
          refine Run.lnz [] 3 ZB rfl ?_
          obtain rfl:=Option.some.inj hx
          refine JN.forget 1 (JN.forget 0 ?_)
          exact ZC ⟨rfl,rfl,rfl⟩ rfl rfl rfl
         ·
          refine Run.lnz [] 8 ZB rfl ?_
          obtain rfl:=Option.some.inj hx
          refine JN.forget 1 (JN.forget 0 ?_)
          exact ZC ⟨rfl,rfl,rfl⟩ rfl rfl rfl
        ·
         refine Run.lnz [] 15 ZB rfl ?_
         obtain rfl:=Option.some.inj hx
         refine JN.forget 1 (JN.forget 0 ?_)
         exact ZC ⟨rfl,rfl,rfl⟩ rfl rfl rfl
       ·
        refine Run.lnz [] 22 ZB rfl ?_
        obtain rfl:=Option.some.inj hx
        refine JN.forget 1 (JN.forget 0 ?_)
        exact ZC ⟨rfl,rfl,rfl⟩ rfl rfl rfl
      ·
       refine Run.lnz [] 29 ZB rfl ?_
       obtain rfl:=Option.some.inj hx
       refine JN.forget 1 (JN.forget 0 ?_)
       exact ZC ⟨rfl,rfl,rfl⟩ rfl rfl rfl
     ·
      refine Run.lnz [] 36 ZB rfl ?_
      obtain rfl:=Option.some.inj hx
      refine JN.forget 1 (JN.forget 0 ?_)
      exact ZC ⟨rfl,rfl,rfl⟩ rfl rfl rfl
    ·
     refine Run.lnz [] 43 ZB rfl ?_
     obtain rfl:=Option.some.inj hx
     refine JN.forget 1 (JN.forget 0 ?_)
     exact ZC ⟨rfl,rfl,rfl⟩ rfl rfl rfl
   ·
    refine Run.lnz [] 50 ZB rfl ?_
    obtain rfl:=Option.some.inj hx
    refine JN.forget 1 (JN.forget 0 ?_)
    exact ZC ⟨rfl,rfl,rfl⟩ rfl rfl rfl
  ·
   refine Run.lnz [] 57 ZB rfl ?_
   obtain rfl:=Option.some.inj hx
   refine JN.forget 1 (JN.forget 0 ?_)
   exact ZC ⟨rfl,rfl,rfl⟩ rfl rfl rfl
theorem ref17_SameChange_ok{c d}:Con Tryz.prog 75 true (sp_Change false c++sp_Change false d) (ref17_SameChange c d) (λr=> [.b r]):=by
 intro H y z a0 h a1 a2 a3 j r hx
 refine Does.enterC Tryz.func75 rfl rfl ?_
 intro w
 unfold ref17_SameChange at hx
 refine Run.cl [] 2 ZB rfl (ZV rfl rfl (λa4 a5=>ZV rfl rfl (λa6 a7=>Run.lc_s [] 4 ZB rfl (ZO hx [] [] rfl rfl (λf l0 o0 l o g=>l=(4,.bool f)::l0∧o=o0∧H=g) (λf a8 hx=> ?_) (λf a9 hx=> ?_)))))
 ·
  rintro _ _ _ ⟨rfl,rfl,rfl⟩
  refine Run.nnz_s [] 2 ZB rfl ?_
  exact ZD [] rfl hx rfl rfl
 ·
  refine Zh (so:=[(_,[]),(_,[])]) 57 rfl Mixed ⟨by kernel_rfl,by kernel_rfl⟩ (ZX [0,1] rfl) ?_
  refine JB.run 2 [0,2] [1,0] ZB rfl ?_
  refine JB.one (i:=1) (by kernel_rfl) ?_
  refine JOB.step rfl trivial rfl (λK hK=>ZI hx E130 rfl ref17_place_ok rfl ⟨h,trivial⟩ ?_)
  intro b0 b1 hx
  refine JL.nil (hK _ _ _ (Hle.refl _) (ZX [0,1] rfl) ?_)
  refine JB.one (i:=3) (by kernel_rfl) ?_
  refine JOB.step rfl trivial rfl (λK hK=>ZI hx E130 rfl ref17_place_ok rfl ⟨j,trivial⟩ ?_)
  intro b2 b3 hx
  refine JL.nil (hK _ _ _ (Hle.refl _) (ZX [0,1] rfl) ?_)
  refine JB.run 2 [4,5] [] ZB rfl ?_
  refine JB.gX 10 hx rfl (λk hx=> ?_) (λk hx=> ?_)
  ·
   refine JB.run 7 [6,7,8,9,10,11,12] [1,0] ZB rfl ?_
   refine JB.gX 17 hx rfl (λm hx=> ?_) (λm hx=> ?_)
   ·
    refine JB.run 7 [13,14,15,16,17,18,19] [1,0] ZB rfl ?_
    refine JB.gX 24 hx rfl (λp hx=> ?_) (λp hx=> ?_)
    ·
     refine JB.run 4 [20,21,22,23] [1,0] ZB rfl ?_
     refine JB.val (i:=24) [] rfl (R.eql8 (a:=c.Kind) (b:=d.Kind) rfl rfl) ?_
     refine JB.run 2 [25,26] [] ZB rfl ?_
     refine JB.gX 31 hx rfl (λq hx=> ?_) (λq hx=> ?_)
     ·
      refine JB.run 7 [27,28,29,30,31,32,33] [1,0] ZB rfl ?_
      refine JB.gX 38 hx rfl (λs hx=> ?_) (λs hx=> ?_)
      ·
       refine JB.run 7 [34,35,36,37,38,39,40] [1,0] ZB rfl ?_
       refine JB.gX 45 hx rfl (λv hx=> ?_) (λv hx=> ?_)
       ·
        refine JB.run 2 [41,42] [1] ZB rfl ?_
        refine JB.val (i:=43) [] rfl (R.toStr U26 U5 U9 rfl h) ?_
        refine JB.run 2 [44,45] [0] ZB rfl ?_
        refine JB.val (i:=46) [] rfl (R.toStr U26 U5 U9 rfl j) ?_
        refine JB.val (i:=47) [] rfl (R.eqlStr (a:=c.Data) (b:=d.Data) rfl rfl) ?_
        refine JB.run 2 [48,49] [] ZB rfl ?_
        refine JB.gX 54 hx rfl (λx hx=> ?_) (λx hx=> ?_)
        ·
         refine JB.run 4 [50,51,52,53] [1,0] ZB rfl ?_
         refine JB.val (i:=54) [] rfl (R.eqlAgg QU31 QP31 QG31 QF31 rfl rfl (EqF.i (by decide) S3 U3 rfl rfl (EqF.u32 (a:=c.Laid.Birth) (b:=d.Laid.Birth) (by decide) S27 U27 rfl rfl (EqF.u32 (a:=c.Laid.Iv) (b:=d.Laid.Iv) (by decide) S27 U27 rfl rfl (EqF.u32 (a:=c.Laid.Tag) (b:=d.Laid.Tag) (by decide) S27 U27 rfl rfl (EqF.u32 (a:=c.Laid.Sum) (b:=d.Laid.Sum) (by decide) S27 U27 rfl rfl EqF.nil)))))) ?_
         refine JB.run 2 [55,56] [] ZB rfl ?_
         refine JB.doneN (by kernel_rfl) ?_
         obtain rfl:=Option.some.inj hx
         refine JN.forget 1 (JN.forget 0 ?_)
         exact ZC ⟨rfl,rfl,rfl⟩ rfl rfl rfl
        ·
         refine JB.run 7 [50,51,52,53,54,55,56] [] ZB rfl ?_
         refine JB.doneN (by kernel_rfl) ?_
         obtain rfl:=Option.some.inj hx
         refine JN.forget 1 (JN.forget 0 ?_)
         exact ZC ⟨rfl,rfl,rfl⟩ rfl rfl rfl
       ·
        refine JB.run 16 [41,42,43,44,45,46,47,48,49,50,51,52,53,54,55,56] [] ZB rfl ?_
        refine JB.doneN (by kernel_rfl) ?_
        obtain rfl:=Option.some.inj hx
        refine JN.forget 1 (JN.forget 0 ?_)
        exact ZC ⟨rfl,rfl,rfl⟩ rfl rfl rfl
      ·
       refine JB.run 23 [34,35,36,37,38,39,40,41,42,43,44,45,46,47,48,49,50,51,52,53,54,55,56] [] ZB rfl ?_
       refine JB.doneN (by kernel_rfl) ?_
       obtain rfl:=Option.some.inj hx
       refine JN.forget 1 (JN.forget 0 ?_)
       exact ZC ⟨rfl,rfl,rfl⟩ rfl rfl rfl
     ·
      refine JB.run 30 [27,28,29,30,31,32,33,34,35,36,37,38,39,40,41,42,43,44,45,46,47,48,49,50,51,52,53,54,55,56] [] ZB rfl ?_
      refine JB.doneN (by kernel_rfl) ?_
      obtain rfl:=Option.some.inj hx
      refine JN.forget 1 (JN.forget 0 ?_)
      exact ZC ⟨rfl,rfl,rfl⟩ rfl rfl rfl
    ·
     refine JB.run 37 [20,21,22,23,24,25,26,27,28,29,30,31,32,33,34,35,36,37,38,39,40,41,42,43,44,45,46,47,48,49,50,51,52,53,54,55,56] [] ZB rfl ?_
     refine JB.doneN (by kernel_rfl) ?_
     obtain rfl:=Option.some.inj hx
     refine JN.forget 1 (JN.forget 0 ?_)
     exact ZC ⟨rfl,rfl,rfl⟩ rfl rfl rfl
   ·
    refine JB.run 44 [13,14,15,16,17,18,19,20,21,22,23,24,25,26,27,28,29,30,31,32,33,34,35,36,37,38,39,40,41,42,43,44,45,46,47,48,49,50,51,52,53,54,55,56] [] ZB rfl ?_
    refine JB.doneN (by kernel_rfl) ?_
    obtain rfl:=Option.some.inj hx
    refine JN.forget 1 (JN.forget 0 ?_)
    exact ZC ⟨rfl,rfl,rfl⟩ rfl rfl rfl
  ·
   refine JB.run 51 [6,7,8,9,10,11,12,13,14,15,16,17,18,19,20,21,22,23,24,25,26,27,28,29,30,31,32,33,34,35,36,37,38,39,40,41,42,43,44,45,46,47,48,49,50,51,52,53,54,55,56] [] ZB rfl ?_
   refine JB.doneN (by kernel_rfl) ?_
   obtain rfl:=Option.some.inj hx
   refine JN.forget 1 (JN.forget 0 ?_)
   exact ZC ⟨rfl,rfl,rfl⟩ rfl rfl rfl
theorem ref17_sameTexts_ok{j k}:Con Tryz.prog 76 true ([.sl false (RSl RU8 1) 1 j,.sl false (RSl RU8 1) 1 k]) (ref17_sameTexts j k) (λr=> [.b r]):=by
 intro H b0 b1 b2 c b3 b4 b5 m r hx
 refine Does.enterC Tryz.func76 rfl rfl ?_
 intro w
 unfold ref17_sameTexts at hx
 refine Run.cl [] 9 ZB rfl (ZA rfl rfl (ZM U22 rfl (IsSlice.long c)) (ZA rfl rfl (ZW rfl) (ZA rfl rfl (ZM U22 rfl (IsSlice.long m)) (Run.lcz_s [] 3 ZB rfl (ZG hx rfl (λx hx=> ?_) (λx hx=> ?_))))))
 ·
  refine Run.cnz_k [] 7 ZB rfl ?_
  exact ZD [] rfl hx rfl rfl
 ·
  refine Run.cc_s [] 8 ZB rfl (ZO hx [] [] rfl rfl (λd l0 o0 l o g=>∃p:Unit,l=l0∧o=o0∧H=g∧d=.inl p) (λd b6 hx=> ?_) (λd y hx=> ?_))
  ·
   rintro _ _ _ ⟨p,rfl,rfl,rfl,rfl⟩
   simp only[Sum.elim_inl]at hx
   refine Run.nnz_s [] 7 ZB rfl ?_
   exact ZD [] rfl hx rfl rfl
  ·
   refine JC.block (ZS [0,1] [] rfl rfl (λl0 o0 f l o g=>l=(5,.int .i64 ((f:Nat):Int))::l0∧o=o0∧H=g) hx ⟨rfl,rfl,rfl⟩ rfl ?_)
   ·
    rintro b7 f _ _ _ ⟨rfl,rfl,rfl⟩ b8 hx h
    unfold ref17_sameTexts_l1 at hx
    refine Run.cl [] 5 ZB rfl (ZA rfl rfl (ZM U22 rfl (IsSlice.long c)) (Run.lcz_s [] 3 ZB rfl (ZG hx rfl (λq hx=> ?_) (λq hx=> ?_))))
    ·
     refine Run.cc_s [] 5 ZB rfl (Zh (so:=[]) 11 rfl Mixed ⟨by kernel_rfl,by kernel_rfl⟩ (ZX [] rfl) ?_)
     refine JB.run 2 [0,1] [] ZB rfl ?_
     obtain⟨z,a0,hx⟩:=ZJ hx
     obtain⟨b9,c0,c1,a1,a2,c2,a3⟩:=IsSlice.elem c a0
     obtain⟨c3,rfl,s⟩:=a2
     obtain⟨c4,c5,rfl⟩:=IsSlice.val s
     refine JB.val (i:=2) [] rfl (Zd U22 S26 rfl rfl a1) ?_
     refine JB.val (i:=3) [] rfl (ZY S26 rfl (a3 0 _ rfl)) ?_
     refine JB.val (i:=4) [] rfl (R.toStr U26 U5 U9 rfl s) ?_
     refine JB.run 2 [5,6] [] ZB rfl ?_
     obtain⟨a4,a5,hx⟩:=ZJ hx
     obtain⟨c6,c7,c8,a6,a7,c9,a8⟩:=IsSlice.elem m a5
     obtain⟨d0,rfl,v⟩:=a7
     obtain⟨d1,d2,rfl⟩:=IsSlice.val v
     refine JB.val (i:=7) [] rfl (Zd U22 S26 rfl rfl a6) ?_
     refine JB.val (i:=8) [] rfl (ZY S26 rfl (a8 0 _ rfl)) ?_
     refine JB.val (i:=9) [] rfl (R.toStr U26 U5 U9 rfl v) ?_
     refine JB.val (i:=10) [] rfl (R.neqStr (a:=z) (b:=a4) rfl rfl) ?_
     refine JB.doneN (by kernel_rfl) ?_
     refine Zw (ZG hx rfl (λa9 hx=> ?_) (λa9 hx=> ?_))
     ·
      refine Run.cnz_bk [] 8 ZB rfl ?_
      obtain rfl:=ZH h hx
      refine Run.nnz_kb [] 2 ZB rfl ?_
      clear hx;have hx:=y
      simp only[Sum.elim_inl,Sum.elim_inr]at hx
      refine Run.nnz_kk [] 2 ZB rfl ?_
      exact ZD [] rfl hx rfl rfl
     ·
      refine Run.clz_bs [] 5 ZB rfl (ZA rfl rfl (Zi rfl rfl (of_decide_eq_true q) (IsSlice.lenI c)) (Run.lnz [] 2 ZB rfl ?_))
      replace hx:=ZP h hx
      exact ZC ⟨f+1,⟨rfl,rfl,rfl⟩,hx⟩ rfl rfl rfl
    ·
     refine Run.cnz_k [] 2 ZB rfl ?_
     obtain rfl:=ZH h hx
     refine Run.nnz_kb [] 2 ZB rfl ?_
     exact ZC ⟨(),rfl,rfl,rfl,rfl⟩ rfl rfl rfl
theorem ref17_Same_ok{c d}:Con Tryz.prog 29 true (sp_Pool false c++sp_Pool false d) (ref17_Same c d) (λr=> [.b r]):=by
 intro H j k m f7 p q s f8 v x y f9 z a0 a1 g0 a2 a3 a4 a5 a6 a7 a8 g1 a9 b0 b1 g2 b2 b3 b4 b5 b6 b7 b8 g3 b9 c0 c1 g4 c2 c3 c4 g5 c5 c6 c7 g6 c8 c9 d0 e7 d1 d2 d3 g7 d4 d5 d6 g8 d7 d8 d9 e8 r hx
 refine Does.enterC Tryz.func29 rfl rfl ?_
 intro w
 unfold ref17_Same at hx
 refine Run.cl [] 2 ZB rfl (ZV rfl rfl (λf j9=>ZV rfl rfl (λh k0=>Run.ll_s [1,0] 10 ZB rfl (ZI hx E15 rfl ref13_Same_ok rfl ⟨f7,f8,f9,g3,g4,g5,trivial⟩ ?_))))
 intro k1 k2 hx
 refine Run.llz [] 2 ZB rfl (ZQ 13 hx rfl (λg9 hx=> ?_) (λg9 hx=> ?_))
 ·
  refine Run.lnz_sk [] 49 ZB rfl ?_
  exact ZD [] rfl hx rfl rfl
 ·
  refine Run.llz [1,0] 9 ZB rfl (ZA rfl rfl (R.neq32 (a:=c.Gen) (b:=d.Gen) rfl rfl) (Run.llz [] 2 ZB rfl (ZQ 20 hx rfl (λh0 hx=> ?_) (λh0 hx=> ?_))))
  ·
   refine Run.lnz_sk [] 42 ZB rfl ?_
   exact ZD [] rfl hx rfl rfl
  ·
   refine Run.llz [1,0] 9 ZB rfl (ZA rfl rfl (R.neqAgg QU31 QP31 QG31 QF31 rfl rfl (EqF.i (by decide) S3 U3 rfl rfl (EqF.u32 (a:=c.Root.Birth) (b:=d.Root.Birth) (by decide) S27 U27 rfl rfl (EqF.u32 (a:=c.Root.Iv) (b:=d.Root.Iv) (by decide) S27 U27 rfl rfl (EqF.u32 (a:=c.Root.Tag) (b:=d.Root.Tag) (by decide) S27 U27 rfl rfl (EqF.u32 (a:=c.Root.Sum) (b:=d.Root.Sum) (by decide) S27 U27 rfl rfl EqF.nil)))))) ?_)
   refine Run.llz [] 2 ZB rfl (ZQ 27 hx rfl (λh1 hx=> ?_) (λh1 hx=> ?_))
   ·
    refine Run.lnz_sk [] 35 ZB rfl ?_
    exact ZD [] rfl hx rfl rfl
   ·
    refine Run.llz [1,0] 9 ZB rfl (ZI hx E39 rfl ref12_Same_ok rfl ⟨g0,g6,trivial⟩ ?_)
    intro k3 k4 hx
    refine Run.llz [] 4 ZB rfl (ZQ 35 hx rfl (λh2 hx=> ?_) (λh2 hx=> ?_))
    ·
     refine Run.lnz_sk [] 27 ZB rfl ?_
     exact ZD [] rfl hx rfl rfl
    ·
     refine Run.llz [1] 5 ZB rfl (ZA rfl rfl (ZM U52 rfl (IsSlice.long a5)) (Run.llz [0] 5 ZB rfl (ZA rfl rfl (ZM U52 rfl (IsSlice.long e7)) (Run.llz [] 4 ZB rfl (ZQ 44 hx rfl (λh3 hx=> ?_) (λh3 hx=> ?_))))))
     ·
      refine Run.lcz_s [] 10 ZB rfl (JC.tidy (l':=[(2,.pointer (some ⟨f,0,none⟩)),(3,.pointer (some ⟨h,0,none⟩)),(4,.bool false),(52,.bool true)]) (own':=[[(h,.cells #[.slice b6 b7 b8,.slice b9 c0 c1,.slice c2 c3 c4,.int .u32 (d.Store.Epoch.toNat:Int),.int .u32 (d.Store.Count.toNat:Int),.int .u32 (d.Gen.toNat:Int),.int .i64 d.Root.At,.int .u32 (d.Root.Birth.toNat:Int),.int .u32 (d.Root.Iv.toNat:Int),.int .u32 (d.Root.Tag.toNat:Int),.int .u32 (d.Root.Sum.toNat:Int),.slice c5 c6 c7,.slice c8 c9 d0,.slice d1 d2 d3,.slice d4 d5 d6,.slice d7 d8 d9,.int .i64 d.Logged,.int .i64 d.NextId,.int .u32 (d.NextGuid.toNat:Int)] 55 (0,0))],[(f,.cells #[.slice j k m,.slice p q s,.slice v x y,.int .u32 (c.Store.Epoch.toNat:Int),.int .u32 (c.Store.Count.toNat:Int),.int .u32 (c.Gen.toNat:Int),.int .i64 c.Root.At,.int .u32 (c.Root.Birth.toNat:Int),.int .u32 (c.Root.Iv.toNat:Int),.int .u32 (c.Root.Tag.toNat:Int),.int .u32 (c.Root.Sum.toNat:Int),.slice z a0 a1,.slice a2 a3 a4,.slice a6 a7 a8,.slice a9 b0 b1,.slice b2 b3 b4,.int .i64 c.Logged,.int .i64 c.NextId,.int .u32 (c.NextGuid.toNat:Int)] 55 (0,0))]]) ⟨rfl,rfl,rfl,rfl,trivial⟩ rfl (JC.tidyP (l':=[(2,.pointer (some ⟨f,0,none⟩)),(3,.pointer (some ⟨h,0,none⟩)),(4,.bool false),(52,.bool true)]) (own':=[[(h,.cells #[.slice b6 b7 b8,.slice b9 c0 c1,.slice c2 c3 c4,.int .u32 (d.Store.Epoch.toNat:Int),.int .u32 (d.Store.Count.toNat:Int),.int .u32 (d.Gen.toNat:Int),.int .i64 d.Root.At,.int .u32 (d.Root.Birth.toNat:Int),.int .u32 (d.Root.Iv.toNat:Int),.int .u32 (d.Root.Tag.toNat:Int),.int .u32 (d.Root.Sum.toNat:Int),.slice c5 c6 c7,.slice c8 c9 d0,.slice d1 d2 d3,.slice d4 d5 d6,.slice d7 d8 d9,.int .i64 d.Logged,.int .i64 d.NextId,.int .u32 (d.NextGuid.toNat:Int)] 55 (0,0))],[(f,.cells #[.slice j k m,.slice p q s,.slice v x y,.int .u32 (c.Store.Epoch.toNat:Int),.int .u32 (c.Store.Count.toNat:Int),.int .u32 (c.Gen.toNat:Int),.int .i64 c.Root.At,.int .u32 (c.Root.Birth.toNat:Int),.int .u32 (c.Root.Iv.toNat:Int),.int .u32 (c.Root.Tag.toNat:Int),.int .u32 (c.Root.Sum.toNat:Int),.slice z a0 a1,.slice a2 a3 a4,.slice a6 a7 a8,.slice a9 b0 b1,.slice b2 b3 b4,.int .i64 c.Logged,.int .i64 c.NextId,.int .u32 (c.NextGuid.toNat:Int)] 55 (0,0))]]) (rst:=[]) ⟨rfl,rfl,rfl,rfl,trivial⟩ (Ze 0 rfl (Ze 0 rfl ZT)) (Run.cnz_k [] 8 ZB rfl ?_)))
      exact ZD [] rfl hx rfl rfl
     ·
      refine Run.llz [1] 5 ZB rfl (ZA rfl rfl (ZM U53 rfl (IsSlice.long b5)) (Run.llz [0] 5 ZB rfl (ZA rfl rfl (ZM U53 rfl (IsSlice.long e8)) (Run.lcz_s [] 5 ZB rfl (JC.tidy (l':=[(2,.pointer (some ⟨f,0,none⟩)),(3,.pointer (some ⟨h,0,none⟩)),(4,.bool false),(52,.bool (!decide ((c.Changes.length:Int)=(d.Changes.length:Int))))]) (own':=[[(h,.cells #[.slice b6 b7 b8,.slice b9 c0 c1,.slice c2 c3 c4,.int .u32 (d.Store.Epoch.toNat:Int),.int .u32 (d.Store.Count.toNat:Int),.int .u32 (d.Gen.toNat:Int),.int .i64 d.Root.At,.int .u32 (d.Root.Birth.toNat:Int),.int .u32 (d.Root.Iv.toNat:Int),.int .u32 (d.Root.Tag.toNat:Int),.int .u32 (d.Root.Sum.toNat:Int),.slice c5 c6 c7,.slice c8 c9 d0,.slice d1 d2 d3,.slice d4 d5 d6,.slice d7 d8 d9,.int .i64 d.Logged,.int .i64 d.NextId,.int .u32 (d.NextGuid.toNat:Int)] 55 (0,0))],[(f,.cells #[.slice j k m,.slice p q s,.slice v x y,.int .u32 (c.Store.Epoch.toNat:Int),.int .u32 (c.Store.Count.toNat:Int),.int .u32 (c.Gen.toNat:Int),.int .i64 c.Root.At,.int .u32 (c.Root.Birth.toNat:Int),.int .u32 (c.Root.Iv.toNat:Int),.int .u32 (c.Root.Tag.toNat:Int),.int .u32 (c.Root.Sum.toNat:Int),.slice z a0 a1,.slice a2 a3 a4,.slice a6 a7 a8,.slice a9 b0 b1,.slice b2 b3 b4,.int .i64 c.Logged,.int .i64 c.NextId,.int .u32 (c.NextGuid.toNat:Int)] 55 (0,0))]]) ⟨rfl,rfl,rfl,rfl,trivial⟩ rfl (JC.tidyP (l':=[(2,.pointer (some ⟨f,0,none⟩)),(3,.pointer (some ⟨h,0,none⟩)),(4,.bool false),(52,.bool (!decide ((c.Changes.length:Int)=(d.Changes.length:Int))))]) (own':=[[(h,.cells #[.slice b6 b7 b8,.slice b9 c0 c1,.slice c2 c3 c4,.int .u32 (d.Store.Epoch.toNat:Int),.int .u32 (d.Store.Count.toNat:Int),.int .u32 (d.Gen.toNat:Int),.int .i64 d.Root.At,.int .u32 (d.Root.Birth.toNat:Int),.int .u32 (d.Root.Iv.toNat:Int),.int .u32 (d.Root.Tag.toNat:Int),.int .u32 (d.Root.Sum.toNat:Int),.slice c5 c6 c7,.slice c8 c9 d0,.slice d1 d2 d3,.slice d4 d5 d6,.slice d7 d8 d9,.int .i64 d.Logged,.int .i64 d.NextId,.int .u32 (d.NextGuid.toNat:Int)] 55 (0,0))],[(f,.cells #[.slice j k m,.slice p q s,.slice v x y,.int .u32 (c.Store.Epoch.toNat:Int),.int .u32 (c.Store.Count.toNat:Int),.int .u32 (c.Gen.toNat:Int),.int .i64 c.Root.At,.int .u32 (c.Root.Birth.toNat:Int),.int .u32 (c.Root.Iv.toNat:Int),.int .u32 (c.Root.Tag.toNat:Int),.int .u32 (c.Root.Sum.toNat:Int),.slice z a0 a1,.slice a2 a3 a4,.slice a6 a7 a8,.slice a9 b0 b1,.slice b2 b3 b4,.int .i64 c.Logged,.int .i64 c.NextId,.int .u32 (c.NextGuid.toNat:Int)] 55 (0,0))]]) (rst:=[]) ⟨rfl,rfl,rfl,rfl,trivial⟩ (Ze 0 rfl (Ze 0 rfl ZT)) (ZG hx rfl (λh4 hx=> ?_) (λh4 hx=> ?_))))))))
      ·
       refine Run.cnz_k [] 7 ZB rfl ?_
       exact ZD [] rfl hx rfl rfl
      ·
       refine Run.cc_s [] 8 ZB rfl (ZO hx [2,3] [1,0] rfl rfl (λe0 l0 o0 l o g=>∃e9:Unit,l=l0∧o=o0∧H=g∧e0=.inl e9) (λe0 k5 hx=> ?_) (λe0 h5 hx=> ?_))
       ·
        rintro _ _ _ ⟨e9,rfl,rfl,rfl,rfl⟩
        simp only[Sum.elim_inl]at hx
        refine Run.nc_s [] 7 ZB rfl (ZO hx [2,3] [0,1] rfl rfl (λe1 l0 o0 l o g=>∃f0:Unit,l=l0∧o=o0∧H=g∧e1=.inl f0) (λe1 k6 hx=> ?_) (λe1 h6 hx=> ?_))
        ·
         rintro _ _ _ ⟨f0,rfl,rfl,rfl,rfl⟩
         simp only[Sum.elim_inl]at hx
         refine Run.nc_s [] 2 ZB rfl (ZO hx [] [] rfl rfl (λe2 l0 o0 l o g=>l=(4,.bool e2)::l0∧o=o0∧H=g) (λe2 k7 hx=> ?_) (λe2 k8 hx=> ?_))
         ·
          rintro _ _ _ ⟨rfl,rfl,rfl⟩
          refine Run.nnz_s [] 2 ZB rfl ?_
          exact ZD [] rfl hx rfl rfl
         ·
          refine Run.clz [0,1] 5 ZB rfl (ZI hx E76 rfl ref17_sameTexts_ok rfl ⟨g1,g7,trivial⟩ ?_)
          intro k9 l1 hx
          refine ZA rfl rfl (ZW rfl) (ZQ 96 hx rfl (λh7 hx=> ?_) (λh7 hx=> ?_))
          ·
           refine Run.llz [0,1] 9 ZB rfl (ZI hx E76 rfl ref17_sameTexts_ok rfl ⟨g2,g8,trivial⟩ ?_)
           intro l2 l3 hx
           refine Run.llz [] 2 ZB rfl (ZQ 103 hx rfl (λh8 hx=> ?_) (λh8 hx=> ?_))
           ·
            refine Run.llz [0,1] 12 ZB rfl (ZQ 110 hx rfl (λh9 hx=> ?_) (λh9 hx=> ?_))
            ·
             refine Run.llz [0,1] 12 ZB rfl (ZQ 117 hx rfl (λi0 hx=> ?_) (λi0 hx=> ?_))
             ·
              refine Run.llz [0,1] 9 ZB rfl (ZA rfl rfl (R.eql32 (a:=c.NextGuid) (b:=d.NextGuid) rfl rfl) (Run.lnz [] 3 ZB rfl ?_))
              obtain rfl:=Option.some.inj hx
              refine JN.forget 1 (JN.forget 0 ?_)
              exact ZC ⟨rfl,rfl,rfl⟩ rfl rfl rfl
             ·
              refine Run.lnz [] 8 ZB rfl ?_
              obtain rfl:=Option.some.inj hx
              refine JN.forget 1 (JN.forget 0 ?_)
              exact ZC ⟨rfl,rfl,rfl⟩ rfl rfl rfl
            ·
             refine Run.lnz [] 15 ZB rfl ?_
             obtain rfl:=Option.some.inj hx
             refine JN.forget 1 (JN.forget 0 ?_)
             exact ZC ⟨rfl,rfl,rfl⟩ rfl rfl rfl
           ·
            refine Run.lnz [] 22 ZB rfl ?_
            obtain rfl:=Option.some.inj hx
            refine JN.forget 1 (JN.forget 0 ?_)
            exact ZC ⟨rfl,rfl,rfl⟩ rfl rfl rfl
          ·
           refine Run.lnz [] 29 ZB rfl ?_
           obtain rfl:=Option.some.inj hx
           refine JN.forget 1 (JN.forget 0 ?_)
           exact ZC ⟨rfl,rfl,rfl⟩ rfl rfl rfl
        ·
         refine JC.block (ZR 1 rfl (ZR 1 rfl (ZS [2,3] [0,1] rfl rfl (λl0 o0 e3 l o g=>l=(6,.int .i64 ((e3:Nat):Int))::l0∧o=o0∧H=g) hx ⟨rfl,rfl,rfl⟩ rfl ?_)))
         ·
          rintro l4 e3 _ _ _ ⟨rfl,rfl,rfl⟩ l5 hx e4
          unfold ref17_Same_l2 at hx
          refine Run.cl [0] 6 ZB rfl (ZA rfl rfl (ZM U53 rfl (IsSlice.long b5)) (Run.lcz_s [] 3 ZB rfl (ZG hx rfl (λf1 hx=> ?_) (λf1 hx=> ?_))))
          ·
           refine Run.cc_s [] 5 ZB rfl (Zh (so:=[(_,[]),(_,[])]) 12 rfl Mixed ⟨by kernel_rfl,by kernel_rfl⟩ (ZX [0,1] rfl) ?_)
           refine JB.run 3 [0,1,2] [0] ZB rfl ?_
           obtain⟨l6,i1,hx⟩:=ZJ hx
           obtain⟨l7,l8,l9,i2,i3,m0,i4⟩:=IsSlice.elem b5 i1
           obtain⟨m1,rfl,f2⟩:=i3
           obtain⟨m2,m3,rfl⟩:=IsSlice.val f2
           refine JB.val (i:=3) [] rfl (Zd U53 S101 rfl rfl i2) ?_
           refine JB.val (i:=4) [] rfl (Zz 0 S101 rfl i4 rfl rfl) ?_
           refine JB.run 3 [5,6,7] [1] ZB rfl ?_
           obtain⟨m4,i5,hx⟩:=ZJ hx
           obtain⟨m5,m6,m7,i6,i7,m8,i8⟩:=IsSlice.elem e8 i5
           obtain⟨m9,rfl,f3⟩:=i7
           obtain⟨n0,n1,rfl⟩:=IsSlice.val f3
           refine JB.val (i:=8) [] rfl (Zd U53 S101 rfl rfl i6) ?_
           refine JB.val (i:=9) [] rfl (Zz 0 S101 rfl i8 rfl rfl) ?_
           refine JB.one (i:=10) (by kernel_rfl) ?_
           refine JOB.step rfl trivial rfl (λK hK=>ZI hx E75 rfl ref17_SameChange_ok rfl ⟨f2,f3,trivial⟩ ?_)
           intro n2 n3 hx
           refine JL.nil (hK _ _ _ (Hle.refl _) (ZX [0,1] rfl) ?_)
           refine JB.val (i:=11) [] rfl (R.not rfl) ?_
           refine JB.doneN (by kernel_rfl) ?_
           refine Zw (ZG hx rfl (λi9 hx=> ?_) (λi9 hx=> ?_))
           ·
            refine Run.cnz_bk [] 8 ZB rfl ?_
            obtain rfl:=ZH e4 hx
            refine Run.nnz_kb [] 2 ZB rfl ?_
            clear hx;have hx:=h6
            simp only[Sum.elim_inl,Sum.elim_inr]at hx
            refine Run.nnz_kk [] 2 ZB rfl ?_
            exact ZD [] rfl hx rfl rfl
           ·
            refine Run.clz_bs [] 5 ZB rfl (ZA rfl rfl (Zi rfl rfl (of_decide_eq_true f1) (IsSlice.lenI b5)) (Run.lnz [] 2 ZB rfl ?_))
            replace hx:=ZP e4 hx
            refine ZE 1 rfl (ZE 1 rfl ?_)
            exact ZC ⟨e3+1,⟨rfl,rfl,rfl⟩,hx⟩ rfl rfl rfl
          ·
           refine Run.cnz_k [] 2 ZB rfl ?_
           obtain rfl:=ZH e4 hx
           refine Run.nnz_kb [] 2 ZB rfl (ZE 1 rfl (ZE 1 rfl ?_))
           exact ZC ⟨(),rfl,rfl,rfl,rfl⟩ rfl rfl rfl
       ·
        refine JC.block (ZR 1 rfl (ZS [2,3] [0,1] rfl rfl (λl0 o0 e5 l o g=>l=(5,.int .i64 ((e5:Nat):Int))::l0∧o=o0∧H=g) hx ⟨rfl,rfl,rfl⟩ rfl ?_))
        ·
         rintro n4 e5 _ _ _ ⟨rfl,rfl,rfl⟩ n5 hx e6
         unfold ref17_Same_l1 at hx
         refine Run.cl [0] 6 ZB rfl (ZA rfl rfl (ZM U52 rfl (IsSlice.long a5)) (Run.lcz_s [] 3 ZB rfl (ZG hx rfl (λf4 hx=> ?_) (λf4 hx=> ?_))))
         ·
          refine Run.cc_s [] 5 ZB rfl (Zh (so:=[(_,[]),(_,[])]) 12 rfl Mixed ⟨by kernel_rfl,by kernel_rfl⟩ (ZX [0,1] rfl) ?_)
          refine JB.run 3 [0,1,2] [0] ZB rfl ?_
          obtain⟨n6,j0,hx⟩:=ZJ hx
          obtain⟨n7,n8,n9,j1,j2,o1,j3⟩:=IsSlice.elem a5 j0
          obtain⟨o2,rfl,f5⟩:=j2
          obtain⟨o3,o4,rfl⟩:=IsSlice.val f5
          refine JB.val (i:=3) [] rfl (Zd U52 S99 rfl rfl j1) ?_
          refine JB.val (i:=4) [] rfl (Zz 0 S99 rfl j3 rfl rfl) ?_
          refine JB.run 3 [5,6,7] [1] ZB rfl ?_
          obtain⟨o5,j4,hx⟩:=ZJ hx
          obtain⟨o6,o7,o8,j5,j6,o9,j7⟩:=IsSlice.elem e7 j4
          obtain⟨p0,rfl,f6⟩:=j6
          obtain⟨p1,p2,rfl⟩:=IsSlice.val f6
          refine JB.val (i:=8) [] rfl (Zd U52 S99 rfl rfl j5) ?_
          refine JB.val (i:=9) [] rfl (Zz 0 S99 rfl j7 rfl rfl) ?_
          refine JB.one (i:=10) (by kernel_rfl) ?_
          refine JOB.step rfl trivial rfl (λK hK=>ZI hx E74 rfl ref17_SameLine_ok rfl ⟨f5,f6,trivial⟩ ?_)
          intro p3 p4 hx
          refine JL.nil (hK _ _ _ (Hle.refl _) (ZX [0,1] rfl) ?_)
          refine JB.val (i:=11) [] rfl (R.not rfl) ?_
          refine JB.doneN (by kernel_rfl) ?_
          refine Zw (ZG hx rfl (λj8 hx=> ?_) (λj8 hx=> ?_))
          ·
           refine Run.cnz_bk [] 8 ZB rfl ?_
           obtain rfl:=ZH e6 hx
           refine Run.nnz_kb [] 2 ZB rfl ?_
           clear hx;have hx:=h5
           simp only[Sum.elim_inl,Sum.elim_inr]at hx
           refine Run.nnz_kk [] 2 ZB rfl ?_
           exact ZD [] rfl hx rfl rfl
          ·
           refine Run.clz_bs [] 5 ZB rfl (ZA rfl rfl (Zi rfl rfl (of_decide_eq_true f4) (IsSlice.lenI a5)) (Run.lnz [] 2 ZB rfl ?_))
           replace hx:=ZP e6 hx
           refine ZE 1 rfl (ZE 1 rfl ?_)
           exact ZC ⟨e5+1,⟨rfl,rfl,rfl⟩,hx⟩ rfl rfl rfl
         ·
          refine Run.cnz_k [] 2 ZB rfl ?_
          obtain rfl:=ZH e6 hx
          refine Run.nnz_kb [] 2 ZB rfl (ZE 1 rfl (ZE 1 rfl ?_))
          exact ZC ⟨(),rfl,rfl,rfl,rfl⟩ rfl rfl rfl
theorem law20_DataReads_ok (c:Pool)(c5:Int)(c6:Int)(e1:Int)(H:Heaplet){p:Option Addr}{q:Nat}{s:Nat}{v:Option Addr}{x:Nat}{z:Nat}{a0:Option Addr}{a1:Nat}{a2:Nat}{a3:Option Addr}{a4:Nat}{a5:Nat}{a6:Option Addr}{a7:Nat}{a8:Nat}{a9:Option Addr}{b0:Nat}{b1:Nat}{b2:Option Addr}{b3:Nat}{b4:Nat}{b5:Option Addr}{b6:Nat}{b7:Nat}(c7:IsSlice H (RSl RU8 1) 1 (.slice p q s) c.Store.Disk.Blocks)(c8:IsSlice H R_Write 2 (.slice v x z) c.Store.Disk.Waits)(c9:IsSlice H RU8 1 (.slice a0 a1 a2) c.Store.Space)(d0:IsSlice H RInt 1 (.slice a3 a4 a5) c.MetaL)(d1:IsSlice H R_Line 13 (.slice a6 a7 a8) c.Lines)(d2:IsSlice H (RSl RU8 1) 1 (.slice a9 b0 b1) c.Keys)(d3:IsSlice H (RSl RU8 1) 1 (.slice b2 b3 b4) c.Loaded)(d4:IsSlice H R_Change 12 (.slice b5 b6 b7) c.Changes)(r:Bool)(hx:law20_DataReads c c5 c6 e1=some r):
  Does Tryz.prog 4 #[.agg #[.slice p q s,.slice v x z,.slice a0 a1 a2,.int .u32 (c.Store.Epoch.toNat:Int),.int .u32 (c.Store.Count.toNat:Int),.int .u32 (c.Gen.toNat:Int),.int .i64 c.Root.At,.int .u32 (c.Root.Birth.toNat:Int),.int .u32 (c.Root.Iv.toNat:Int),.int .u32 (c.Root.Tag.toNat:Int),.int .u32 (c.Root.Sum.toNat:Int),.slice a3 a4 a5,.slice a6 a7 a8,.slice a9 b0 b1,.slice b2 b3 b4,.slice b5 b6 b7,.int .i64 c.Logged,.int .i64 c.NextId,.int .u32 (c.NextGuid.toNat:Int)],.int .i64 c5,.int .i64 c6,.int .i64 e1] [] H (λu K' H'=>u=.bool r∧K'= []∧True):=by
 refine Does.enterL (vs:=[.agg #[.slice p q s,.slice v x z,.slice a0 a1 a2,.int .u32 (c.Store.Epoch.toNat:Int),.int .u32 (c.Store.Count.toNat:Int),.int .u32 (c.Gen.toNat:Int),.int .i64 c.Root.At,.int .u32 (c.Root.Birth.toNat:Int),.int .u32 (c.Root.Iv.toNat:Int),.int .u32 (c.Root.Tag.toNat:Int),.int .u32 (c.Root.Sum.toNat:Int),.slice a3 a4 a5,.slice a6 a7 a8,.slice a9 b0 b1,.slice b2 b3 b4,.slice b5 b6 b7,.int .i64 c.Logged,.int .i64 c.NextId,.int .u32 (c.NextGuid.toNat:Int)],.int .i64 c5,.int .i64 c6,.int .i64 e1]) (l:=[(0,.agg #[.slice p q s,.slice v x z,.slice a0 a1 a2,.int .u32 (c.Store.Epoch.toNat:Int),.int .u32 (c.Store.Count.toNat:Int),.int .u32 (c.Gen.toNat:Int),.int .i64 c.Root.At,.int .u32 (c.Root.Birth.toNat:Int),.int .u32 (c.Root.Iv.toNat:Int),.int .u32 (c.Root.Tag.toNat:Int),.int .u32 (c.Root.Sum.toNat:Int),.slice a3 a4 a5,.slice a6 a7 a8,.slice a9 b0 b1,.slice b2 b3 b4,.slice b5 b6 b7,.int .i64 c.Logged,.int .i64 c.NextId,.int .u32 (c.NextGuid.toNat:Int)]),(1,.int .i64 c5),(2,.int .i64 c6),(3,.int .i64 e1)]) Tryz.func4 rfl rfl ⟨rfl,rfl,rfl,rfl,trivial⟩ (λw hlt=> ?_)
 unfold law20_DataReads at hx
 refine Run.cl [] 2 ZB rfl (ZV rfl rfl (λb8 l7=>Run.ll_s [0] 7 ZB rfl (ZI hx E23 rfl ref17_Great_ok rfl ⟨c7,c8,c9,d0,d1,d2,d3,d4,trivial⟩ ?_)))
 intro l8 l9 hx
 refine Run.lcz_s [] 2 ZB rfl (ZG hx rfl (λj7 hx=> ?_) (λj7 hx=> ?_))
 ·
  refine Run.cnz_k [] 7 ZB rfl (Zm (vs:=[.bool true]) (K:=[]) (rst:=[_]) (.inl rfl) rfl rfl (Zs rfl rfl) ZT ?_)
  obtain rfl:=Option.some.inj hx
  exact⟨rfl,rfl,trivial⟩
 ·
  refine Run.cl_s [0] 5 ZB rfl (Zv hx E24 rfl ref17_Twin_ok rfl ⟨c7,c8,c9,d0,d1,d2,d3,d4,trivial⟩ ?_)
  intro d m0 hx m1 h e2 e3 e4 e5 h4 e6 e7 e8 e9 h5 f0 f1 f2 f3 h6 f4 f5 f6 f7 h7 f8 f9 g0 g1 h8 g2 g3 g4 g5 h9 g6 g7 g8 g9 i0 h0 h1 h2 h3 i1
  refine JL.alloc Z55 rfl (λb9 m2=>Run.ll_s [0,0] 9 ZB rfl (JL.conL hx E25 rfl data_Read_ok rfl (λm3 c0 c1=>⟨(Lent.row' 1 c1 (RSl.mono RU8.mono) c0 rfl (h4.old (RSl.mono RU8.mono))),(Lent.row' 2 c1 R_Write.mono c0 rfl (h5.old R_Write.mono)),(Lent.row' 3 c1 RU8.mono c0 rfl (h6.old RU8.mono)),(Lent.row' 4 c1 RInt.mono c0 rfl (h7.old RInt.mono)),(Lent.row' 5 c1 R_Line.mono c0 rfl h8),(Lent.row' 6 c1 (RSl.mono RU8.mono) c0 rfl (h9.old (RSl.mono RU8.mono))),(Lent.row' 7 c1 (RSl.mono RU8.mono) c0 rfl (i0.old (RSl.mono RU8.mono))),(Lent.row' 8 c1 R_Change.mono c0 rfl i1),trivial⟩) (λ_=>⟨RU8.const,trivial⟩) ?_))
  intro i2 m4 hx d5 d6 d7 d8 i8
  refine Run.ll_s [10] 13 ZB rfl (Zv hx E26 rfl ref20_Read_ok rfl ⟨(c7.mono (RSl.mono RU8.mono) h),(c8.mono R_Write.mono h),(c9.mono RU8.mono h),(d0.mono RInt.mono h),(d1.mono R_Line.mono h),(d2.mono (RSl.mono RU8.mono) h),(d3.mono (RSl.mono RU8.mono) h),(d4.mono R_Change.mono h),trivial⟩ ?_)
  intro i3 m5 hx m6 f i9 j0 j1 i4 j8
  refine Run.ll_s [2] 12 ZB rfl (JL.conL hx E27 rfl data_Get_ok rfl (λm7 c2 c3=>⟨(Lent.row' 3 c3 (RSl.mono RU8.mono) c2 rfl ((h4.mono (RSl.mono RU8.mono) (New.mono f)).old (RSl.mono RU8.mono))),(Lent.row' 4 c3 R_Write.mono c2 rfl ((h5.mono R_Write.mono (New.mono f)).old R_Write.mono)),(Lent.row' 5 c3 RU8.mono c2 rfl ((h6.mono RU8.mono (New.mono f)).old RU8.mono)),(Lent.row' 6 c3 RInt.mono c2 rfl ((h7.mono RInt.mono (New.mono f)).old RInt.mono)),(Lent.row' 7 c3 R_Line.mono c2 rfl (h8.mono R_Line.mono f)),(Lent.row' 8 c3 (RSl.mono RU8.mono) c2 rfl ((h9.mono (RSl.mono RU8.mono) (New.mono f)).old (RSl.mono RU8.mono))),(Lent.row' 9 c3 (RSl.mono RU8.mono) c2 rfl ((i0.mono (RSl.mono RU8.mono) (New.mono f)).old (RSl.mono RU8.mono))),(Lent.row' 10 c3 R_Change.mono c2 rfl (i1.mono R_Change.mono f)),trivial⟩) (λ_=>trivial) ?_)
  intro m m8 hx
  refine Run.lcz_s [] 11 ZB rfl (JC.tidy (l':=[(1,.int .i64 c5),(2,.int .i64 c6),(4,.pointer (some ⟨b8,0,none⟩)),(8,.bool false),(9,.pointer (some ⟨b9,0,none⟩)),(10,.slice d5 d6 d7),(11,.int .i64 i2.2),(12,.slice i9 j0 j1),(13,.int .i64 i3.2),(14,.int .u8 (m.1.toNat:Int)),(15,.int .i64 m.2.1),(16,.int .i64 m.2.2.1),(17,.int .i64 m.2.2.2)]) (own':=[i4,d8,[(b9,.cells #[.slice e2 e3 e4,.slice e6 e7 e8,.slice f0 f1 f2,.int .u32 (d.Store.Epoch.toNat:Int),.int .u32 (d.Store.Count.toNat:Int),.int .u32 (d.Gen.toNat:Int),.int .i64 d.Root.At,.int .u32 (d.Root.Birth.toNat:Int),.int .u32 (d.Root.Iv.toNat:Int),.int .u32 (d.Root.Tag.toNat:Int),.int .u32 (d.Root.Sum.toNat:Int),.slice f4 f5 f6,.slice f8 f9 g0,.slice g2 g3 g4,.slice g6 g7 g8,.slice h0 h1 h2,.int .i64 d.Logged,.int .i64 d.NextId,.int .u32 (d.NextGuid.toNat:Int)] 55 (0,0))],e5,e9,f3,f7,g1,g5,g9,h3,[(b8,.cells #[.slice p q s,.slice v x z,.slice a0 a1 a2,.int .u32 (c.Store.Epoch.toNat:Int),.int .u32 (c.Store.Count.toNat:Int),.int .u32 (c.Gen.toNat:Int),.int .i64 c.Root.At,.int .u32 (c.Root.Birth.toNat:Int),.int .u32 (c.Root.Iv.toNat:Int),.int .u32 (c.Root.Tag.toNat:Int),.int .u32 (c.Root.Sum.toNat:Int),.slice a3 a4 a5,.slice a6 a7 a8,.slice a9 b0 b1,.slice b2 b3 b4,.slice b5 b6 b7,.int .i64 c.Logged,.int .i64 c.NextId,.int .u32 (c.NextGuid.toNat:Int)] 55 (0,0))]]) ⟨rfl,rfl,rfl,rfl,rfl,rfl,rfl,rfl,rfl,rfl,rfl,rfl,rfl,trivial⟩ rfl (JC.tidyP (l':=[(1,.int .i64 c5),(2,.int .i64 c6),(4,.pointer (some ⟨b8,0,none⟩)),(8,.bool false),(9,.pointer (some ⟨b9,0,none⟩)),(10,.slice d5 d6 d7),(11,.int .i64 i2.2),(12,.slice i9 j0 j1),(13,.int .i64 i3.2),(14,.int .u8 (m.1.toNat:Int)),(15,.int .i64 m.2.1),(16,.int .i64 m.2.2.1),(17,.int .i64 m.2.2.2)]) (own':=[i4,d8,[(b9,.cells #[.slice e2 e3 e4,.slice e6 e7 e8,.slice f0 f1 f2,.int .u32 (d.Store.Epoch.toNat:Int),.int .u32 (d.Store.Count.toNat:Int),.int .u32 (d.Gen.toNat:Int),.int .i64 d.Root.At,.int .u32 (d.Root.Birth.toNat:Int),.int .u32 (d.Root.Iv.toNat:Int),.int .u32 (d.Root.Tag.toNat:Int),.int .u32 (d.Root.Sum.toNat:Int),.slice f4 f5 f6,.slice f8 f9 g0,.slice g2 g3 g4,.slice g6 g7 g8,.slice h0 h1 h2,.int .i64 d.Logged,.int .i64 d.NextId,.int .u32 (d.NextGuid.toNat:Int)] 55 (0,0))],e5,e9,f3,f7,g1,g5,g9,h3,[(b8,.cells #[.slice p q s,.slice v x z,.slice a0 a1 a2,.int .u32 (c.Store.Epoch.toNat:Int),.int .u32 (c.Store.Count.toNat:Int),.int .u32 (c.Gen.toNat:Int),.int .i64 c.Root.At,.int .u32 (c.Root.Birth.toNat:Int),.int .u32 (c.Root.Iv.toNat:Int),.int .u32 (c.Root.Tag.toNat:Int),.int .u32 (c.Root.Sum.toNat:Int),.slice a3 a4 a5,.slice a6 a7 a8,.slice a9 b0 b1,.slice b2 b3 b4,.slice b5 b6 b7,.int .i64 c.Logged,.int .i64 c.NextId,.int .u32 (c.NextGuid.toNat:Int)] 55 (0,0))]]) (rst:=[]) ⟨rfl,rfl,rfl,rfl,rfl,rfl,rfl,rfl,rfl,rfl,rfl,rfl,rfl,trivial⟩ (Ze 0 rfl (Ze 0 rfl (Ze 0 rfl (Ze 0 rfl (Ze 0 rfl (Ze 0 rfl (Ze 0 rfl (Ze 0 rfl (Ze 0 rfl (Ze 0 rfl (Ze 0 rfl (Ze 0 rfl ZT)))))))))))) (Run.cl [11] 5 ZB rfl (Zv hx E28 rfl ref20_Get_ok rfl ⟨(c7.mono (RSl.mono RU8.mono) (h.trans f)),(c8.mono R_Write.mono (h.trans f)),(c9.mono RU8.mono (h.trans f)),(d0.mono RInt.mono (h.trans f)),(d1.mono R_Line.mono (h.trans f)),(d2.mono (RSl.mono RU8.mono) (h.trans f)),(d3.mono (RSl.mono RU8.mono) (h.trans f)),(d4.mono R_Change.mono (h.trans f)),trivial⟩ ?_))))
  intro i5 m9 hx i6 i
  refine Run.ll_s [] 15 ZB rfl (ZA rfl rfl (R.toStrR 1 U26 U5 U9 rfl rfl i8) (ZA rfl rfl (ZW rfl) (ZA rfl rfl (R.toStrR 0 U26 U5 U9 rfl rfl j8) (ZA rfl rfl (R.neqStr (a:=i2.1) (b:=i3.1) rfl rfl) (ZA rfl rfl (ZW rfl) (ZQ 66 hx rfl (λj9 hx=> ?_) (λj9 hx=> ?_)))))))
  ·
   refine Run.lnz_sk [] 34 ZB rfl (Zm (vs:=[.bool false]) (K:=[]) (rst:=[_,_,_,_,_,_,_,_,_,_,_,_]) (.inl rfl) rfl rfl (Zs rfl rfl) ZT ?_)
   obtain rfl:=Option.some.inj hx
   exact⟨rfl,rfl,trivial⟩
  ·
   refine Run.llz [] 8 ZB rfl (ZQ 71 hx rfl (λk0 hx=> ?_) (λk0 hx=> ?_))
   ·
    refine Run.lnz_sk [] 29 ZB rfl (Zm (vs:=[.bool false]) (K:=[]) (rst:=[_,_,_,_,_,_,_,_,_,_,_,_]) (.inl rfl) rfl rfl (Zs rfl rfl) ZT ?_)
    obtain rfl:=Option.some.inj hx
    exact⟨rfl,rfl,trivial⟩
   ·
    refine Run.llz [] 5 ZB rfl (ZA rfl rfl (R.neq8 (a:=m.1) (b:=i5.1) rfl rfl) (Run.llz [] 2 ZB rfl (ZQ 76 hx rfl (λk1 hx=> ?_) (λk1 hx=> ?_))))
    ·
     refine Run.lnz_sk [] 24 ZB rfl (Zm (vs:=[.bool false]) (K:=[]) (rst:=[_,_,_,_,_,_,_,_,_,_,_,_]) (.inl rfl) rfl rfl (Zs rfl rfl) ZT ?_)
     obtain rfl:=Option.some.inj hx
     exact⟨rfl,rfl,trivial⟩
    ·
     refine Run.llz [] 8 ZB rfl (ZQ 81 hx rfl (λk2 hx=> ?_) (λk2 hx=> ?_))
     ·
      refine Run.lnz_sk [] 19 ZB rfl (Zm (vs:=[.bool false]) (K:=[]) (rst:=[_,_,_,_,_,_,_,_,_,_,_,_]) (.inl rfl) rfl rfl (Zs rfl rfl) ZT ?_)
      obtain rfl:=Option.some.inj hx
      exact⟨rfl,rfl,trivial⟩
     ·
      refine Run.llz [] 8 ZB rfl (ZQ 86 hx rfl (λk3 hx=> ?_) (λk3 hx=> ?_))
      ·
       refine Run.lnz_sk [] 14 ZB rfl (Zm (vs:=[.bool false]) (K:=[]) (rst:=[_,_,_,_,_,_,_,_,_,_,_,_]) (.inl rfl) rfl rfl (Zs rfl rfl) ZT ?_)
       obtain rfl:=Option.some.inj hx
       exact⟨rfl,rfl,trivial⟩
      ·
       refine Run.lcz_s [] 9 ZB rfl (JC.tidy (l':=[(4,.pointer (some ⟨b8,0,none⟩)),(8,.bool false),(9,.pointer (some ⟨b9,0,none⟩)),(10,.slice d5 d6 d7),(90,.bool (!decide (m.2.2.2=i5.2.2.2)))]) (own':=[i4,d8,[(b9,.cells #[.slice e2 e3 e4,.slice e6 e7 e8,.slice f0 f1 f2,.int .u32 (d.Store.Epoch.toNat:Int),.int .u32 (d.Store.Count.toNat:Int),.int .u32 (d.Gen.toNat:Int),.int .i64 d.Root.At,.int .u32 (d.Root.Birth.toNat:Int),.int .u32 (d.Root.Iv.toNat:Int),.int .u32 (d.Root.Tag.toNat:Int),.int .u32 (d.Root.Sum.toNat:Int),.slice f4 f5 f6,.slice f8 f9 g0,.slice g2 g3 g4,.slice g6 g7 g8,.slice h0 h1 h2,.int .i64 d.Logged,.int .i64 d.NextId,.int .u32 (d.NextGuid.toNat:Int)] 55 (0,0))],e5,e9,f3,f7,g1,g5,g9,h3,[(b8,.cells #[.slice p q s,.slice v x z,.slice a0 a1 a2,.int .u32 (c.Store.Epoch.toNat:Int),.int .u32 (c.Store.Count.toNat:Int),.int .u32 (c.Gen.toNat:Int),.int .i64 c.Root.At,.int .u32 (c.Root.Birth.toNat:Int),.int .u32 (c.Root.Iv.toNat:Int),.int .u32 (c.Root.Tag.toNat:Int),.int .u32 (c.Root.Sum.toNat:Int),.slice a3 a4 a5,.slice a6 a7 a8,.slice a9 b0 b1,.slice b2 b3 b4,.slice b5 b6 b7,.int .i64 c.Logged,.int .i64 c.NextId,.int .u32 (c.NextGuid.toNat:Int)] 55 (0,0))]]) ⟨rfl,rfl,rfl,rfl,rfl,trivial⟩ rfl (JC.tidyP (l':=[(4,.pointer (some ⟨b8,0,none⟩)),(8,.bool false),(9,.pointer (some ⟨b9,0,none⟩)),(10,.slice d5 d6 d7),(90,.bool (!decide (m.2.2.2=i5.2.2.2)))]) (own':=[d8,[(b9,.cells #[.slice e2 e3 e4,.slice e6 e7 e8,.slice f0 f1 f2,.int .u32 (d.Store.Epoch.toNat:Int),.int .u32 (d.Store.Count.toNat:Int),.int .u32 (d.Gen.toNat:Int),.int .i64 d.Root.At,.int .u32 (d.Root.Birth.toNat:Int),.int .u32 (d.Root.Iv.toNat:Int),.int .u32 (d.Root.Tag.toNat:Int),.int .u32 (d.Root.Sum.toNat:Int),.slice f4 f5 f6,.slice f8 f9 g0,.slice g2 g3 g4,.slice g6 g7 g8,.slice h0 h1 h2,.int .i64 d.Logged,.int .i64 d.NextId,.int .u32 (d.NextGuid.toNat:Int)] 55 (0,0))],e5,e9,f3,f7,g1,g5,g9,h3,[(b8,.cells #[.slice p q s,.slice v x z,.slice a0 a1 a2,.int .u32 (c.Store.Epoch.toNat:Int),.int .u32 (c.Store.Count.toNat:Int),.int .u32 (c.Gen.toNat:Int),.int .i64 c.Root.At,.int .u32 (c.Root.Birth.toNat:Int),.int .u32 (c.Root.Iv.toNat:Int),.int .u32 (c.Root.Tag.toNat:Int),.int .u32 (c.Root.Sum.toNat:Int),.slice a3 a4 a5,.slice a6 a7 a8,.slice a9 b0 b1,.slice b2 b3 b4,.slice b5 b6 b7,.int .i64 c.Logged,.int .i64 c.NextId,.int .u32 (c.NextGuid.toNat:Int)] 55 (0,0))]]) (rst:=[_]) ⟨rfl,rfl,rfl,rfl,rfl,trivial⟩ (Ze 1 rfl (Ze 1 rfl (Ze 1 rfl (Ze 1 rfl (Ze 1 rfl (Ze 1 rfl (Ze 1 rfl (Ze 1 rfl (Ze 1 rfl (Ze 1 rfl (Ze 1 rfl ZT))))))))))) (ZG hx rfl (λk4 hx=> ?_) (λk4 hx=> ?_))))
       ·
        refine Run.cnz_k [] 7 ZB rfl (Zm (vs:=[.bool false]) (K:=[]) (rst:=[_,_,_,_,_,_,_,_,_,_,_]) (.inl rfl) rfl rfl (Zs rfl rfl) ZT ?_)
        obtain rfl:=Option.some.inj hx
        exact⟨rfl,rfl,trivial⟩
       ·
        refine Run.cc_s [] 8 ZB rfl (ZO hx [4,9] [10,1,2,3,4,5,6,7,8,9] rfl rfl (λj2 l0 o0 l o g=>l=l0∧o=o0∧i6=g) (λj2 n0 hx=> ?_) (λj2 n1 hx=> ?_))
        ·
         rintro _ _ _ ⟨rfl,rfl,rfl⟩
         refine Run.nl_s [1,0] 5 ZB rfl (JL.conL hx E29 rfl ref17_Same_ok rfl (λn2 j c4=>⟨(Lent.row' 2 c4 (RSl.mono RU8.mono) j rfl ((h4.mono (RSl.mono RU8.mono) (New.mono (f.trans i))).old (RSl.mono RU8.mono))),(Lent.row' 3 c4 R_Write.mono j rfl ((h5.mono R_Write.mono (New.mono (f.trans i))).old R_Write.mono)),(Lent.row' 4 c4 RU8.mono j rfl ((h6.mono RU8.mono (New.mono (f.trans i))).old RU8.mono)),(Lent.row' 5 c4 RInt.mono j rfl ((h7.mono RInt.mono (New.mono (f.trans i))).old RInt.mono)),(Lent.row' 6 c4 R_Line.mono j rfl (h8.mono R_Line.mono (f.trans i))),(Lent.row' 7 c4 (RSl.mono RU8.mono) j rfl ((h9.mono (RSl.mono RU8.mono) (New.mono (f.trans i))).old (RSl.mono RU8.mono))),(Lent.row' 8 c4 (RSl.mono RU8.mono) j rfl ((i0.mono (RSl.mono RU8.mono) (New.mono (f.trans i))).old (RSl.mono RU8.mono))),(Lent.row' 9 c4 R_Change.mono j rfl (i1.mono R_Change.mono (f.trans i))),(IsSlice.mono (RSl.mono RU8.mono) j (c7.mono (RSl.mono RU8.mono) (h.trans (f.trans i)))),(IsSlice.mono R_Write.mono j (c8.mono R_Write.mono (h.trans (f.trans i)))),(IsSlice.mono RU8.mono j (c9.mono RU8.mono (h.trans (f.trans i)))),(IsSlice.mono RInt.mono j (d0.mono RInt.mono (h.trans (f.trans i)))),(IsSlice.mono R_Line.mono j (d1.mono R_Line.mono (h.trans (f.trans i)))),(IsSlice.mono (RSl.mono RU8.mono) j (d2.mono (RSl.mono RU8.mono) (h.trans (f.trans i)))),(IsSlice.mono (RSl.mono RU8.mono) j (d3.mono (RSl.mono RU8.mono) (h.trans (f.trans i)))),(IsSlice.mono R_Change.mono j (d4.mono R_Change.mono (h.trans (f.trans i)))),trivial⟩) (λ_=>trivial) ?_)
         intro k5 n3 hx
         refine Run.lnz_s [] 4 ZB rfl (Zm (vs:=[.bool k5]) (K:=[]) (rst:=[_,_,_,_,_,_,_,_,_,_]) (.inl rfl) rfl rfl (Zs rfl rfl) ZT ?_)
         obtain rfl:=Option.some.inj hx
         exact⟨rfl,rfl,trivial⟩
        ·
         refine JC.block (ZR 9 rfl (ZR 9 rfl (ZR 9 rfl (ZR 9 rfl (ZR 9 rfl (ZR 9 rfl (ZR 9 rfl (ZR 9 rfl (ZR 9 rfl (ZR 10 rfl (ZR 10 rfl (ZS [4,9,10] [1,2,3,4,5,6,7,8,9,10] rfl rfl (λl0 o0 d9 l o g=>∃i7:Own,l=(22,.int .i64 ((d9.2:Nat):Int))::l0∧o=i7::o0∧i6=g∧RowOf (New H i6) RU8 w.heap.size 5 1 (.slice d5 d6 d7) d9.1 i7) hx ⟨d8,rfl,rfl,rfl,(i8.mono RU8.mono (New.mono (f.trans i)))⟩ rfl ?_))))))))))))
         ·
          rintro n4 d9 _ _ _ ⟨i7,rfl,rfl,rfl,e0⟩ n5 hx j3
          unfold law20_DataReads_l1 at hx
          refine Run.cl [] 5 ZB rfl (ZA rfl rfl (ZM U26 rfl (RowOf.long e0)) (Run.lcz_s [] 3 ZB rfl (ZG hx rfl (λj4 hx=> ?_) (λj4 hx=> ?_))))
          ·
           refine Run.cl_s [] 9 ZB rfl ?_
           obtain⟨j5,k6,hx⟩:=ZJ hx
           obtain⟨n6,n7,n8,n9,k7,k8,k9,o1,l1⟩:=RowOf.elem e0 k6
           subst k7
           obtain rfl:=k9
           refine ZA rfl rfl (Zd U26 S5 rfl rfl k8) (ZA rfl rfl (R.ldo 0 S5 rfl rfl (l1 0 _ rfl)) (ZA rfl rfl (R.add8 (a:=j5) (b:=(1:UInt8)) rfl rfl) ?_))
           obtain⟨l2,hx⟩:=chk_some hx
           obtain⟨o2,o3,j6⟩:=RowOf.place e0 l2
           refine ZA rfl rfl (Zd U26 S5 rfl rfl j6) ?_
           obtain⟨l3,l4,o4,hx⟩:=setI_some hx
           refine JL.stE 0 (k:=((d9.2:Nat):Int)) (y:=(j5+(1:UInt8))) S5 rfl e0 rfl j6 rfl rfl (rfl) RU8.one l4 (λl5 l6 o5=>Run.llz_bs [] 5 ZB rfl (ZA rfl rfl (Zi rfl rfl (of_decide_eq_true j4) (RowOf.lenI e0)) (Run.lnz [] 2 ZB rfl ?_)))
           replace hx:=ZP j3 hx
           refine ZE 10 rfl (ZE 10 rfl (ZE 10 rfl (ZE 10 rfl (ZE 10 rfl (ZE 10 rfl (ZE 10 rfl (ZE 10 rfl (ZE 10 rfl (ZE 10 rfl (ZE 10 rfl ?_))))))))))
           exact ZC ⟨(l3,d9.2+1),⟨l5,rfl,rfl,rfl,l6⟩,hx⟩ rfl rfl rfl
          ·
           refine Run.cnz_k [] 2 ZB rfl ?_
           obtain rfl:=ZH j3 hx
           refine Run.nnz_kb [] 2 ZB rfl (JN.forget 0 (ZE 9 rfl (ZE 9 rfl (ZE 9 rfl (ZE 9 rfl (ZE 9 rfl (ZE 9 rfl (ZE 9 rfl (ZE 9 rfl (ZE 9 rfl (ZE 9 rfl ?_)))))))))))
           exact ZC ⟨rfl,rfl,rfl⟩ rfl rfl rfl
end Go.Proofs.YtebhagohhbmgoaaGreat
