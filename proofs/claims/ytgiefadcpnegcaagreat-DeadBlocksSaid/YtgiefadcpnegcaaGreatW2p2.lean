import Derived.Test.YtgiefadcpnegcaaGreatW2p1
/- walks: what the code computes, function by function. -/
set_option linter.unusedSimpArgs false
set_option linter.unusedVariables false
namespace Go.Proofs.YtgiefadcpnegcaaGreat
open Go.Ow Go.RowKit Go.Proofs
set_option maxHeartbeats 8000000
theorem ref16_Laid_ok{e5 e6 a9}:Con Tryz.prog 28 false (sp_Store false e5++ [.w32 e6,.sl false R_Ptr 5 a9]) (ref16_Laid e5 e6 a9) (λr=>sp_Store false r.1++sp_Ptr true r.2.1++ [.row true RInt 3 1 r.2.2.1,.b r.2.2.2]):=by
 intro H h2 h3 h4 e7 h5 h6 h7 e8 h8 h9 i0 e9 n0 n1 n2 b0 r hx
 refine Does.enterC Tryz.func28 rfl rfl ?_
 intro w
 unfold ref16_Laid at hx
 refine Run.cl [] 2 ZB rfl (ZY rfl rfl (λf0 n3=>JL.alloc Z29 rfl (λn4 n5=>JL.alloc Z32 rfl (λn6 n7=>Run.ll_s [] 8 ZB rfl (ZA rfl rfl (ZQ U30 rfl (IsSlice.long b0)) (Run.lcz_s [] 3 ZB rfl (ZJ hx rfl (λi1 hx=> ?_) (λi1 hx=> ?_))))))))
 ·
  refine Run.cnz_k [2,1,0] 12 ZB rfl (ZL ?_)
  exact Zm [2,1] [0] ZB rfl hx rfl ⟨e7,e8,e9,⟨0,ZF _ _ _ _ _⟩,rfl⟩
 ·
  refine Run.cc_s [] 18 ZB rfl (ZV hx [1,3,6,7] [1,0] rfl rfl (λc9 l0 o0 l o g=>∃k:Store×List Ptr×List Int,∃v:Heaplet,∃b1:Option Addr,∃b2:Nat,∃b3:Nat,∃b4:Option Addr,∃b5:Nat,∃b6:Nat,∃b7:Option Addr,∃b8:Nat,∃b9:Nat,∃d0:Option Addr,∃d1:Nat,∃d2:Nat,∃d3:Own,∃d4:Option Addr,∃d5:Nat,∃d6:Nat,∃d7:Own,l=(10,.slice d0 d1 d2)::(11,.slice d4 d5 d6)::l0∧o= [(f0,.cells #[.slice b1 b2 b3,.slice b4 b5 b6,.slice b7 b8 b9,.int .u32 (k.1.Epoch.toNat:Int),.int .u32 (k.1.Count.toNat:Int)] 29 (0,0))]::d3::d7::o0∧v=g∧c9=.inl k∧Hle H v∧IsSlice v (RSl RU8 1) 1 (.slice b1 b2 b3) k.1.Disk.Blocks∧IsSlice v R_Write 2 (.slice b4 b5 b6) k.1.Disk.Waits∧IsSlice v RU8 1 (.slice b7 b8 b9) k.1.Space∧RowOf (New H v) R_Ptr w.heap.size 32 5 (.slice d0 d1 d2) k.2.1 d3∧RowOf (New H v) RInt w.heap.size 3 1 (.slice d4 d5 d6) k.2.2 d7) (λc9 n8 hx=> ?_) (λc9 i2 hx=> ?_))
  ·
   rintro _ _ _ ⟨k,v,b1,b2,b3,b4,b5,b6,b7,b8,b9,d0,d1,d2,d3,d4,d5,d6,d7,rfl,rfl,rfl,rfl,n9,i3,i4,i5,i6,i7⟩
   simp only[Sum.elim_inl]at hx
   refine Run.nc_s [] 2 ZB rfl (JC.draw (so:=[_,_,_,_]) 14 rfl Mixed ⟨⟨0,rfl⟩,⟨2,rfl⟩,⟨3,rfl⟩,⟨4,rfl⟩,trivial⟩ (JA.val ⟨by kernel_rfl,by kernel_rfl⟩ (ZG _) (i:=0) rfl ⟨by kernel_rfl,by kernel_rfl,rfl⟩ trivial (ZD (Hle.refl _) ⟨⟨0,rfl⟩,⟨2,rfl⟩,⟨3,rfl⟩,⟨4,rfl⟩,trivial⟩) (R.ldoN 0 (vs:=[.slice b1 b2 b3,.slice b4 b5 b6,.slice b7 b8 b9,.int .u32 (k.1.Epoch.toNat:Int),.int .u32 (k.1.Count.toNat:Int)]) S29 rfl rfl rfl rfl) rfl (JA.val ⟨by kernel_rfl,by kernel_rfl⟩ (ZG _) (i:=1) rfl ⟨by kernel_rfl,by kernel_rfl,rfl⟩ trivial (ZD (Hle.refl _) ⟨⟨0,rfl⟩,⟨2,rfl⟩,⟨3,rfl⟩,⟨4,rfl⟩,trivial⟩) (Zd rfl) rfl (JA.val ⟨by kernel_rfl,by kernel_rfl⟩ (ZG _) (i:=2) rfl ⟨by kernel_rfl,by kernel_rfl,rfl⟩ trivial (ZD (Hle.refl _) ⟨⟨0,rfl⟩,⟨2,rfl⟩,⟨3,rfl⟩,⟨4,rfl⟩,trivial⟩) (Zd rfl) rfl (JAA.start [⟨9,16,29,.agg #[.slice none 0 0,.slice none 0 0,.slice none 0 0,.int .u32 0,.int .u32 0]⟩,⟨10,17,32,.agg #[.int .i64 0,.int .u32 0,.int .u32 0,.int .u32 0,.int .u32 0]⟩] rfl (JAA.one (i:=3) ⟨⟨_,_,_,rfl,Z29,rfl⟩,⟨_,_,_,rfl,Z32,rfl⟩,trivial⟩ (Hle.refl _) ⟨⟨0,rfl⟩,⟨2,rfl⟩,⟨3,rfl⟩,⟨4,rfl⟩,trivial⟩ rfl (by kernel_rfl) (JOA.step rfl trivial rfl (λi8 i9 K hK=> ?_))))))))
   refine JL.conL hx E50 rfl ref10_Packed_ok rfl (λo1 j0 j1=>⟨(Lent.row' 1 j1 R_Ptr.mono j0 rfl (i6.old R_Ptr.mono)),trivial⟩) (λ_=>⟨RU8.const,trivial⟩) ?_
   intro o2 o3 hx o4 o5 o6 o7 j2
   refine ZN (hK (by repeat constructor) (by repeat constructor) (ZD (Hle.refl _) ⟨⟨1,rfl⟩,⟨3,rfl⟩,⟨4,rfl⟩,⟨5,rfl⟩,trivial⟩) (JAA.one (i:=4) ⟨⟨_,_,_,rfl,Z29,rfl⟩,⟨_,_,_,rfl,Z32,rfl⟩,trivial⟩ (Hle.refl _) ⟨⟨1,rfl⟩,⟨3,rfl⟩,⟨4,rfl⟩,⟨5,rfl⟩,trivial⟩ rfl (by kernel_rfl) (JOA.step rfl trivial rfl (λo8 o9 K hK=>JL.pubN 0 RU8.mono rfl j2 (Nat.le_refl _) (λp0 h j3=>JL.forget 0 ?_)))))
   refine JL.con hx E49 rfl ref13_Put_ok rfl ⟨(i3.mono (RSl.mono RU8.mono) h),(i4.mono R_Write.mono h),(i5.mono RU8.mono h),(j3.old RU8.mono),trivial⟩ ?_
   intro f1 f2 hx f3 p f4 f5 f6 j4 d8 p1 p2 p3 p4 j5 p5 p6 p7 p8 j6
   refine ZN (hK (by repeat constructor) (by repeat constructor) (ZD (h.trans p) ⟨⟨3,rfl⟩,⟨5,rfl⟩,⟨6,rfl⟩,⟨7,rfl⟩,trivial⟩) (JAA.val ⟨by kernel_rfl,by kernel_rfl⟩ (ZG _) (i:=5) rfl (by kernel_rfl) rfl trivial (h.trans p) ⟨⟨3,rfl⟩,⟨5,rfl⟩,⟨6,rfl⟩,⟨7,rfl⟩,trivial⟩ (Zd rfl) rfl (JAA.val ⟨by kernel_rfl,by kernel_rfl⟩ (ZG _) (i:=6) rfl (by kernel_rfl) rfl trivial (h.trans p) ⟨⟨3,rfl⟩,⟨5,rfl⟩,⟨6,rfl⟩,⟨7,rfl⟩,trivial⟩ (R.extract rfl rfl) rfl (JAA.val ⟨by kernel_rfl,by kernel_rfl⟩ (ZG _) (i:=7) rfl (by kernel_rfl) rfl trivial (h.trans p) ⟨⟨3,rfl⟩,⟨5,rfl⟩,⟨6,rfl⟩,⟨7,rfl⟩,trivial⟩ (R.extract rfl rfl) rfl (JAA.val ⟨by kernel_rfl,by kernel_rfl⟩ (ZG _) (i:=8) rfl (by kernel_rfl) rfl trivial (h.trans p) ⟨⟨3,rfl⟩,⟨5,rfl⟩,⟨6,rfl⟩,⟨7,rfl⟩,trivial⟩ (R.extract rfl rfl) rfl (JAA.all ⟨⟨_,_,_,rfl,Z29,rfl⟩,⟨_,_,_,rfl,Z32,rfl⟩,trivial⟩ (h.trans p) ⟨⟨3,rfl⟩,⟨5,rfl⟩,⟨6,rfl⟩,⟨7,rfl⟩,trivial⟩ rfl (by kernel_rfl) (λp9 q0 q1 q2=>JA.one (i:=11) (by kernel_rfl) (JO.step rfl trivial rfl (λK hK=> ?_)))))))))
   refine Run.lnz [8] 2 ZB rfl (hK _ _ _ (ZD (h.trans p) ⟨⟨3,rfl⟩,⟨5,rfl⟩,⟨6,rfl⟩,⟨7,rfl⟩,trivial⟩) (JA.one (i:=12) (by kernel_rfl) (JO.step rfl trivial rfl (λK hK=> ?_))))
   refine Run.lnz [9] 2 ZB rfl (hK _ _ _ (ZD (h.trans p) ⟨⟨3,rfl⟩,⟨5,rfl⟩,⟨6,rfl⟩,⟨7,rfl⟩,trivial⟩) (JA.val ⟨by kernel_rfl,by kernel_rfl⟩ (ZG _) (i:=13) rfl ⟨by kernel_rfl,by kernel_rfl,rfl⟩ trivial (ZD (h.trans p) ⟨⟨3,rfl⟩,⟨5,rfl⟩,⟨6,rfl⟩,⟨7,rfl⟩,trivial⟩) (R.assign rfl) rfl (Zs (by kernel_rfl) ?_)))
   refine Run.nc_s [] 8 ZB rfl (ZJ hx rfl (λj7 hx=> ?_) (λj7 hx=> ?_))
   ·
    refine Run.cnz_k [6,7] 12 ZB rfl (ZL ?_)
    exact Zm [7,8] [0] ZB rfl hx rfl ⟨IsSlice.nil _ _ _,IsSlice.nil _ _ _,IsSlice.nil _ _ _,⟨0,ZF _ _ _ _ _⟩,rfl⟩
   ·
    refine Run.cc_s [] 3 ZB rfl (Zn (so:=[(_,[]),(_,[]),(_,[]),(_,[]),(_,[]),(_,[6]),(_,[7]),(_,[8]),(_,[]),(_,[])]) 11 rfl Mixed ⟨by kernel_rfl,by kernel_rfl⟩ (Zb [0,1,2,3,4,5,6,7,8,9] rfl) ?_)
    refine JB.run 5 [0,1,2,3,4] [5,6,6] ZB rfl ?_
    refine JB.one (i:=5) (by kernel_rfl) ?_
    refine JOB.step rfl trivial rfl (λK hK=>Zt (HF:=(New H f3)) (R:=RInt) (ls:=[f1.2.1.At]) (vs:=[.int .i64 f1.2.1.At]) U35 I3 rfl rfl (⟨_,_,rfl,rfl,rfl,rfl⟩) RInt.one rfl rfl rfl (by simp[maxLen]) rfl (λq3 q4 f7=> ?_))
    obtain⟨q5,q6,rfl⟩:=RowOf.val f7
    refine ZN (hK _ _ _ (Hle.refl _) (Zb [1,2,3,4,5,6,7,8,9,10] rfl) ?_)
    refine JB.one (i:=6) (by kernel_rfl) ?_
    refine JOB.step rfl trivial rfl (λK hK=> ?_)
    obtain⟨q7,j8,j9,hx⟩:=Zc hx
    refine Zk (HF:=(New H f3)) 6 U35 I3 rfl rfl (i7.mono RInt.mono (New.mono (h.trans p))) rfl (SrcF.row 0 U35 rfl f7) j8 j9 rfl (Nat.le_refl _) rfl (λq8 q9 f8=> ?_)
    obtain⟨r0,r1,rfl⟩:=RowOf.val f8
    refine ZN (hK _ _ _ (Hle.refl _) (Zu [false,false,false,false,false,true,false,false,false,false] [1,2,3,4,5,0,7,8,9,10] (by kernel_rfl) rfl) ?_)
    refine JB.one (i:=7) (by kernel_rfl) ?_
    refine JOB.step rfl trivial rfl (λK hK=>Run.lnz [7] 2 ZB rfl (hK _ _ _ (Hle.refl _) (Zu [false,false,false,false,false,true,true,false,false,false] [1,2,3,4,5,0,0,8,9,10] (by kernel_rfl) rfl) ?_))
    refine JB.one (i:=8) (by kernel_rfl) ?_
    refine JOB.step rfl trivial rfl (λK hK=>Run.lnz [8] 2 ZB rfl (hK _ _ _ (Hle.refl _) (Zu [false,false,false,false,false,true,true,true,false,false] [1,2,3,4,5,0,0,0,9,10] (by kernel_rfl) rfl) ?_))
    refine JB.run 2 [9,10] [] ZB rfl ?_
    refine JB.doneN (by kernel_rfl) ?_
    refine Run.nnz_s [] 2 ZB rfl (JN.pubN 1 (RSl.mono RU8.mono) rfl d8 (Nat.le_refl _) (λr2 d9 k0=>JN.forget 1 (JN.pubN 1 R_Write.mono rfl (j5.mono R_Write.mono (New.mono d9)) (Nat.le_refl _) (λr3 e0 k1=>JN.forget 1 (JN.pubN 1 RU8.mono rfl (j6.mono RU8.mono (New.mono (d9.trans e0))) (Nat.le_refl _) (λr4 e1 k2=>JN.forget 1 ?_))))))
    exact Zm [4,5] [3] ZB rfl hx rfl ⟨((k0.mono (RSl.mono RU8.mono) (New.mono (e0.trans e1))).old (RSl.mono RU8.mono)),((k1.mono R_Write.mono (New.mono e1)).old R_Write.mono),(k2.old RU8.mono),⟨_,(f8.mono RInt.mono (New.mono (d9.trans (e0.trans e1))))⟩,rfl⟩
  ·
   refine JC.block (JC.seg0 (JC.seg0 (ZS 2 rfl (ZS 3 rfl (ZS 2 rfl (ZS 3 rfl (ZS 4 rfl (ZZ [1,2,3,6,7] [3,4] rfl rfl (λl0 o0 d l o g=>∃q:Heaplet,∃x:Option Addr,∃y:Nat,∃z:Nat,∃a0:Option Addr,∃a1:Nat,∃a2:Nat,∃a3:Option Addr,∃a4:Nat,∃a5:Nat,∃c0:Option Addr,∃c1:Nat,∃c2:Nat,∃c3:Own,∃c4:Option Addr,∃c5:Nat,∃c6:Nat,∃c7:Own,l=(10,.slice c0 c1 c2)::(11,.slice c4 c5 c6)::(12,.int .i64 d.2.2.2)::l0∧o= [(f0,.cells #[.slice x y z,.slice a0 a1 a2,.slice a3 a4 a5,.int .u32 (d.1.Epoch.toNat:Int),.int .u32 (d.1.Count.toNat:Int)] 29 (0,0))]::c3::c7::o0∧q=g∧Hle H q∧IsSlice q (RSl RU8 1) 1 (.slice x y z) d.1.Disk.Blocks∧IsSlice q R_Write 2 (.slice a0 a1 a2) d.1.Disk.Waits∧IsSlice q RU8 1 (.slice a3 a4 a5) d.1.Space∧RowOf (New H q) R_Ptr w.heap.size 32 5 (.slice c0 c1 c2) d.2.1 c3∧RowOf (New H q) RInt w.heap.size 3 1 (.slice c4 c5 c6) d.2.2.1 c7) hx ⟨H,h2,h3,h4,h5,h6,h7,h8,h9,i0,none,0,0,[],none,0,0,[],rfl,rfl,rfl,(Hle.refl _),e7,e8,e9,(ZF _ _ _ _ _),(ZF _ _ _ _ _)⟩ rfl ?_))))))))
   ·
    rintro r5 d _ _ _ ⟨q,x,y,z,a0,a1,a2,a3,a4,a5,c0,c1,c2,c3,c4,c5,c6,c7,rfl,rfl,rfl,e2,f9,g0,g1,g2,g3⟩ r6 hx e3
    unfold ref16_Laid_l1 at hx
    refine Run.cl [] 5 ZB rfl (ZA rfl rfl (ZQ U30 rfl (IsSlice.long b0)) (Run.lcz_s [] 3 ZB rfl (ZJ hx rfl (λk3 hx=> ?_) (λk3 hx=> ?_))))
    ·
     refine Run.cc_s [] 5 ZB rfl (JC.draw (so:=[_,_,_,_,_]) 21 rfl Mixed ⟨⟨0,rfl⟩,⟨1,rfl⟩,⟨2,rfl⟩,⟨3,rfl⟩,⟨4,rfl⟩,trivial⟩ (JA.val ⟨by kernel_rfl,by kernel_rfl⟩ (ZG _) (i:=0) rfl ⟨by kernel_rfl,by kernel_rfl,rfl⟩ trivial (ZD (Hle.refl _) ⟨⟨0,rfl⟩,⟨1,rfl⟩,⟨2,rfl⟩,⟨3,rfl⟩,⟨4,rfl⟩,trivial⟩) (R.ldoN 0 (vs:=[.slice x y z,.slice a0 a1 a2,.slice a3 a4 a5,.int .u32 (d.1.Epoch.toNat:Int),.int .u32 (d.1.Count.toNat:Int)]) S29 rfl rfl rfl rfl) rfl (JA.val ⟨by kernel_rfl,by kernel_rfl⟩ (ZG _) (i:=1) rfl ⟨by kernel_rfl,by kernel_rfl,rfl⟩ trivial (ZD (Hle.refl _) ⟨⟨0,rfl⟩,⟨1,rfl⟩,⟨2,rfl⟩,⟨3,rfl⟩,⟨4,rfl⟩,trivial⟩) (Zd rfl) rfl (JA.val ⟨by kernel_rfl,by kernel_rfl⟩ (ZG _) (i:=2) rfl ⟨by kernel_rfl,by kernel_rfl,rfl⟩ trivial (ZD (Hle.refl _) ⟨⟨0,rfl⟩,⟨1,rfl⟩,⟨2,rfl⟩,⟨3,rfl⟩,⟨4,rfl⟩,trivial⟩) (Zd rfl) rfl (JA.val ⟨by kernel_rfl,by kernel_rfl⟩ (ZG _) (i:=3) rfl ⟨by kernel_rfl,by kernel_rfl,rfl⟩ trivial (ZD (Hle.refl _) ⟨⟨0,rfl⟩,⟨1,rfl⟩,⟨2,rfl⟩,⟨3,rfl⟩,⟨4,rfl⟩,trivial⟩) (Zd rfl) rfl (JA.val ⟨by kernel_rfl,by kernel_rfl⟩ (ZG _) (i:=4) rfl ⟨by kernel_rfl,by kernel_rfl,rfl⟩ trivial (ZD (Hle.refl _) ⟨⟨0,rfl⟩,⟨1,rfl⟩,⟨2,rfl⟩,⟨3,rfl⟩,⟨4,rfl⟩,trivial⟩) (Zd rfl) rfl (JA.val ⟨by kernel_rfl,by kernel_rfl⟩ (ZG _) (i:=5) rfl ⟨by kernel_rfl,by kernel_rfl,rfl⟩ trivial (ZD (Hle.refl _) ⟨⟨0,rfl⟩,⟨1,rfl⟩,⟨2,rfl⟩,⟨3,rfl⟩,⟨4,rfl⟩,trivial⟩) (ZQ U30 rfl (IsSlice.long b0)) rfl (JA.val ⟨by kernel_rfl,by kernel_rfl⟩ (ZG _) (i:=6) rfl ⟨by kernel_rfl,by kernel_rfl,rfl⟩ trivial (ZD (Hle.refl _) ⟨⟨0,rfl⟩,⟨1,rfl⟩,⟨2,rfl⟩,⟨3,rfl⟩,⟨4,rfl⟩,trivial⟩) (Zd rfl) rfl (JA.val ⟨by kernel_rfl,by kernel_rfl⟩ (ZG _) (i:=7) rfl ⟨by kernel_rfl,by kernel_rfl,rfl⟩ trivial (ZD (Hle.refl _) ⟨⟨0,rfl⟩,⟨1,rfl⟩,⟨2,rfl⟩,⟨3,rfl⟩,⟨4,rfl⟩,trivial⟩) (R.add_i rfl rfl) rfl (JAA.start [⟨16,13,29,.agg #[.slice none 0 0,.slice none 0 0,.slice none 0 0,.int .u32 0,.int .u32 0]⟩,⟨17,14,32,.agg #[.int .i64 0,.int .u32 0,.int .u32 0,.int .u32 0,.int .u32 0]⟩] rfl (JAA.one (i:=8) ⟨⟨_,_,_,rfl,Z29,rfl⟩,⟨_,_,_,rfl,Z32,rfl⟩,trivial⟩ (Hle.refl _) ⟨⟨0,rfl⟩,⟨1,rfl⟩,⟨2,rfl⟩,⟨3,rfl⟩,⟨4,rfl⟩,trivial⟩ rfl (by kernel_rfl) (JOA.step rfl trivial rfl (λr7 r8 K hK=>ZA rfl rfl (R.min2 rfl rfl) (ZN (hK (by repeat constructor) (by repeat constructor) (ZD (Hle.refl _) ⟨⟨0,rfl⟩,⟨1,rfl⟩,⟨2,rfl⟩,⟨3,rfl⟩,⟨4,rfl⟩,trivial⟩) ?_)))))))))))))))
     obtain⟨r9,k4,e4,hx⟩:=slc_some hx
     obtain⟨s0,g4,h1v_36,h2v_36,h3v_36,g5⟩:=IsSlice.cutv (b0.mono R_Ptr.mono e2) k4 e4
     refine JAA.val ⟨by kernel_rfl,by kernel_rfl⟩ (ZG _) (i:=9) rfl (by kernel_rfl) rfl trivial (Hle.refl _) ⟨⟨0,rfl⟩,⟨1,rfl⟩,⟨2,rfl⟩,⟨3,rfl⟩,⟨4,rfl⟩,trivial⟩ (R.slc (cap:=g4) (a:=d.2.2.2) (b:=min (a9.length:Int) (w64 (d.2.2.2+16))) (c:=(g4:Int)) (m:=a9) (R:=R_Ptr) U30 S32 rfl ⟨_,rfl⟩ ⟨_,rfl⟩ (by obtain⟨ao,n,e,_⟩:=h1v_36;exact⟨ao,n,e,rfl⟩) ⟨e4.1,e4.2.1,h2v_36⟩ h3v_36 (.inl rfl)) rfl ?_
     obtain⟨s1,s2,rfl⟩:=IsSlice.val g5
     refine JAA.one (i:=10) ⟨⟨_,_,_,rfl,Z29,rfl⟩,⟨_,_,_,rfl,Z32,rfl⟩,trivial⟩ (Hle.refl _) ⟨⟨0,rfl⟩,⟨1,rfl⟩,⟨2,rfl⟩,⟨3,rfl⟩,⟨4,rfl⟩,trivial⟩ rfl (by kernel_rfl) (JOA.step rfl trivial rfl (λi8 i9 K hK=> ?_))
     refine ZK hx E50 rfl ref10_Packed_ok rfl ⟨g5,trivial⟩ ?_
     intro s3 s4 hx s5 s6 s7 s8 k5
     refine ZN (hK (by repeat constructor) (by repeat constructor) (ZD (Hle.refl _) ⟨⟨1,rfl⟩,⟨2,rfl⟩,⟨3,rfl⟩,⟨4,rfl⟩,⟨5,rfl⟩,trivial⟩) (JAA.one (i:=11) ⟨⟨_,_,_,rfl,Z29,rfl⟩,⟨_,_,_,rfl,Z32,rfl⟩,trivial⟩ (Hle.refl _) ⟨⟨1,rfl⟩,⟨2,rfl⟩,⟨3,rfl⟩,⟨4,rfl⟩,⟨5,rfl⟩,trivial⟩ rfl (by kernel_rfl) (JOA.step rfl trivial rfl (λs9 t0 K hK=>JL.pubN 0 RU8.mono rfl k5 (Nat.le_refl _) (λt1 f k6=>JL.forget 0 ?_)))))
     refine JL.con hx E49 rfl ref13_Put_ok rfl ⟨(f9.mono (RSl.mono RU8.mono) f),(g0.mono R_Write.mono f),(g1.mono RU8.mono f),(k6.old RU8.mono),trivial⟩ ?_
     intro s t2 hx c8 j k7 k8 k9 t3 f2 l1 l2 l3 t4 l4 f4 f5 f6 j4 d8
     refine ZN (hK (by repeat constructor) (by repeat constructor) (ZD (f.trans j) ⟨⟨3,rfl⟩,⟨4,rfl⟩,⟨5,rfl⟩,⟨6,rfl⟩,⟨7,rfl⟩,trivial⟩) (JAA.val ⟨by kernel_rfl,by kernel_rfl⟩ (ZG _) (i:=12) rfl (by kernel_rfl) rfl trivial (f.trans j) ⟨⟨3,rfl⟩,⟨4,rfl⟩,⟨5,rfl⟩,⟨6,rfl⟩,⟨7,rfl⟩,trivial⟩ (Zd rfl) rfl (JAA.val ⟨by kernel_rfl,by kernel_rfl⟩ (ZG _) (i:=13) rfl (by kernel_rfl) rfl trivial (f.trans j) ⟨⟨3,rfl⟩,⟨4,rfl⟩,⟨5,rfl⟩,⟨6,rfl⟩,⟨7,rfl⟩,trivial⟩ (R.extract rfl rfl) rfl (JAA.val ⟨by kernel_rfl,by kernel_rfl⟩ (ZG _) (i:=14) rfl (by kernel_rfl) rfl trivial (f.trans j) ⟨⟨3,rfl⟩,⟨4,rfl⟩,⟨5,rfl⟩,⟨6,rfl⟩,⟨7,rfl⟩,trivial⟩ (R.extract rfl rfl) rfl (JAA.val ⟨by kernel_rfl,by kernel_rfl⟩ (ZG _) (i:=15) rfl (by kernel_rfl) rfl trivial (f.trans j) ⟨⟨3,rfl⟩,⟨4,rfl⟩,⟨5,rfl⟩,⟨6,rfl⟩,⟨7,rfl⟩,trivial⟩ (R.extract rfl rfl) rfl (JAA.all ⟨⟨_,_,_,rfl,Z29,rfl⟩,⟨_,_,_,rfl,Z32,rfl⟩,trivial⟩ (f.trans j) ⟨⟨3,rfl⟩,⟨4,rfl⟩,⟨5,rfl⟩,⟨6,rfl⟩,⟨7,rfl⟩,trivial⟩ rfl (by kernel_rfl) (λt5 t6 t7 t8=>JA.one (i:=18) (by kernel_rfl) (JO.step rfl trivial rfl (λK hK=> ?_)))))))))
     refine Run.lnz [8] 2 ZB rfl (hK _ _ _ (ZD (f.trans j) ⟨⟨3,rfl⟩,⟨4,rfl⟩,⟨5,rfl⟩,⟨6,rfl⟩,⟨7,rfl⟩,trivial⟩) (JA.one (i:=19) (by kernel_rfl) (JO.step rfl trivial rfl (λK hK=> ?_))))
     refine Run.lnz [9] 2 ZB rfl (hK _ _ _ (ZD (f.trans j) ⟨⟨3,rfl⟩,⟨4,rfl⟩,⟨5,rfl⟩,⟨6,rfl⟩,⟨7,rfl⟩,trivial⟩) (JA.val ⟨by kernel_rfl,by kernel_rfl⟩ (ZG _) (i:=20) rfl ⟨by kernel_rfl,by kernel_rfl,rfl⟩ trivial (ZD (f.trans j) ⟨⟨3,rfl⟩,⟨4,rfl⟩,⟨5,rfl⟩,⟨6,rfl⟩,⟨7,rfl⟩,trivial⟩) (R.assign rfl) rfl (Zs (by kernel_rfl) ?_)))
     refine Run.nc_s [] 8 ZB rfl (ZJ hx rfl (λl5 hx=> ?_) (λl5 hx=> ?_))
     ·
      refine Run.cnz_kbk [6,7] 14 ZB rfl ?_
      obtain rfl:=ZP e3 hx
      refine Run.nnz_kb [] 2 ZB rfl ?_
      clear hx;have hx:=i2
      simp only[Sum.elim_inl,Sum.elim_inr]at hx
      refine Run.nnz_kk [] 2 ZB rfl (ZL ?_)
      exact Zm [7,8] [0] ZB rfl hx rfl ⟨IsSlice.nil _ _ _,IsSlice.nil _ _ _,IsSlice.nil _ _ _,⟨0,ZF _ _ _ _ _⟩,rfl⟩
     ·
      refine Run.cl_s [8,3,9] 12 ZB rfl (Zt (HF:=(New H c8)) (R:=R_Ptr) (ls:=[s.2.1]) (vs:=[.agg #[.int .i64 s.2.1.At,.int .u32 (s.2.1.Birth.toNat:Int),.int .u32 (s.2.1.Iv.toNat:Int),.int .u32 (s.2.1.Tag.toNat:Int),.int .u32 (s.2.1.Sum.toNat:Int)]]) U30 I32 rfl rfl (⟨_,_,rfl,rfl,rfl,rfl⟩) R_Ptr.one rfl rfl rfl (by simp[maxLen]) rfl (λt9 u0 g6=> ?_))
      obtain⟨u1,u2,rfl⟩:=RowOf.val g6
      obtain⟨g7,l6,l7,hx⟩:=Zc hx
      refine Zk (HF:=(New H c8)) 5 U30 I32 rfl rfl (g2.mono R_Ptr.mono (New.mono (f.trans j))) rfl (SrcF.row 0 U30 rfl g6) l6 l7 rfl (Nat.le_refl _) rfl (λu3 l8 g8=> ?_)
      obtain⟨l9,m0,rfl⟩:=RowOf.val g8
      refine Run.llz_s [10] 7 ZB rfl (Zt (HF:=(New H c8)) (R:=RInt) (ls:=[s.2.1.At]) (vs:=[.int .i64 s.2.1.At]) U35 I3 rfl rfl (⟨_,_,rfl,rfl,rfl,rfl⟩) RInt.one rfl rfl rfl (by simp[maxLen]) rfl (λu4 u5 g9=> ?_))
      obtain⟨u6,u7,rfl⟩:=RowOf.val g9
      obtain⟨h0,m1,m2,hx⟩:=Zc hx
      refine Zk (HF:=(New H c8)) 7 U35 I3 rfl rfl (g3.mono RInt.mono (New.mono (f.trans j))) rfl (SrcF.row 0 U35 rfl g9) m1 m2 rfl (Nat.le_refl _) rfl (λu8 m3 h1=> ?_)
      obtain⟨m4,m5,rfl⟩:=RowOf.val h1
      refine Run.lnz_bs [] 9 ZB rfl ?_
      replace hx:=ZU e3 hx
      refine JN.pubN 2 (RSl.mono RU8.mono) rfl f2 (Nat.le_refl _) (λu9 a6 m6=>JN.forget 2 (JN.pubN 2 R_Write.mono rfl (l4.mono R_Write.mono (New.mono a6)) (Nat.le_refl _) (λv0 a7 m7=>JN.forget 2 (JN.pubN 2 RU8.mono rfl (d8.mono RU8.mono (New.mono (a6.trans a7))) (Nat.le_refl _) (λm8 a8 m9=>JN.forget 2 (JN.forget 8 (JN.forget 7 (JN.forget 1 (JN.forget 0 (ZC 4 rfl (ZC 4 rfl (ZC 4 rfl (ZC 4 rfl (ZC 4 rfl ?_))))))))))))))
      exact ZE ⟨(s.1,g7,h0,w64 (d.2.2.2+16)),⟨m8,k7,k8,k9,l1,l2,l3,f4,f5,f6,l9,g7.length,m0,l8,m4,h0.length,m5,m3,rfl,rfl,rfl,((e2.trans (f.trans (j.trans (a6.trans (a7.trans a8)))))),((m6.mono (RSl.mono RU8.mono) (New.mono (a7.trans a8))).old (RSl.mono RU8.mono)),((m7.mono R_Write.mono (New.mono a8)).old R_Write.mono),(m9.old RU8.mono),(g8.mono R_Ptr.mono (New.mono (a6.trans (a7.trans a8)))),(h1.mono RInt.mono (New.mono (a6.trans (a7.trans a8))))⟩,hx⟩ rfl rfl rfl
    ·
     refine Run.cnz_k [] 2 ZB rfl ?_
     obtain rfl:=ZP e3 hx
     refine Run.nnz_kb [] 2 ZB rfl (ZC 4 rfl (ZC 4 rfl (ZC 4 rfl (ZC 4 rfl (ZC 4 rfl ?_)))))
     exact ZE ⟨(d.1,d.2.1,d.2.2.1),q,x,y,z,a0,a1,a2,a3,a4,a5,c0,c1,c2,c3,c4,c5,c6,c7,rfl,rfl,rfl,rfl,(e2),f9,g0,g1,g2,g3⟩ rfl rfl rfl
theorem ref16_Lay_ok{d c f}:Con Tryz.prog 8 false (sp_Store false d++ [.w32 c,.sl false R_Ptr 5 f]) (ref16_Lay d c f) (λr=>sp_Store false r.1++sp_Ptr true r.2.1++ [.row true RInt 3 1 r.2.2.1,.i r.2.2.2]):=by
 intro H a2 a3 a4 h a5 a6 a7 j a8 a9 b0 k b1 b2 b3 m r hx
 refine Does.enterC Tryz.func8 rfl rfl ?_
 intro w
 unfold ref16_Lay at hx
 refine Run.cl [] 2 ZB rfl (ZY rfl rfl (λb4 b5=>JL.alloc Z29 rfl (λb6 b7=>JL.alloc Z32 rfl (λb8 b9=>Run.ll_s [2] 8 ZB rfl (ZK hx E26 rfl ref13_May_ok rfl ⟨h,j,k,trivial⟩ ?_)))))
 intro c0 c1 hx
 refine Run.llz [] 2 ZB rfl (Zi 17 hx rfl (λp hx=> ?_) (λp hx=> ?_))
 ·
  refine Run.lnz_sk [1,0] 19 ZB rfl (ZL ?_)
  exact Zm [2,1] [0] ZB rfl hx rfl ⟨IsSlice.nil _ _ _,IsSlice.nil _ _ _,IsSlice.nil _ _ _,⟨0,ZF _ _ _ _ _⟩,rfl⟩
 ·
  refine Run.llz [] 3 ZB rfl (ZK hx E27 rfl ref16_May_ok rfl ⟨m,trivial⟩ ?_)
  intro c2 c3 hx
  refine Run.lcz_s [] 5 ZB rfl (ZJ hx rfl (λq hx=> ?_) (λq hx=> ?_))
  ·
   refine Run.cnz_k [1,0] 12 ZB rfl (ZL ?_)
   exact Zm [2,1] [0] ZB rfl hx rfl ⟨IsSlice.nil _ _ _,IsSlice.nil _ _ _,IsSlice.nil _ _ _,⟨0,ZF _ _ _ _ _⟩,rfl⟩
  ·
   refine Run.cl_s [] 6 ZB rfl (ZA rfl rfl (R.lss32 (a:=c) (b:=(1:UInt32)) rfl rfl) (ZA rfl rfl (Zd rfl) (Zi 26 hx rfl (λs hx=> ?_) (λs hx=> ?_))))
   ·
    refine Run.lnz_sk [1,0] 18 ZB rfl (ZL ?_)
    exact Zm [2,1] [0] ZB rfl hx rfl ⟨IsSlice.nil _ _ _,IsSlice.nil _ _ _,IsSlice.nil _ _ _,⟨0,ZF _ _ _ _ _⟩,rfl⟩
   ·
    refine Run.llz [] 3 ZB rfl (ZA rfl rfl (R.gtr32 (a:=c) (b:=(16777215:UInt32)) rfl rfl) (Run.lcz_s [] 3 ZB rfl (ZJ hx rfl (λv hx=> ?_) (λv hx=> ?_))))
    ·
     refine Run.cnz_k [1,0] 12 ZB rfl (ZL ?_)
     exact Zm [2,1] [0] ZB rfl hx rfl ⟨IsSlice.nil _ _ _,IsSlice.nil _ _ _,IsSlice.nil _ _ _,⟨0,ZF _ _ _ _ _⟩,rfl⟩
    ·
     refine Run.cl_s [2] 7 ZB rfl (JL.con hx E28 rfl ref16_Laid_ok rfl ⟨h,j,k,m,trivial⟩ ?_)
     intro c4 c5 hx c6 c7 c8 c9 d0 x d1 d2 d3 y d4 d5 d6 z d7 d8 d9 e0 a0
     refine Run.llz [] 5 ZB rfl (JL.alloc Z29 rfl (λe1 e2=>JL.alloc Z32 rfl (λe3 e4=>Run.lc_s [1,0] 13 ZB rfl (ZJ hx rfl (λa1 hx=> ?_) (λa1 hx=> ?_)))))
     ·
      refine Run.cnz_k [4,3] 12 ZB rfl (ZL ?_)
      exact Zm [5,4] [0] ZB rfl hx rfl ⟨IsSlice.nil _ _ _,IsSlice.nil _ _ _,IsSlice.nil _ _ _,⟨0,ZF _ _ _ _ _⟩,rfl⟩
     ·
      refine Run.cc_s [] 3 ZB rfl (Zn (so:=[(_,[]),(_,[]),(_,[]),(_,[4]),(_,[3]),(_,[])]) 7 rfl Mixed ⟨by kernel_rfl,by kernel_rfl⟩ (Zb [0,1,2,3,4,5] rfl) ?_)
      refine JB.run 3 [0,1,2] [1,0] ZB rfl ?_
      refine JB.one (i:=3) (by kernel_rfl) ?_
      refine JOB.step rfl trivial rfl (λK hK=>Run.lnz [4] 2 ZB rfl (hK _ _ _ (Hle.refl _) (Zu [false,false,false,false,true,false] [0,1,2,3,0,5] (by kernel_rfl) rfl) ?_))
      refine JB.one (i:=4) (by kernel_rfl) ?_
      refine JOB.step rfl trivial rfl (λK hK=>Run.lnz [3] 2 ZB rfl (hK _ _ _ (Hle.refl _) (Zu [false,false,false,true,true,false] [0,1,2,0,0,5] (by kernel_rfl) rfl) ?_))
      refine JB.run 2 [5,6] [] ZB rfl ?_
      refine JB.doneN (by kernel_rfl) ?_
      refine Run.nnz_s [] 2 ZB rfl ?_
      exact Zm [4,3] [2] ZB rfl hx rfl ⟨x,y,z,⟨_,a0⟩,rfl⟩
theorem slices_Clone_byte_L_ok (b:List (List UInt8))(H:Heaplet){ao:Option Addr}{n cap:Nat}(hs:IsSlice H (RSl RU8 1) 1 (.slice ao n cap) b)(r:List (List UInt8))(hx:slices_Clone_byte_L b=some r):
  Does Tryz.prog 119 #[.slice ao n cap] [] H (λu K' H'=>∃ao0:Option Addr,∃n0:Nat,∃cap0:Nat,∃K0:Own,u=.slice ao0 n0 cap0∧K'= [K0]∧H=H'∧RowOf H' (RSl RU8 1) 0 26 1 (.slice ao0 n0 cap0) r K0∧(∀p∈K0,p.1∉ids (List.flatten []))∧True):=by
 rw[slices_Clone_byte_L.eq_1]at hx
 obtain⟨q,hq,hl,hx⟩:=Zc hx
 obtain rfl:=Option.some.inj hx
 refine Does.enter (vs:=[.slice ao n cap]) (l:=[(0,.slice ao n cap)]) Tryz.func119 rfl rfl ⟨rfl,trivial⟩ (λw=>Run.cl [] 9 ZB rfl (ZA rfl rfl (R.eqlNil U22 rfl rfl) (Run.lcz_s [] 2 ZB rfl ?_)))
 cases ao with
 |none=>
  have hp:=hs.none_nil
  subst hp
  simp only[List.append_nil]at hq
  subst hq
  refine Run.cnz_k [] 8 ZB rfl (ZL (Zj (vs:=[.slice none 0 0]) (K:=[_]) (rst:=[]) (.inl rfl) rfl rfl (Res.tmp rfl rfl) (ZO 0 rfl ZM) ?_))
  exact⟨none,0,0,[],rfl,rfl,rfl,ZF _ _ _ _ _,(λp hp=>by cases hp),trivial⟩
 |some a=>
  refine Run.cl_s [] 5 ZB rfl (Zt (HF:=H) (R:=(RSl RU8 1)) (ls:=[]) (vs:=[]) U22 I26 rfl rfl rfl RSl.one rfl rfl rfl (by simp[maxLen]) rfl (λv1 K1 h1=> ?_))
  obtain⟨ao1,cap1,rfl⟩:=RowOf.val h1
  refine ZA rfl rfl (Zd rfl) (Zk (HF:=H) 0 U22 I26 rfl rfl h1 rfl (SrcF.slice RSl.one U22 (Hle.refl _) hs) hq hl rfl (Nat.le_refl _) rfl (λv2 K2 h2=> ?_))
  obtain⟨ao2,cap2,rfl⟩:=RowOf.val h2
  refine Run.lnz_s [] 4 ZB rfl (Zj (vs:=[.slice ao2 _ cap2]) (K:=[_]) (rst:=[]) (.inl rfl) rfl rfl (Res.tmp rfl rfl) (ZO 0 rfl ZM) ?_)
  exact⟨_,_,_,_,rfl,rfl,rfl,Zo (Nat.zero_le _) h2,(λp hp hm=>by cases hm),trivial⟩
theorem dev_all_ok{a}:Con Tryz.prog 99 true ([.i a]) (dev_all a) (λr=> [.b r]):=by
 intro H r hx
 refine Does.enterC Tryz.func99 rfl rfl ?_
 intro w
 unfold dev_all at hx
 refine Run.cnz [] 11 ZB rfl ?_
 exact ZI [] rfl hx rfl rfl
theorem dev_lasts_ok (y:Disk)(H:Heaplet){m:Value}{c:Option Addr}{d:Nat}{f:Nat}(h:IsSlice H R_Write 2 (.slice c d f) y.Waits)(r:(List (Int×Write)))(hx:dev_lasts y=some r):
  Does Tryz.prog 120 #[.agg #[m,.slice c d f],.func (.func 99) #[] #[]] [] H (λu K' H'=>∃ao0:Option Addr,∃n0:Nat,∃cap0:Nat,∃K0:Own,u=.map (some n0)∧K'= [K0]∧H=H'∧MapOf H R_Write 0 n0 r K0∧(∀p∈K0,p.1∉ids (List.flatten []))∧True):=by
 refine Does.enterL (vs:=[.agg #[m,.slice c d f],.func (.func 99) #[] #[]]) (l:=[(0,.agg #[m,.slice c d f]),(1,.func (.func 99) #[] #[])]) Tryz.func120 rfl rfl ⟨rfl,rfl,trivial⟩ (λw hlt=> ?_)
 unfold dev_lasts at hx
 refine Run.cl [] 2 ZB rfl (ZY rfl rfl (λb2 b3=>Run.ll_s [] 5 ZB rfl (JL.mkMapF (New H H) R_Write rfl (λi a1 a2=>Run.ll_s [1] 8 ZB rfl (ZA rfl rfl (ZQ U23 rfl (IsSlice.long h)) (Run.lcz_s [] 3 ZB rfl (ZV hx [5] [] rfl rfl (λq l0 o0 l o g=>∃j:Own,l=l0∧o=j::o0∧H=g∧MapOf H R_Write w.heap.size i q j) (λq b4 hx=> ?_) (λq b5 hx=> ?_))))))))
 ·
  rintro _ _ _ ⟨j,rfl,rfl,rfl,z⟩
  refine Run.nnz_s [] 8 ZB rfl (Zj (vs:=[.map (some i)]) (K:=[_]) (rst:=[]) (.inl rfl) rfl rfl (Res.tmp rfl rfl) (ZO 0 rfl ZM) ?_)
  obtain rfl:=Option.some.inj hx
  exact⟨none,i,0,j,rfl,rfl,rfl,(MapOf.weak (Nat.zero_le _) z),(newM_ids z hlt),trivial⟩
 ·
  refine JC.block (JC.forget 1 (ZZ [1,5,10,11] [] rfl rfl (λl0 o0 a l o g=>∃b:Own,l=(12,.int .i64 ((a.2:Nat):Int))::l0∧o=b::o0∧H=g∧MapOf H R_Write w.heap.size i a.1 b) hx ⟨a1,rfl,rfl,rfl,(a2.old R_Write.mono)⟩ rfl ?_))
  ·
   rintro b6 a _ _ _ ⟨b,rfl,rfl,rfl,s⟩ b7 hx v
   unfold dev_lasts_l1 at hx
   refine Run.cc [] 6 ZB rfl (ZJ hx rfl (λx hx=> ?_) (λx hx=> ?_))
   ·
    refine Run.cl_s [] 7 ZB rfl ?_
    obtain⟨k,a3,hx⟩:=ZR hx
    obtain⟨b8,b9,c0,a4,a5,c1,a6⟩:=IsSlice.elem h a3
    obtain⟨c2,rfl,a0⟩:=a5
    obtain⟨a7,a8,rfl⟩:=IsSlice.val a0
    refine ZA rfl rfl (R.ix U23 S78 rfl rfl a4) (ZA rfl rfl (R.ldHF 0 S78 rfl a6 rfl rfl) (JL.alloc Z78 rfl (λc3 c4=>Run.ll_s [0] 8 ZB rfl (ZK hx E99 rfl dev_all_ok rfl trivial ?_))))
    intro c5 c6 hx
    refine Run.lcz_s [] 2 ZB rfl (ZJ hx rfl (λa9 hx=> ?_) (λa9 hx=> ?_))
    ·
     refine Run.clz [0,0] 5 ZB rfl (JL.mapUpdF 1 (cs:=[.int .i64 k.At,.slice a7 k.Data.length a8]) U160 U3 rfl rfl rfl rfl s ⟨_,rfl,a0⟩ (λb0 b1=>Run.llz_bs [] 4 ZB rfl (ZA rfl rfl (Zr rfl rfl (of_decide_eq_true x) (IsSlice.lenI h)) (Run.lnz [] 2 ZB rfl ?_))))
     replace hx:=ZU v hx
     refine JN.forget 0 ?_
     exact ZE ⟨((putM a.1 k.At k),a.2+1),⟨b0,rfl,rfl,rfl,b1⟩,hx⟩ rfl rfl rfl
    ·
     refine Run.clz_bs [] 4 ZB rfl (ZA rfl rfl (Zr rfl rfl (of_decide_eq_true x) (IsSlice.lenI h)) (Run.lnz [] 2 ZB rfl ?_))
     replace hx:=ZU v hx
     refine JN.forget 0 ?_
     exact ZE ⟨(a.1,a.2+1),⟨b,rfl,rfl,rfl,s⟩,hx⟩ rfl rfl rfl
   ·
    refine Run.cnz_k [] 2 ZB rfl ?_
    obtain rfl:=ZP v hx
    refine Run.nnz_kb [] 2 ZB rfl ?_
    exact ZE ⟨b,rfl,rfl,rfl,s⟩ rfl rfl rfl
theorem dev_left_ok (s:Disk)(H:Heaplet){a4:Option Addr}{a5:Nat}{a6:Nat}{c:Option Addr}{d:Nat}{m:Nat}(b5:IsSlice H (RSl RU8 1) 1 (.slice a4 a5 a6) s.Blocks)(e9:IsSlice H R_Write 2 (.slice c d m) s.Waits)(r:Disk)(hx:dev_left s=some r):
  Does Tryz.prog 98 #[.agg #[.slice a4 a5 a6,.slice c d m],.func (.func 99) #[] #[]] [] H (λu K' H'=>∃ao0:Option Addr,∃n0:Nat,∃cap0:Nat,∃K0:Own,∃ao1:Option Addr,∃n1:Nat,∃cap1:Nat,∃K1:Own,u=.agg #[.slice ao0 n0 cap0,.slice ao1 n1 cap1]∧K'= [K0,K1]∧Pcs 0 5 26 (.slice ao0 n0 cap0) r.Blocks K0∧(∀p∈K0,p.1∉ids (List.flatten []))∧RowOf (New H H') R_Write 0 78 2 (.slice ao1 n1 cap1) r.Waits K1∧(∀p∈K1,p.1∉ids (List.flatten []))∧True):=by
 refine Does.enterL (vs:=[.agg #[.slice a4 a5 a6,.slice c d m],.func (.func 99) #[] #[]]) (l:=[(0,.agg #[.slice a4 a5 a6,.slice c d m]),(1,.func (.func 99) #[] #[])]) Tryz.func98 rfl rfl ⟨rfl,rfl,trivial⟩ (λw hlt=> ?_)
 unfold dev_left at hx
 refine Run.cl [] 2 ZB rfl (ZY rfl rfl (λb6 j2=>JL.alloc Z25 rfl (λd3 j3=>Run.lc_s [] 3 ZB rfl (ZV hx [1,2,4] [0] rfl rfl (λv l0 o0 l o g=>∃a0:Option Addr,∃a1:Nat,∃a2:Nat,∃a7:Own,l=l0∧o= [(b6,.cells #[.slice a0 a1 a2,.slice c d m] 25 (0,0))]::a7::o0∧H=g∧RowOf H (RSl RU8 1) w.heap.size 26 1 (.slice a0 a1 a2) v a7) (λv j4 hx=> ?_) (λv j5 hx=> ?_)))))
 ·
  rintro _ _ _ ⟨a0,a1,a2,a7,rfl,rfl,rfl,f0⟩
  refine Run.nl_s [0] 6 ZB rfl ?_
  obtain⟨x,f1,hx⟩:=ZT hx
  refine ZX (vs:=[_,_]) (args:=[_,_]) (K:=[]) (rst:=[_,_,_]) E120 rfl rfl rfl ZM (dev_lasts_ok (Disk.mk v s.Waits) _ e9 _ f1) rfl (λj6 j7 j8 f2 j9 f3=> ?_)
  obtain⟨k0,d4,k1,k2,rfl,rfl,rfl,b7,f4,-⟩:=f2
  replace b7:=(MapOf.base b7 (λp hp=>(f3 p (Ze 0 rfl hp)).resolve_left (f4 p hp)))
  refine JL.rangeMapF 0 U160 rfl rfl b7 rfl (λd5 f5 f6 a8=> ?_)
  subst f6
  refine Run.lcz_s [] 2 ZB rfl ?_
  obtain⟨f7,f8,b8,hx⟩:=layR_some hx
  refine JC.block (JC.loop (ι:=Array Nat×(List (List UInt8))×Own) (λ_=> [(2,.pointer (some ⟨b6,0,none⟩)),(4,.pointer (some ⟨d3,0,none⟩)),(16,.pointer (some ⟨d5,0,none⟩))]) (λi=> [[(d5,.mapIter (some d4) (x).length i.1 (x).length)],[(d4,.map f5 (x).length)],[(b6,.cells #[.slice a0 a1 a2,.slice c d m] 25 (0,0))],i.2.2,[(d3,.cells #[.slice none 0 0,.slice none 0 0] 25 (0,0))]]) (λ_=>H) (λi=>i.1.toList.Nodup∧(∀q∈i.1.toList,q<(x).length)∧Laid (λy:Write=>y.Data) v x i.1.toList i.2.1∧RowOf H (RSl RU8 1) w.heap.size 26 1 (.slice a0 a1 a2) i.2.1 i.2.2) (λi=>(x).length-i.1.size) (#[],v,a7) ⟨by simp,by simp,Laid.start _ _ _,f0⟩ ⟨rfl,rfl,rfl,trivial⟩ rfl rfl ?_)
  rintro⟨d6,a3,f9⟩ ⟨b9,c0,a9,b0⟩
  dsimp only at b9 c0 a9 b0⊢
  refine Run.cl [] 2 ZB rfl (JL.nextMap 0 1 rfl rfl rfl a8 (Nat.le_refl _) rfl (λg0=> ?_) (λg1 z b1 k3 b2 g2 d7 g3=> ?_))
  ·
   refine Run.lnz_sk [] 8 ZB rfl (JN.exitSame ?_)
   obtain rfl:=f8.trans (a9.full a8.nodup b8 g0).symm
   refine JN.forget 1 (JN.forget 0 (Run.nl_s [0,0] 10 ZB rfl (JL.pub 1 (RSl.mono RU8.mono) rfl b0 (Nat.le_refl _) (λk4 g4 g5=>JL.forget 1 ?_))))
   obtain⟨k5,g6,hx⟩:=ZT hx
   refine ZX (vs:=[_]) (args:=[_]) (K:=[]) (rst:=[_,_]) E41 rfl rfl rfl ZM (dev_Twin_ok (Disk.mk f7 ([]:List Write)) _ g5 (IsSlice.nil _ _ _) _ g6) rfl (λk6 k7 k8 g7 k9 d8=> ?_)
   obtain⟨d9,e0,e1,g8,e2,e3,e4,g9,rfl,rfl,b3,h0,b4,h1,-⟩:=g7
   replace b3:=(Pcs.base b3 (λp hp=>(d8 p (Ze 0 rfl hp)).resolve_left (h0 p hp)))
   replace b4:=(RowOf.base (RowOf.mono R_Write.mono (New.call g4) b4) (λp hp=>(d8 p (Ze 1 rfl hp)).resolve_left (h1 p hp)))
   refine Run.lnz_s [3] 4 ZB rfl (Zj (vs:=[.agg #[.slice d9 e0 e1,.slice e2 e3 e4]]) (K:=[_,_]) (rst:=[_,_]) (.inl rfl) rfl rfl (Res.cellN 3 rfl rfl S25 rfl) (ZO 0 rfl (ZO 0 rfl ZM)) ?_)
   obtain rfl:=Option.some.inj hx
   exact⟨d9,e0,e1,g8,e2,e3,e4,g9,rfl,rfl,(Pcs.weak (Nat.zero_le _) b3),(newP_ids b3 hlt),(Zo (Nat.zero_le _) b4),(new_ids b4 hlt),trivial⟩
  ·
   have h2:=seen_more b9 c0 (List.getElem?_eq_some_iff.1 b2).1 d7
   refine Run.ll_s [] 10 ZB rfl ?_
   obtain⟨l1,rfl,e5⟩:=g3
   obtain⟨l2,l3,rfl⟩:=IsSlice.val e5
   refine JL.entryMap 0 1 rfl rfl rfl a8 g2 rfl ?_
   have e6:=b8 _ (List.mem_of_getElem? b2)
   rw[←a9.len]at e6
   clear hx
   have hx:(chk (0≤z∧z.toNat<a3.length)<|setI a3 z b1.Data λe7=>some e7)=some (a3.set z.toNat b1.Data):=lay_step e6
   refine Run.llz [] 2 ZB rfl (JL.alloc Z78 rfl (λl4 l5=>Run.llz_s [0,3,0] 10 ZB rfl ?_))
   obtain⟨h3,hx⟩:=chk_some hx
   obtain⟨l6,l7,e8⟩:=RowOf.place b0 h3
   refine ZA rfl rfl (R.ix U22 S26 rfl rfl e8) ?_
   obtain⟨e7,h4,l8,hx⟩:=setI_some hx
   refine JL.stE 4 (k:=z) (y:=b1.Data) S26 rfl b0 rfl e8 rfl rfl (⟨_,rfl,e5⟩) RSl.one h4 (λh5 h6 l9=>Run.lnz_b [] 2 ZB rfl ?_)
   obtain rfl:=Option.some.inj hx
   refine JN.forget 0 (ZC 4 rfl (ZC 4 rfl (ZC 4 rfl (ZC 4 rfl (ZC 4 rfl ?_)))))
   exact JN.again (i:=(d6,a3,f9)) (d6.push g1,a3.set z.toNat b1.Data,h5) ⟨by simp only[Array.toList_push];exact List.nodup_append.2 ⟨b9,by simp,λa ha b hb e=>by simp at hb;subst hb;subst e;exact d7 ha⟩,by simp only[Array.toList_push];intro q hq;rcases List.mem_append.1 hq with h|h;exact c0 q h;simp at h;subst h;exact(List.getElem?_eq_some_iff.1 b2).1,a9.step (f:=(λy:Write=>y.Data)) a8.nodup b8 b2 _ (λq=>by simp),h6⟩ (by simp only[Array.size_push];simp only[Array.length_toList]at h2;omega) ⟨rfl,rfl,rfl,trivial⟩ rfl rfl
 ·
  refine JC.draw (so:=[_]) 7 rfl Mixed ⟨⟨0,rfl⟩,trivial⟩ (JA.val ⟨by kernel_rfl,by kernel_rfl⟩ (ZG _) (i:=0) rfl ⟨by kernel_rfl,by kernel_rfl,rfl⟩ trivial (ZD (Hle.refl _) ⟨⟨0,rfl⟩,trivial⟩) (R.fa F25_0 rfl) rfl (JA.val ⟨by kernel_rfl,by kernel_rfl⟩ (ZG _) (i:=3) rfl ⟨by kernel_rfl,by kernel_rfl,rfl⟩ trivial (ZD (Hle.refl _) ⟨⟨0,rfl⟩,trivial⟩) (R.fa F25_1 rfl) rfl (JA.two (i:=1) (j:=4) (by kernel_rfl) ?_ ?_)))
  ·
   refine JO.step rfl trivial rfl (λK hK=>Run.lnz [1] 2 ZB rfl (hK _ _ _ (ZD (Hle.refl _) ⟨⟨0,rfl⟩,trivial⟩) (JA.two (i:=2) (j:=4) (by kernel_rfl) ?_ ?_)))
   ·
    refine JO.step rfl trivial rfl (λK hK=> ?_)
    obtain⟨m0,h7,hx⟩:=ZT hx
    refine ZX (vs:=[_]) (args:=[_]) (K:=[]) (rst:=[_,_]) E119 rfl rfl rfl ZM (slices_Clone_byte_L_ok s.Blocks _ b5 _ h7) rfl (λm1 m2 m3 h8 m4 h9=> ?_)
    obtain⟨c1,c2,c3,i0,rfl,rfl,rfl,c4,i1,-⟩:=h8
    replace c4:=(RowOf.base c4 (λp hp=>(h9 p (Ze 0 rfl hp)).resolve_left (i1 p hp)))
    refine ZN (hK _ _ _ (ZD (Hle.refl _) ⟨⟨1,rfl⟩,trivial⟩) (JA.one (i:=4) (by kernel_rfl) (JO.step rfl trivial rfl (λK hK=> ?_))))
    refine Run.lnz [2] 2 ZB rfl (hK _ _ _ (ZD (Hle.refl _) ⟨⟨1,rfl⟩,trivial⟩) (JA.val ⟨by kernel_rfl,by kernel_rfl⟩ (ZG _) (i:=5) rfl ⟨by kernel_rfl,by kernel_rfl,rfl⟩ trivial (ZD (Hle.refl _) ⟨⟨1,rfl⟩,trivial⟩) (R.bldP (vs:=[(0,.slice c1 c2 c3),(1,.slice c d m)]) (cs:=[.slice c1 c2 c3,.slice c d m]) Z25 B25 rfl rfl rfl) rfl (JA.one (i:=6) (by kernel_rfl) (JO.step rfl trivial rfl (λK hK=> ?_)))))
    refine Run.lnz [2] 2 ZB rfl (hK _ _ _ (ZD (Hle.refl _) ⟨⟨1,rfl⟩,trivial⟩) (Zs (by kernel_rfl) ?_))
    obtain rfl:=Option.some.inj hx
    refine ZC 1 rfl (ZC 1 rfl (ZC 2 rfl ?_))
    exact ZE ⟨c1,c2,c3,i0,rfl,rfl,rfl,c4⟩ rfl rfl rfl
   ·
    refine JO.step rfl trivial rfl (λK hK=>Run.lnz [1] 2 ZB rfl (hK _ _ _ (ZD (Hle.refl _) ⟨⟨0,rfl⟩,trivial⟩) (JA.one (i:=2) (by kernel_rfl) (JO.step rfl trivial rfl (λK hK=> ?_)))))
    obtain⟨m5,i2,hx⟩:=ZT hx
    refine ZX (vs:=[_]) (args:=[_]) (K:=[]) (rst:=[_,_]) E119 rfl rfl rfl ZM (slices_Clone_byte_L_ok s.Blocks _ b5 _ i2) rfl (λm6 m7 m8 i3 m9 i4=> ?_)
    obtain⟨c5,c6,c7,i5,rfl,rfl,rfl,c8,i6,-⟩:=i3
    replace c8:=(RowOf.base c8 (λp hp=>(i4 p (Ze 0 rfl hp)).resolve_left (i6 p hp)))
    refine ZN (hK _ _ _ (ZD (Hle.refl _) ⟨⟨1,rfl⟩,trivial⟩) (JA.val ⟨by kernel_rfl,by kernel_rfl⟩ (ZG _) (i:=5) rfl ⟨by kernel_rfl,by kernel_rfl,rfl⟩ trivial (ZD (Hle.refl _) ⟨⟨1,rfl⟩,trivial⟩) (R.bldP (vs:=[(0,.slice c5 c6 c7),(1,.slice c d m)]) (cs:=[.slice c5 c6 c7,.slice c d m]) Z25 B25 rfl rfl rfl) rfl (JA.one (i:=6) (by kernel_rfl) (JO.step rfl trivial rfl (λK hK=> ?_)))))
    refine Run.lnz [2] 2 ZB rfl (hK _ _ _ (ZD (Hle.refl _) ⟨⟨1,rfl⟩,trivial⟩) (Zs (by kernel_rfl) ?_))
    obtain rfl:=Option.some.inj hx
    refine ZC 1 rfl (ZC 1 rfl (ZC 2 rfl ?_))
    exact ZE ⟨c5,c6,c7,i5,rfl,rfl,rfl,c8⟩ rfl rfl rfl
  ·
   refine JO.step rfl trivial rfl (λK hK=>Run.lnz [1] 2 ZB rfl (hK _ _ _ (ZD (Hle.refl _) ⟨⟨0,rfl⟩,trivial⟩) (JA.one (i:=1) (by kernel_rfl) (JO.step rfl trivial rfl (λK hK=> ?_)))))
   refine Run.lnz [1] 2 ZB rfl (hK _ _ _ (ZD (Hle.refl _) ⟨⟨0,rfl⟩,trivial⟩) (JA.one (i:=2) (by kernel_rfl) (JO.step rfl trivial rfl (λK hK=> ?_))))
   obtain⟨n2,i7,hx⟩:=ZT hx
   refine ZX (vs:=[_]) (args:=[_]) (K:=[]) (rst:=[_,_]) E119 rfl rfl rfl ZM (slices_Clone_byte_L_ok s.Blocks _ b5 _ i7) rfl (λn3 n4 n5 i8 n6 i9=> ?_)
   obtain⟨c9,d0,d1,j0,rfl,rfl,rfl,d2,j1,-⟩:=i8
   replace d2:=(RowOf.base d2 (λp hp=>(i9 p (Ze 0 rfl hp)).resolve_left (j1 p hp)))
   refine ZN (hK _ _ _ (ZD (Hle.refl _) ⟨⟨1,rfl⟩,trivial⟩) (JA.val ⟨by kernel_rfl,by kernel_rfl⟩ (ZG _) (i:=5) rfl ⟨by kernel_rfl,by kernel_rfl,rfl⟩ trivial (ZD (Hle.refl _) ⟨⟨1,rfl⟩,trivial⟩) (R.bldP (vs:=[(0,.slice c9 d0 d1),(1,.slice c d m)]) (cs:=[.slice c9 d0 d1,.slice c d m]) Z25 B25 rfl rfl rfl) rfl (JA.one (i:=6) (by kernel_rfl) (JO.step rfl trivial rfl (λK hK=> ?_)))))
   refine Run.lnz [2] 2 ZB rfl (hK _ _ _ (ZD (Hle.refl _) ⟨⟨1,rfl⟩,trivial⟩) (Zs (by kernel_rfl) ?_))
   obtain rfl:=Option.some.inj hx
   refine ZC 1 rfl (ZC 1 rfl (ZC 2 rfl ?_))
   exact ZE ⟨c9,d0,d1,j0,rfl,rfl,rfl,d2⟩ rfl rfl rfl
theorem dev_Read_1_ok (j:Disk)(H:Heaplet){a:Nat}{b:Option Addr}{c:Nat}{d:Nat}{f:Option Addr}{h:Nat}{i:Nat}(q:IsSlice H (RSl RU8 1) 1 (.slice b c d) j.Blocks)(s:IsSlice H R_Write 2 (.slice f h i) j.Waits)(r:Disk×Disk)(hx:dev_Read_1 j=some r):
  Does Tryz.prog 97 #[.pointer (some ⟨a,0,none⟩)] [[(a,.cells #[.slice b c d,.slice f h i] 25 (0,0))]] H (λu K' H'=>∃ao0:Option Addr,∃n0:Nat,∃cap0:Nat,∃ao1:Option Addr,∃n1:Nat,∃cap1:Nat,∃ao2:Option Addr,∃n2:Nat,∃cap2:Nat,∃K2:Own,∃ao3:Option Addr,∃n3:Nat,∃cap3:Nat,∃K3:Own,u=.agg #[.slice ao2 n2 cap2,.slice ao3 n3 cap3]∧K'= [[(a,.cells #[.slice ao0 n0 cap0,.slice ao1 n1 cap1] 25 (0,0))],K2,K3]∧IsSlice H' (RSl RU8 1) 1 (.slice ao0 n0 cap0) r.2.Blocks∧IsSlice H' R_Write 2 (.slice ao1 n1 cap1) r.2.Waits∧Pcs 0 5 26 (.slice ao2 n2 cap2) r.1.Blocks K2∧(∀p∈K2,p.1∉ids (List.flatten [[(a,.cells #[.slice b c d,.slice f h i] 25 (0,0))]]))∧RowOf (New H H') R_Write 0 78 2 (.slice ao3 n3 cap3) r.1.Waits K3∧(∀p∈K3,p.1∉ids (List.flatten [[(a,.cells #[.slice b c d,.slice f h i] 25 (0,0))]]))∧True):=by
 refine Does.enterL (vs:=[.pointer (some ⟨a,0,none⟩)]) (l:=[(0,.pointer (some ⟨a,0,none⟩))]) Tryz.func97 rfl rfl ⟨rfl,trivial⟩ (λw hlt=> ?_)
 unfold dev_Read_1 at hx
 refine Run.cl [] 2 ZB rfl (JL.alloc Z25 rfl (λb0 b1=>Run.ll_s [1] 5 ZB rfl ?_))
 obtain⟨b2,a4,hx⟩:=ZT hx
 refine ZX (vs:=[_,_]) (args:=[_,_]) (K:=[]) (rst:=[_,_]) E98 rfl rfl rfl ZM (dev_left_ok j _ q s _ a4) rfl (λb3 b4 b5 a5 v x=> ?_)
 obtain⟨y,z,a0,a6,a1,a2,a3,a7,rfl,rfl,k,a8,m,a9,-⟩:=a5
 replace k:=(Pcs.base k (λp hp=>(x p (Ze 0 rfl hp)).resolve_left (a8 p hp)))
 replace m:=(RowOf.base (RowOf.mono R_Write.mono (New.call (Hle.refl _)) m) (λp hp=>(x p (Ze 1 rfl hp)).resolve_left (a9 p hp)))
 refine Run.lnz_s [2] 4 ZB rfl (Zj (vs:=[.agg #[.slice y z a0,.slice a1 a2 a3]]) (K:=[_,_,_]) (rst:=[_]) (.inl rfl) rfl rfl (Res.cellN 2 rfl rfl S25 rfl) (ZO 3 rfl (ZO 0 rfl (ZO 0 rfl ZM))) ?_)
 obtain rfl:=Option.some.inj hx
 exact⟨b,c,d,f,h,i,y,z,a0,a6,a1,a2,a3,a7,rfl,rfl,(q.mono (RSl.mono RU8.mono) v),(s.mono R_Write.mono v),(Pcs.weak (Nat.zero_le _) k),(newP_ids k hlt),(Zo (Nat.zero_le _) m),(new_ids m hlt),trivial⟩
theorem dev_guarded_v2_ok (a1:Disk)(j:Bool)(k:Disk)(H:Heaplet){m:Option Addr}{q:Nat}{s:Nat}{v:Option Addr}{x:Nat}{y:Nat}{a:Nat}{b:Option Addr}{c:Nat}{d:Nat}{f:Option Addr}{h:Nat}{i:Nat}(b2:IsSlice H (RSl RU8 1) 1 (.slice m q s) a1.Blocks)(b3:IsSlice H R_Write 2 (.slice v x y) a1.Waits)(a2:IsSlice H (RSl RU8 1) 1 (.slice b c d) k.Blocks)(a3:IsSlice H R_Write 2 (.slice f h i) k.Waits)(r:Disk×Int×Disk)(hx:dev_guarded_v2 a1 j k=some r):
  Does Tryz.prog 96 #[.agg #[.slice m q s,.slice v x y],.bool j,.func (.func 97) #[] #[.pointer (some ⟨a,0,none⟩)]] [[(a,.cells #[.slice b c d,.slice f h i] 25 (0,0))]] H (λu K' H'=>∃ao0:Option Addr,∃n0:Nat,∃cap0:Nat,∃ao1:Option Addr,∃n1:Nat,∃cap1:Nat,∃ao2:Option Addr,∃n2:Nat,∃cap2:Nat,∃ao3:Option Addr,∃n3:Nat,∃cap3:Nat,∃K3:Own,u=.tuple #[.agg #[.slice ao2 n2 cap2,.slice ao3 n3 cap3],.int .i64 r.2.1]∧K'= [[(a,.cells #[.slice ao0 n0 cap0,.slice ao1 n1 cap1] 25 (0,0))],K3]∧IsSlice H' (RSl RU8 1) 1 (.slice ao0 n0 cap0) r.2.2.Blocks∧IsSlice H' R_Write 2 (.slice ao1 n1 cap1) r.2.2.Waits∧IsSlice (New H H') (RSl RU8 1) 1 (.slice ao2 n2 cap2) r.1.Blocks∧RowOf (New H H') R_Write 0 78 2 (.slice ao3 n3 cap3) r.1.Waits K3∧(∀p∈K3,p.1∉ids (List.flatten [[(a,.cells #[.slice b c d,.slice f h i] 25 (0,0))]]))∧True):=by
 refine Does.enterL (vs:=[.agg #[.slice m q s,.slice v x y],.bool j,.func (.func 97) #[] #[.pointer (some ⟨a,0,none⟩)]]) (l:=[(0,.agg #[.slice m q s,.slice v x y]),(1,.bool j),(2,.func (.func 97) #[] #[.pointer (some ⟨a,0,none⟩)])]) Tryz.func96 rfl rfl ⟨rfl,rfl,rfl,trivial⟩ (λw hlt=> ?_)
 unfold dev_guarded_v2 at hx
 refine Run.cl [] 2 ZB rfl (ZY rfl rfl (λd1 d2=>JL.alloc Z25 rfl (λd3 d4=>Run.ll_s [1] 6 ZB rfl (ZK hx E38 rfl dev_Check_ok rfl ⟨b2,b3,trivial⟩ ?_))))
 intro b4 d5 hx
 refine Run.lc_s [] 12 ZB rfl (ZJ hx rfl (λb5 hx=> ?_) (λb5 hx=> ?_))
 ·
  refine Run.cnz_bk [0] 11 ZB rfl (ZL (Zj (vs:=[.agg #[.slice none 0 0,.slice none 0 0],.int .i64 b4]) (K:=[_,_]) (rst:=[_,_]) (.inl rfl) rfl rfl (Res.cellN 1 rfl rfl S25 (Res.tmp rfl rfl)) (ZO 3 rfl (ZO 0 rfl ZM)) ?_))
  obtain rfl:=Option.some.inj hx
  exact⟨b,c,d,f,h,i,none,0,0,none,0,0,[],rfl,rfl,a2,a3,(IsSlice.nil _ _ _),(ZF _ _ _ _ _),(λp hp=>by cases hp),trivial⟩
 ·
  refine Run.ccz [] 7 ZB rfl (ZJ hx rfl (λb6 hx=> ?_) (λb6 hx=> ?_))
  ·
   refine Run.cnz_bk [0] 10 ZB rfl (ZL (Zj (vs:=[.agg #[.slice none 0 0,.slice none 0 0],.int .i64 2]) (K:=[_,_]) (rst:=[_,_]) (.inl rfl) rfl rfl (Res.cellN 1 rfl rfl S25 (Res.tmp rfl rfl)) (ZO 3 rfl (ZO 0 rfl ZM)) ?_))
   obtain rfl:=Option.some.inj hx
   exact⟨b,c,d,f,h,i,none,0,0,none,0,0,[],rfl,rfl,a2,a3,(IsSlice.nil _ _ _),(ZF _ _ _ _ _),(λp hp=>by cases hp),trivial⟩
  ·
   refine Run.cl_bs [] 6 ZB rfl ?_
   obtain⟨d6,b7,hx⟩:=ZT hx
   refine ZX (vs:=[]) (args:=[_]) (K:=[_]) (rst:=[_,_]) E97 rfl rfl rfl (ZO 2 rfl ZM) (dev_Read_1_ok k _ a2 a3 _ b7) rfl (λd7 d8 d9 b8 e0 a5=> ?_)
   obtain⟨b9,c0,c1,c2,c3,c4,a6,a7,a8,e1,a9,b0,b1,c5,rfl,rfl,c6,c7,a4,c8,z,c9,-⟩:=b8
   replace a4:=(Pcs.base a4 (λp hp=>(a5 p (Ze 1 rfl hp)).resolve_left (c8 p hp)))
   replace z:=(RowOf.base (RowOf.mono R_Write.mono (New.call (Hle.refl _)) z) (λp hp=>(a5 p (Ze 2 rfl hp)).resolve_left (c9 p hp)))
   refine Run.lnz_s [3] 5 ZB rfl (JN.pubPcs 1 rfl a4 (Nat.le_refl _) (λe2 a0 d0=>JN.forget 1 (Zj (vs:=[.agg #[.slice a6 a7 a8,.slice a9 b0 b1],.int .i64 0]) (K:=[_,_]) (rst:=[_,_]) (.inl rfl) rfl rfl (Res.cellN 2 rfl rfl S25 (Res.tmp rfl rfl)) (ZO 0 rfl (ZO 0 rfl ZM)) ?_)))
   obtain rfl:=Option.some.inj hx
   exact⟨b9,c0,c1,c2,c3,c4,a6,a7,a8,a9,b0,b1,c5,rfl,rfl,(c6.mono (RSl.mono RU8.mono) a0),(c7.mono R_Write.mono a0),d0,(Zo (Nat.zero_le _) (z.mono R_Write.mono (New.mono a0))),(new_ids (z.mono R_Write.mono (New.mono a0)) hlt),trivial⟩
theorem dev_Read_ok{d b3}:Con Tryz.prog 75 false (sp_Disk false d++ [.i b3]) (dev_Read d b3) (λr=> [.sl true RU8 1 r.1,.i r.2]):=by
 intro H e0 e1 e2 k e3 e4 e5 m r hx
 refine Does.enterC Tryz.func75 rfl rfl ?_
 intro w
 unfold dev_Read at hx
 refine Run.cl [] 2 ZB rfl (ZY rfl rfl (λe6 e7=>Run.lc_s [] 5 ZB rfl (ZV hx [1] [] rfl rfl (λf l0 o0 l o g=>∃h:Heaplet,∃q:Nat,∃s:Option Addr,∃v:Nat,∃x:Nat,∃y:Option Addr,∃z:Nat,∃a0:Nat,∃a1:Own,l=(6,.pointer (some ⟨q,0,none⟩))::(7,.int .i64 f.2.2)::l0∧o= [(q,.cells #[.slice s v x,.slice y z a0] 25 (0,0))]::a1::o0∧h=g∧Hle H h∧w.heap.size≤q∧IsSlice (New H h) (RSl RU8 1) 1 (.slice s v x) f.1∧RowOf (New H h) R_Write w.heap.size 78 2 (.slice y z a0) f.2.1 a1) (λf e8 hx=> ?_) (λf e9 hx=> ?_))))
 ·
  rintro _ _ _ ⟨h,q,s,v,x,y,z,a0,a1,rfl,rfl,rfl,f0,f1,b8,f2⟩
  refine Run.nc_s [] 8 ZB rfl (ZJ hx rfl (λb9 hx=> ?_) (λb9 hx=> ?_))
  ·
   refine Run.cnz_k [] 9 ZB rfl ?_
   exact JN.con [] rfl hx rfl ⟨IsSlice.nil _ _ _,rfl⟩
  ·
   refine Run.cl_s [0] 7 ZB rfl ?_
   obtain⟨f3,c0,hx⟩:=ZR hx
   obtain⟨f4,f5,f6,c1,c2,f7,c3⟩:=IsSlice.elem b8 c0
   obtain⟨f8,rfl,b4⟩:=c2
   obtain⟨f9,g0,rfl⟩:=IsSlice.val b4
   refine ZA rfl rfl (R.ix U22 S26 rfl rfl c1) (ZA rfl rfl (R.ldH S26 rfl ((λj u e=>New.le _ _ _ _ _ (c3 j u e)) 0 _ rfl)) (Run.lnz_s [] 5 ZB rfl ?_))
   exact JN.con [] rfl hx rfl ⟨b4,rfl⟩
 ·
  refine JC.draw (so:=[]) 11 rfl Mixed trivial (JA.val ⟨by kernel_rfl,by kernel_rfl⟩ (ZG _) (i:=1) rfl ⟨by kernel_rfl,by kernel_rfl,rfl⟩ trivial (ZD (Hle.refl _) trivial) (Zd rfl) rfl (JA.val ⟨by kernel_rfl,by kernel_rfl⟩ (ZG _) (i:=3) rfl ⟨by kernel_rfl,by kernel_rfl,rfl⟩ trivial (ZD (Hle.refl _) trivial) (R.func (vf:=[]) (vc:=[_]) rfl rfl) rfl (JAA.start [⟨8,6,25,.agg #[.slice none 0 0,.slice none 0 0]⟩] rfl ?_)))
  obtain⟨b5,b6,hx⟩:=ZT hx
  obtain⟨g1,b7,hx⟩:=ZT hx
  refine JAA.two (i:=0) (j:=2) ⟨⟨_,_,_,rfl,Z25,rfl⟩,trivial⟩ (Hle.refl _) trivial rfl (by kernel_rfl) ?_ ?_
  ·
   refine JOA.step rfl trivial rfl (λg2 g3 K hK=>Run.lnz [0] 2 ZB rfl (hK (by repeat constructor) (by repeat constructor) (ZD (Hle.refl _) trivial) (JAA.one (i:=2) ⟨⟨_,_,_,rfl,Z25,rfl⟩,trivial⟩ (Hle.refl _) trivial rfl (by kernel_rfl) (JOA.step rfl trivial rfl (λg4 g5 K hK=> ?_)))))
   refine JL.conQ' b6 E60 rfl dev_place_ok rfl trivial (ZN (hK (by repeat constructor) (by repeat constructor) (ZD (Hle.refl _) trivial) (JAA.one (i:=4) ⟨⟨_,_,_,rfl,Z25,rfl⟩,trivial⟩ (Hle.refl _) trivial rfl (by kernel_rfl) (JOA.step rfl trivial rfl (λg6 c4 K hK=>ZX (vs:=[_,_,_]) (args:=[_,_,_]) (K:=[_]) (rst:=c4) E96 rfl rfl rfl (ZO 0 rfl ZM) (dev_guarded_v2_ok d b5 d _ k m k m _ b7) rfl (λc5 c6 a2 a3 a a4=> ?_))))))
   obtain⟨c7,c8,c9,d0,d1,d2,a5,a6,a7,a8,a9,b0,b1,rfl,rfl,d3,d4,b,c,b2,-⟩:=a3
   replace c:=(RowOf.base (RowOf.mono R_Write.mono (New.call (Hle.refl _)) c) (λp hp=>(a4 p (Ze 1 rfl hp)).resolve_left (b2 p hp)))
   replace b:=IsSlice.mono (RSl.mono RU8.mono) (New.call (Hle.refl _)) b
   refine ZN (hK (by repeat constructor) (by repeat constructor) (ZD a trivial) (JAA.val ⟨by kernel_rfl,by kernel_rfl⟩ (ZG _) (i:=5) rfl (by kernel_rfl) rfl trivial a trivial (Zd rfl) rfl (JAA.val ⟨by kernel_rfl,by kernel_rfl⟩ (ZG _) (i:=6) rfl (by kernel_rfl) rfl trivial a trivial (R.extract rfl rfl) rfl (JAA.val ⟨by kernel_rfl,by kernel_rfl⟩ (ZG _) (i:=7) rfl (by kernel_rfl) rfl trivial a trivial (R.extract rfl rfl) rfl (JAA.all ⟨⟨_,_,_,rfl,Z25,rfl⟩,trivial⟩ a trivial rfl (by kernel_rfl) (λd5 d6=>JA.one (i:=9) (by kernel_rfl) (JO.step rfl trivial rfl (λK hK=> ?_))))))))
   refine Run.lnz [2] 2 ZB rfl (hK _ _ _ (ZD a trivial) (JA.val ⟨by kernel_rfl,by kernel_rfl⟩ (ZG _) (i:=10) rfl ⟨by kernel_rfl,by kernel_rfl,rfl⟩ trivial (ZD a trivial) (R.assign rfl) rfl (Zs (by kernel_rfl) ?_)))
   obtain rfl:=Option.some.inj hx
   refine JN.forget 0 (ZC 1 rfl ?_)
   exact ZE ⟨a2,d5,a5,a6,a7,a8,a9,b0,b1,rfl,rfl,rfl,(a),d6,b,c⟩ rfl rfl rfl
  ·
   refine JOA.step rfl trivial rfl (λg7 g8 K hK=>JL.conQ' b6 E60 rfl dev_place_ok rfl trivial (ZN (hK (by repeat constructor) (by repeat constructor) (ZD (Hle.refl _) trivial) (JAA.one (i:=0) ⟨⟨_,_,_,rfl,Z25,rfl⟩,trivial⟩ (Hle.refl _) trivial rfl (by kernel_rfl) (JOA.step rfl trivial rfl (λg9 h0 K hK=> ?_))))))
   refine Run.lnz [0] 2 ZB rfl (hK (by repeat constructor) (by repeat constructor) (ZD (Hle.refl _) trivial) (JAA.one (i:=4) ⟨⟨_,_,_,rfl,Z25,rfl⟩,trivial⟩ (Hle.refl _) trivial rfl (by kernel_rfl) (JOA.step rfl trivial rfl (λh1 d7 K hK=>ZX (vs:=[_,_,_]) (args:=[_,_,_]) (K:=[_]) (rst:=d7) E96 rfl rfl rfl (ZO 0 rfl ZM) (dev_guarded_v2_ok d b5 d _ k m k m _ b7) rfl (λc5 c6 a2 a3 a a4=> ?_)))))
   obtain⟨c7,c8,c9,d0,d1,d2,a5,a6,a7,a8,a9,b0,b1,rfl,rfl,d3,d4,b,c,b2,-⟩:=a3
   replace c:=(RowOf.base (RowOf.mono R_Write.mono (New.call (Hle.refl _)) c) (λp hp=>(a4 p (Ze 1 rfl hp)).resolve_left (b2 p hp)))
   replace b:=IsSlice.mono (RSl.mono RU8.mono) (New.call (Hle.refl _)) b
   refine ZN (hK (by repeat constructor) (by repeat constructor) (ZD a trivial) (JAA.val ⟨by kernel_rfl,by kernel_rfl⟩ (ZG _) (i:=5) rfl (by kernel_rfl) rfl trivial a trivial (Zd rfl) rfl (JAA.val ⟨by kernel_rfl,by kernel_rfl⟩ (ZG _) (i:=6) rfl (by kernel_rfl) rfl trivial a trivial (R.extract rfl rfl) rfl (JAA.val ⟨by kernel_rfl,by kernel_rfl⟩ (ZG _) (i:=7) rfl (by kernel_rfl) rfl trivial a trivial (R.extract rfl rfl) rfl (JAA.all ⟨⟨_,_,_,rfl,Z25,rfl⟩,trivial⟩ a trivial rfl (by kernel_rfl) (λd8 d9=>JA.one (i:=9) (by kernel_rfl) (JO.step rfl trivial rfl (λK hK=> ?_))))))))
   refine Run.lnz [2] 2 ZB rfl (hK _ _ _ (ZD a trivial) (JA.val ⟨by kernel_rfl,by kernel_rfl⟩ (ZG _) (i:=10) rfl ⟨by kernel_rfl,by kernel_rfl,rfl⟩ trivial (ZD a trivial) (R.assign rfl) rfl (Zs (by kernel_rfl) ?_)))
   obtain rfl:=Option.some.inj hx
   refine JN.forget 0 (ZC 1 rfl ?_)
   exact ZE ⟨a2,d8,a5,a6,a7,a8,a9,b0,b1,rfl,rfl,rfl,(a),d9,b,c⟩ rfl rfl rfl
theorem store_Look_ok{q c}:Con Tryz.prog 51 false (sp_Store false q++sp_Ptr false c) (store_Look q c) (λr=> [.sl true RU8 1 r.1,.i r.2]):=by
 intro H b0 b1 b2 s b3 b4 b5 v b6 b7 b8 a2 r hx
 refine Does.enterC Tryz.func51 rfl rfl ?_
 intro w
 unfold store_Look at hx
 refine Run.cl [] 2 ZB rfl (ZY rfl rfl (λb9 c0=>ZY rfl rfl (λc1 c2=>Run.ll_s [1] 8 ZB rfl (ZK hx E19 rfl store_Check_ok rfl ⟨s,v,a2,trivial⟩ ?_))))
 intro c3 c4 hx
 refine Run.llz [] 2 ZB rfl (Zi 11 hx rfl (λa3 hx=> ?_) (λa3 hx=> ?_))
 ·
  refine Run.lnz_sk [] 15 ZB rfl ?_
  exact JN.con [] rfl hx rfl ⟨IsSlice.nil _ _ _,rfl⟩
 ·
  refine Run.llz [0] 3 ZB rfl (ZK hx E29 rfl ptr_Check_ok rfl trivial ?_)
  intro c5 c6 hx
  refine Run.lcz_s [] 5 ZB rfl (ZJ hx rfl (λa4 hx=> ?_) (λa4 hx=> ?_))
  ·
   refine Run.cnz_k [] 8 ZB rfl ?_
   exact JN.con [] rfl hx rfl ⟨IsSlice.nil _ _ _,rfl⟩
  ·
   refine Run.cl_s [0] 7 ZB rfl (ZA rfl rfl (R.eqlAgg QU32 QP32 QG32 QF32 rfl rfl (EqF.i (by decide) S3 U3 rfl rfl (EqF.u32 (a:=c.Birth) (b:=(0:UInt32)) (by decide) S27 U27 rfl rfl (EqF.u32 (a:=c.Iv) (b:=(0:UInt32)) (by decide) S27 U27 rfl rfl (EqF.u32 (a:=c.Tag) (b:=(0:UInt32)) (by decide) S27 U27 rfl rfl (EqF.u32 (a:=c.Sum) (b:=(0:UInt32)) (by decide) S27 U27 rfl rfl EqF.nil)))))) ?_)
   refine Run.lcz_s [] 2 ZB rfl (ZJ hx rfl (λa5 hx=> ?_) (λa5 hx=> ?_))
   ·
    refine Run.cnz_k [] 8 ZB rfl ?_
    exact JN.con [] rfl hx rfl ⟨IsSlice.nil _ _ _,rfl⟩
   ·
    refine Run.cl_s [1,0] 8 ZB rfl (JL.con hx E75 rfl dev_Read_ok rfl ⟨s,v,trivial⟩ ?_)
    intro c7 c8 hx x c9 y z a0 j
    refine Run.lc_s [] 8 ZB rfl (ZV hx [] [] rfl rfl (λd l0 o0 l o g=>∃f:Heaplet,∃k:Option Addr,∃m:Nat,∃p:Nat,l=(6,.slice k m p)::(7,.int .i64 d.2)::l0∧o=o0∧f=g∧Hle x f∧IsSlice (New H f) RU8 1 (.slice k m p) d.1) (λd d0 hx=> ?_) (λd d1 hx=> ?_))
    ·
     rintro _ _ _ ⟨f,k,m,p,rfl,rfl,rfl,d2,a6⟩
     refine Run.nnz_s [] 10 ZB rfl ?_
     exact JN.con [] rfl hx rfl ⟨a6,rfl⟩
    ·
     refine JC.seq (Zn (so:=[(_,[]),(_,[])]) 9 rfl Mixed ⟨by kernel_rfl,by kernel_rfl⟩ (Zb [0,1] rfl) ?_)
     refine JB.run 3 [0,1,2] [] ZB rfl ?_
     refine JB.gX 29 hx rfl (λa7 hx=> ?_) (λa7 hx=> ?_)
     ·
      refine JB.run 3 [3,5,6] [0] ZB rfl ?_
      refine JB.one (i:=4) (by kernel_rfl) ?_
      refine JOB.step rfl ⟨_,_,rfl,rfl,rfl⟩ rfl (λK hK=>JL.con hx E76 rfl mix_Sum_ok rfl ⟨(j.old RU8.mono),trivial⟩ ?_)
      intro a8 d3 hx a1 h
      refine ZN (hK _ _ _ h (Zb [0,1] rfl) ?_)
      refine JB.val (i:=7) [] rfl (R.neq32 (a:=a8) (b:=c.Sum) rfl rfl) ?_
      refine JB.val (i:=8) [] rfl (R.pickT rfl rfl) ?_
      refine JB.doneN (by kernel_rfl) ?_
      refine JN.next (ZJ hx rfl (λa9 hx=> ?_) (λa9 hx=> ?_))
      ·
       refine Run.cnz [] 4 ZB rfl ?_
       obtain rfl:=Option.some.inj hx
       refine JN.forget 1 (JN.forget 0 ?_)
       exact ZE ⟨a1,none,0,0,rfl,rfl,rfl,(h),(IsSlice.nil _ _ _)⟩ rfl rfl rfl
      ·
       refine JC.skip ?_
       obtain rfl:=Option.some.inj hx
       refine JN.forget 1 (JN.forget 0 ?_)
       exact ZE ⟨a1,y,z,a0,rfl,rfl,rfl,(h),(j.mono RU8.mono (New.mono h))⟩ rfl rfl rfl
     ·
      refine JB.run 6 [3,4,5,6,7,8] [] ZB rfl ?_
      refine JB.doneN (by kernel_rfl) ?_
      refine Run.nnz_s [] 3 ZB rfl ?_
      obtain rfl:=Option.some.inj hx
      refine JN.forget 1 (JN.forget 0 ?_)
      exact ZE ⟨x,y,z,a0,rfl,rfl,rfl,(Hle.refl _),j⟩ rfl rfl rfl
theorem ptr_Read_ok{k}:Con Tryz.prog 78 false ([.sl false RU8 1 k]) (ptr_Read k) (λr=>sp_Ptr true r.1++ [.i r.2]):=by
 intro H a6 a7 a8 m r hx
 refine Does.enterC Tryz.func78 rfl rfl ?_
 intro w
 unfold ptr_Read at hx
 refine Run.cl [] 2 ZB rfl (JL.alloc Z32 rfl (λa9 b0=>Run.ll_s [] 7 ZB rfl (ZA rfl rfl (ZQ U26 rfl (IsSlice.long m)) (Run.lcz_s [] 3 ZB rfl (ZJ hx rfl (λv hx=> ?_) (λv hx=> ?_))))))
 ·
  refine Run.cnz_k [0] 9 ZB rfl ?_
  exact Zm [0] [] ZB rfl hx rfl rfl
 ·
  refine Run.cl_s [] 4 ZB rfl (JL.alloc Z103 rfl (λp b1=>Run.ll_s [] 10 ZB rfl (ZK hx E65 rfl ptr_sizes_ok rfl trivial ?_)))
  intro x b2 hx
  refine Run.lcz_s [] 3 ZB rfl (ZV hx [2,4] [1] rfl rfl (λd l0 o0 l o g=>∃h:Heaplet,l=l0∧o= [(p,.cells #[.int .i64 d.1,.int .i64 d.2.1,.int .i64 d.2.2.1,.int .i64 d.2.2.2.1,.int .i64 d.2.2.2.2] 103 (0,0))]::o0∧h=g∧Hle H h) (λd b3 hx=> ?_) (λd b4 hx=> ?_))
  ·
   rintro _ _ _ ⟨h,rfl,rfl,rfl,b5⟩
   refine Run.nl_s [] 3 ZB rfl (ZA rfl rfl (R.ixA 0 U103 S3 rfl rfl rfl) (ZA rfl rfl (R.ldo 0 S3 rfl rfl rfl) (ZA rfl rfl (R.ixA 1 U103 S3 rfl rfl rfl) (ZA rfl rfl (R.ldo 0 S3 rfl rfl rfl) (ZA rfl rfl (R.cv_i64_u32 U3 U27 rfl) (ZA rfl rfl (R.ixA 2 U103 S3 rfl rfl rfl) (ZA rfl rfl (R.ldo 0 S3 rfl rfl rfl) (ZA rfl rfl (R.cv_i64_u32 U3 U27 rfl) (ZA rfl rfl (R.ixA 3 U103 S3 rfl rfl rfl) (ZA rfl rfl (R.ldo 0 S3 rfl rfl rfl) (ZA rfl rfl (R.cv_i64_u32 U3 U27 rfl) (ZA rfl rfl (R.ixA 4 U103 S3 rfl rfl rfl) (ZA rfl rfl (R.ldo 0 S3 rfl rfl rfl) (ZA rfl rfl (R.cv_i64_u32 U3 U27 rfl) (Run.ll_s [1,1] 8 ZB rfl (ZK hx E29 rfl ptr_Check_ok rfl trivial ?_))))))))))))))))
   intro b6 b7 hx
   refine Run.lcz_s [] 9 ZB rfl (ZJ hx rfl (λy hx=> ?_) (λy hx=> ?_))
   ·
    refine Run.cnz_k [1] 10 ZB rfl ?_
    exact Zm [1] [] ZB rfl hx rfl rfl
   ·
    refine Run.cnz_s [1,1] 10 ZB rfl ?_
    exact Zm [1] [] ZB rfl hx rfl rfl
  ·
   refine JC.block (ZS 1 rfl (ZS 1 rfl (ZZ [0,2,4,13] [1] rfl rfl (λl0 o0 b l o g=>∃f:Heaplet,l=(5,.int .i64 b.2.2.2.2.2.1)::(14,.int .i64 ((b.2.2.2.2.2.2:Nat):Int))::l0∧o= [(p,.cells #[.int .i64 b.1,.int .i64 b.2.1,.int .i64 b.2.2.1,.int .i64 b.2.2.2.1,.int .i64 b.2.2.2.2.1] 103 (0,0))]::o0∧f=g∧Hle H f) hx ⟨H,rfl,rfl,rfl,(Hle.refl _)⟩ rfl ?_)))
   ·
    rintro b8 b _ _ _ ⟨f,rfl,rfl,rfl,j⟩ b9 hx q
    unfold ptr_Read_l1 at hx
    refine Run.cc [] 6 ZB rfl (ZJ hx rfl (λs hx=> ?_) (λs hx=> ?_))
    ·
     refine Run.cl_s [] 7 ZB rfl ?_
     obtain⟨z,a0,hx⟩:=ZR hx
     refine ZA rfl rfl (R.idxA (enc:=(λa:Int=>Value.int .i64 a)) (L:=x.l) U103 S3 rfl rfl rfl rfl rfl a0) (Run.ll_s [] 10 ZB rfl (JL.con hx E102 rfl code_Get_ok rfl ⟨(m.mono RU8.mono j),trivial⟩ ?_))
     intro c0 c1 hx a1 a2
     refine Run.llz [] 3 ZB rfl ?_
     obtain⟨a3,hx⟩:=chk_some hx
     refine ZA rfl rfl (R.ixAs U103 S3 rfl rfl a3) ?_
     obtain⟨c,a4,a5,hx⟩:=A5.setI_some hx
     refine JL.stA 0 (enc:=(λa:Int=>Value.int .i64 a)) (L:=(A5.mk b.1 b.2.1 b.2.2.1 b.2.2.2.1 b.2.2.2.2.1).l) (L':=c.l) (cur':=#[.int .i64 c.e0,.int .i64 c.e1,.int .i64 c.e2,.int .i64 c.e3,.int .i64 c.e4]) S3 rfl rfl rfl rfl rfl rfl rfl a4 a5.2 rfl (Run.llz_sbs [] 11 ZB rfl (ZA rfl rfl (Zr rfl rfl (of_decide_eq_true s) (by decide)) ?_))
     refine Run.lnz [] 2 ZB rfl ?_
     replace hx:=ZU q hx
     refine ZC 1 rfl (ZC 1 rfl ?_)
     exact ZE ⟨(c.e0,c.e1,c.e2,c.e3,c.e4,w64 (b.2.2.2.2.2.1+z),b.2.2.2.2.2.2+1),⟨a1,rfl,rfl,rfl,((j.trans a2))⟩,hx⟩ rfl rfl rfl
    ·
     refine Run.cnz_k [] 2 ZB rfl ?_
     obtain rfl:=ZP q hx
     refine Run.nnz_kb [] 2 ZB rfl (ZC 1 rfl (ZC 1 rfl ?_))
     exact ZE ⟨f,rfl,rfl,rfl,(j)⟩ rfl rfl rfl
theorem ptr_Rows_ok{d}:Con Tryz.prog 52 false ([.sl false RU8 1 d]) (ptr_Rows d) (λr=> [.row true R_Ptr 32 5 r.1,.i r.2]):=by
 intro H d1 d2 d3 q r hx
 refine Does.enterMC Tryz.func52 rfl rfl ?_
 intro w
 unfold ptr_Rows at hx
 refine Run.cl [] 2 ZB rfl (JL.alloc Z30 rfl (λs d4=>JL.alloc Z36 rfl (λv d5=>Run.ll_s [] 6 ZB rfl (ZA rfl rfl (ZQ U26 rfl (IsSlice.long q)) (Run.lcz_s [] 3 ZB rfl (ZJ hx rfl (λa9 hx=> ?_) (λa9 hx=> ?_)))))))
 ·
  refine Run.cnz_k [1,0] 8 ZB rfl (ZL ?_)
  exact JN.conCM (own2:=[_,_,_]) [] [2,1] [0] ZB ZM ⟨rfl,rfl,rfl,rfl⟩ rfl rfl hx rfl ⟨⟨0,ZF _ _ _ _ _⟩,rfl⟩
 ·
  refine Run.cl_s [] 6 ZB rfl ?_
  obtain⟨d6,b0,hx⟩:=ZT hx
  refine ZX (vs:=[_,_]) (args:=[_,_]) (K:=[]) (rst:=[_,_]) E77 rfl rfl rfl ZM (slices_Chunk_byte_ok d 16 _ q _ b0) rfl (λd7 d8 x b1 b2 d9=> ?_)
  obtain⟨e0,e1,rfl,rfl,b3,b4,b5,-⟩:=b1
  refine Run.lc_s [] 3 ZB rfl ?_
  obtain⟨b6,b7,hx⟩:=ZT hx
  refine JC.seg0 (ZS 1 rfl (ZS 1 rfl (ZS 2 rfl (JC.rangeL (RA:=λH' args (y:List UInt8)=>∃ao:Option Addr,args= #[.slice ao y.length y.length]∧IsSlice H' RU8 1 (.slice ao y.length y.length) y) rfl ptr_Rows_r1 ([]:List Ptr) b6 b7 (λz o g=>∃b:Heaplet,∃f:Option Addr,∃j:Nat,∃k:Nat,∃m:Own,o= [[(s,.cells #[.slice f j k] 30 (0,0))],m,[(v,.cells #[.int .i64 0] 36 (0,0))]]∧b=g∧Hle x b∧RowOf (New H b) R_Ptr w.heap.size 32 5 (.slice f j k) z m) (λe c o g=>(c=.ret∧∃t_10e0:Int,t_10e0=e∧∃a0:Heaplet,o= [[(v,.cells #[.int .i64 t_10e0] 36 (0,0))],[(s,.cells #[.slice none 0 0] 30 (0,0))]]∧a0=g∧Hle x a0)) rfl E101 (slices_Chunk_byte_it d 16 b5 _ (q.mono RU8.mono b2) b3 b4) (λ_ _ _ h=>by obtain⟨_,h,_⟩:=h;rw[h];rfl) rfl ⟨x,none,0,0,[],rfl,rfl,(Hle.refl _),(ZF _ _ _ _ _)⟩ ?_ ?_ ?_))))
  ·
   rintro e2 a5 z args o g e3 ⟨b,f,j,k,m,rfl,rfl,a1,a2⟩ hA hx2
   clear hx;have hx:=hx2;clear hx2;unfold ptr_Rows_r1 at hx
   obtain⟨b8,rfl,b9⟩:=hA
   refine⟨[(2,.pointer (some ⟨s,0,none⟩)),(3,.pointer (some ⟨v,0,none⟩)),(4,.slice b8 a5.length a5.length)],λc0 a6=> ?_,λc0 a6=> ?_⟩
   ·
    refine Run.cnz [] 3 ZB rfl ?_
    exact JN.assigned ⟨rfl,rfl,rfl,trivial⟩
   ·
    refine Run.cl [] 4 ZB rfl ?_
    obtain⟨a,c1,hx⟩:=ZT hx
    refine ZX (vs:=[_]) (args:=[_]) (K:=[]) (rst:=[_,_,_]) E78 rfl rfl rfl ZM (ptr_Read_ok.doesX rfl ⟨b9,trivial⟩ c1) rfl (λe4 e5 p c2 a3 e6=> ?_)
    obtain⟨rfl,rfl,-⟩:=c2
    refine Run.llz [] 3 ZB rfl (JL.alloc Z32 rfl (λe7 e8=>Run.lc_s [0] 11 ZB rfl (ZJ hx rfl (λc3 hx=> ?_) (λc3 hx=> ?_))))
    ·
     refine Run.cnz_kb [1,3] 10 ZB rfl ?_
     obtain rfl:=Option.some.inj hx
     refine JN.forget 2 (JN.forget 0 (ZC 1 rfl ?_))
     exact JN.rR ⟨rfl,a.2,rfl,p,rfl,rfl,((a1.trans a3))⟩
    ·
     refine Run.clz_s [1,0] 5 ZB rfl (Zt (HF:=(New H p)) (R:=R_Ptr) (ls:=[a.1]) (vs:=[.agg #[.int .i64 a.1.At,.int .u32 (a.1.Birth.toNat:Int),.int .u32 (a.1.Iv.toNat:Int),.int .u32 (a.1.Tag.toNat:Int),.int .u32 (a.1.Sum.toNat:Int)]]) U30 I32 rfl rfl (⟨_,_,rfl,rfl,rfl,rfl⟩) R_Ptr.one rfl rfl rfl (by simp[maxLen]) rfl (λe9 f0 a7=> ?_))
     obtain⟨f1,f2,rfl⟩:=RowOf.val a7
     obtain⟨c4,c5,c6,hx⟩:=Zc hx
     refine Zk (HF:=(New H p)) 3 U30 I32 rfl rfl (a2.mono R_Ptr.mono (New.mono a3)) rfl (SrcF.row 0 U30 rfl a7) c5 c6 rfl a6 rfl (λf3 c7 a8=> ?_)
     obtain⟨c8,c9,rfl⟩:=RowOf.val a8
     refine Run.lnz_b [2] 3 ZB rfl ?_
     obtain rfl:=Option.some.inj hx
     refine JN.forget 1 (JN.forget 0 (ZC 2 rfl (ZC 2 rfl (ZC 2 rfl ?_))))
     exact JN.rN ⟨p,c8,c4.length,c9,c7,rfl,rfl,((a1.trans a3)),a8⟩
  ·
   rintro a4 z o g d0 htt ⟨b,f,j,k,m,rfl,rfl,a1,a2⟩ hle2
   subst htt;simp only[Sum.elim_inl]at hx
   refine Run.nnz_bs [1,1,3] 10 ZB rfl ?_
   exact JN.conCM (own2:=[_,_,_]) [a4] [0,2] [1] ZB (ZO 0 rfl ZM) ⟨rfl,rfl,rfl,rfl⟩ rfl rfl hx rfl ⟨⟨_,a2⟩,rfl⟩
  ·
   rintro a4 c e o g d0 htt hX hle2
   rcases hX with⟨rfl,t_10e0,rfl,a0,rfl,rfl,f4⟩
   subst htt;simp only[Sum.elim_inl,Sum.elim_inr]at hx
   refine Run.cnz_bk [] 3 ZB rfl (ZL ?_)
   exact JN.conCM (own2:=[_,_,_]) [a4] [2,1] [0] ZB (ZO 1 rfl ZM) ⟨rfl,rfl,rfl,rfl⟩ rfl rfl hx rfl ⟨⟨0,ZF _ _ _ _ _⟩,rfl⟩
theorem slices_Index_Ptr_ok{m c}:Con Tryz.prog 53 true ([.sl false R_Ptr 5 m]++sp_Ptr false c) (slices_Index_Ptr m c) (λr=> [.i r]):=by
 intro H a1 a2 a3 f r hx
 refine Does.enterC Tryz.func53 rfl rfl ?_
 intro w
 unfold slices_Index_Ptr at hx
 refine Run.cl [] 2 ZB rfl (ZY rfl rfl (λa4 a5=>Run.ll_s [] 7 ZB rfl (ZA rfl rfl (ZQ U30 rfl (IsSlice.long f)) (Run.lcz_s [] 3 ZB rfl (ZV hx [] [] rfl rfl (λh l0 o0 l o g=>∃p:Unit,l=l0∧o=o0∧H=g∧h=.inl p) (λh a6 hx=> ?_) (λh s hx=> ?_))))))
 ·
  rintro _ _ _ ⟨p,rfl,rfl,rfl,rfl⟩
  simp only[Sum.elim_inl]at hx
  refine Run.nnz_s [] 7 ZB rfl ?_
  exact ZI [] rfl hx rfl rfl
 ·
  refine JC.block (ZZ [0,3,7] [0] rfl rfl (λl0 o0 j l o g=>l=(8,.int .i64 ((j:Nat):Int))::l0∧o=o0∧H=g) hx ⟨rfl,rfl,rfl⟩ rfl ?_)
  ·
   rintro a7 j _ _ _ ⟨rfl,rfl,rfl⟩ a8 hx k
   unfold slices_Index_Ptr_l1 at hx
   refine Run.cc [] 6 ZB rfl (ZJ hx rfl (λq hx=> ?_) (λq hx=> ?_))
   ·
    refine Run.cc_s [] 11 ZB rfl (Zn (so:=[(_,[])]) 6 rfl Mixed ⟨by kernel_rfl,by kernel_rfl⟩ (Zb [0] rfl) ?_)
    refine JB.run 3 [0,1,2] [0] ZB rfl ?_
    obtain⟨d,v,hx⟩:=ZR hx
    obtain⟨a9,b0,b1,x,y,b2,z⟩:=IsSlice.elem f v
    obtain rfl:=y
    refine JB.val (i:=3) [] rfl (R.ix U30 S32 rfl rfl x) ?_
    refine JB.val (i:=4) [] rfl (R.ldHF 0 S32 rfl z rfl rfl) ?_
    refine JB.val (i:=5) [] rfl (R.eqlAgg QU32 QP32 QG32 QF32 rfl rfl (EqF.i (by decide) S3 U3 rfl rfl (EqF.u32 (a:=c.Birth) (b:=d.Birth) (by decide) S27 U27 rfl rfl (EqF.u32 (a:=c.Iv) (b:=d.Iv) (by decide) S27 U27 rfl rfl (EqF.u32 (a:=c.Tag) (b:=d.Tag) (by decide) S27 U27 rfl rfl (EqF.u32 (a:=c.Sum) (b:=d.Sum) (by decide) S27 U27 rfl rfl EqF.nil)))))) ?_
    refine JB.doneN (by kernel_rfl) ?_
    refine JN.next (ZJ hx rfl (λa0 hx=> ?_) (λa0 hx=> ?_))
    ·
     refine Run.cnz_bk [] 9 ZB rfl ?_
     obtain rfl:=ZP k hx
     refine Run.nnz_kb [] 2 ZB rfl ?_
     clear hx;have hx:=s
     simp only[Sum.elim_inl,Sum.elim_inr]at hx
     refine Run.nnz_kk [] 2 ZB rfl ?_
     exact ZI [] rfl hx rfl rfl
    ·
     refine Run.clz_bs [] 4 ZB rfl (ZA rfl rfl (Zr rfl rfl (of_decide_eq_true q) (IsSlice.lenI f)) (Run.lnz [] 2 ZB rfl ?_))
     replace hx:=ZU k hx
     exact ZE ⟨j+1,⟨rfl,rfl,rfl⟩,hx⟩ rfl rfl rfl
   ·
    refine Run.cnz_k [] 2 ZB rfl ?_
    obtain rfl:=ZP k hx
    refine Run.nnz_kb [] 2 ZB rfl (JN.forget 0 ?_)
    exact ZE ⟨(),rfl,rfl,rfl,rfl⟩ rfl rfl rfl
theorem dead_read_1_ok{c}:Con Tryz.prog 55 true (sp_Ptr false c) (dead_read_1 c) (λr=> [.b r]):=by
 intro H r hx
 refine Does.enterC Tryz.func55 rfl rfl ?_
 intro w
 unfold dead_read_1 at hx
 refine Run.cl [] 2 ZB rfl (ZY rfl rfl (λd f=>Run.ll_s [0] 7 ZB rfl (ZA rfl rfl (R.neqAgg QU32 QP32 QG32 QF32 rfl rfl (EqF.i (by decide) S3 U3 rfl rfl (EqF.u32 (a:=c.Birth) (b:=(0:UInt32)) (by decide) S27 U27 rfl rfl (EqF.u32 (a:=c.Iv) (b:=(0:UInt32)) (by decide) S27 U27 rfl rfl (EqF.u32 (a:=c.Tag) (b:=(0:UInt32)) (by decide) S27 U27 rfl rfl (EqF.u32 (a:=c.Sum) (b:=(0:UInt32)) (by decide) S27 U27 rfl rfl EqF.nil)))))) ?_)))
 refine Run.lnz_s [] 4 ZB rfl ?_
 exact ZI [] rfl hx rfl rfl
theorem slices_IndexFunc_Ptr_v2_ok{f}:Con Tryz.prog 79 true ([.sl false R_Ptr 5 f,.fv 55]) (slices_IndexFunc_Ptr_v2 f) (λr=> [.i r]):=by
 intro H x y z a r hx
 refine Does.enterC Tryz.func79 rfl rfl ?_
 intro w
 unfold slices_IndexFunc_Ptr_v2 at hx
 refine Run.cl [] 9 ZB rfl (ZA rfl rfl (ZQ U30 rfl (IsSlice.long a)) (Run.lcz_s [] 3 ZB rfl (ZV hx [] [] rfl rfl (λb l0 o0 l o g=>∃h:Unit,l=l0∧o=o0∧H=g∧b=.inl h) (λb a0 hx=> ?_) (λb k hx=> ?_))))
 ·
  rintro _ _ _ ⟨h,rfl,rfl,rfl,rfl⟩
  simp only[Sum.elim_inl]at hx
  refine Run.nnz_s [] 7 ZB rfl ?_
  exact ZI [] rfl hx rfl rfl
 ·
  refine JC.block (ZZ [0,1,7] [] rfl rfl (λl0 o0 c l o g=>l=(8,.int .i64 ((c:Nat):Int))::l0∧o=o0∧H=g) hx ⟨rfl,rfl,rfl⟩ rfl ?_)
  ·
   rintro a1 c _ _ _ ⟨rfl,rfl,rfl⟩ a2 hx d
   unfold slices_IndexFunc_Ptr_v2_l1 at hx
   refine Run.cc [] 6 ZB rfl (ZJ hx rfl (λj hx=> ?_) (λj hx=> ?_))
   ·
    refine Run.cl_s [] 15 ZB rfl ?_
    obtain⟨a3,m,hx⟩:=ZR hx
    obtain⟨a4,a5,a6,p,q,a7,s⟩:=IsSlice.elem a m
    obtain rfl:=q
    refine ZA rfl rfl (R.ix U30 S32 rfl rfl p) (ZA rfl rfl (R.ldHF 0 S32 rfl s rfl rfl) (ZK hx E55 rfl dead_read_1_ok rfl trivial ?_))
    intro a8 a9 hx
    refine Run.lcz_s [] 2 ZB rfl (ZJ hx rfl (λv hx=> ?_) (λv hx=> ?_))
    ·
     refine Run.cnz_bk [] 9 ZB rfl ?_
     obtain rfl:=ZP d hx
     refine Run.nnz_kb [] 2 ZB rfl ?_
     clear hx;have hx:=k
     simp only[Sum.elim_inl,Sum.elim_inr]at hx
     refine Run.nnz_kk [] 2 ZB rfl ?_
     exact ZI [] rfl hx rfl rfl
    ·
     refine Run.clz_bs [] 4 ZB rfl (ZA rfl rfl (Zr rfl rfl (of_decide_eq_true j) (IsSlice.lenI a)) (Run.lnz [] 2 ZB rfl ?_))
     replace hx:=ZU d hx
     exact ZE ⟨c+1,⟨rfl,rfl,rfl⟩,hx⟩ rfl rfl rfl
   ·
    refine Run.cnz_k [] 2 ZB rfl ?_
    obtain rfl:=ZP d hx
    refine Run.nnz_kb [] 2 ZB rfl ?_
    exact ZE ⟨(),rfl,rfl,rfl,rfl⟩ rfl rfl rfl
theorem slices_ContainsFunc_Ptr_v2_ok{a}:Con Tryz.prog 54 true ([.sl false R_Ptr 5 a,.fv 55]) (slices_ContainsFunc_Ptr_v2 a) (λr=> [.b r]):=by
 intro H d f h c r hx
 refine Does.enterC Tryz.func54 rfl rfl ?_
 intro w
 unfold slices_ContainsFunc_Ptr_v2 at hx
 refine Run.cl [] 9 ZB rfl (ZK hx E79 rfl slices_IndexFunc_Ptr_v2_ok rfl ⟨c,trivial⟩ ?_)
 intro i j hx
 refine Run.lnz_s [] 5 ZB rfl ?_
 exact ZI [] rfl hx rfl rfl
theorem dead_must_M:MustP Tryz.prog 32 69:=by
 intro b e H
 refine DoesP.enterC (vs:=[.bool b,.int .i64 e]) Tryz.func32 rfl rfl ?_
 intro w
 cases b
 ·
  exact JC.seq (JC.region (JL.move rfl rfl (ZN (JN.next (JC.condF rfl (JC.skip (JN.retP (JN.out0 (.inr rfl) rfl rfl ⟨rfl,rfl,rfl,rfl⟩))))))))
 ·
  exact JC.seq (JC.region (JL.move rfl rfl (ZN (JN.next (JC.condT rfl (JC.region (JL.move rfl rfl (ZA rfl rfl (R.bldP (vs:=[(0,.int .i64 e)]) (cs:=[.int .i64 e]) (z:=.agg #[.int .i64 0]) (places:=[(0,1)]) (by kernel_rfl) (by kernel_rfl) rfl rfl rfl) (ZA rfl rfl (R.mkI (by kernel_rfl) rfl) (JL.panic rfl (JN.panicP rfl ⟨rfl,rfl⟩)))))))))))
theorem dead_read_ok{j k}:ConP Tryz.prog 31 false (sp_Store false j++sp_Ptr false k) (dead_read j k) (λr=> [.sl true R_Ptr 5 r]) 69:=by
 intro H b4 b5 b6 a0 b7 b8 b9 a1 c0 c1 c2 a2 r hx
 refine DoesP.enterC Tryz.func31 rfl rfl ?_
 intro w
 unfold dead_read at hx
 refine Run.cl [] 2 ZB rfl (ZY rfl rfl (λc3 c4=>ZY rfl rfl (λc5 c6=>Run.ll_s [1,0] 7 ZB rfl (JL.con hx E51 rfl store_Look_ok rfl ⟨a0,a1,a2,trivial⟩ ?_))))
 intro c7 c8 hx c9 d0 d1 d2 d3 a3
 refine Run.ll_s [] 12 ZB rfl (JL.must hx E32 rfl dead_must_M (λa4 hx d4 d5=> ?_) (λa4 hx=> ?_))
 ·
  refine JN.passP ?_
  exact JN.inrP hx rfl
 ·
  refine Run.ll_s [] 5 ZB rfl (JL.con hx E52 rfl ptr_Rows_ok rfl ⟨(a3.old RU8.mono),trivial⟩ ?_)
  intro d d6 hx d7 d8 d9 e0 e1 e2 f
  refine Run.ll_s [] 11 ZB rfl (JL.must hx E32 rfl dead_must_M (λa5 hx e3 e4=> ?_) (λa5 hx=> ?_))
  ·
   refine JN.passP ?_
   exact JN.inrP hx rfl
  ·
   refine Run.ll_s [] 6 ZB rfl (JL.conL hx E53 rfl slices_Index_Ptr_ok rfl (λe5 a6 a7=>⟨(Lent.row' 0 a7 R_Ptr.mono a6 rfl (f.old R_Ptr.mono)),trivial⟩) (λ_=>trivial) ?_)
   intro p e6 hx
   refine Run.lc_s [] 10 ZB rfl (ZJ hx rfl (λa8 hx=> ?_) (λa8 hx=> ?_))
   ·
    refine Run.cnz_k [] 8 ZB rfl (JN.pubN 0 R_Ptr.mono rfl f (Nat.le_refl _) (λe7 e8 a9=>JN.forget 0 ?_))
    exact JN.inlP hx (JN.con [] rfl rfl rfl ⟨a9,rfl⟩)
   ·
    refine Run.cl_s [] 7 ZB rfl (Zi 35 hx rfl (λb0 hx=> ?_) (λb0 hx=> ?_))
    ·
     refine Run.llz [] 5 ZB rfl (JL.must hx E32 rfl dead_must_M (λq hx e9 f0=> ?_) (λq hx=> ?_))
     ·
      refine JN.passP ?_
      exact JN.inrP hx rfl
     ·
      cases q
    ·
     refine Run.llz [] 5 ZB rfl (JL.pubN 0 R_Ptr.mono rfl f (Nat.le_refl _) (λf1 f2 s=>JL.forget 0 ?_))
     obtain⟨f3,b1,h,hx⟩:=slc_some hx
     obtain⟨f4,v,h1v_34,h2v_34,h3v_34,x⟩:=IsSlice.cutv s b1 h
     refine ZA rfl rfl (R.slc (cap:=v) (a:=p) (b:=(d.1.length:Int)) (c:=(v:Int)) (m:=d.1) (R:=R_Ptr) U30 S32 rfl ⟨_,rfl⟩ rfl (by obtain⟨ao,n,e,_⟩:=h1v_34;exact⟨ao,n,e,rfl⟩) ⟨h.1,h.2.1,h2v_34⟩ h3v_34 (.inl rfl)) ?_
     obtain⟨f5,f6,rfl⟩:=IsSlice.val x
     refine JL.gYes rfl rfl rfl (ZK hx E54 rfl slices_ContainsFunc_Ptr_v2_ok rfl ⟨(x.old R_Ptr.mono),trivial⟩ ?_)
     intro f7 f8 hx
     refine ZA rfl rfl (R.pickF rfl rfl) (JL.must hx E32 rfl dead_must_M (λb2 hx f9 g0=> ?_) (λb2 hx=> ?_))
     ·
      refine JN.passP ?_
      exact JN.inrP hx rfl
     ·
      refine Run.ll_s [] 6 ZB rfl ?_
      obtain⟨g1,b3,i,hx⟩:=slc_some hx
      obtain⟨g2,y,h1v_43,h2v_43,h3v_43,z⟩:=IsSlice.cutv s b3 i
      refine ZA rfl rfl (R.slc (cap:=y) (a:=0) (b:=p) (c:=(y:Int)) (m:=d.1) (R:=R_Ptr) U30 S32 rfl rfl ⟨_,rfl⟩ (by obtain⟨ao,n,e,_⟩:=h1v_43;exact⟨ao,n,e,rfl⟩) ⟨i.1,i.2.1,h2v_43⟩ h3v_43 (.inl rfl)) ?_
      obtain⟨g3,g4,rfl⟩:=IsSlice.val z
      refine Run.lnz_s [] 4 ZB rfl ?_
      exact JN.inlP hx (JN.con [] rfl rfl rfl ⟨z,rfl⟩)
theorem dead_Load_1_D{b0 b1 b2:Nat}{v0 v1 v2:Value}{H:Heaplet}:DefP Tryz.prog 30 #[.pointer (some ⟨b0,0,none⟩),.pointer (some ⟨b1,0,none⟩),.pointer (some ⟨b2,0,none⟩)] 69 none [[(b0,.cells #[v0] 30 (0,0))],[(b1,.cells #[v1] 35 (0,0))],[(b2,.cells #[v2] 36 (0,0))]] [[(b0,.cells #[v0] 30 (0,0))],[(b1,.cells #[v1] 35 (0,0))],[(b2,.cells #[v2] 36 (0,0))]] H:=by
 refine DefP.of (vs:=[_,_,_]) Tryz.func30 rfl rfl rfl ?_
 intro w
 show JC _ _ _ ((6,.nilIface)::_) _ _
 refine JC.block (JC.seq (JC.region (ZA rfl rfl (R.eqlNN (by kernel_rfl) rfl) (ZN (JN.next (JC.condT rfl (JC.region (JL.assign rfl rfl (ZN (JN.blkN ?_))))))))))
 exact Zj (vs:=[]) (K:=[_,_,_]) (rst:=[]) (.inr rfl) rfl rfl rfl (by simp) ⟨rfl,rfl⟩
theorem dead_Load_1_P{b0 b1 b2:Nat}{v0 v1 v2:Value}{e:Int}{H:Heaplet}:DefP Tryz.prog 30 #[.pointer (some ⟨b0,0,none⟩),.pointer (some ⟨b1,0,none⟩),.pointer (some ⟨b2,0,none⟩)] 69 (some e) [[(b0,.cells #[v0] 30 (0,0))],[(b1,.cells #[v1] 35 (0,0))],[(b2,.cells #[v2] 36 (0,0))]] [[(b0,.cells #[.slice none 0 0] 30 (0,0))],[(b1,.cells #[.slice none 0 0] 35 (0,0))],[(b2,.cells #[.int .i64 e] 36 (0,0))]] H:=by
 refine DefP.of (vs:=[_,_,_]) Tryz.func30 rfl rfl rfl ?_
 intro w
 show JC _ _ _ ((6,.iface 69 (.agg #[.int .i64 e]))::_) _ _
 refine JC.block (JC.seq (JC.region (ZA rfl rfl (R.eqlIN (by kernel_rfl) rfl rfl) (ZN (JN.next (JC.condF rfl (JC.seq (JC.region (ZA rfl rfl (R.asrt Tryz.underlying69 rfl) (ZA (v:=.bool true) rfl rfl (R.extract rfl rfl) (ZA (v:=.agg #[.int .i64 e]) rfl rfl (R.extract rfl rfl) (ZN (JN.next (JC.condT rfl (JC.seq (JC.region (JL.alloc (z:=.agg #[.int .i64 0]) (by kernel_rfl) rfl (λb hb=>JL.store (n:=1) (g:=true) 0 (by kernel_rfl) rfl rfl rfl rfl rfl (Nat.le_of_ble_eq_true rfl) (ZN (JN.next (Zn (so:=[(_,[])]) 5 rfl (by kernel_rfl) ⟨by kernel_rfl,by kernel_rfl⟩ (Zb [0] rfl) ?_)))))))))))))))))))))
 refine JB.val (i:=0) [] rfl (R.fa (show fieldOff Tryz.prog 69 0=some 0 by kernel_rfl) rfl) ?_
 refine JB.val (i:=1) (v:=.int .i64 e) [] rfl (R.ldo 0 (n:=1) (by kernel_rfl) rfl rfl rfl) ?_
 refine JB.one (i:=2) (by kernel_rfl) ?_
 refine JOB.step rfl trivial rfl (λK hK=>JL.store (n:=1) (g:=false) 1 (by kernel_rfl) rfl rfl rfl rfl rfl (Nat.le_of_ble_eq_true rfl) (ZN (hK _ _ _ (Hle.refl _) (Zb [0] rfl) ?_)))
 refine JB.one (i:=3) (by kernel_rfl) ?_
 refine JOB.step rfl trivial rfl (λK hK=>JL.store (n:=1) (g:=false) 2 (by kernel_rfl) rfl rfl rfl rfl rfl (Nat.le_of_ble_eq_true rfl) (ZN (hK _ _ _ (Hle.refl _) (Zb [0] rfl) ?_)))
 refine JB.one (i:=4) (by kernel_rfl) ?_
 refine JOB.step rfl trivial rfl (λK hK=>JL.store (n:=1) (g:=false) 3 (by kernel_rfl) rfl rfl rfl rfl rfl (Nat.le_of_ble_eq_true rfl) (ZN (hK _ _ _ (Hle.refl _) (Zb [0] rfl) ?_)))
 refine JB.doneN (by kernel_rfl) (JN.blkN (JN.forget 0 ?_))
 exact Zj (vs:=[]) (K:=[[(b0,.cells #[.slice none 0 0] 30 (0,0))],[(b1,.cells #[.slice none 0 0] 35 (0,0))],[(b2,.cells #[.int .i64 e] 36 (0,0))]]) (rst:=[]) (.inr rfl) rfl rfl rfl (List.Perm.of_eq (List.append_nil _).symm) ⟨rfl,rfl⟩
theorem dead_Load_ok{d9 k}:Con Tryz.prog 9 false (sp_Store false d9++sp_Ptr false k) (dead_Load d9 k) (λr=> [.row true R_Ptr 32 5 r.1,.row true RInt 3 1 r.2.1,.i r.2.2]):=by
 intro H h7 h8 h9 c0 i0 i1 i2 c1 i3 i4 i5 c2 r hx
 refine Does.enterDC Tryz.func9 rfl rfl ?_
 intro w
 unfold dead_Load at hx
 refine Run.cl [] 2 ZB rfl (ZY rfl rfl (λi6 i7=>ZY rfl rfl (λi8 i9=>JL.alloc Z30 rfl (λc j0=>JL.alloc Z35 rfl (λd j1=>JL.alloc Z36 rfl (λf j2=>Run.ll_s [4] 6 ZB rfl (ZK hx E19 rfl store_Check_ok rfl ⟨c0,c1,c2,trivial⟩ ?_)))))))
 intro j3 j4 hx
 refine Run.llz [] 2 ZB rfl (Zi 14 hx rfl (λf5 hx=> ?_) (λf5 hx=> ?_))
 ·
  refine Run.lnz_sk [2,1,0] 16 ZB rfl (JN.early (.inl rfl) (ZL (ZL ?_)))
  exact Zm [4,3,2] [0,0] ZB rfl hx rfl ⟨⟨0,ZF _ _ _ _ _⟩,⟨0,ZF _ _ _ _ _⟩,rfl⟩
 ·
  refine Run.llz [3] 3 ZB rfl (ZK hx E29 rfl ptr_Check_ok rfl trivial ?_)
  intro j5 j6 hx
  refine Run.lcz_s [] 5 ZB rfl (ZJ hx rfl (λf6 hx=> ?_) (λf6 hx=> ?_))
  ·
   refine Run.cnz_k [2,1,0] 9 ZB rfl (JN.early (.inl rfl) (ZL (ZL ?_)))
   exact Zm [4,3,2] [0,0] ZB rfl hx rfl ⟨⟨0,ZF _ _ _ _ _⟩,⟨0,ZF _ _ _ _ _⟩,rfl⟩
  ·
   refine Run.cl_s [3] 7 ZB rfl (ZA rfl rfl (R.eqlAgg QU32 QP32 QG32 QF32 rfl rfl (EqF.i (by decide) S3 U3 rfl rfl (EqF.u32 (a:=k.Birth) (b:=(0:UInt32)) (by decide) S27 U27 rfl rfl (EqF.u32 (a:=k.Iv) (b:=(0:UInt32)) (by decide) S27 U27 rfl rfl (EqF.u32 (a:=k.Tag) (b:=(0:UInt32)) (by decide) S27 U27 rfl rfl (EqF.u32 (a:=k.Sum) (b:=(0:UInt32)) (by decide) S27 U27 rfl rfl EqF.nil)))))) ?_)
   refine Run.lcz_s [] 2 ZB rfl (ZJ hx rfl (λf7 hx=> ?_) (λf7 hx=> ?_))
   ·
    refine Run.cnz_k [2,1,0] 9 ZB rfl (JN.early (.inl rfl) (ZL (ZL ?_)))
    exact Zm [4,3,2] [0,0] ZB rfl hx rfl ⟨⟨0,ZF _ _ _ _ _⟩,⟨0,ZF _ _ _ _ _⟩,rfl⟩
   ·
    refine Run.cl_s [] 5 ZB rfl (JL.defer rfl rfl (Run.ll_s [4,3] 6 ZB rfl (JL.conP hx E31 rfl dead_read_ok rfl ⟨c0,c1,c2,trivial⟩ (λe0 hx j7 j8=> ?_) ?_)))
    ·
     simp only[pnk_inr]at hx
     refine JN.passP (JN.leaveD (K:=[[(c,.cells #[.slice none 0 0] 30 (0,0))],[(d,.cells #[.slice none 0 0] 35 (0,0))],[(f,.cells #[.int .i64 0] 36 (0,0))]]) (K':=[[(c,.cells #[.slice none 0 0] 30 (0,0))],[(d,.cells #[.slice none 0 0] 35 (0,0))],[(f,.cells #[.int .i64 e0] 36 (0,0))]]) (rst:=[_,_]) (some e0) ⟨rfl,rfl,rfl,rfl,rfl⟩ rfl rfl E30 (.inr ⟨_,rfl,rfl⟩) (ZO 2 rfl (ZO 1 rfl (ZO 0 rfl ZM))) dead_Load_1_P (ZL (ZL ?_)))
     exact Zm [2,3,4] [0,0] ZB rfl hx rfl ⟨⟨0,ZF _ _ _ _ _⟩,⟨0,ZF _ _ _ _ _⟩,rfl⟩
    intro j9 k0 hx c3 c4 k1 k2 k3 a6
    simp only[pnk_inl]at hx
    refine Run.ll_s [] 7 ZB rfl (ZA rfl rfl (ZQ U30 rfl (IsSlice.long a6)) (Run.lcz_s [] 3 ZB rfl (ZV hx [3,4,5,6] [3,0] rfl rfl (λc5 l0 o0 l o g=>∃b1:List Ptr×List Int,∃p:Heaplet,∃s:Option Addr,∃v:Nat,∃x:Nat,∃c6:Own,∃b2:Option Addr,∃b3:Nat,∃b4:Nat,∃c7:Own,l=l0∧o= [(c,.cells #[.slice s v x] 30 (0,0))]::c6:: [(d,.cells #[.slice b2 b3 b4] 35 (0,0))]::c7::o0∧p=g∧c5=.inl b1∧Hle c3 p∧RowOf (New H p) R_Ptr w.heap.size 32 5 (.slice s v x) b1.1 c6∧RowOf (New H p) RInt w.heap.size 3 1 (.slice b2 b3 b4) b1.2 c7) (λc5 k4 hx=> ?_) (λc5 e1 hx=> ?_))))
    ·
     rintro _ _ _ ⟨b1,p,s,v,x,c6,b2,b3,b4,c7,rfl,rfl,rfl,rfl,k5,e2,f8⟩
     simp only[Sum.elim_inl]at hx
     refine Run.nl_s [0] 4 ZB rfl (JL.conL hx E20 rfl dead_Check_ok rfl (λk6 f9 g0=>⟨(Lent.row' 1 g0 R_Ptr.mono f9 rfl (e2.old R_Ptr.mono)),trivial⟩) (λ_=>trivial) ?_)
     intro k7 k8 hx
     refine ZA rfl rfl (R.neq_i rfl rfl) (JL.must hx E32 rfl dead_must_M (λg1 hx k9 l1=> ?_) (λg1 hx=> ?_))
     ·
      refine JN.passP (JN.leaveD (K:=[[(c,.cells #[.slice s v x] 30 (0,0))],[(d,.cells #[.slice b2 b3 b4] 35 (0,0))],[(f,.cells #[.int .i64 0] 36 (0,0))]]) (K':=[[(c,.cells #[.slice none 0 0] 30 (0,0))],[(d,.cells #[.slice none 0 0] 35 (0,0))],[(f,.cells #[.int .i64 8] 36 (0,0))]]) (rst:=[_,_,_]) (some 8) ⟨rfl,rfl,rfl,rfl,rfl⟩ rfl rfl E30 (.inr ⟨_,rfl,rfl⟩) (ZO 0 rfl (ZO 1 rfl (ZO 3 rfl ZM))) dead_Load_1_P (ZL (ZL ?_)))
      exact Zm [2,3,4] [0,0] ZB rfl hx rfl ⟨⟨0,ZF _ _ _ _ _⟩,⟨0,ZF _ _ _ _ _⟩,rfl⟩
     ·
      refine Run.lc_s [] 3 ZB rfl (Zn (so:=[(_,[6]),(_,[]),(_,[5,7]),(_,[5]),(_,[]),(_,[8])]) 9 rfl Mixed ⟨by kernel_rfl,by kernel_rfl⟩ (Zb [0,1,2,3,4,5] rfl) ?_)
      refine JB.val (i:=0) [6] rfl (R.ldo 0 S30 rfl rfl rfl) ?_
      refine JB.val (i:=1) [5,6,7] rfl (R.ldo 2 S35 rfl rfl rfl) ?_
      refine JB.run 2 [2,3] [1] ZB rfl ?_
      refine JB.one (i:=4) (by kernel_rfl) ?_
      refine JOB.step rfl trivial rfl (λK hK=>Zt (HF:=(New H p)) (R:=RInt) (ls:=[k.At]) (vs:=[.int .i64 k.At]) U35 I3 rfl rfl (⟨_,_,rfl,rfl,rfl,rfl⟩) RInt.one rfl rfl rfl (by simp[maxLen]) rfl (λl2 l3 e3=> ?_))
      obtain⟨l4,l5,rfl⟩:=RowOf.val e3
      refine ZN (hK _ _ _ (Hle.refl _) (Zb [1,2,3,4,5,6] rfl) ?_)
      refine JB.one (i:=5) (by kernel_rfl) ?_
      refine JOB.step rfl trivial rfl (λK hK=> ?_)
      obtain⟨e4,g2,g3,hx⟩:=Zc hx
      refine Zk (HF:=(New H p)) 4 U35 I3 rfl rfl f8 rfl (SrcF.row 0 U35 rfl e3) g2 g3 rfl (Nat.le_refl _) rfl (λl6 l7 e5=> ?_)
      obtain⟨e6,e7,rfl⟩:=RowOf.val e5
      refine ZN (hK _ _ _ (Hle.refl _) (Zu [false,false,true,true,false,false] [1,2,0,0,5,6] (by kernel_rfl) rfl) ?_)
      refine JB.one (i:=6) (by kernel_rfl) ?_
      refine JOB.step rfl trivial rfl (λK hK=>Run.lnz [1] 2 ZB rfl (hK _ _ _ (Hle.refl _) (Zu [true,false,true,true,false,false] [0,2,0,0,5,6] (by kernel_rfl) rfl) ?_))
      refine JB.one (i:=7) (by kernel_rfl) ?_
      refine JOB.step rfl trivial rfl (λK hK=>Run.lnz [3] 2 ZB rfl (hK _ _ _ (Hle.refl _) (Zu [true,false,true,true,false,false] [0,2,0,0,5,6] (by kernel_rfl) rfl) ?_))
      refine JB.one (i:=8) (by kernel_rfl) ?_
      refine JOB.step rfl trivial rfl (λK hK=>Run.lnz [6] 2 ZB rfl (hK _ _ _ (Hle.refl _) (Zu [true,false,true,true,false,true] [0,2,0,0,5,0] (by kernel_rfl) rfl) ?_))
      refine JB.doneN (by kernel_rfl) ?_
      refine Run.nnz_s [] 2 ZB rfl (JN.leaveD (K:=[[(c,.cells #[.slice s v x] 30 (0,0))],[(d,.cells #[.slice e6 e4.length e7] 35 (0,0))],[(f,.cells #[.int .i64 0] 36 (0,0))]]) (K':=[[(c,.cells #[.slice s v x] 30 (0,0))],[(d,.cells #[.slice e6 e4.length e7] 35 (0,0))],[(f,.cells #[.int .i64 0] 36 (0,0))]]) (rst:=[_,_,_,_]) (none) ⟨rfl,rfl,rfl,rfl,rfl⟩ rfl rfl E30 (.inl ⟨rfl,.inl rfl⟩) (ZO 1 rfl (ZO 2 rfl (ZO 4 rfl ZM))) dead_Load_1_D ?_)
      exact Zm [0,1,2] [4,4] ZB rfl hx rfl ⟨⟨_,e2⟩,⟨_,e5⟩,rfl⟩
    ·
     refine JC.block (JC.seg0 (JC.seg0 (ZS 2 rfl (ZS 5 rfl (ZS 6 rfl (ZS 3 rfl (ZS 5 rfl (ZS 5 rfl (ZS 6 rfl (ZZ [2,3,4,5,6,7,26,27] [4,5,6] rfl rfl (λl0 o0 m l o g=>∃y:Heaplet,∃z:Option Addr,∃a0:Nat,∃a1:Nat,∃b5:Own,∃a2:Option Addr,∃a3:Nat,∃a4:Nat,∃b6:Own,l=(28,.int .i64 ((m.2.2:Nat):Int))::l0∧o= [(c,.cells #[.slice z a0 a1] 30 (0,0))]::b5:: [(d,.cells #[.slice a2 a3 a4] 35 (0,0))]::b6::o0∧y=g∧Hle c3 y∧RowOf (New H y) R_Ptr w.heap.size 32 5 (.slice z a0 a1) m.1 b5∧RowOf (New H y) RInt w.heap.size 3 1 (.slice a2 a3 a4) m.2.1 b6) hx ⟨c3,none,0,0,[],none,0,0,[],rfl,rfl,rfl,(Hle.refl _),(ZF _ _ _ _ _),(ZF _ _ _ _ _)⟩ rfl ?_))))))))))
     ·
      rintro l8 m _ _ _ ⟨y,z,a0,a1,b5,a2,a3,a4,b6,rfl,rfl,rfl,q,c8,c9⟩ l9 hx a7
      unfold dead_Load_l1 at hx
      refine Run.cc [] 6 ZB rfl (ZJ hx rfl (λd0 hx=> ?_) (λd0 hx=> ?_))
      ·
       refine Run.cl_s [] 7 ZB rfl ?_
       obtain⟨b7,g4,hx⟩:=ZR hx
       obtain⟨m0,m1,m2,g5,g6,m3,g7⟩:=IsSlice.elem (a6.mono R_Ptr.mono (New.mono q)) g4
       obtain rfl:=g6
       refine ZA rfl rfl (R.ix U30 S32 rfl rfl g5) (ZA rfl rfl (R.ldHF 0 S32 rfl (λj u e=>New.le _ _ _ _ _ (g7 j u e)) rfl rfl) (JL.alloc Z32 rfl (λm4 m5=>Run.ll_s [0,5,0] 8 ZB rfl (JL.conP hx E31 rfl dead_read_ok rfl ⟨(c0.mono (RSl.mono RU8.mono) (c4.trans q)),(c1.mono R_Write.mono (c4.trans q)),(c2.mono RU8.mono (c4.trans q)),trivial⟩ (λe8 hx m6 m7=> ?_) ?_))))
       ·
        simp only[pnk_inr]at hx
        refine JN.passP (JN.blkP (JN.passP ?_))
        obtain rfl:=ZP a7 hx
        refine JN.passP (JN.blkP ?_)
        clear hx;have hx:=e1
        simp only[Sum.elim_inl,Sum.elim_inr]at hx
        refine JN.passP (JN.passP (JN.leaveD (K:=[[(c,.cells #[.slice z a0 a1] 30 (0,0))],[(d,.cells #[.slice a2 a3 a4] 35 (0,0))],[(f,.cells #[.int .i64 0] 36 (0,0))]]) (K':=[[(c,.cells #[.slice none 0 0] 30 (0,0))],[(d,.cells #[.slice none 0 0] 35 (0,0))],[(f,.cells #[.int .i64 e8] 36 (0,0))]]) (rst:=[_,_,_,_,_]) (some e8) ⟨rfl,rfl,rfl,rfl,rfl⟩ rfl rfl E30 (.inr ⟨_,rfl,rfl⟩) (ZO 1 rfl (ZO 2 rfl (ZO 5 rfl ZM))) dead_Load_1_P (ZL (ZL ?_))))
        exact Zm [2,3,4] [0,0] ZB rfl hx rfl ⟨⟨0,ZF _ _ _ _ _⟩,⟨0,ZF _ _ _ _ _⟩,rfl⟩
       intro m8 m9 hx h a5 n0 n1 n2 d1
       simp only[pnk_inl]at hx
       refine Run.lc_s [] 4 ZB rfl (ZV hx [2,3,4,5,6,7,9,10,26,27,28] [5,6,1,2,3,4,7,0] rfl rfl (λd2 l0 o0 l o g=>∃e9:Unit,l=l0∧o=o0∧h=g∧d2=.inl e9) (λd2 n3 hx=> ?_) (λd2 g8 hx=> ?_))
       ·
        rintro _ _ _ ⟨e9,rfl,rfl,rfl,rfl⟩
        simp only[Sum.elim_inl]at hx
        refine JN.next (Zn (so:=[(_,[]),(_,[]),(_,[2,8]),(_,[2]),(_,[7,9]),(_,[7]),(_,[]),(_,[])]) 10 rfl Mixed ⟨by kernel_rfl,by kernel_rfl⟩ (Zb [0,1,2,3,4,5,6,7] rfl) ?_)
        refine JB.val (i:=0) [2,7,8] rfl (R.ldo 2 S30 rfl rfl rfl) ?_
        refine JB.val (i:=1) [] rfl (Zd rfl) ?_
        refine JB.val (i:=3) [7,8,9] rfl (R.ldo 2 S35 rfl rfl rfl) ?_
        refine JB.run 2 [4,5] [3] ZB rfl ?_
        obtain⟨b8,f0,f1,hx⟩:=Zc hx
        obtain⟨b9,f2,f3,hx⟩:=Zc hx
        refine JB.two (i:=2) (j:=6) (by kernel_rfl) ?_ ?_
        ·
         refine JOB.step rfl trivial rfl (λK hK=>Zk (HF:=(New H h)) 3 U30 I32 rfl rfl (c8.mono R_Ptr.mono (New.mono a5)) rfl (SrcF.slice R_Ptr.one U30 (New.le _ _) d1) f0 f1 rfl (Nat.le_refl _) rfl (λg9 d3 a8=> ?_))
         obtain⟨d4,d5,rfl⟩:=RowOf.val a8
         refine ZN (hK _ _ _ (Hle.refl _) (Zu [false,false,true,true,false,false,false,false] [0,1,0,0,4,5,6,7] (by kernel_rfl) rfl) ?_)
         refine JB.one (i:=6) (by kernel_rfl) ?_
         refine JOB.step rfl trivial rfl (λK hK=>Zt (HF:=(New H h)) (R:=RInt) (ls:=[b7.At]) (vs:=[.int .i64 b7.At]) U35 I3 rfl rfl (⟨_,_,rfl,rfl,rfl,rfl⟩) RInt.one rfl rfl rfl (by simp[maxLen]) rfl (λh0 h1 a9=> ?_))
         obtain⟨h2,h3,rfl⟩:=RowOf.val a9
         refine ZN (hK _ _ _ (Hle.refl _) (Zu [false,false,true,true,false,false,false,false] [1,2,0,0,5,6,7,8] (by kernel_rfl) rfl) ?_)
         refine JB.one (i:=7) (by kernel_rfl) ?_
         refine JOB.step rfl trivial rfl (λK hK=>Zk (HF:=(New H h)) 6 U35 I3 rfl rfl (c9.mono RInt.mono (New.mono a5)) rfl (SrcF.row 0 U35 rfl a9) f2 f3 rfl (Nat.le_refl _) rfl (λh4 d6 b0=> ?_))
         obtain⟨d7,d8,rfl⟩:=RowOf.val b0
         refine ZN (hK _ _ _ (Hle.refl _) (Zu [false,false,true,true,true,true,false,false] [1,2,0,0,0,0,7,8] (by kernel_rfl) rfl) ?_)
         refine JB.one (i:=8) (by kernel_rfl) ?_
         refine JOB.step rfl trivial rfl (λK hK=>Run.lnz [3] 2 ZB rfl (hK _ _ _ (Hle.refl _) (Zu [false,false,true,true,true,true,false,false] [1,2,0,0,0,0,7,8] (by kernel_rfl) rfl) ?_))
         refine JB.one (i:=9) (by kernel_rfl) ?_
         refine JOB.step rfl trivial rfl (λK hK=>Run.lnz [5] 2 ZB rfl (hK _ _ _ (Hle.refl _) (Zu [false,false,true,true,true,true,false,false] [1,2,0,0,0,0,7,8] (by kernel_rfl) rfl) ?_))
         refine JB.doneN (by kernel_rfl) ?_
         refine Run.nlz_bs [] 3 ZB rfl (ZA rfl rfl (Zr rfl rfl (of_decide_eq_true d0) (IsSlice.lenI a6)) (Run.lnz [] 2 ZB rfl ?_))
         replace hx:=ZU a7 hx
         refine JN.forget 8 (JN.forget 0 (ZC 6 rfl (ZC 2 rfl (ZC 2 rfl (ZC 6 rfl (ZC 6 rfl (ZC 6 rfl (ZC 6 rfl ?_))))))))
         exact ZE ⟨(b8,b9,m.2.2+1),⟨h,d4,b8.length,d5,d3,d7,b9.length,d8,d6,rfl,rfl,rfl,((q.trans a5)),a8,b0⟩,hx⟩ rfl rfl rfl
        ·
         refine JOB.step rfl trivial rfl (λK hK=>Zt (HF:=(New H h)) (R:=RInt) (ls:=[b7.At]) (vs:=[.int .i64 b7.At]) U35 I3 rfl rfl (⟨_,_,rfl,rfl,rfl,rfl⟩) RInt.one rfl rfl rfl (by simp[maxLen]) rfl (λh0 h1 a9=> ?_))
         obtain⟨h2,h3,rfl⟩:=RowOf.val a9
         refine ZN (hK _ _ _ (Hle.refl _) (Zb [1,2,3,4,5,6,7,8] rfl) ?_)
         refine JB.one (i:=2) (by kernel_rfl) ?_
         refine JOB.step rfl trivial rfl (λK hK=>Zk (HF:=(New H h)) 4 U30 I32 rfl rfl (c8.mono R_Ptr.mono (New.mono a5)) rfl (SrcF.slice R_Ptr.one U30 (New.le _ _) d1) f0 f1 rfl (Nat.le_refl _) rfl (λg9 d3 a8=> ?_))
         obtain⟨d4,d5,rfl⟩:=RowOf.val a8
         refine ZN (hK _ _ _ (Hle.refl _) (Zu [false,false,true,true,false,false,false,false] [1,2,0,0,5,6,7,8] (by kernel_rfl) rfl) ?_)
         refine JB.one (i:=7) (by kernel_rfl) ?_
         refine JOB.step rfl trivial rfl (λK hK=>Zk (HF:=(New H h)) 6 U35 I3 rfl rfl (c9.mono RInt.mono (New.mono a5)) rfl (SrcF.row 0 U35 rfl a9) f2 f3 rfl (Nat.le_refl _) rfl (λh4 d6 b0=> ?_))
         obtain⟨d7,d8,rfl⟩:=RowOf.val b0
         refine ZN (hK _ _ _ (Hle.refl _) (Zu [false,false,true,true,true,true,false,false] [1,2,0,0,0,0,7,8] (by kernel_rfl) rfl) ?_)
         refine JB.one (i:=8) (by kernel_rfl) ?_
         refine JOB.step rfl trivial rfl (λK hK=>Run.lnz [3] 2 ZB rfl (hK _ _ _ (Hle.refl _) (Zu [false,false,true,true,true,true,false,false] [1,2,0,0,0,0,7,8] (by kernel_rfl) rfl) ?_))
         refine JB.one (i:=9) (by kernel_rfl) ?_
         refine JOB.step rfl trivial rfl (λK hK=>Run.lnz [5] 2 ZB rfl (hK _ _ _ (Hle.refl _) (Zu [false,false,true,true,true,true,false,false] [1,2,0,0,0,0,7,8] (by kernel_rfl) rfl) ?_))
         refine JB.doneN (by kernel_rfl) ?_
         refine Run.nlz_bs [] 3 ZB rfl (ZA rfl rfl (Zr rfl rfl (of_decide_eq_true d0) (IsSlice.lenI a6)) (Run.lnz [] 2 ZB rfl ?_))
         replace hx:=ZU a7 hx
         refine JN.forget 8 (JN.forget 0 (ZC 6 rfl (ZC 2 rfl (ZC 2 rfl (ZC 6 rfl (ZC 6 rfl (ZC 6 rfl (ZC 6 rfl ?_))))))))
         exact ZE ⟨(b8,b9,m.2.2+1),⟨h,d4,b8.length,d5,d3,d7,b9.length,d8,d6,rfl,rfl,rfl,((q.trans a5)),a8,b0⟩,hx⟩ rfl rfl rfl
       ·
        refine Run.clz [] 2 ZB rfl (ZA rfl rfl (ZQ U30 rfl (IsSlice.long d1)) (Run.llz [] 2 ZB rfl (Zi 39 hx rfl (λh5 hx=> ?_) (λh5 hx=> ?_))))
        ·
         refine Run.llz [] 5 ZB rfl (ZA rfl rfl (ZQ U30 rfl (IsSlice.long a6)) (Run.llz [] 5 ZB rfl (JL.must hx E32 rfl dead_must_M (λh6 hx n4 n5=> ?_) (λh6 hx=> ?_))))
         ·
          obtain rfl:=Option.some.inj hx
          clear hx;have hx:=g8
          simp only[Sum.elim_inl,Sum.elim_inr]at hx
          refine JN.passP (JN.passP (JN.blkP (JN.passP ?_)))
          obtain rfl:=ZP a7 hx
          refine JN.passP (JN.blkP ?_)
          clear hx;have hx:=e1
          simp only[Sum.elim_inl,Sum.elim_inr]at hx
          refine JN.passP (JN.passP (JN.leaveD (K:=[[(c,.cells #[.slice z a0 a1] 30 (0,0))],[(d,.cells #[.slice a2 a3 a4] 35 (0,0))],[(f,.cells #[.int .i64 0] 36 (0,0))]]) (K':=[[(c,.cells #[.slice none 0 0] 30 (0,0))],[(d,.cells #[.slice none 0 0] 35 (0,0))],[(f,.cells #[.int .i64 8] 36 (0,0))]]) (rst:=[_,_,_,_,_]) (some 8) ⟨rfl,rfl,rfl,rfl,rfl⟩ rfl rfl E30 (.inr ⟨_,rfl,rfl⟩) (ZO 1 rfl (ZO 2 rfl (ZO 5 rfl ZM))) dead_Load_1_P (ZL (ZL ?_))))
          exact Zm [2,3,4] [0,0] ZB rfl hx rfl ⟨⟨0,ZF _ _ _ _ _⟩,⟨0,ZF _ _ _ _ _⟩,rfl⟩
         ·
          refine ZN ?_
          obtain rfl:=Option.some.inj hx
          refine ZC 7 rfl (ZC 5 rfl (ZC 5 rfl (ZC 5 rfl (ZC 5 rfl (ZC 7 rfl (ZC 7 rfl ?_))))))
          exact ZE ⟨(),rfl,rfl,rfl,rfl⟩ rfl rfl rfl
        ·
         refine Run.llz [] 6 ZB rfl (JL.must hx E32 rfl dead_must_M (λf4 hx n6 n7=> ?_) (λf4 hx=> ?_))
         ·
          cases f4
         ·
          refine ZN ?_
          obtain rfl:=Option.some.inj hx
          refine ZC 7 rfl (ZC 5 rfl (ZC 5 rfl (ZC 5 rfl (ZC 5 rfl (ZC 7 rfl (ZC 7 rfl ?_))))))
          exact ZE ⟨(),rfl,rfl,rfl,rfl⟩ rfl rfl rfl
      ·
       refine Run.cnz_k [] 2 ZB rfl ?_
       obtain rfl:=ZP a7 hx
       refine Run.nnz_kb [] 2 ZB rfl (JN.forget 4 (ZC 5 rfl (ZC 5 rfl (ZC 5 rfl (ZC 5 rfl (ZC 5 rfl (ZC 5 rfl ?_)))))))
       exact ZE ⟨(m.1,m.2.1),y,z,a0,a1,b5,a2,a3,a4,b6,rfl,rfl,rfl,rfl,(q),c8,c9⟩ rfl rfl rfl
theorem ref09_last_ok{h j k}:Con Tryz.prog 146 true (sp_Disk false h++ [.sl false RBool 1 j,.i k]) (ref09_last h j k) (λr=> [.i r]):=by
 intro H a8 a9 b0 b1 b2 b3 b4 m b5 b6 b7 p r hx
 refine Does.enterC Tryz.func146 rfl rfl ?_
 intro w
 unfold ref09_last at hx
 refine Run.cl [] 2 ZB rfl (ZY rfl rfl (λb8 b9=>Run.ll_s [0] 7 ZB rfl (ZA rfl rfl (ZQ U23 rfl (IsSlice.long m)) (Run.lc_s [] 5 ZB rfl (ZV hx [] [] rfl rfl (λb l0 o0 l o g=>l=(7,.int .i64 b)::l0∧o=o0∧H=g) (λb c0 hx=> ?_) (λb c1 hx=> ?_))))))
 ·
  rintro _ _ _ ⟨rfl,rfl,rfl⟩
  refine Run.nnz_s [] 8 ZB rfl ?_
  exact ZI [] rfl hx rfl rfl
 ·
  refine JC.block (ZZ [1,2,3] [0] rfl rfl (λl0 o0 c l o g=>l=(7,.int .i64 c)::l0∧o=o0∧H=g) hx ⟨rfl,rfl,rfl⟩ rfl ?_)
  ·
   rintro c2 c _ _ _ ⟨rfl,rfl,rfl⟩ c3 hx a
   unfold ref09_last_l1 at hx
   refine JC.seq (ZV hx [1,2,3,7] [0] rfl rfl (λd l0 o0 l o g=>∃q:Unit,l=l0∧o=o0∧H=g∧d=.inl q) (λd c4 hx=> ?_) (λd f hx=> ?_))
   ·
    rintro _ _ _ ⟨q,rfl,rfl,rfl,rfl⟩
    simp only[Sum.elim_inl]at hx
    refine Run.nnz_s [] 8 ZB rfl ?_
    replace hx:=ZU a hx
    exact ZE ⟨w64 (c-1),⟨rfl,rfl,rfl⟩,hx⟩ rfl rfl rfl
   ·
    refine Run.cl [] 5 ZB rfl (Zi 14 hx rfl (λs hx=> ?_) (λs hx=> ?_))
    ·
     refine Run.llz [0] 7 ZB rfl ?_
     obtain⟨c5,v,hx⟩:=ZR hx
     obtain⟨c6,c7,c8,x,y,c9,z⟩:=IsSlice.elem m v
     obtain⟨d0,rfl,a0⟩:=y
     obtain⟨d1,d2,rfl⟩:=IsSlice.val a0
     refine ZA rfl rfl (R.ix U23 S78 rfl rfl x) (Run.llz [] 3 ZB rfl (ZA rfl rfl (R.ldH S3 rfl (z 0 _ rfl)) (Run.llz [] 6 ZB rfl (Zi 23 hx rfl (λa1 hx=> ?_) (λa1 hx=> ?_)))))
     ·
      refine Run.llz [] 3 ZB rfl (ZA rfl rfl (ZQ U184 rfl (IsSlice.long p)) (Run.llz [] 4 ZB rfl (Zi 27 hx rfl (λa2 hx=> ?_) (λa2 hx=> ?_))))
      ·
       refine Run.lnz_s [] 15 ZB rfl ?_
       obtain rfl:=Option.some.inj hx
       clear hx;have hx:=f
       simp only[Sum.elim_inl,Sum.elim_inr]at hx
       refine Run.nnz_kk [] 2 ZB rfl ?_
       obtain rfl:=ZP a hx
       refine Run.nnz_kb [] 2 ZB rfl (JN.forget 0 ?_)
       exact ZE ⟨rfl,rfl,rfl⟩ rfl rfl rfl
      ·
       refine Run.llz [] 5 ZB rfl ?_
       obtain⟨d3,a3,hx⟩:=ZR hx
       obtain⟨d4,d5,d6,a4,a5,d7,a6⟩:=IsSlice.elem p a3
       obtain rfl:=a5
       refine ZA rfl rfl (R.ix U184 S4 rfl rfl a4) (JL.gYes rfl rfl rfl (ZA rfl rfl (R.ldH S4 rfl (a6 0 _ rfl)) (Run.lcz_s [] 9 ZB rfl (ZJ hx rfl (λa7 hx=> ?_) (λa7 hx=> ?_)))))
       ·
        refine JC.skip ?_
        obtain rfl:=Option.some.inj hx
        exact ZE ⟨(),rfl,rfl,rfl,rfl⟩ rfl rfl rfl
       ·
        refine JC.exit ?_
        obtain rfl:=Option.some.inj hx
        clear hx;have hx:=f
        simp only[Sum.elim_inl,Sum.elim_inr]at hx
        refine Run.nnz_kk [] 2 ZB rfl ?_
        obtain rfl:=ZP a hx
        refine Run.nnz_kb [] 2 ZB rfl (JN.forget 0 ?_)
        exact ZE ⟨rfl,rfl,rfl⟩ rfl rfl rfl
     ·
      refine Run.lnz_s [] 18 ZB rfl ?_
      obtain rfl:=Option.some.inj hx
      exact ZE ⟨(),rfl,rfl,rfl,rfl⟩ rfl rfl rfl
    ·
     refine Run.lnz_s [] 25 ZB rfl ?_
     obtain rfl:=Option.some.inj hx
     clear hx;have hx:=f
     simp only[Sum.elim_inl,Sum.elim_inr]at hx
     refine Run.nnz_kk [] 2 ZB rfl ?_
     obtain rfl:=ZP a hx
     refine Run.nnz_kb [] 2 ZB rfl (JN.forget 0 ?_)
     exact ZE ⟨rfl,rfl,rfl⟩ rfl rfl rfl
theorem ref09_left_ok{a b c}:Con Tryz.prog 126 true (sp_Disk false a++ [.sl false RBool 1 b,.i c]) (ref09_left a b c) (λr=> [.row true RU8 5 1 r]):=by
 intro H a7 a8 a9 d b0 b1 b2 f b3 b4 b5 p r hx
 refine Does.enterC Tryz.func126 rfl rfl ?_
 intro w
 unfold ref09_left at hx
 refine Run.cl [] 2 ZB rfl (ZY rfl rfl (λb6 b7=>Run.ll_s [0] 8 ZB rfl (ZK hx E146 rfl ref09_last_ok rfl ⟨d,f,p,trivial⟩ ?_)))
 intro b8 b9 hx
 refine Run.lc_s [] 10 ZB rfl (ZJ hx rfl (λq hx=> ?_) (λq hx=> ?_))
 ·
  refine Run.cl [0] 5 ZB rfl ?_
  obtain⟨c0,s,hx⟩:=ZR hx
  obtain⟨c1,c2,c3,v,x,c4,y⟩:=IsSlice.elem d s
  obtain⟨c5,rfl,h⟩:=x
  obtain⟨c6,c7,rfl⟩:=IsSlice.val h
  refine ZA rfl rfl (R.ix U22 S26 rfl rfl v) (ZA rfl rfl (R.ldH S26 rfl (y 0 _ rfl)) (JL.seg0 ?_))
  obtain⟨c8,z,a0,hx⟩:=Zc hx
  refine Zk (HF:=(New H H)) 0 U26 I5 rfl rfl (ZF _ RU8 _ _ _) rfl (SrcF.sliceC RU8.const RU8.one U26 h) z a0 rfl (Nat.le_refl _) rfl (λc9 d0 j=> ?_)
  obtain⟨d1,d2,rfl⟩:=RowOf.val j
  refine Run.lnz_sk [] 5 ZB rfl ?_
  exact ZI [0] rfl hx rfl ⟨⟨_,j⟩,rfl⟩
 ·
  refine Run.cl_s [0] 7 ZB rfl ?_
  obtain⟨d3,a1,hx⟩:=ZR hx
  obtain⟨d4,d5,d6,a2,a3,d7,a4⟩:=IsSlice.elem f a1
  obtain⟨d8,rfl,k⟩:=a3
  obtain⟨d9,e0,rfl⟩:=IsSlice.val k
  refine ZA rfl rfl (R.ix U23 S78 rfl rfl a2) (ZA rfl rfl (R.fa F78_1 rfl) (ZA rfl rfl (R.ldH S26 rfl (a4 1 _ rfl)) (JL.seg0 ?_)))
  obtain⟨e1,a5,a6,hx⟩:=Zc hx
  refine Zk (HF:=(New H H)) 0 U26 I5 rfl rfl (ZF _ RU8 _ _ _) rfl (SrcF.sliceC RU8.const RU8.one U26 k) a5 a6 rfl (Nat.le_refl _) rfl (λe2 e3 m=> ?_)
  obtain⟨e4,e5,rfl⟩:=RowOf.val m
  refine Run.lnz_s [] 4 ZB rfl ?_
  exact ZI [0] rfl hx rfl ⟨⟨_,m⟩,rfl⟩
theorem ref09_Seen_ok{a b}:Con Tryz.prog 103 true (sp_Disk false a++ [.i b]) (ref09_Seen a b) (λr=> [.row true RU8 5 1 r]):=by
 intro H h j k c m p q d r hx
 refine Does.enterC Tryz.func103 rfl rfl ?_
 intro w
 unfold ref09_Seen at hx
 refine Run.cl [] 2 ZB rfl (ZY rfl rfl (λs v=>Run.ll_s [0] 7 ZB rfl (ZK hx E126 rfl ref09_left_ok rfl ⟨c,d,(IsSlice.nil _ _ _),trivial⟩ ?_)))
 intro x y hx z a0 a1 a2 f
 refine Run.lnz_s [] 4 ZB rfl ?_
 exact ZI [0] rfl hx rfl ⟨⟨_,f⟩,rfl⟩
theorem ref13_Seen_ok{d c}:Con Tryz.prog 80 true (sp_Store false d++sp_Ptr false c) (ref13_Seen d c) (λr=> [.row true RU8 5 1 r.1,.i r.2]):=by
 intro H z a0 a1 j a2 a3 a4 k a5 a6 a7 a8 r hx
 refine Does.enterC Tryz.func80 rfl rfl ?_
 intro w
 unfold ref13_Seen at hx
 refine Run.cl [] 2 ZB rfl (ZY rfl rfl (λa9 b0=>ZY rfl rfl (λb1 b2=>Run.ll_s [0] 8 ZB rfl (ZK hx E56 rfl ref10_None_ok rfl trivial ?_))))
 intro b3 b4 hx
 refine Run.lcz_s [] 2 ZB rfl (ZJ hx rfl (λm hx=> ?_) (λm hx=> ?_))
 ·
  refine Run.cnz_k [] 8 ZB rfl (ZL ?_)
  exact ZI [0] rfl hx rfl ⟨⟨0,ZF _ _ _ _ _⟩,rfl⟩
 ·
  refine Run.cl_s [1,0] 8 ZB rfl (ZK hx E103 rfl ref09_Seen_ok rfl ⟨j,k,trivial⟩ ?_)
  intro b5 b6 hx b7 b8 b9 c0 f
  refine Run.lc_s [] 5 ZB rfl (Zn (so:=[(_,[]),(_,[])]) 5 rfl Mixed ⟨by kernel_rfl,by kernel_rfl⟩ (Zb [1,2] rfl) ?_)
  refine JB.run 3 [0,2,3] [0] ZB rfl ?_
  refine JB.one (i:=1) (by kernel_rfl) ?_
  refine JOB.step rfl trivial rfl (λK hK=>JL.conL hx E73 rfl ref02_Sum_ok rfl (λc1 p q=>⟨(Lent.row' 0 q RU8.mono p rfl (f.old RU8.mono)),trivial⟩) (λ_=>trivial) ?_)
  intro s c2 hx
  refine ZN (hK _ _ _ (Hle.refl _) (Zb [1,2] rfl) ?_)
  refine JB.val (i:=4) [] rfl (R.neq32 (a:=s) (b:=c.Sum) rfl rfl) ?_
  refine JB.doneN (by kernel_rfl) ?_
  refine JN.next (ZJ hx rfl (λv hx=> ?_) (λv hx=> ?_))
  ·
   refine Run.cnz_k [] 8 ZB rfl (ZL ?_)
   exact ZI [0] rfl hx rfl ⟨⟨0,ZF _ _ _ _ _⟩,rfl⟩
  ·
   refine Run.cl_s [] 5 ZB rfl (JL.seg0 ?_)
   obtain⟨c3,x,y,hx⟩:=Zc hx
   refine Zk (HF:=(New H H)) 0 U26 I5 rfl rfl (ZF _ RU8 _ _ _) rfl (SrcF.row 1 U26 rfl f) x y rfl (Nat.le_refl _) rfl (λc4 c5 h=> ?_)
   obtain⟨c6,c7,rfl⟩:=RowOf.val h
   refine Run.lnz_s [] 5 ZB rfl ?_
   exact ZI [0] rfl hx rfl ⟨⟨_,h⟩,rfl⟩
theorem ref10_Get_ok{h}:Con Tryz.prog 127 true ([.sl false RU8 1 h]) (ref10_Get h) (λr=> [.w32 r]):=by
 intro H v x y i r hx
 refine Does.enterC Tryz.func127 rfl rfl ?_
 intro w
 unfold ref10_Get at hx
 refine Run.cl [] 14 ZB rfl (ZA rfl rfl (ZQ U26 rfl (IsSlice.long i)) (Run.lcz_s [] 4 ZB rfl (ZV hx [] [] rfl rfl (λd l0 o0 l o g=>l=(3,.int .u32 (d.toNat:Int))::l0∧o=o0∧H=g) (λd z hx=> ?_) (λd a0 hx=> ?_))))
 ·
  rintro _ _ _ ⟨rfl,rfl,rfl⟩
  refine Run.nnz_s [] 8 ZB rfl ?_
  exact ZI [] rfl hx rfl rfl
 ·
  refine JC.block (ZZ [0] [] rfl rfl (λl0 o0 c l o g=>l=(3,.int .u32 (c.1.toNat:Int))::(4,.int .i64 c.2)::l0∧o=o0∧H=g) hx ⟨rfl,rfl,rfl⟩ rfl ?_)
  ·
   rintro a1 c _ _ _ ⟨rfl,rfl,rfl⟩ a2 hx j
   unfold ref10_Get_l1 at hx
   refine Run.cc [] 7 ZB rfl (ZJ hx rfl (λk hx=> ?_) (λk hx=> ?_))
   ·
    refine Run.cl_s [] 6 ZB rfl (ZA rfl rfl (R.mul32 (a:=(256:UInt32)) (b:=c.1) rfl rfl) (Run.llz [] 2 ZB rfl ?_))
    obtain⟨f,m,hx⟩:=ZR hx
    obtain⟨a3,a4,a5,p,q,a6,s⟩:=IsSlice.elem i m
    obtain rfl:=q
    refine ZA rfl rfl (R.ix U26 S5 rfl rfl p) (ZA rfl rfl (R.ldH S5 rfl (s 0 _ rfl)) (ZA rfl rfl (R.cv_u8_u32 (a:=f) U5 U27 rfl) (ZA rfl rfl (R.add32 (a:=(256:UInt32)*c.1) (b:=f.toUInt32) rfl rfl) (Run.lnz_bs [] 9 ZB rfl ?_))))
    replace hx:=ZU j hx
    exact ZE ⟨(((256:UInt32)*c.1)+f.toUInt32,w64 (c.2-1)),⟨rfl,rfl,rfl⟩,hx⟩ rfl rfl rfl
   ·
    refine Run.cnz_k [] 2 ZB rfl ?_
    obtain rfl:=ZP j hx
    refine Run.nnz_kb [] 2 ZB rfl ?_
    exact ZE ⟨rfl,rfl,rfl⟩ rfl rfl rfl
theorem ref10_Read_ok{d}:Con Tryz.prog 104 true ([.sl false RU8 1 d]) (ref10_Read d) (λr=>sp_Ptr true r.1++ [.i r.2]):=by
 intro H b7 b8 b9 f r hx
 refine Does.enterC Tryz.func104 rfl rfl ?_
 intro w
 unfold ref10_Read at hx
 refine Run.cl [] 2 ZB rfl (JL.alloc Z32 rfl (λc0 c1=>Run.ll_s [] 7 ZB rfl (ZA rfl rfl (ZQ U26 rfl (IsSlice.long f)) (Run.lcz_s [] 3 ZB rfl (ZJ hx rfl (λa7 hx=> ?_) (λa7 hx=> ?_))))))
 ·
  refine Run.cnz_k [0] 9 ZB rfl ?_
  exact JN.conCQ [0] [] ZB rfl hx rfl rfl
 ·
  refine Run.cc_s [] 3 ZB rfl (JC.draw (so:=[_]) 19 rfl Mixed ⟨⟨0,rfl⟩,trivial⟩ (JA.val ⟨by kernel_rfl,by kernel_rfl⟩ (ZG _) (i:=0) rfl ⟨by kernel_rfl,by kernel_rfl,rfl⟩ trivial (ZD (Hle.refl _) ⟨⟨0,rfl⟩,trivial⟩) (Zd rfl) rfl ?_))
  obtain⟨h,a8,hx⟩:=ZR hx
  obtain⟨c2,c3,c4,a9,b0,c5,b1⟩:=IsSlice.elem f a8
  obtain rfl:=b0
  refine JA.val ⟨by kernel_rfl,by kernel_rfl⟩ (ZG _) (i:=1) rfl ⟨by kernel_rfl,by kernel_rfl,rfl⟩ trivial (ZD (Hle.refl _) ⟨⟨0,rfl⟩,trivial⟩) (R.ix U26 S5 rfl rfl a9) rfl (JA.val ⟨by kernel_rfl,by kernel_rfl⟩ (ZG _) (i:=2) rfl ⟨by kernel_rfl,by kernel_rfl,rfl⟩ trivial (ZD (Hle.refl _) ⟨⟨0,rfl⟩,trivial⟩) (R.ldH S5 rfl (b1 0 _ rfl)) rfl (JA.val ⟨by kernel_rfl,by kernel_rfl⟩ (ZG _) (i:=3) rfl ⟨by kernel_rfl,by kernel_rfl,rfl⟩ trivial (ZD (Hle.refl _) ⟨⟨0,rfl⟩,trivial⟩) (R.cv_u8_i64 (a:=h) U5 U3 rfl) rfl (JA.val ⟨by kernel_rfl,by kernel_rfl⟩ (ZG _) (i:=4) rfl ⟨by kernel_rfl,by kernel_rfl,rfl⟩ trivial (ZD (Hle.refl _) ⟨⟨0,rfl⟩,trivial⟩) (Zd rfl) rfl ?_)))
  obtain⟨c6,b2,j,hx⟩:=slc_some hx
  obtain⟨c7,s,h1v_17,h2v_17,h3v_17,v⟩:=IsSlice.cutv f b2 j
  refine JA.val ⟨by kernel_rfl,by kernel_rfl⟩ (ZG _) (i:=5) rfl ⟨by kernel_rfl,by kernel_rfl,rfl⟩ trivial (ZD (Hle.refl _) ⟨⟨0,rfl⟩,trivial⟩) (R.slc (cap:=s) (a:=1) (b:=4) (c:=(s:Int)) (m:=d) (R:=RU8) U26 S5 rfl ⟨_,rfl⟩ ⟨_,rfl⟩ (by obtain⟨ao,n,e,_⟩:=h1v_17;exact⟨ao,n,e,rfl⟩) ⟨j.1,j.2.1,h2v_17⟩ h3v_17 (.inl rfl)) rfl ?_
  obtain⟨c8,c9,rfl⟩:=IsSlice.val v
  refine JA.val ⟨by kernel_rfl,by kernel_rfl⟩ (ZG _) (i:=7) rfl ⟨by kernel_rfl,by kernel_rfl,rfl⟩ trivial (ZD (Hle.refl _) ⟨⟨0,rfl⟩,trivial⟩) (Zd rfl) rfl ?_
  obtain⟨d0,b3,k,hx⟩:=slc_some hx
  obtain⟨d1,x,h1v_21,h2v_21,h3v_21,y⟩:=IsSlice.cutv f b3 k
  refine JA.val ⟨by kernel_rfl,by kernel_rfl⟩ (ZG _) (i:=8) rfl ⟨by kernel_rfl,by kernel_rfl,rfl⟩ trivial (ZD (Hle.refl _) ⟨⟨0,rfl⟩,trivial⟩) (R.slc (cap:=x) (a:=4) (b:=8) (c:=(x:Int)) (m:=d) (R:=RU8) U26 S5 rfl ⟨_,rfl⟩ ⟨_,rfl⟩ (by obtain⟨ao,n,e,_⟩:=h1v_21;exact⟨ao,n,e,rfl⟩) ⟨k.1,k.2.1,h2v_21⟩ h3v_21 (.inl rfl)) rfl ?_
  obtain⟨d2,d3,rfl⟩:=IsSlice.val y
  refine JA.val ⟨by kernel_rfl,by kernel_rfl⟩ (ZG _) (i:=10) rfl ⟨by kernel_rfl,by kernel_rfl,rfl⟩ trivial (ZD (Hle.refl _) ⟨⟨0,rfl⟩,trivial⟩) (Zd rfl) rfl ?_
  obtain⟨d4,b4,p,hx⟩:=slc_some hx
  obtain⟨d5,z,h1v_25,h2v_25,h3v_25,a0⟩:=IsSlice.cutv f b4 p
  refine JA.val ⟨by kernel_rfl,by kernel_rfl⟩ (ZG _) (i:=11) rfl ⟨by kernel_rfl,by kernel_rfl,rfl⟩ trivial (ZD (Hle.refl _) ⟨⟨0,rfl⟩,trivial⟩) (R.slc (cap:=z) (a:=8) (b:=12) (c:=(z:Int)) (m:=d) (R:=RU8) U26 S5 rfl ⟨_,rfl⟩ ⟨_,rfl⟩ (by obtain⟨ao,n,e,_⟩:=h1v_25;exact⟨ao,n,e,rfl⟩) ⟨p.1,p.2.1,h2v_25⟩ h3v_25 (.inl rfl)) rfl ?_
  obtain⟨d6,d7,rfl⟩:=IsSlice.val a0
  refine JA.val ⟨by kernel_rfl,by kernel_rfl⟩ (ZG _) (i:=13) rfl ⟨by kernel_rfl,by kernel_rfl,rfl⟩ trivial (ZD (Hle.refl _) ⟨⟨0,rfl⟩,trivial⟩) (Zd rfl) rfl ?_
  obtain⟨d8,b5,q,hx⟩:=slc_some hx
  obtain⟨d9,a1,h1v_29,h2v_29,h3v_29,a2⟩:=IsSlice.cutv f b5 q
  refine JA.val ⟨by kernel_rfl,by kernel_rfl⟩ (ZG _) (i:=14) rfl ⟨by kernel_rfl,by kernel_rfl,rfl⟩ trivial (ZD (Hle.refl _) ⟨⟨0,rfl⟩,trivial⟩) (R.slc (cap:=a1) (a:=12) (b:=16) (c:=(a1:Int)) (m:=d) (R:=RU8) U26 S5 rfl ⟨_,rfl⟩ ⟨_,rfl⟩ (by obtain⟨ao,n,e,_⟩:=h1v_29;exact⟨ao,n,e,rfl⟩) ⟨q.1,q.2.1,h2v_29⟩ h3v_29 (.inl rfl)) rfl ?_
  obtain⟨e0,e1,rfl⟩:=IsSlice.val a2
  refine JAA.start [⟨17,4,32,.agg #[.int .i64 0,.int .u32 0,.int .u32 0,.int .u32 0,.int .u32 0]⟩] rfl (JAA.one (i:=6) ⟨⟨_,_,_,rfl,Z32,rfl⟩,trivial⟩ (Hle.refl _) ⟨⟨0,rfl⟩,trivial⟩ rfl (by kernel_rfl) (JOA.step rfl trivial rfl (λe2 e3 K hK=> ?_)))
  refine ZK hx E127 rfl ref10_Get_ok rfl ⟨v,trivial⟩ ?_
  intro a3 e4 hx
  refine ZN (hK (by repeat constructor) (by repeat constructor) (ZD (Hle.refl _) ⟨⟨0,rfl⟩,trivial⟩) (JAA.one (i:=9) ⟨⟨_,_,_,rfl,Z32,rfl⟩,trivial⟩ (Hle.refl _) ⟨⟨0,rfl⟩,trivial⟩ rfl (by kernel_rfl) (JOA.step rfl trivial rfl (λe5 e6 K hK=> ?_))))
  refine ZK hx E127 rfl ref10_Get_ok rfl ⟨y,trivial⟩ ?_
  intro a4 e7 hx
  refine ZN (hK (by repeat constructor) (by repeat constructor) (ZD (Hle.refl _) ⟨⟨0,rfl⟩,trivial⟩) (JAA.one (i:=12) ⟨⟨_,_,_,rfl,Z32,rfl⟩,trivial⟩ (Hle.refl _) ⟨⟨0,rfl⟩,trivial⟩ rfl (by kernel_rfl) (JOA.step rfl trivial rfl (λe8 e9 K hK=> ?_))))
  refine ZK hx E127 rfl ref10_Get_ok rfl ⟨a0,trivial⟩ ?_
  intro a5 f0 hx
  refine ZN (hK (by repeat constructor) (by repeat constructor) (ZD (Hle.refl _) ⟨⟨0,rfl⟩,trivial⟩) (JAA.one (i:=15) ⟨⟨_,_,_,rfl,Z32,rfl⟩,trivial⟩ (Hle.refl _) ⟨⟨0,rfl⟩,trivial⟩ rfl (by kernel_rfl) (JOA.step rfl trivial rfl (λf1 f2 K hK=> ?_))))
  refine ZK hx E127 rfl ref10_Get_ok rfl ⟨a2,trivial⟩ ?_
  intro a6 f3 hx
  refine ZN (hK (by repeat constructor) (by repeat constructor) (ZD (Hle.refl _) ⟨⟨0,rfl⟩,trivial⟩) (JAA.val ⟨by kernel_rfl,by kernel_rfl⟩ (ZG _) (i:=16) rfl (by kernel_rfl) rfl trivial (Hle.refl _) ⟨⟨0,rfl⟩,trivial⟩ (R.bldP (vs:=[(0,.int .i64 (h.toNat:Int)),(1,.int .u32 (a3.toNat:Int)),(2,.int .u32 (a4.toNat:Int)),(3,.int .u32 (a5.toNat:Int)),(4,.int .u32 (a6.toNat:Int))]) (cs:=[.int .i64 (h.toNat:Int),.int .u32 (a3.toNat:Int),.int .u32 (a4.toNat:Int),.int .u32 (a5.toNat:Int),.int .u32 (a6.toNat:Int)]) Z32 B32 rfl rfl rfl) rfl (JAA.all ⟨⟨_,_,_,rfl,Z32,rfl⟩,trivial⟩ (Hle.refl _) ⟨⟨0,rfl⟩,trivial⟩ rfl (by kernel_rfl) (λf4 f5=>JA.one (i:=18) (by kernel_rfl) (JO.step rfl trivial rfl (λK hK=> ?_))))))
  refine Run.lnz [1] 2 ZB rfl (hK _ _ _ (ZD (Hle.refl _) ⟨⟨0,rfl⟩,trivial⟩) (Zs (by kernel_rfl) ?_))
  refine Run.nl_s [1] 5 ZB rfl (ZK hx E33 rfl ref10_May_ok rfl trivial ?_)
  intro f6 f7 hx
  refine Run.lcz_s [] 3 ZB rfl (ZJ hx rfl (λb6 hx=> ?_) (λb6 hx=> ?_))
  ·
   refine Run.cnz_k [0] 9 ZB rfl ?_
   exact JN.conCQ [0] [] ZB rfl hx rfl rfl
  ·
   refine Run.cnz_s [1,0] 10 ZB rfl ?_
   exact JN.conCQ [0] [] ZB rfl hx rfl rfl
theorem ref10_Rows_ok{q}:Con Tryz.prog 81 true ([.sl false RU8 1 q]) (ref10_Rows q) (λr=> [.row true R_Ptr 32 5 r.1,.i r.2]):=by
 intro H c1 c2 c3 a3 r hx
 refine Does.enterC Tryz.func81 rfl rfl ?_
 intro w
 unfold ref10_Rows at hx
 refine Run.cl [] 10 ZB rfl (ZA rfl rfl (ZQ U26 rfl (IsSlice.long a3)) (Run.lcz_s [] 3 ZB rfl (ZJ hx rfl (λb1 hx=> ?_) (λb1 hx=> ?_))))
 ·
  refine Run.cnz_k [] 8 ZB rfl (ZL ?_)
  exact ZI [0] rfl hx rfl ⟨⟨0,ZF _ _ _ _ _⟩,rfl⟩
 ·
  refine Run.cc_s [] 13 ZB rfl (ZV hx [] [] rfl rfl (λs l0 o0 l o g=>∃v:List Ptr,∃x:Option Addr,∃y:Nat,∃z:Nat,∃a0:Own,l=(4,.slice x y z)::l0∧o=a0::o0∧H=g∧s=.inl v∧RowOf (New H H) R_Ptr w.heap.size 32 5 (.slice x y z) v a0) (λs c4 hx=> ?_) (λs b2 hx=> ?_))
  ·
   rintro _ _ _ ⟨v,x,y,z,a0,rfl,rfl,rfl,rfl,b3⟩
   simp only[Sum.elim_inl]at hx
   refine Run.nnz_s [] 9 ZB rfl ?_
   exact ZI [0] rfl hx rfl ⟨⟨_,b3⟩,rfl⟩
  ·
   refine JC.block (JC.seg0 (ZZ [0] [] rfl rfl (λl0 o0 d l o g=>∃h:Option Addr,∃j:Nat,∃k:Nat,∃p:Own,l=(4,.slice h j k)::(5,.int .i64 ((d.2:Nat):Int))::l0∧o=p::o0∧H=g∧RowOf (New H H) R_Ptr w.heap.size 32 5 (.slice h j k) d.1 p) hx ⟨none,0,0,[],rfl,rfl,rfl,(ZF _ _ _ _ _)⟩ rfl ?_))
   ·
    rintro c5 d _ _ _ ⟨h,j,k,p,rfl,rfl,rfl,a4⟩ c6 hx a1
    unfold ref10_Rows_l1 at hx
    refine Run.cc [] 7 ZB rfl (ZJ hx rfl (λa5 hx=> ?_) (λa5 hx=> ?_))
    ·
     refine Run.cl_s [] 12 ZB rfl ?_
     obtain⟨c7,b4,a2,hx⟩:=slc_some hx
     obtain⟨c8,a6,h1v_15,h2v_15,h3v_15,a7⟩:=IsSlice.cutv a3 b4 a2
     refine ZA rfl rfl (R.slc (cap:=a6) (a:=w64 (16*((d.2:Nat):Int))) (b:=w64 ((w64 (16*((d.2:Nat):Int)))+16)) (c:=(a6:Int)) (m:=q) (R:=RU8) U26 S5 rfl ⟨_,rfl⟩ ⟨_,rfl⟩ (by obtain⟨ao,n,e,_⟩:=h1v_15;exact⟨ao,n,e,rfl⟩) ⟨a2.1,a2.2.1,h2v_15⟩ h3v_15 (.inl rfl)) ?_
     obtain⟨c9,d0,rfl⟩:=IsSlice.val a7
     refine ZK hx E104 rfl ref10_Read_ok rfl ⟨a7,trivial⟩ ?_
     intro f d1 hx
     refine Run.llz [] 3 ZB rfl (JL.alloc Z32 rfl (λd2 d3=>Run.lc_s [0] 11 ZB rfl (ZJ hx rfl (λb5 hx=> ?_) (λb5 hx=> ?_))))
     ·
      refine Run.cnz_kbk [] 11 ZB rfl ?_
      obtain rfl:=ZP a1 hx
      refine Run.nnz_kb [] 2 ZB rfl ?_
      clear hx;have hx:=b2
      simp only[Sum.elim_inl,Sum.elim_inr]at hx
      refine Run.nnz_kk [] 2 ZB rfl (ZL ?_)
      exact ZI [0] rfl hx rfl ⟨⟨0,ZF _ _ _ _ _⟩,rfl⟩
     ·
      refine Run.clz_s [0] 5 ZB rfl (Zt (HF:=(New H H)) (R:=R_Ptr) (ls:=[f.1]) (vs:=[.agg #[.int .i64 f.1.At,.int .u32 (f.1.Birth.toNat:Int),.int .u32 (f.1.Iv.toNat:Int),.int .u32 (f.1.Tag.toNat:Int),.int .u32 (f.1.Sum.toNat:Int)]]) U30 I32 rfl rfl (⟨_,_,rfl,rfl,rfl,rfl⟩) R_Ptr.one rfl rfl rfl (by simp[maxLen]) rfl (λd4 d5 a8=> ?_))
      obtain⟨d6,d7,rfl⟩:=RowOf.val a8
      obtain⟨a9,b6,b7,hx⟩:=Zc hx
      refine Zk (HF:=(New H H)) 2 U30 I32 rfl rfl a4 rfl (SrcF.row 0 U30 rfl a8) b6 b7 rfl (Nat.le_refl _) rfl (λd8 b8 b0=> ?_)
      obtain⟨b9,c0,rfl⟩:=RowOf.val b0
      refine Run.llz_bs [] 6 ZB rfl (ZA rfl rfl (Zr rfl rfl (of_decide_eq_true a5) (by decide)) ?_)
      refine Run.lnz [] 2 ZB rfl ?_
      replace hx:=ZU a1 hx
      refine JN.forget 1 (JN.forget 0 ?_)
      exact ZE ⟨(a9,d.2+1),⟨b9,a9.length,c0,b8,rfl,rfl,rfl,b0⟩,hx⟩ rfl rfl rfl
    ·
     refine Run.cnz_k [] 2 ZB rfl ?_
     obtain rfl:=ZP a1 hx
     refine Run.nnz_kb [] 2 ZB rfl ?_
     exact ZE ⟨d.1,h,j,k,p,rfl,rfl,rfl,rfl,a4⟩ rfl rfl rfl
theorem ref16_seen_ok{a b}:Con Tryz.prog 57 true (sp_Store false a++sp_Ptr false b) (ref16_seen a b) (λr=> [.row true R_Ptr 32 5 r.1,.i r.2]):=by
 intro H s v x c y z a0 d a1 a2 a3 f r hx
 refine Does.enterC Tryz.func57 rfl rfl ?_
 intro w
 unfold ref16_seen at hx
 refine Run.cl [] 2 ZB rfl (ZY rfl rfl (λa4 a5=>ZY rfl rfl (λa6 a7=>Run.ll_s [1,0] 8 ZB rfl (ZK hx E80 rfl ref13_Seen_ok rfl ⟨c,d,f,trivial⟩ ?_))))
 intro a8 a9 hx b0 b1 b2 b3 h
 refine Run.lc_s [] 14 ZB rfl (ZJ hx rfl (λj hx=> ?_) (λj hx=> ?_))
 ·
  refine Run.cnz_k [] 9 ZB rfl (ZL ?_)
  exact ZI [0] rfl hx rfl ⟨⟨0,ZF _ _ _ _ _⟩,rfl⟩
 ·
  refine Run.cl_s [] 5 ZB rfl (JL.conL hx E81 rfl ref10_Rows_ok rfl (λb4 k m=>⟨(Lent.row' 0 m RU8.mono k rfl (h.old RU8.mono)),trivial⟩) (λ_=>⟨R_Ptr.const,trivial⟩) ?_)
  intro b5 b6 hx b7 b8 b9 c0 p
  refine Run.lc_s [] 14 ZB rfl (ZJ hx rfl (λq hx=> ?_) (λq hx=> ?_))
  ·
   refine Run.cnz_k [] 8 ZB rfl (ZL ?_)
   exact ZI [0] rfl hx rfl ⟨⟨0,ZF _ _ _ _ _⟩,rfl⟩
  ·
   refine Run.cnz_s [] 10 ZB rfl ?_
   exact ZI [0] rfl hx rfl ⟨⟨_,p⟩,rfl⟩
theorem ref16_trim_ok{h}:Con Tryz.prog 58 true ([.sl false R_Ptr 5 h]) (ref16_trim h) (λr=> [.sl false R_Ptr 5 r.1,.b r.2]):=by
 intro H b3 b4 b5 d r hx
 refine Does.enterC Tryz.func58 rfl rfl ?_
 intro w
 unfold ref16_trim at hx
 refine Run.cl [] 9 ZB rfl (ZA rfl rfl (ZQ U30 rfl (IsSlice.long d)) (Run.lc_s [] 4 ZB rfl (ZV hx [0] [] rfl rfl (λf l0 o0 l o g=>l=(4,.int .i64 f)::l0∧o=o0∧H=g) (λf b6 hx=> ?_) (λf b7 hx=> ?_))))
 ·
  rintro _ _ _ ⟨rfl,rfl,rfl⟩
  refine Run.nc_s [] 7 ZB rfl (ZV hx [0,4] [] rfl rfl (λi l0 o0 l o g=>∃v:Unit,l=l0∧o=o0∧H=g∧i=.inl v) (λi b8 hx=> ?_) (λi z hx=> ?_))
  ·
   rintro _ _ _ ⟨v,rfl,rfl,rfl,rfl⟩
   simp only[Sum.elim_inl]at hx
   refine Run.nl_s [] 5 ZB rfl ?_
   obtain⟨b9,a0,j,hx⟩:=slc_some hx
   obtain⟨c0,x,h1v_18,h2v_18,h3v_18,y⟩:=IsSlice.cutv d a0 j
   refine ZA rfl rfl (R.slc (cap:=x) (a:=0) (b:=f) (c:=(x:Int)) (m:=h) (R:=R_Ptr) U30 S32 rfl rfl ⟨_,rfl⟩ (by obtain⟨ao,n,e,_⟩:=h1v_18;exact⟨ao,n,e,rfl⟩) ⟨j.1,j.2.1,h2v_18⟩ h3v_18 (.inl rfl)) ?_
   obtain⟨c1,c2,rfl⟩:=IsSlice.val y
   refine Run.lnz_s [] 5 ZB rfl ?_
   exact ZI [] rfl hx rfl ⟨y,rfl⟩
  ·
   refine JC.block (ZZ [0,4] [] rfl rfl (λl0 o0 k l o g=>l=(5,.int .i64 k)::l0∧o=o0∧H=g) hx ⟨rfl,rfl,rfl⟩ rfl ?_)
   ·
    rintro c3 k _ _ _ ⟨rfl,rfl,rfl⟩ c4 hx p
    unfold ref16_trim_l2 at hx
    refine Run.cc [] 8 ZB rfl (ZJ hx rfl (λa1 hx=> ?_) (λa1 hx=> ?_))
    ·
     refine Run.cl_s [] 8 ZB rfl ?_
     obtain⟨c5,a2,hx⟩:=ZR hx
     obtain⟨c6,c7,c8,a3,a4,c9,a5⟩:=IsSlice.elem d a2
     obtain rfl:=a4
     refine ZA rfl rfl (R.ix U30 S32 rfl rfl a3) (ZA rfl rfl (R.ldHF 0 S32 rfl a5 rfl rfl) (ZK hx E56 rfl ref10_None_ok rfl trivial ?_))
     intro d0 d1 hx
     refine Run.lcz_s [] 2 ZB rfl (ZJ hx rfl (λa6 hx=> ?_) (λa6 hx=> ?_))
     ·
      refine Run.cnz_bk [] 9 ZB rfl ?_
      obtain rfl:=ZP p hx
      refine Run.nnz_kb [] 2 ZB rfl ?_
      clear hx;have hx:=z
      simp only[Sum.elim_inl,Sum.elim_inr]at hx
      refine Run.nnz_kk [] 2 ZB rfl ?_
      exact ZI [] rfl hx rfl ⟨IsSlice.nil _ _ _,rfl⟩
     ·
      refine Run.cnz_bs [] 8 ZB rfl ?_
      replace hx:=ZU p hx
      exact ZE ⟨w64 (k+1),⟨rfl,rfl,rfl⟩,hx⟩ rfl rfl rfl
    ·
     refine Run.cnz_k [] 2 ZB rfl ?_
     obtain rfl:=ZP p hx
     refine Run.nnz_kb [] 2 ZB rfl ?_
     exact ZE ⟨(),rfl,rfl,rfl,rfl⟩ rfl rfl rfl
 ·
  refine JC.block (ZZ [0] [] rfl rfl (λl0 o0 q l o g=>l=(4,.int .i64 q)::l0∧o=o0∧H=g) hx ⟨rfl,rfl,rfl⟩ rfl ?_)
  ·
   rintro d2 q _ _ _ ⟨rfl,rfl,rfl⟩ d3 hx s
   unfold ref16_trim_l1 at hx
   refine Run.cl [] 6 ZB rfl (Zi 10 hx rfl (λa7 hx=> ?_) (λa7 hx=> ?_))
   ·
    refine Run.llz [] 7 ZB rfl ?_
    obtain⟨d4,a8,hx⟩:=ZR hx
    obtain⟨d5,d6,d7,a9,b0,d8,b1⟩:=IsSlice.elem d a8
    obtain rfl:=b0
    refine ZA rfl rfl (R.ix U30 S32 rfl rfl a9) (JL.gYes rfl rfl rfl (ZA rfl rfl (R.ldHF 0 S32 rfl b1 rfl rfl) (JL.gYes rfl rfl rfl (ZK hx E56 rfl ref10_None_ok rfl trivial ?_))))
    intro d9 e0 hx
    refine Run.lcz_s [] 3 ZB rfl (ZJ hx rfl (λb2 hx=> ?_) (λb2 hx=> ?_))
    ·
     refine Run.cnz_s [] 9 ZB rfl ?_
     replace hx:=ZU s hx
     exact ZE ⟨w64 (q-1),⟨rfl,rfl,rfl⟩,hx⟩ rfl rfl rfl
    ·
     refine Run.cnz_k [] 2 ZB rfl ?_
     obtain rfl:=ZP s hx
     refine Run.nnz_kb [] 2 ZB rfl ?_
     exact ZE ⟨rfl,rfl,rfl⟩ rfl rfl rfl
   ·
    refine Run.lnz_sk [] 12 ZB rfl ?_
    obtain rfl:=ZP s hx
    refine Run.nnz_kb [] 2 ZB rfl ?_
    exact ZE ⟨rfl,rfl,rfl⟩ rfl rfl rfl
end Go.Proofs.YtgiefadcpnegcaaGreat
