import Derived.Test.YtebhagohhbmgoaaGreatW2p0
/- walks: what the code computes, function by function. -/
namespace Go.Proofs.YtebhagohhbmgoaaGreat
open Go.Ow Go.RowKit Go.Proofs
set_option linter.unusedVariables false
set_option linter.unusedSimpArgs false
set_option maxHeartbeats 8000000 in
theorem math_bits_RotateLeft32_ok (p_1 : UInt32) (p_2 : Int) (H : Heaplet) (r : UInt32) (hx : math_bits_RotateLeft32 p_1 p_2 = some r) :
  Does Tryz.prog 256 #[.int .u32 (p_1.toNat : Int),.int .i64 p_2] [] H (fun u K' H' => u = .int .u32 (r.toNat : Int) ∧ K' = [] ∧ H = H' ∧ True):=by
 refine Does.enterL (vs:=[.int .u32 (p_1.toNat : Int),.int .i64 p_2]) (l:=[(0,.int .u32 (p_1.toNat : Int)),(1,.int .i64 p_2)]) Tryz.func256 rfl rfl ⟨rfl,rfl,trivial⟩ (fun w hlt => ?_)
 unfold math_bits_RotateLeft32 at hx
 refine Run.cl [] 8 ZF rfl (ZA rfl rfl (R.cv_i64_u64 U3 U214 rfl) (ZA rfl rfl (R.and64 (a:=u64i p_2) (b:=(31 : UInt64)) rfl rfl) (Run.ll_s [] 7 ZF rfl (ZA rfl rfl (R.shl32 (n:=(((u64i p_2) &&& (31 : UInt64)).toNat : Int)) (a:=p_1) rfl rfl (Int.natCast_nonneg _)) (Run.llz [] 2 ZF rfl (ZA rfl rfl (R.sub64 (a:=(32 : UInt64)) (b:=(u64i p_2) &&& (31 : UInt64)) rfl rfl) (ZA rfl rfl (R.shr32 (n:=(((32 : UInt64) - ((u64i p_2) &&& (31 : UInt64))).toNat : Int)) (a:=p_1) rfl rfl (Int.natCast_nonneg _)) (ZA rfl rfl (R.or32 (a:=sl32 p_1 ((((u64i p_2) &&& (31 : UInt64)).toNat : Int)).toNat) (b:=sr32 p_1 ((((32 : UInt64) - ((u64i p_2) &&& (31 : UInt64))).toNat : Int)).toNat) rfl rfl) (Run.lnz_s [] 4 ZF rfl (ZJ (vs:=[.int .u32 (((sl32 p_1 ((((u64i p_2) &&& (31 : UInt64)).toNat : Int)).toNat) ||| (sr32 p_1 ((((32 : UInt64) - ((u64i p_2) &&& (31 : UInt64))).toNat : Int)).toNat)).toNat : Int)]) (K:=[]) (rst:=[]) (.inl rfl) rfl rfl (ZG rfl rfl) ZC ?_))))))))))
 obtain rfl:=Option.some.inj hx
 exact ⟨rfl,rfl,rfl,trivial⟩

set_option maxHeartbeats 8000000 in
theorem mix_words_turned_1_ok (p_1 : Int) (p_2 : Int) (p_4 : A4 UInt32) (H : Heaplet) {b_3 : Nat} (r : A4 UInt32) (hx : mix_words_turned_1 p_1 p_2 p_4 = some r) :
  Does Tryz.prog 255 #[.int .i64 p_1,.int .i64 p_2,.pointer (some ⟨b_3,0,none⟩)] [[(b_3,.cells #[.int .u32 (p_4.e0.toNat : Int),.int .u32 (p_4.e1.toNat : Int),.int .u32 (p_4.e2.toNat : Int),.int .u32 (p_4.e3.toNat : Int)] 157 (0,0))]] H (fun u K' H' => u = .tuple #[] ∧ K' = [[(b_3,.cells #[.int .u32 (r.e0.toNat : Int),.int .u32 (r.e1.toNat : Int),.int .u32 (r.e2.toNat : Int),.int .u32 (r.e3.toNat : Int)] 157 (0,0))]] ∧ H = H' ∧ True):=by
 refine Does.enterL (vs:=[.int .i64 p_1,.int .i64 p_2,.pointer (some ⟨b_3,0,none⟩)]) (l:=[(0,.int .i64 p_1),(1,.int .i64 p_2),(2,.pointer (some ⟨b_3,0,none⟩))]) Tryz.func255 rfl rfl ⟨rfl,rfl,rfl,trivial⟩ (fun w hlt => ?_)
 unfold mix_words_turned_1 at hx
 refine Run.cl [] 2 ZF rfl (ZA rfl rfl (R.ixA 0 U157 S27 rfl rfl rfl) (ZA rfl rfl (R.ldo 0 S27 rfl rfl rfl) (ZA rfl rfl (R.ixA 1 U157 S27 rfl rfl rfl) (ZA rfl rfl (R.ldo 0 S27 rfl rfl rfl) (ZA rfl rfl (R.add32 (a:=p_4.e0) (b:=p_4.e1) rfl rfl) (ZA rfl rfl (R.ixA 0 U157 S27 rfl rfl rfl) (Run.ll_s [0] 5 ZF rfl (ZA rfl rfl (R.ixA 3 U157 S27 rfl rfl rfl) (ZA rfl rfl (R.ldo 0 S27 rfl rfl rfl) (ZA rfl rfl (R.ixA 0 U157 S27 rfl rfl rfl) (ZA rfl rfl (R.ldo 0 S27 rfl rfl rfl) ?_)))))))))))
 refine ZA rfl rfl (R.xor32 (a:=p_4.e3) (b:=p_4.e0 + p_4.e1) rfl rfl) (ZA rfl rfl (ZZ rfl) ?_)
 obtain ⟨x_5,hr_6,hx⟩:=ZD hx
 refine ZI (vs:=[_,_]) (args:=[_,_]) (K:=[]) (rst:=[_]) E256 rfl rfl rfl ZC (math_bits_RotateLeft32_ok (p_4.e3 ^^^ (p_4.e0 + p_4.e1)) p_1 _ _ hr_6) rfl (fun u_7 Ku_7 Hu_7 hRu_7 hleu_7 hfu_7 => ?_)
 obtain ⟨rfl,rfl,rfl,-⟩:=hRu_7
 refine ZA rfl rfl (R.ixA 3 U157 S27 rfl rfl rfl) (Run.ll_s [0] 5 ZF rfl (ZA rfl rfl (R.ixA 2 U157 S27 rfl rfl rfl) (ZA rfl rfl (R.ldo 0 S27 rfl rfl rfl) (ZA rfl rfl (R.ixA 3 U157 S27 rfl rfl rfl) (ZA rfl rfl (R.ldo 0 S27 rfl rfl rfl) (ZA rfl rfl (R.add32 (a:=p_4.e2) (b:=x_5) rfl rfl) (ZA rfl rfl (R.ixA 2 U157 S27 rfl rfl rfl) (Run.llz_s [0] 4 ZF rfl (ZA rfl rfl (R.ixA 1 U157 S27 rfl rfl rfl) (ZA rfl rfl (R.ldo 0 S27 rfl rfl rfl) (ZA rfl rfl (R.ixA 2 U157 S27 rfl rfl rfl) ?_)))))))))))
 refine ZA rfl rfl (R.ldo 0 S27 rfl rfl rfl) (ZA rfl rfl (R.xor32 (a:=p_4.e1) (b:=p_4.e2 + x_5) rfl rfl) (ZA rfl rfl (ZZ rfl) ?_))
 obtain ⟨x_8,hr_9,hx⟩:=ZD hx
 refine ZI (vs:=[_,_]) (args:=[_,_]) (K:=[]) (rst:=[_]) E256 rfl rfl rfl ZC (math_bits_RotateLeft32_ok (p_4.e1 ^^^ (p_4.e2 + x_5)) p_2 _ _ hr_9) rfl (fun u_10 Ku_10 Hu_10 hRu_10 hleu_10 hfu_10 => ?_)
 obtain ⟨rfl,rfl,rfl,-⟩:=hRu_10
 refine ZA rfl rfl (R.ixA 1 U157 S27 rfl rfl rfl) (Run.lnz [0] 2 ZF rfl (ZJ (vs:=[]) (K:=[_]) (rst:=[]) (.inr rfl) rfl rfl rfl (ZO 0 rfl ZC) ?_))
 obtain rfl:=Option.some.inj hx
 exact ⟨rfl,rfl,rfl,trivial⟩

set_option maxHeartbeats 8000000 in
theorem mix_words_turned_ok (p_1 : A4 UInt32) (H : Heaplet) (r : A4 UInt32) (hx : mix_words_turned p_1 = some r) :
  Does Tryz.prog 218 #[.agg #[.int .u32 (p_1.e0.toNat : Int),.int .u32 (p_1.e1.toNat : Int),.int .u32 (p_1.e2.toNat : Int),.int .u32 (p_1.e3.toNat : Int)]] [] H (fun u K' H' => u = .agg #[.int .u32 (r.e0.toNat : Int),.int .u32 (r.e1.toNat : Int),.int .u32 (r.e2.toNat : Int),.int .u32 (r.e3.toNat : Int)] ∧ K' = [] ∧ H = H' ∧ True):=by
 refine Does.enterL (vs:=[.agg #[.int .u32 (p_1.e0.toNat : Int),.int .u32 (p_1.e1.toNat : Int),.int .u32 (p_1.e2.toNat : Int),.int .u32 (p_1.e3.toNat : Int)]]) (l:=[(0,.agg #[.int .u32 (p_1.e0.toNat : Int),.int .u32 (p_1.e1.toNat : Int),.int .u32 (p_1.e2.toNat : Int),.int .u32 (p_1.e3.toNat : Int)])]) Tryz.func218 rfl rfl ⟨rfl,trivial⟩ (fun w hlt => ?_)
 unfold mix_words_turned at hx
 refine Run.cl [] 2 ZF rfl (Zk rfl rfl (fun b_2 hb_2 => JL.alloc Z157 rfl (fun b_3 hb_3 => Run.ll_s [] 11 ZF rfl ?_)))
 obtain ⟨x_4,hr_5,hx⟩:=ZD hx
 refine ZI (vs:=[_,_]) (args:=[_,_,_]) (K:=[_]) (rst:=[_]) E255 rfl rfl rfl (ZO 1 rfl ZC) (mix_words_turned_1_ok 15 11 p_1 _ _ hr_5) rfl (fun u_6 Ku_6 Hu_6 hRu_6 hleu_6 hfu_6 => ?_)
 obtain ⟨rfl,rfl,rfl,-⟩:=hRu_6
 refine Run.ll_s [] 5 ZF rfl ?_
 obtain ⟨x_7,hr_8,hx⟩:=ZD hx
 refine ZI (vs:=[_,_]) (args:=[_,_,_]) (K:=[_]) (rst:=[_]) E255 rfl rfl rfl (ZO 0 rfl ZC) (mix_words_turned_1_ok 9 6 x_4 _ _ hr_8) rfl (fun u_9 Ku_9 Hu_9 hRu_9 hleu_9 hfu_9 => ?_)
 obtain ⟨rfl,rfl,rfl,-⟩:=hRu_9
 refine Run.lnz_s [0,1] 9 ZF rfl (ZJ (vs:=[.agg #[.int .u32 (x_7.e0.toNat : Int),.int .u32 (x_7.e1.toNat : Int),.int .u32 (x_7.e2.toNat : Int),.int .u32 (x_7.e3.toNat : Int)]]) (K:=[]) (rst:=[_,_]) (.inl rfl) rfl rfl (Zn 1 rfl rfl S157 rfl) ZC ?_)
 obtain rfl:=Option.some.inj hx
 exact ⟨rfl,rfl,rfl,trivial⟩

set_option maxHeartbeats 8000000 in
theorem mix_words_often_ok (p_1 : A4 UInt32) (p_2 : Int) (H : Heaplet) (r : A4 UInt32) (hx : mix_words_often p_1 p_2 = some r) :
  Does Tryz.prog 165 #[.agg #[.int .u32 (p_1.e0.toNat : Int),.int .u32 (p_1.e1.toNat : Int),.int .u32 (p_1.e2.toNat : Int),.int .u32 (p_1.e3.toNat : Int)],.int .i64 p_2] [] H (fun u K' H' => u = .agg #[.int .u32 (r.e0.toNat : Int),.int .u32 (r.e1.toNat : Int),.int .u32 (r.e2.toNat : Int),.int .u32 (r.e3.toNat : Int)] ∧ K' = [] ∧ H = H' ∧ True):=by
 refine Does.enterL (vs:=[.agg #[.int .u32 (p_1.e0.toNat : Int),.int .u32 (p_1.e1.toNat : Int),.int .u32 (p_1.e2.toNat : Int),.int .u32 (p_1.e3.toNat : Int)],.int .i64 p_2]) (l:=[(0,.agg #[.int .u32 (p_1.e0.toNat : Int),.int .u32 (p_1.e1.toNat : Int),.int .u32 (p_1.e2.toNat : Int),.int .u32 (p_1.e3.toNat : Int)]),(1,.int .i64 p_2)]) Tryz.func165 rfl rfl ⟨rfl,rfl,trivial⟩ (fun w hlt => ?_)
 unfold mix_words_often at hx
 refine Run.cl [] 2 ZF rfl (Zk rfl rfl (fun b_3 hb_3 => JL.alloc Z157 rfl (fun b_4 hb_4 => Run.lc_s [] 9 ZF rfl ?_)))
 obtain ⟨t_5,ht_7,hx⟩:=ZD hx
 refine JC.cut (fun l o g => l = [(2,.pointer (some ⟨b_3,0,none⟩)),(4,.pointer (some ⟨b_4,0,none⟩))] ∧ o = [[(b_3,.cells #[.int .u32 (t_5.1.toNat : Int),.int .u32 (t_5.2.1.toNat : Int),.int .u32 (t_5.2.2.1.toNat : Int),.int .u32 (t_5.2.2.2.toNat : Int)] 157 (0,0))],[(b_4,.cells #[.int .u32 ((0 : UInt32).toNat : Int),.int .u32 ((0 : UInt32).toNat : Int),.int .u32 ((0 : UInt32).toNat : Int),.int .u32 ((0 : UInt32).toNat : Int)] 157 (0,0))]] ∧ H = g) ?_ ?_
 ·
  rintro _ _ _ ⟨rfl,rfl,rfl⟩
  refine Run.nnz_s [0,1] 8 ZF rfl (ZJ (vs:=[.agg #[.int .u32 (t_5.1.toNat : Int),.int .u32 (t_5.2.1.toNat : Int),.int .u32 (t_5.2.2.1.toNat : Int),.int .u32 (t_5.2.2.2.toNat : Int)]]) (K:=[]) (rst:=[_,_]) (.inl rfl) rfl rfl (Zn 1 rfl rfl S157 rfl) ZC ?_)
  obtain rfl:=Option.some.inj hx
  exact ⟨rfl,rfl,rfl,trivial⟩
 ·
  have hxo_6:=hx; clear hx; have hx:=ht_7; clear ht_7
  refine JC.block (Zc 1 rfl (Zf (fun n l o g => ∃ s_8 : UInt32 × UInt32 × UInt32 × UInt32 × Int,l = [(2,.pointer (some ⟨b_3,0,none⟩)),(4,.pointer (some ⟨b_4,0,none⟩)),(5,.int .i64 p_2),(6,.int .i64 s_8.2.2.2.2)] ∧ o = [[(b_3,.cells #[.int .u32 (s_8.1.toNat : Int),.int .u32 (s_8.2.1.toNat : Int),.int .u32 (s_8.2.2.1.toNat : Int),.int .u32 (s_8.2.2.2.1.toNat : Int)] 157 (0,0))],[(b_4,.cells #[.int .u32 ((0 : UInt32).toNat : Int),.int .u32 ((0 : UInt32).toNat : Int),.int .u32 ((0 : UInt32).toNat : Int),.int .u32 ((0 : UInt32).toNat : Int)] 157 (0,0))]] ∧ H = g ∧ run (mix_words_often_l1 p_2) n s_8 = some t_5) FUEL ?_ ⟨(p_1.e0,p_1.e1,p_1.e2,p_1.e3,0),rfl,rfl,rfl,hx⟩ ⟨rfl,rfl,rfl,rfl,trivial⟩ ?_))
  ·
   rintro _ _ _ ⟨s_8,rfl,rfl,rfl,hn_9⟩
   exact Ze hn_9
  ·
   rintro n_10 _ _ _ ⟨s_8,rfl,rfl,rfl,hn_9⟩
   clear hx; obtain ⟨oo_12,hx,hd_11⟩:=Zd hn_9
   unfold mix_words_often_l1 at hx
   refine Run.cc [] 6 ZF rfl (ZM rfl (fun c_11 => ?_) (fun c_11 => ?_))
   ·
    replace hx:=ZK c_11 hx
    refine Run.cl_s [0] 6 ZF rfl ?_
    obtain ⟨x_12,hr_13,hx⟩:=ZD hx
    refine ZI (vs:=[_]) (args:=[_]) (K:=[]) (rst:=[_,_]) E218 rfl rfl rfl ZC (mix_words_turned_ok (A4.mk s_8.1 s_8.2.1 s_8.2.2.1 s_8.2.2.2.1) _ _ hr_13) rfl (fun u_14 Ku_14 Hu_14 hRu_14 hleu_14 hfu_14 => ?_)
    obtain ⟨rfl,rfl,rfl,-⟩:=hRu_14
    refine Run.lnz_bs [0] 8 ZF rfl ?_
    replace hx:=ZX hd_11 hx
    refine ZH 1 rfl (ZH 1 rfl ?_)
    exact JN.cut ⟨(x_12.e0,x_12.e1,x_12.e2,x_12.e3,w64 (s_8.2.2.2.2 + 1)),rfl,rfl,rfl,hx⟩ ⟨rfl,rfl,rfl,rfl,trivial⟩ rfl rfl
   ·
    replace hx:=ZL c_11 hx
    refine Run.cnz_k [] 2 ZF rfl ?_
    obtain rfl:=Za hd_11 hx
    refine Run.nnz_kb [] 2 ZF rfl (ZH 1 rfl (ZH 1 rfl ?_))
    exact JN.cut ⟨rfl,rfl,rfl⟩ ⟨rfl,rfl,trivial⟩ rfl rfl

set_option maxHeartbeats 8000000 in
theorem mix_four_ok (p_1 : List UInt8) (H : Heaplet) {aa_2 : Option Addr} {na_2 : Nat} {ca_2 : Nat} (ha_2 : IsSlice H RU8 1 (.slice aa_2 na_2 ca_2) p_1) (r : A4 UInt32) (hx : mix_four p_1 = some r) :
  Does Tryz.prog 103 #[.slice aa_2 na_2 ca_2] [] H (fun u K' H' => u = .agg #[.int .u32 (r.e0.toNat : Int),.int .u32 (r.e1.toNat : Int),.int .u32 (r.e2.toNat : Int),.int .u32 (r.e3.toNat : Int)] ∧ K' = [] ∧ True):=by
 refine Does.enterML (vs:=[.slice aa_2 na_2 ca_2]) (l:=[(0,.slice aa_2 na_2 ca_2)]) Tryz.func103 rfl rfl ⟨rfl,trivial⟩ (fun w hlt => ?_)
 unfold mix_four at hx
 refine Run.cl [] 2 ZF rfl (JL.alloc Z157 rfl (fun b_3 hb_3 => Run.ll_s [] 4 ZF rfl (ZA rfl rfl (R.bldA (vs:=[(0,.int .u32 ((1 : UInt32).toNat : Int)),(1,.int .u32 ((2 : UInt32).toNat : Int)),(2,.int .u32 ((3 : UInt32).toNat : Int)),(3,.int .u32 ((4 : UInt32).toNat : Int))]) (cells:=#[.int .u32 ((1 : UInt32).toNat : Int),.int .u32 ((2 : UInt32).toNat : Int),.int .u32 ((3 : UInt32).toNat : Int),.int .u32 ((4 : UInt32).toNat : Int)]) Z157 B157 rfl rfl rfl rfl) (JL.alloc Z157 rfl (fun b_4 hb_4 => Run.ll_s [0] 6 ZF rfl ?_)))))
 obtain ⟨x_5,hr_6,hx⟩:=ZD hx
 refine ZI (vs:=[_]) (args:=[_]) (K:=[]) (rst:=[_,_]) E163 rfl rfl rfl ZC (slices_Clone_byte_ok p_1 _ ha_2 _ hr_6) rfl (fun u_7 Ku_7 Hu_7 hRu_7 hleu_7 hfu_7 => ?_)
 obtain ⟨ar_8,nr_8,cr_8,Kr_8,rfl,rfl,rfl,hr_8,hnewr_8,-⟩:=hRu_7
 replace hr_8:=(RowOf.base (ZP (H2:=New H H) RU8.const hr_8) (fun p hp => (hfu_7 p (ZS 0 rfl hp)).resolve_left (hnewr_8 p hp)))
 refine JL.pubN 0 RU8.mono rfl hr_8 (Nat.le_refl _) (fun H_9 hleH_9 hsH_9 => JL.forget 0 ?_)
 obtain ⟨x_10,hr_11,hx⟩:=ZD hx
 refine ZI (vs:=[_]) (args:=[_]) (K:=[]) (rst:=[_,_]) E162 rfl rfl rfl ZC (slices_Clip_byte_ok x_5 _ (hsH_9.old RU8.mono) _ hr_11) rfl (fun u_12 Ku_12 Hu_12 hRu_12 hleu_12 hfu_12 => ?_)
 obtain ⟨az_13,nz_13,rfl,rfl,rfl,hz_13,-⟩:=hRu_12
 refine JL.bslF (HF:=(New H H_9)) (R:=RU8) (ls:=[(1 : UInt8)]) (vs:=[.int .u8 ((1 : UInt8).toNat : Int)]) U26 I5 rfl rfl (⟨_,_,rfl,rfl,rfl,rfl⟩) RU8.one rfl rfl rfl (by simp [maxLen]) rfl (fun vr_14 Kr_14 hr_14 => ?_)
 obtain ⟨ar_14,cr_14,rfl⟩:=RowOf.val hr_14
 obtain ⟨q_15,hm_16,hl_17,hx⟩:=Zo hx
 refine JL.appC (HF:=(New H H_9)) U26 I5 rfl RU8.one (Hle.refl _) hz_13 (fun _ _ h => RU8.const _ _ _ _ h) rfl (SrcF.row 0 U26 rfl (ZP RU8.const hr_14)) (List.cons_ne_nil _ _) hm_16 hl_17 rfl rfl (fun vr_18 Kr_18 hr_18 => ?_)
 obtain ⟨ar_18,cr_18,rfl⟩:=RowOf.val hr_18
 refine Run.lc_s [] 4 ZF rfl ?_
 obtain ⟨t_19,ht_21,hx⟩:=ZD hx
 refine JC.cut (fun l o g => ∃ ar_26 : Option Addr,∃ nr_26 : Nat,∃ cr_26 : Nat,∃ Kr_26 : Own,l = [(0,.slice aa_2 na_2 ca_2),(2,.pointer (some ⟨b_3,0,none⟩)),(3,.pointer (some ⟨b_4,0,none⟩)),(4,.slice ar_26 nr_26 cr_26)] ∧ o = [[(b_3,.cells #[.int .u32 ((0 : UInt32).toNat : Int),.int .u32 ((0 : UInt32).toNat : Int),.int .u32 ((0 : UInt32).toNat : Int),.int .u32 ((0 : UInt32).toNat : Int)] 157 (0,0))],[(b_4,.cells #[.int .u32 ((1 : UInt32).toNat : Int),.int .u32 ((2 : UInt32).toNat : Int),.int .u32 ((3 : UInt32).toNat : Int),.int .u32 ((4 : UInt32).toNat : Int)] 157 (0,0))],Kr_26] ∧ H_9 = g ∧ RowOf (New H H_9) RU8 w.heap.size 5 1 (.slice ar_26 nr_26 cr_26) t_19 Kr_26) ?_ ?_
 ·
  rintro _ _ _ ⟨ar_26,nr_26,cr_26,Kr_26,rfl,rfl,rfl,hr_26⟩
  refine Run.nl_s [] 5 ZF rfl (JL.pubN 2 RU8.mono rfl hr_26 (Nat.le_refl _) (fun H_27 hleH_27 hsH_27 => JL.forget 2 ?_))
  obtain ⟨x_28,hr_29,hx⟩:=ZD hx
  refine ZI (vs:=[_,_]) (args:=[_,_]) (K:=[]) (rst:=[_,_]) E144 rfl rfl rfl ZC (slices_Chunk_byte_ok t_19 8 _ (hsH_27.old RU8.mono) _ hr_29) rfl (fun u_30 Ku_30 Hu_30 hRu_30 hleu_30 hfu_30 => ?_)
  obtain ⟨bit_31,cit_31,rfl,rfl,hit_31,kit_31,pit_31,-⟩:=hRu_30
  refine Run.lc_s [] 3 ZF rfl ?_
  obtain ⟨t_32,ht_34,hx⟩:=ZD hx
  refine Zc 1 rfl (Zc 1 rfl (JC.rangeL (RA:=fun H' args (y : List UInt8) => ∃ ao : Option Addr,args = #[.slice ao y.length y.length] ∧ IsSlice H' RU8 1 (.slice ao y.length y.length) y) rfl mix_four_r2 ((1 : UInt32),(2 : UInt32),(3 : UInt32),(4 : UInt32)) t_32 ht_34 (fun s_35 o g => ∃ H_41 : Heaplet,o = [[(b_3,.cells #[.int .u32 ((0 : UInt32).toNat : Int),.int .u32 ((0 : UInt32).toNat : Int),.int .u32 ((0 : UInt32).toNat : Int),.int .u32 ((0 : UInt32).toNat : Int)] 157 (0,0))],[(b_4,.cells #[.int .u32 (s_35.1.toNat : Int),.int .u32 (s_35.2.1.toNat : Int),.int .u32 (s_35.2.2.1.toNat : Int),.int .u32 (s_35.2.2.2.toNat : Int)] 157 (0,0))]] ∧ H_41 = g ∧ Hle Hu_30 H_41) (fun e c o g => False) rfl E200 (slices_Chunk_byte_it t_19 8 pit_31 _ ((hsH_27.mono RU8.mono (New.mono hleu_30)).old RU8.mono) hit_31 kit_31) (fun _ _ _ h => by obtain ⟨_,h,_⟩:=h; rw [h]; rfl) rfl ⟨Hu_30,rfl,rfl,(Hle.refl _)⟩ ?_ ?_ ?_))
  ·
   rintro lr_37 y_36 s_35 args o g out_39 ⟨H_41,rfl,rfl,hleH_41⟩ hA hx2
   clear hx; have hx:=hx2; clear hx2; unfold mix_four_r2 at hx
   obtain ⟨aoit_31,rfl,hyit_31⟩:=hA
   refine ⟨[(0,.slice aa_2 na_2 ca_2),(2,.pointer (some ⟨b_3,0,none⟩)),(3,.pointer (some ⟨b_4,0,none⟩)),(5,.slice aoit_31 y_36.length y_36.length)],fun wb_38 hwb_38 => ?_,fun wb_38 hwb_38 => ?_⟩
   ·
    refine Run.cnz [] 3 ZF rfl ?_
    exact JN.assigned ⟨rfl,rfl,rfl,rfl,trivial⟩
   ·
    refine Run.cc [] 2 ZF rfl ?_
    obtain ⟨t_42,ht_44,hx⟩:=ZD hx
    refine JC.cut (fun l o g => ∃ H_55 : Heaplet,l = [(0,.slice aa_2 na_2 ca_2),(2,.pointer (some ⟨b_3,0,none⟩)),(3,.pointer (some ⟨b_4,0,none⟩)),(5,.slice aoit_31 y_36.length y_36.length)] ∧ o = [[(b_3,.cells #[.int .u32 ((0 : UInt32).toNat : Int),.int .u32 ((0 : UInt32).toNat : Int),.int .u32 ((0 : UInt32).toNat : Int),.int .u32 ((0 : UInt32).toNat : Int)] 157 (0,0))],[(b_4,.cells #[.int .u32 (t_42.toNat : Int),.int .u32 (s_35.2.1.toNat : Int),.int .u32 (s_35.2.2.1.toNat : Int),.int .u32 (s_35.2.2.2.toNat : Int)] 157 (0,0))]] ∧ H_55 = g ∧ Hle H_41 H_55) ?_ ?_
    ·
     rintro _ _ _ ⟨H_55,rfl,rfl,rfl,hleH_55⟩
     refine Run.nc_s [] 2 ZF rfl (JC.draw (so:=[_]) 8 rfl Mixed ⟨⟨0,rfl⟩,trivial⟩ (JA.val ⟨by kernel_rfl,by kernel_rfl⟩ (ZE _) (i:=0) rfl ⟨by kernel_rfl,by kernel_rfl,rfl⟩ trivial (ZB (Hle.refl _) ⟨⟨0,rfl⟩,trivial⟩) (R.ixA 2 U157 S27 rfl rfl rfl) rfl (JA.val ⟨by kernel_rfl,by kernel_rfl⟩ (ZE _) (i:=2) rfl ⟨by kernel_rfl,by kernel_rfl,rfl⟩ trivial (ZB (Hle.refl _) ⟨⟨0,rfl⟩,trivial⟩) (ZZ rfl) rfl ?_)))
     obtain ⟨m_56,hm_58,hb_57,hx⟩:=slc_some hx
     obtain ⟨vv_59,cv_59,h1v_59,h2v_59,h3v_59,hsv_59⟩:=IsSlice.cutv (hyit_31.mono RU8.mono hleH_55) hm_58 hb_57
     refine JA.val ⟨by kernel_rfl,by kernel_rfl⟩ (ZE _) (i:=3) rfl ⟨by kernel_rfl,by kernel_rfl,rfl⟩ trivial (ZB (Hle.refl _) ⟨⟨0,rfl⟩,trivial⟩) (R.slc (cap:=cv_59) (a:=4) (b:=(y_36.length : Int)) (c:=(cv_59 : Int)) (m:=y_36) (R:=RU8) U26 S5 rfl ⟨_,rfl⟩ rfl (by obtain ⟨ao,n,e,_⟩:=h1v_59; exact ⟨ao,n,e,rfl⟩) ⟨hb_57.1,hb_57.2.1,h2v_59⟩ h3v_59 (.inl rfl)) rfl ?_
     obtain ⟨av_59,cv_59',rfl⟩:=IsSlice.val hsv_59
     refine JA.two (i:=1) (j:=4) (by kernel_rfl) ?_ ?_
     ·
      refine JO.step rfl trivial rfl (fun K hK => Run.lnz [1] 2 ZF rfl (hK _ _ _ (ZB (Hle.refl _) ⟨⟨0,rfl⟩,trivial⟩) (JA.one (i:=4) (by kernel_rfl) (JO.step rfl trivial rfl (fun K hK => ?_)))))
      obtain ⟨x_60,hr_61,hx⟩:=ZD hx
      refine ZI (vs:=[_]) (args:=[_]) (K:=[]) (rst:=[_,_]) E164 rfl rfl rfl ZC (mix_number_ok m_56 _ hsv_59 _ hr_61) rfl (fun u_62 Ku_62 Hu_62 hRu_62 hleu_62 hfu_62 => ?_)
      obtain ⟨rfl,rfl,-⟩:=hRu_62
      refine ZW (hK _ _ _ (ZB hleu_62 ⟨⟨0,rfl⟩,trivial⟩) (JA.val ⟨by kernel_rfl,by kernel_rfl⟩ (ZE _) (i:=5) rfl ⟨by kernel_rfl,by kernel_rfl,rfl⟩ trivial (ZB hleu_62 ⟨⟨0,rfl⟩,trivial⟩) (R.xor32 (a:=s_35.2.2.1) (b:=x_60) rfl rfl) rfl (JA.val ⟨by kernel_rfl,by kernel_rfl⟩ (ZE _) (i:=6) rfl ⟨by kernel_rfl,by kernel_rfl,rfl⟩ trivial (ZB hleu_62 ⟨⟨0,rfl⟩,trivial⟩) (R.ixA 2 U157 S27 rfl rfl rfl) rfl (JA.one (i:=7) (by kernel_rfl) (JO.step rfl trivial rfl (fun K hK => ?_))))))
      refine Run.lnz [1] 2 ZF rfl (hK _ _ _ (ZB hleu_62 ⟨⟨0,rfl⟩,trivial⟩) (Zg (by kernel_rfl) ?_))
      refine Run.nlz_s [1] 3 ZF rfl ?_
      obtain ⟨x_63,hr_64,hx⟩:=ZD hx
      refine ZI (vs:=[_,_]) (args:=[_,_]) (K:=[]) (rst:=[_,_]) E165 rfl rfl rfl ZC (mix_words_often_ok (A4.mk t_42 s_35.2.1 (s_35.2.2.1 ^^^ x_60) s_35.2.2.2) 4 _ _ hr_64) rfl (fun u_65 Ku_65 Hu_65 hRu_65 hleu_65 hfu_65 => ?_)
      obtain ⟨rfl,rfl,rfl,-⟩:=hRu_65
      refine Run.lnz_b [1] 3 ZF rfl ?_
      obtain rfl:=Option.some.inj hx
      refine ZH 1 rfl (ZH 1 rfl ?_)
      exact JN.rN ⟨Hu_62,rfl,rfl,((hleH_41.trans (hleH_55.trans hleu_62)))⟩
     ·
      refine JO.step rfl trivial rfl (fun K hK => ?_)
      obtain ⟨x_66,hr_67,hx⟩:=ZD hx
      refine ZI (vs:=[_]) (args:=[_]) (K:=[]) (rst:=[_,_]) E164 rfl rfl rfl ZC (mix_number_ok m_56 _ hsv_59 _ hr_67) rfl (fun u_68 Ku_68 Hu_68 hRu_68 hleu_68 hfu_68 => ?_)
      obtain ⟨rfl,rfl,-⟩:=hRu_68
      refine ZW (hK _ _ _ (ZB hleu_68 ⟨⟨0,rfl⟩,trivial⟩) (JA.one (i:=1) (by kernel_rfl) (JO.step rfl trivial rfl (fun K hK => ?_))))
      refine Run.lnz [1] 2 ZF rfl (hK _ _ _ (ZB hleu_68 ⟨⟨0,rfl⟩,trivial⟩) (JA.val ⟨by kernel_rfl,by kernel_rfl⟩ (ZE _) (i:=5) rfl ⟨by kernel_rfl,by kernel_rfl,rfl⟩ trivial (ZB hleu_68 ⟨⟨0,rfl⟩,trivial⟩) (R.xor32 (a:=s_35.2.2.1) (b:=x_66) rfl rfl) rfl (JA.val ⟨by kernel_rfl,by kernel_rfl⟩ (ZE _) (i:=6) rfl ⟨by kernel_rfl,by kernel_rfl,rfl⟩ trivial (ZB hleu_68 ⟨⟨0,rfl⟩,trivial⟩) (R.ixA 2 U157 S27 rfl rfl rfl) rfl (JA.one (i:=7) (by kernel_rfl) (JO.step rfl trivial rfl (fun K hK => ?_))))))
      refine Run.lnz [1] 2 ZF rfl (hK _ _ _ (ZB hleu_68 ⟨⟨0,rfl⟩,trivial⟩) (Zg (by kernel_rfl) ?_))
      refine Run.nlz_s [1] 3 ZF rfl ?_
      obtain ⟨x_69,hr_70,hx⟩:=ZD hx
      refine ZI (vs:=[_,_]) (args:=[_,_]) (K:=[]) (rst:=[_,_]) E165 rfl rfl rfl ZC (mix_words_often_ok (A4.mk t_42 s_35.2.1 (s_35.2.2.1 ^^^ x_66) s_35.2.2.2) 4 _ _ hr_70) rfl (fun u_71 Ku_71 Hu_71 hRu_71 hleu_71 hfu_71 => ?_)
      obtain ⟨rfl,rfl,rfl,-⟩:=hRu_71
      refine Run.lnz_b [1] 3 ZF rfl ?_
      obtain rfl:=Option.some.inj hx
      refine ZH 1 rfl (ZH 1 rfl ?_)
      exact JN.rN ⟨Hu_68,rfl,rfl,((hleH_41.trans (hleH_55.trans hleu_68)))⟩
    ·
     have hxo_43:=hx; clear hx; have hx:=ht_44; clear ht_44
     refine JC.draw (so:=[_]) 8 rfl Mixed ⟨⟨0,rfl⟩,trivial⟩ (JA.val ⟨by kernel_rfl,by kernel_rfl⟩ (ZE _) (i:=0) rfl ⟨by kernel_rfl,by kernel_rfl,rfl⟩ trivial (ZB (Hle.refl _) ⟨⟨0,rfl⟩,trivial⟩) (R.ixA 0 U157 S27 rfl rfl rfl) rfl (JA.val ⟨by kernel_rfl,by kernel_rfl⟩ (ZE _) (i:=2) rfl ⟨by kernel_rfl,by kernel_rfl,rfl⟩ trivial (ZB (Hle.refl _) ⟨⟨0,rfl⟩,trivial⟩) (ZZ rfl) rfl ?_))
     obtain ⟨m_45,hm_47,hb_46,hx⟩:=slc_some hx
     obtain ⟨vv_48,cv_48,h1v_48,h2v_48,h3v_48,hsv_48⟩:=IsSlice.cutv hyit_31 hm_47 hb_46
     refine JA.val ⟨by kernel_rfl,by kernel_rfl⟩ (ZE _) (i:=3) rfl ⟨by kernel_rfl,by kernel_rfl,rfl⟩ trivial (ZB (Hle.refl _) ⟨⟨0,rfl⟩,trivial⟩) (R.slc (cap:=cv_48) (a:=0) (b:=4) (c:=(cv_48 : Int)) (m:=y_36) (R:=RU8) U26 S5 rfl rfl ⟨_,rfl⟩ (by obtain ⟨ao,n,e,_⟩:=h1v_48; exact ⟨ao,n,e,rfl⟩) ⟨hb_46.1,hb_46.2.1,h2v_48⟩ h3v_48 (.inl rfl)) rfl ?_
     obtain ⟨av_48,cv_48',rfl⟩:=IsSlice.val hsv_48
     refine JA.two (i:=1) (j:=4) (by kernel_rfl) ?_ ?_
     ·
      refine JO.step rfl trivial rfl (fun K hK => Run.lnz [1] 2 ZF rfl (hK _ _ _ (ZB (Hle.refl _) ⟨⟨0,rfl⟩,trivial⟩) (JA.one (i:=4) (by kernel_rfl) (JO.step rfl trivial rfl (fun K hK => ?_)))))
      obtain ⟨x_49,hr_50,hx⟩:=ZD hx
      refine ZI (vs:=[_]) (args:=[_]) (K:=[]) (rst:=[_,_]) E164 rfl rfl rfl ZC (mix_number_ok m_45 _ hsv_48 _ hr_50) rfl (fun u_51 Ku_51 Hu_51 hRu_51 hleu_51 hfu_51 => ?_)
      obtain ⟨rfl,rfl,-⟩:=hRu_51
      refine ZW (hK _ _ _ (ZB hleu_51 ⟨⟨0,rfl⟩,trivial⟩) (JA.val ⟨by kernel_rfl,by kernel_rfl⟩ (ZE _) (i:=5) rfl ⟨by kernel_rfl,by kernel_rfl,rfl⟩ trivial (ZB hleu_51 ⟨⟨0,rfl⟩,trivial⟩) (R.xor32 (a:=s_35.1) (b:=x_49) rfl rfl) rfl (JA.val ⟨by kernel_rfl,by kernel_rfl⟩ (ZE _) (i:=6) rfl ⟨by kernel_rfl,by kernel_rfl,rfl⟩ trivial (ZB hleu_51 ⟨⟨0,rfl⟩,trivial⟩) (R.ixA 0 U157 S27 rfl rfl rfl) rfl (JA.one (i:=7) (by kernel_rfl) (JO.step rfl trivial rfl (fun K hK => ?_))))))
      refine Run.lnz [1] 2 ZF rfl (hK _ _ _ (ZB hleu_51 ⟨⟨0,rfl⟩,trivial⟩) (Zg (by kernel_rfl) ?_))
      obtain rfl:=Option.some.inj hx
      refine ZH 1 rfl (ZH 1 rfl ?_)
      exact JN.cut ⟨Hu_51,rfl,rfl,rfl,(hleu_51)⟩ ⟨rfl,rfl,rfl,rfl,trivial⟩ rfl rfl
     ·
      refine JO.step rfl trivial rfl (fun K hK => ?_)
      obtain ⟨x_52,hr_53,hx⟩:=ZD hx
      refine ZI (vs:=[_]) (args:=[_]) (K:=[]) (rst:=[_,_]) E164 rfl rfl rfl ZC (mix_number_ok m_45 _ hsv_48 _ hr_53) rfl (fun u_54 Ku_54 Hu_54 hRu_54 hleu_54 hfu_54 => ?_)
      obtain ⟨rfl,rfl,-⟩:=hRu_54
      refine ZW (hK _ _ _ (ZB hleu_54 ⟨⟨0,rfl⟩,trivial⟩) (JA.one (i:=1) (by kernel_rfl) (JO.step rfl trivial rfl (fun K hK => ?_))))
      refine Run.lnz [1] 2 ZF rfl (hK _ _ _ (ZB hleu_54 ⟨⟨0,rfl⟩,trivial⟩) (JA.val ⟨by kernel_rfl,by kernel_rfl⟩ (ZE _) (i:=5) rfl ⟨by kernel_rfl,by kernel_rfl,rfl⟩ trivial (ZB hleu_54 ⟨⟨0,rfl⟩,trivial⟩) (R.xor32 (a:=s_35.1) (b:=x_52) rfl rfl) rfl (JA.val ⟨by kernel_rfl,by kernel_rfl⟩ (ZE _) (i:=6) rfl ⟨by kernel_rfl,by kernel_rfl,rfl⟩ trivial (ZB hleu_54 ⟨⟨0,rfl⟩,trivial⟩) (R.ixA 0 U157 S27 rfl rfl rfl) rfl (JA.one (i:=7) (by kernel_rfl) (JO.step rfl trivial rfl (fun K hK => ?_))))))
      refine Run.lnz [1] 2 ZF rfl (hK _ _ _ (ZB hleu_54 ⟨⟨0,rfl⟩,trivial⟩) (Zg (by kernel_rfl) ?_))
      obtain rfl:=Option.some.inj hx
      refine ZH 1 rfl (ZH 1 rfl ?_)
      exact JN.cut ⟨Hu_54,rfl,rfl,rfl,(hleu_54)⟩ ⟨rfl,rfl,rfl,rfl,trivial⟩ rfl rfl
  ·
   rintro D_40 s_35 o g hD_40 htt ⟨H_41,rfl,rfl,hleH_41⟩ hle2
   subst htt; simp only [Sum.elim_inl] at hx
   refine Run.nl_bs [] 4 ZF rfl (ZA rfl rfl (R.ixA 1 U157 S27 rfl rfl rfl) (Run.llz [2] 2 ZF rfl (ZA rfl rfl (ZV U26 rfl (IsSlice.long ha_2)) (ZA rfl rfl (R.cv_i64_u32 U3 U27 rfl) (ZA rfl rfl (R.xor32 (a:=s_35.2.1) (b:=u32i (p_1.length : Int)) rfl rfl) (ZA rfl rfl (R.ixA 1 U157 S27 rfl rfl rfl) (Run.ll_s [2,2] 6 ZF rfl ?_)))))))
   obtain ⟨x_42,hr_43,hx⟩:=ZD hx
   refine ZI (vs:=[_,_]) (args:=[_,_]) (K:=[]) (rst:=[_,_,_]) E165 rfl rfl rfl ZC (mix_words_often_ok (A4.mk s_35.1 (s_35.2.1 ^^^ (u32i (p_1.length : Int))) s_35.2.2.1 s_35.2.2.2) 8 _ _ hr_43) rfl (fun u_44 Ku_44 Hu_44 hRu_44 hleu_44 hfu_44 => ?_)
   obtain ⟨rfl,rfl,rfl,-⟩:=hRu_44
   refine Run.lnz_s [1] 4 ZF rfl (JN.outMP (vs:=[.agg #[.int .u32 (x_42.e0.toNat : Int),.int .u32 (x_42.e1.toNat : Int),.int .u32 (x_42.e2.toNat : Int),.int .u32 (x_42.e3.toNat : Int)]]) (K:=[]) (rst:=[_,_]) (own2:=[_,_]) [D_40] (.inl rfl) ⟨rfl,rfl,rfl,rfl⟩ rfl rfl (ZO 0 rfl ZC) (Zn 0 rfl rfl S157 rfl) ZC ?_)
   obtain rfl:=Option.some.inj hx
   exact ⟨rfl,rfl,trivial⟩
  ·
   rintro D c e o g hD htt hX; exact hX.elim
 ·
  have hxo_20:=hx; clear hx; have hx:=ht_21; clear ht_21
  refine JC.block (JC.forget 1 (Zc 1 rfl (Zc 2 rfl (Zf (fun n l o g => ∃ s_22 : List UInt8,∃ ar_25 : Option Addr,∃ nr_25 : Nat,∃ cr_25 : Nat,∃ Kr_25 : Own,l = [(0,.slice aa_2 na_2 ca_2),(2,.pointer (some ⟨b_3,0,none⟩)),(3,.pointer (some ⟨b_4,0,none⟩)),(4,.slice ar_25 nr_25 cr_25)] ∧ o = [[(b_3,.cells #[.int .u32 ((0 : UInt32).toNat : Int),.int .u32 ((0 : UInt32).toNat : Int),.int .u32 ((0 : UInt32).toNat : Int),.int .u32 ((0 : UInt32).toNat : Int)] 157 (0,0))],[(b_4,.cells #[.int .u32 ((1 : UInt32).toNat : Int),.int .u32 ((2 : UInt32).toNat : Int),.int .u32 ((3 : UInt32).toNat : Int),.int .u32 ((4 : UInt32).toNat : Int)] 157 (0,0))],Kr_25] ∧ H_9 = g ∧ run mix_four_l1 n s_22 = some t_19 ∧ RowOf (New H H_9) RU8 w.heap.size 5 1 (.slice ar_25 nr_25 cr_25) s_22 Kr_25) FUEL ?_ ⟨q_15,ar_18,q_15.length,cr_18,Kr_18,rfl,rfl,rfl,hx,hr_18⟩ ⟨rfl,rfl,rfl,rfl,trivial⟩ ?_))))
  ·
   rintro _ _ _ ⟨s_22,ar_25,nr_25,cr_25,Kr_25,rfl,rfl,rfl,hn_23,hr_25⟩
   exact Ze hn_23
  ·
   rintro n_24 _ _ _ ⟨s_22,ar_25,nr_25,cr_25,Kr_25,rfl,rfl,rfl,hn_23,hr_25⟩
   clear hx; obtain ⟨oo_27,hx,hd_26⟩:=Zd hn_23
   unfold mix_four_l1 at hx
   refine Run.cl [] 4 ZF rfl (ZA rfl rfl (ZV U26 rfl (RowOf.long hr_25)) (ZA rfl rfl (R.rem_i rfl rfl (by decide)) ?_))
   refine Run.lcz_s [] 3 ZF rfl (ZM rfl (fun c_26 => ?_) (fun c_26 => ?_))
   ·
    replace hx:=ZK c_26 hx
    refine Run.cl_s [] 5 ZF rfl (JL.bslF (HF:=(New H H_9)) (R:=RU8) (ls:=[(0 : UInt8)]) (vs:=[.int .u8 ((0 : UInt8).toNat : Int)]) U26 I5 rfl rfl (⟨_,_,rfl,rfl,rfl,rfl⟩) RU8.one rfl rfl rfl (by simp [maxLen]) rfl (fun vr_27 Kr_27 hr_27 => ?_))
    obtain ⟨ar_27,cr_27,rfl⟩:=RowOf.val hr_27
    obtain ⟨q_28,hm_29,hl_30,hx⟩:=Zo hx
    refine Zr (HF:=(New H H_9)) 3 U26 I5 rfl rfl hr_25 rfl (SrcF.row 0 U26 rfl hr_27) hm_29 hl_30 rfl (Nat.le_refl _) rfl (fun vr_31 Kr_31 hr_31 => ?_)
    obtain ⟨ar_31,cr_31,rfl⟩:=RowOf.val hr_31
    refine Run.lnz_b [] 3 ZF rfl ?_
    replace hx:=ZX hd_26 hx
    refine JN.forget 0 (ZH 2 rfl (ZH 2 rfl (ZH 2 rfl ?_)))
    exact JN.cut ⟨q_28,ar_31,q_28.length,cr_31,Kr_31,rfl,rfl,rfl,hx,hr_31⟩ ⟨rfl,rfl,rfl,rfl,trivial⟩ rfl rfl
   ·
    replace hx:=ZL c_26 hx
    refine Run.cnz_k [] 2 ZF rfl ?_
    obtain rfl:=Za hd_26 hx
    refine Run.nnz_kb [] 2 ZF rfl (ZH 2 rfl (ZH 2 rfl (ZH 2 rfl ?_)))
    exact JN.cut ⟨ar_25,nr_25,cr_25,Kr_25,rfl,rfl,rfl,hr_25⟩ ⟨rfl,rfl,rfl,rfl,trivial⟩ rfl rfl

set_option maxHeartbeats 8000000 in
theorem mix_Sum_ok (p_1 : List UInt8) (H : Heaplet) {aa_2 : Option Addr} {na_2 : Nat} {ca_2 : Nat} (ha_2 : IsSlice H RU8 1 (.slice aa_2 na_2 ca_2) p_1) (r : UInt32) (hx : mix_Sum p_1 = some r) :
  Does Tryz.prog 44 #[.slice aa_2 na_2 ca_2] [] H (fun u K' H' => u = .int .u32 (r.toNat : Int) ∧ K' = [] ∧ True):=by
 refine Does.enterL (vs:=[.slice aa_2 na_2 ca_2]) (l:=[(0,.slice aa_2 na_2 ca_2)]) Tryz.func44 rfl rfl ⟨rfl,trivial⟩ (fun w hlt => ?_)
 unfold mix_Sum at hx
 refine Run.cl [] 8 ZF rfl ?_
 obtain ⟨x_3,hr_4,hx⟩:=ZD hx
 refine ZI (vs:=[_]) (args:=[_]) (K:=[]) (rst:=[]) E103 rfl rfl rfl ZC (mix_four_ok p_1 _ ha_2 _ hr_4) rfl (fun u_5 Ku_5 Hu_5 hRu_5 hleu_5 hfu_5 => ?_)
 obtain ⟨rfl,rfl,-⟩:=hRu_5
 refine ZA rfl rfl (R.idxAk 0 U157 S27 rfl rfl rfl rfl rfl) (Run.lnz_s [] 4 ZF rfl (ZJ (vs:=[.int .u32 (x_3.e0.toNat : Int)]) (K:=[]) (rst:=[]) (.inl rfl) rfl rfl (ZG rfl rfl) ZC ?_))
 obtain rfl:=Option.some.inj hx
 exact ⟨rfl,rfl,trivial⟩

set_option maxHeartbeats 8000000 in
theorem store_Look_ok (p_1 : Store) (p_5 : Ptr) (H : Heaplet) {aa_2 : Option Addr} {na_2 : Nat} {ca_2 : Nat} {aa_3 : Option Addr} {na_3 : Nat} {ca_3 : Nat} {aa_4 : Option Addr} {na_4 : Nat} {ca_4 : Nat} (ha_2 : IsSlice H (RSl RU8 1) 1 (.slice aa_2 na_2 ca_2) p_1.Disk.Blocks) (ha_3 : IsSlice H R_Write 2 (.slice aa_3 na_3 ca_3) p_1.Disk.Waits) (ha_4 : IsSlice H RU8 1 (.slice aa_4 na_4 ca_4) p_1.Space) (r : List UInt8 × Int) (hx : store_Look p_1 p_5 = some r) :
  Does Tryz.prog 9 #[.agg #[.slice aa_2 na_2 ca_2,.slice aa_3 na_3 ca_3,.slice aa_4 na_4 ca_4,.int .u32 (p_1.Epoch.toNat : Int),.int .u32 (p_1.Count.toNat : Int)],.agg #[.int .i64 p_5.At,.int .u32 (p_5.Birth.toNat : Int),.int .u32 (p_5.Iv.toNat : Int),.int .u32 (p_5.Tag.toNat : Int),.int .u32 (p_5.Sum.toNat : Int)]] [] H (fun u K' H' => ∃ ao0 : Option Addr,∃ n0 : Nat,∃ cap0 : Nat,u = .tuple #[.slice ao0 n0 cap0,.int .i64 r.2] ∧ K' = [] ∧ IsSlice (New H H') RU8 1 (.slice ao0 n0 cap0) r.1 ∧ True):=by
 refine Does.enterL (vs:=[.agg #[.slice aa_2 na_2 ca_2,.slice aa_3 na_3 ca_3,.slice aa_4 na_4 ca_4,.int .u32 (p_1.Epoch.toNat : Int),.int .u32 (p_1.Count.toNat : Int)],.agg #[.int .i64 p_5.At,.int .u32 (p_5.Birth.toNat : Int),.int .u32 (p_5.Iv.toNat : Int),.int .u32 (p_5.Tag.toNat : Int),.int .u32 (p_5.Sum.toNat : Int)]]) (l:=[(0,.agg #[.slice aa_2 na_2 ca_2,.slice aa_3 na_3 ca_3,.slice aa_4 na_4 ca_4,.int .u32 (p_1.Epoch.toNat : Int),.int .u32 (p_1.Count.toNat : Int)]),(1,.agg #[.int .i64 p_5.At,.int .u32 (p_5.Birth.toNat : Int),.int .u32 (p_5.Iv.toNat : Int),.int .u32 (p_5.Tag.toNat : Int),.int .u32 (p_5.Sum.toNat : Int)])]) Tryz.func9 rfl rfl ⟨rfl,rfl,trivial⟩ (fun w hlt => ?_)
 unfold store_Look at hx
 refine Run.cl [] 2 ZF rfl (Zk rfl rfl (fun b_6 hb_6 => Zk rfl rfl (fun b_7 hb_7 => Run.ll_s [1] 8 ZF rfl ?_)))
 obtain ⟨x_8,hr_9,hx⟩:=ZD hx
 refine ZI (vs:=[_]) (args:=[_]) (K:=[]) (rst:=[_,_]) E16 rfl rfl rfl ZC (store_Check_ok p_1 _ ha_2 ha_3 ha_4 _ hr_9) rfl (fun u_10 Ku_10 Hu_10 hRu_10 hleu_10 hfu_10 => ?_)
 obtain ⟨rfl,rfl,rfl,-⟩:=hRu_10
 refine Run.llz [] 2 ZF rfl (ZQ (t:=11) rfl (fun c_11 => ?_) (fun c_11 => ?_))
 ·
  replace hx:=ZK c_11 hx
  refine Run.lnz_sk [] 15 ZF rfl (ZJ (vs:=[.slice none 0 0,.int .i64 8]) (K:=[]) (rst:=[_,_]) (.inl rfl) rfl rfl (ZG rfl (ZG rfl rfl)) ZC ?_)
  obtain rfl:=Option.some.inj hx
  exact ⟨none,0,0,rfl,rfl,(IsSlice.nil _ _ _),trivial⟩
 ·
  replace hx:=ZL c_11 hx
  refine Run.llz [0] 3 ZF rfl ?_
  obtain ⟨x_12,hr_13,hx⟩:=ZD hx
  refine ZI (vs:=[_]) (args:=[_]) (K:=[]) (rst:=[_,_]) E42 rfl rfl rfl ZC (ptr_Check_ok p_5 _ _ hr_13) rfl (fun u_14 Ku_14 Hu_14 hRu_14 hleu_14 hfu_14 => ?_)
  obtain ⟨rfl,rfl,rfl,-⟩:=hRu_14
  refine Run.lcz_s [] 5 ZF rfl (ZM rfl (fun c_15 => ?_) (fun c_15 => ?_))
  ·
   replace hx:=ZK c_15 hx
   refine Run.cnz_k [] 8 ZF rfl (ZJ (vs:=[.slice none 0 0,.int .i64 8]) (K:=[]) (rst:=[_,_]) (.inl rfl) rfl rfl (ZG rfl (ZG rfl rfl)) ZC ?_)
   obtain rfl:=Option.some.inj hx
   exact ⟨none,0,0,rfl,rfl,(IsSlice.nil _ _ _),trivial⟩
  ·
   replace hx:=ZL c_15 hx
   refine Run.cl_s [0] 7 ZF rfl (ZA rfl rfl (R.eqlAgg QU31 QP31 QG31 QF31 rfl rfl (EqF.i (by decide) S3 U3 rfl rfl (EqF.u32 (a:=p_5.Birth) (b:=(0 : UInt32)) (by decide) S27 U27 rfl rfl (EqF.u32 (a:=p_5.Iv) (b:=(0 : UInt32)) (by decide) S27 U27 rfl rfl (EqF.u32 (a:=p_5.Tag) (b:=(0 : UInt32)) (by decide) S27 U27 rfl rfl (EqF.u32 (a:=p_5.Sum) (b:=(0 : UInt32)) (by decide) S27 U27 rfl rfl EqF.nil)))))) ?_)
   refine Run.lcz_s [] 2 ZF rfl (ZM rfl (fun c_16 => ?_) (fun c_16 => ?_))
   ·
    replace hx:=ZK c_16 hx
    refine Run.cnz_k [] 8 ZF rfl (ZJ (vs:=[.slice none 0 0,.int .i64 6]) (K:=[]) (rst:=[_,_]) (.inl rfl) rfl rfl (ZG rfl (ZG rfl rfl)) ZC ?_)
    obtain rfl:=Option.some.inj hx
    exact ⟨none,0,0,rfl,rfl,(IsSlice.nil _ _ _),trivial⟩
   ·
    replace hx:=ZL c_16 hx
    refine Run.cl_s [1,0] 8 ZF rfl ?_
    obtain ⟨x_17,hr_18,hx⟩:=ZD hx
    refine ZI (vs:=[_,_]) (args:=[_,_]) (K:=[]) (rst:=[_,_]) E43 rfl rfl rfl ZC (dev_Read_ok (Disk.mk p_1.Disk.Blocks p_1.Disk.Waits) p_5.At _ ha_2 ha_3 _ hr_18) rfl (fun u_19 Ku_19 Hu_19 hRu_19 hleu_19 hfu_19 => ?_)
    obtain ⟨az_20,nz_20,cz_20,rfl,rfl,hz_20,-⟩:=hRu_19
    replace hz_20:=IsSlice.mono RU8.mono (New.call (Hle.refl _)) hz_20
    refine Run.lc_s [] 8 ZF rfl ?_
    obtain ⟨t_21,ht_23,hx⟩:=ZD hx
    refine JC.cut (fun l o g => ∃ H_29 : Heaplet,∃ az_30 : Option Addr,∃ nz_30 : Nat,∃ cz_30 : Nat,l = [(6,.slice az_30 nz_30 cz_30),(7,.int .i64 t_21.2)] ∧ o = [] ∧ H_29 = g ∧ Hle Hu_19 H_29 ∧ IsSlice (New H H_29) RU8 1 (.slice az_30 nz_30 cz_30) t_21.1) ?_ ?_
    ·
     rintro _ _ _ ⟨H_29,az_30,nz_30,cz_30,rfl,rfl,rfl,hleH_29,hz_30⟩
     refine Run.nnz_s [] 10 ZF rfl (ZJ (vs:=[.slice az_30 nz_30 cz_30,.int .i64 t_21.2]) (K:=[]) (rst:=[]) (.inl rfl) rfl rfl (ZG rfl (ZG rfl rfl)) ZC ?_)
     obtain rfl:=Option.some.inj hx
     exact ⟨az_30,nz_30,cz_30,rfl,rfl,hz_30,trivial⟩
    ·
     have hxo_22:=hx; clear hx; have hx:=ht_23; clear ht_23
     refine JC.seq (JC.draw (so:=[_,_]) 9 rfl Mixed ⟨⟨0,rfl⟩,⟨1,rfl⟩,trivial⟩ (JA.val ⟨by kernel_rfl,by kernel_rfl⟩ (ZE _) (i:=0) rfl ⟨by kernel_rfl,by kernel_rfl,rfl⟩ trivial (ZB (Hle.refl _) ⟨⟨0,rfl⟩,⟨1,rfl⟩,trivial⟩) (ZZ rfl) rfl (JA.val ⟨by kernel_rfl,by kernel_rfl⟩ (ZE _) (i:=1) rfl ⟨by kernel_rfl,by kernel_rfl,rfl⟩ trivial (ZB (Hle.refl _) ⟨⟨0,rfl⟩,⟨1,rfl⟩,trivial⟩) (R.eql_i rfl rfl) rfl (JA.val ⟨by kernel_rfl,by kernel_rfl⟩ (ZE _) (i:=2) rfl ⟨by kernel_rfl,by kernel_rfl,rfl⟩ trivial (ZB (Hle.refl _) ⟨⟨0,rfl⟩,⟨1,rfl⟩,trivial⟩) (ZZ rfl) rfl (JA.gSplit (t:=29) rfl (fun c_24 => ?_) (fun c_24 => ?_))))))
     ·
      replace hx:=ZK c_24 hx
      refine JA.val ⟨by kernel_rfl,by kernel_rfl⟩ (ZE _) (i:=3) rfl ⟨by kernel_rfl,by kernel_rfl,rfl⟩ ⟨_,_,rfl,rfl,rfl⟩ (ZB (Hle.refl _) ⟨⟨0,rfl⟩,⟨1,rfl⟩,trivial⟩) (ZZ rfl) rfl (JA.val ⟨by kernel_rfl,by kernel_rfl⟩ (ZE _) (i:=5) rfl ⟨by kernel_rfl,by kernel_rfl,rfl⟩ ⟨_,_,rfl,rfl,rfl⟩ (ZB (Hle.refl _) ⟨⟨0,rfl⟩,⟨1,rfl⟩,trivial⟩) (R.fa F31_4 rfl) rfl (JA.val ⟨by kernel_rfl,by kernel_rfl⟩ (ZE _) (i:=6) rfl ⟨by kernel_rfl,by kernel_rfl,rfl⟩ ⟨_,_,rfl,rfl,rfl⟩ (ZB (Hle.refl _) ⟨⟨0,rfl⟩,⟨1,rfl⟩,trivial⟩) (R.ldo 0 S27 rfl rfl rfl) rfl (JA.one (i:=4) (by kernel_rfl) (JO.step rfl ⟨_,_,rfl,rfl,rfl⟩ rfl (fun K hK => ?_)))))
      obtain ⟨x_25,hr_26,hx⟩:=ZD hx
      refine ZI (vs:=[_]) (args:=[_]) (K:=[]) (rst:=[_,_]) E44 rfl rfl rfl ZC (mix_Sum_ok x_17.1 _ (hz_20.old RU8.mono) _ hr_26) rfl (fun u_27 Ku_27 Hu_27 hRu_27 hleu_27 hfu_27 => ?_)
      obtain ⟨rfl,rfl,-⟩:=hRu_27
      refine ZW (hK _ _ _ (ZB hleu_27 ⟨⟨0,rfl⟩,⟨1,rfl⟩,trivial⟩) (JA.val ⟨by kernel_rfl,by kernel_rfl⟩ (ZE _) (i:=7) rfl ⟨by kernel_rfl,by kernel_rfl,rfl⟩ ⟨_,_,rfl,rfl,rfl⟩ (ZB hleu_27 ⟨⟨0,rfl⟩,⟨1,rfl⟩,trivial⟩) (R.neq32 (a:=x_25) (b:=p_5.Sum) rfl rfl) rfl (JA.val ⟨by kernel_rfl,by kernel_rfl⟩ (ZE _) (i:=8) rfl ⟨by kernel_rfl,by kernel_rfl,rfl⟩ trivial (ZB hleu_27 ⟨⟨0,rfl⟩,⟨1,rfl⟩,trivial⟩) (R.pickT rfl rfl) rfl (Zg (by kernel_rfl) (JN.next (ZM rfl (fun c_28 => ?_) (fun c_28 => ?_)))))))
      ·
       replace hx:=ZK c_28 hx
       refine Run.cnz [] 4 ZF rfl ?_
       obtain rfl:=Option.some.inj hx
       refine JN.forget 1 (JN.forget 0 ?_)
       exact JN.cut ⟨Hu_27,none,0,0,rfl,rfl,rfl,(hleu_27),(IsSlice.nil _ _ _)⟩ ⟨rfl,rfl,trivial⟩ rfl rfl
      ·
       replace hx:=ZL c_28 hx
       refine JC.skip ?_
       obtain rfl:=Option.some.inj hx
       refine JN.forget 1 (JN.forget 0 ?_)
       exact JN.cut ⟨Hu_27,az_20,nz_20,cz_20,rfl,rfl,rfl,(hleu_27),(hz_20.mono RU8.mono (New.mono hleu_27))⟩ ⟨rfl,rfl,trivial⟩ rfl rfl
     ·
      replace hx:=ZL c_24 hx
      refine JA.no ⟨by kernel_rfl,by kernel_rfl⟩ (ZE _) (i:=3) rfl ⟨by kernel_rfl,by kernel_rfl,rfl⟩ rfl rfl rfl rfl (ZB (Hle.refl _) ⟨⟨0,rfl⟩,⟨1,rfl⟩,trivial⟩) rfl (JA.no ⟨by kernel_rfl,by kernel_rfl⟩ (ZE _) (i:=4) rfl ⟨by kernel_rfl,by kernel_rfl,rfl⟩ rfl rfl rfl rfl (ZB (Hle.refl _) ⟨⟨0,rfl⟩,⟨1,rfl⟩,trivial⟩) rfl (JA.no ⟨by kernel_rfl,by kernel_rfl⟩ (ZE _) (i:=5) rfl ⟨by kernel_rfl,by kernel_rfl,rfl⟩ rfl rfl rfl rfl (ZB (Hle.refl _) ⟨⟨0,rfl⟩,⟨1,rfl⟩,trivial⟩) rfl (JA.no ⟨by kernel_rfl,by kernel_rfl⟩ (ZE _) (i:=6) rfl ⟨by kernel_rfl,by kernel_rfl,rfl⟩ rfl rfl rfl rfl (ZB (Hle.refl _) ⟨⟨0,rfl⟩,⟨1,rfl⟩,trivial⟩) rfl (JA.no ⟨by kernel_rfl,by kernel_rfl⟩ (ZE _) (i:=7) rfl ⟨by kernel_rfl,by kernel_rfl,rfl⟩ rfl rfl rfl rfl (ZB (Hle.refl _) ⟨⟨0,rfl⟩,⟨1,rfl⟩,trivial⟩) rfl (JA.val ⟨by kernel_rfl,by kernel_rfl⟩ (ZE _) (i:=8) rfl ⟨by kernel_rfl,by kernel_rfl,rfl⟩ trivial (ZB (Hle.refl _) ⟨⟨0,rfl⟩,⟨1,rfl⟩,trivial⟩) (R.pickF rfl rfl) rfl (Zg (by kernel_rfl) ?_))))))
      refine Run.nnz_s [] 3 ZF rfl ?_
      obtain rfl:=Option.some.inj hx
      refine JN.forget 1 (JN.forget 0 ?_)
      exact JN.cut ⟨Hu_19,az_20,nz_20,cz_20,rfl,rfl,rfl,(Hle.refl _),hz_20⟩ ⟨rfl,rfl,trivial⟩ rfl rfl

set_option maxHeartbeats 8000000 in
theorem ref09_place_ok (p_1 : Int) (H : Heaplet) (r : Bool) (hx : ref09_place p_1 = some r) :
  Does Tryz.prog 166 #[.int .i64 p_1] [] H (fun u K' H' => u = .bool r ∧ K' = [] ∧ H = H' ∧ True):=by
 refine Does.enterL (vs:=[.int .i64 p_1]) (l:=[(0,.int .i64 p_1)]) Tryz.func166 rfl rfl ⟨rfl,trivial⟩ (fun w hlt => ?_)
 unfold ref09_place at hx
 refine Run.cc [] 6 ZF rfl ?_
 obtain ⟨t_2,ht_4,hx⟩:=ZD hx
 refine JC.cut (fun l o g => l = [(2,.bool t_2)] ∧ o = [] ∧ H = g) ?_ ?_
 ·
  rintro _ _ _ ⟨rfl,rfl,rfl⟩
  refine Run.nnz_s [] 2 ZF rfl (ZJ (vs:=[.bool t_2]) (K:=[]) (rst:=[]) (.inl rfl) rfl rfl (ZG rfl rfl) ZC ?_)
  obtain rfl:=Option.some.inj hx
  exact ⟨rfl,rfl,rfl,trivial⟩
 ·
  have hxo_3:=hx; clear hx; have hx:=ht_4; clear ht_4
  refine Run.clz [] 4 ZF rfl (ZQ (t:=5) rfl (fun c_5 => ?_) (fun c_5 => ?_))
  ·
   replace hx:=ZK c_5 hx
   refine Run.lnz [] 7 ZF rfl ?_
   obtain rfl:=Option.some.inj hx
   exact JN.cut ⟨rfl,rfl,rfl⟩ ⟨rfl,trivial⟩ rfl rfl
  ·
   replace hx:=ZL c_5 hx
   refine Run.lnz [] 5 ZF rfl ?_
   obtain rfl:=Option.some.inj hx
   exact JN.cut ⟨rfl,rfl,rfl⟩ ⟨rfl,trivial⟩ rfl rfl

set_option maxHeartbeats 8000000 in
theorem ref09_May_ok (p_1 : Disk) (H : Heaplet) {aa_2 : Option Addr} {na_2 : Nat} {ca_2 : Nat} {aa_3 : Option Addr} {na_3 : Nat} {ca_3 : Nat} (ha_2 : IsSlice H (RSl RU8 1) 1 (.slice aa_2 na_2 ca_2) p_1.Blocks) (ha_3 : IsSlice H R_Write 2 (.slice aa_3 na_3 ca_3) p_1.Waits) (r : Bool) (hx : ref09_May p_1 = some r) :
  Does Tryz.prog 104 #[.agg #[.slice aa_2 na_2 ca_2,.slice aa_3 na_3 ca_3]] [] H (fun u K' H' => u = .bool r ∧ K' = [] ∧ H = H' ∧ True):=by
 refine Does.enterL (vs:=[.agg #[.slice aa_2 na_2 ca_2,.slice aa_3 na_3 ca_3]]) (l:=[(0,.agg #[.slice aa_2 na_2 ca_2,.slice aa_3 na_3 ca_3])]) Tryz.func104 rfl rfl ⟨rfl,trivial⟩ (fun w hlt => ?_)
 unfold ref09_May at hx
 refine Run.cl [] 2 ZF rfl (Zk rfl rfl (fun b_4 hb_4 => Run.lc_s [] 14 ZF rfl ?_))
 obtain ⟨t_5,ht_7,hx⟩:=ZD hx
 refine JC.cut (fun l o g => l = [(1,.pointer (some ⟨b_4,0,none⟩)),(3,.int .i64 t_5)] ∧ o = [[(b_4,.cells #[.slice aa_2 na_2 ca_2,.slice aa_3 na_3 ca_3] 25 (0,0))]] ∧ H = g) ?_ ?_
 ·
  rintro _ _ _ ⟨rfl,rfl,rfl⟩
  refine Run.nc_s [] 7 ZF rfl ?_
  obtain ⟨t_11,ht_13,hx⟩:=ZD hx
  refine JC.cut (fun l o g => l = [(1,.pointer (some ⟨b_4,0,none⟩)),(3,.int .i64 t_11)] ∧ o = [[(b_4,.cells #[.slice aa_2 na_2 ca_2,.slice aa_3 na_3 ca_3] 25 (0,0))]] ∧ H = g) ?_ ?_
  ·
   rintro _ _ _ ⟨rfl,rfl,rfl⟩
   refine Run.nc_s [] 2 ZF rfl ?_
   obtain ⟨t_17,ht_19,hx⟩:=ZD hx
   refine JC.cut (fun l o g => l = [(2,.bool t_17)] ∧ o = [] ∧ H = g) ?_ ?_
   ·
    rintro _ _ _ ⟨rfl,rfl,rfl⟩
    refine Run.nnz_s [] 2 ZF rfl (ZJ (vs:=[.bool t_17]) (K:=[]) (rst:=[]) (.inl rfl) rfl rfl (ZG rfl rfl) ZC ?_)
    obtain rfl:=Option.some.inj hx
    exact ⟨rfl,rfl,rfl,trivial⟩
   ·
    have hxo_18:=hx; clear hx; have hx:=ht_19; clear ht_19
    refine Run.clz [] 4 ZF rfl (ZQ (t:=59) rfl (fun c_20 => ?_) (fun c_20 => ?_))
    ·
     replace hx:=ZK c_20 hx
     refine Run.llz [0] 5 ZF rfl (ZA rfl rfl (ZV U22 rfl (IsSlice.long ha_2)) (Run.llz [] 4 ZF rfl (ZQ (t:=65) rfl (fun c_21 => ?_) (fun c_21 => ?_))))
     ·
      replace hx:=ZK c_21 hx
      refine Run.llz [0] 5 ZF rfl (ZA rfl rfl (ZV U23 rfl (IsSlice.long ha_3)) (Run.lnz [] 5 ZF rfl ?_))
      obtain rfl:=Option.some.inj hx
      refine JN.forget 0 ?_
      exact JN.cut ⟨rfl,rfl,rfl⟩ ⟨rfl,trivial⟩ rfl rfl
     ·
      replace hx:=ZL c_21 hx
      refine Run.lnz [] 7 ZF rfl ?_
      obtain rfl:=Option.some.inj hx
      refine JN.forget 0 ?_
      exact JN.cut ⟨rfl,rfl,rfl⟩ ⟨rfl,trivial⟩ rfl rfl
    ·
     replace hx:=ZL c_20 hx
     refine Run.lnz [] 13 ZF rfl ?_
     obtain rfl:=Option.some.inj hx
     refine JN.forget 0 ?_
     exact JN.cut ⟨rfl,rfl,rfl⟩ ⟨rfl,trivial⟩ rfl rfl
  ·
   have hxo_12:=hx; clear hx; have hx:=ht_13; clear ht_13
   refine JC.block (Zf (fun n l o g => ∃ s_14 : Int × Nat,l = [(1,.pointer (some ⟨b_4,0,none⟩)),(3,.int .i64 s_14.1),(5,.int .i64 ((s_14.2 : Nat) : Int))] ∧ o = [[(b_4,.cells #[.slice aa_2 na_2 ca_2,.slice aa_3 na_3 ca_3] 25 (0,0))]] ∧ H = g ∧ run (ref09_May_l2 p_1) n s_14 = some t_11) FUEL ?_ ⟨(t_5,0),rfl,rfl,rfl,hx⟩ ⟨rfl,rfl,rfl,trivial⟩ ?_)
   ·
    rintro _ _ _ ⟨s_14,rfl,rfl,rfl,hn_15⟩
    exact Ze hn_15
   ·
    rintro n_16 _ _ _ ⟨s_14,rfl,rfl,rfl,hn_15⟩
    clear hx; obtain ⟨oo_18,hx,hd_17⟩:=Zd hn_15
    unfold ref09_May_l2 at hx
    refine Run.cl [0] 6 ZF rfl (ZA rfl rfl (ZV U23 rfl (IsSlice.long ha_3)) (Run.llz [] 2 ZF rfl (ZQ (t:=31) rfl (fun c_17 => ?_) (fun c_17 => ?_))))
    ·
     replace hx:=ZK c_17 hx
     refine Run.lcz_s [] 7 ZF rfl (ZM rfl (fun c_18 => ?_) (fun c_18 => ?_))
     ·
      replace hx:=ZK c_18 hx
      refine Run.cl_s [0] 9 ZF rfl ?_
      obtain ⟨y_19,hN_20,hx⟩:=ZY hx
      obtain ⟨b_21,o_22,cs_23,hE_24,hR_25,hl_26,hc_27⟩:=IsSlice.elem ha_3 hN_20
      obtain ⟨v_28,rfl,hs_29⟩:=hR_25
      obtain ⟨av_28,cv_28',rfl⟩:=IsSlice.val hs_29
      refine ZA rfl rfl (Zu U23 S96 rfl rfl hE_24) (ZA rfl rfl (R.fa F96_1 rfl) (ZA rfl rfl (R.ldH S26 rfl (hc_27 1 _ rfl)) (ZA rfl rfl (ZV U26 rfl (IsSlice.long hs_29)) (Run.llz [] 2 ZF rfl (ZQ (t:=45) rfl (fun c_30 => ?_) (fun c_30 => ?_))))))
      ·
       replace hx:=ZK c_30 hx
       refine Run.llz_sbs [] 21 ZF rfl (ZA rfl rfl (Zt rfl rfl (of_decide_eq_true c_17) (IsSlice.lenI ha_3)) (Run.lnz [] 2 ZF rfl ?_))
       replace hx:=ZX hd_17 hx
       exact JN.cut ⟨(w64 (s_14.1 + 1),s_14.2 + 1),rfl,rfl,rfl,hx⟩ ⟨rfl,rfl,rfl,trivial⟩ rfl rfl
      ·
       replace hx:=ZL c_30 hx
       refine Run.llz [0] 7 ZF rfl ?_
       obtain ⟨y_31,hN_32,hx⟩:=ZY hx
       obtain ⟨b_33,o_34,cs_35,hE_36,hR_37,hl_38,hc_39⟩:=IsSlice.elem ha_3 hN_32
       obtain ⟨v_40,rfl,hs_41⟩:=hR_37
       obtain ⟨av_40,cv_40,rfl⟩:=IsSlice.val hs_41
       refine ZA rfl rfl (Zu U23 S96 rfl rfl hE_36) (Run.llz [] 3 ZF rfl (ZA rfl rfl (R.ldH S3 rfl (hc_39 0 _ rfl)) (JL.gYes rfl rfl rfl ?_)))
       obtain ⟨x_42,hr_43,hx⟩:=ZD hx
       refine ZI (vs:=[_]) (args:=[_]) (K:=[]) (rst:=[_]) E166 rfl rfl rfl ZC (ref09_place_ok y_31.At _ _ hr_43) rfl (fun u_44 Ku_44 Hu_44 hRu_44 hleu_44 hfu_44 => ?_)
       obtain ⟨rfl,rfl,rfl,-⟩:=hRu_44
       refine Run.lcz_s [] 5 ZF rfl (ZM rfl (fun c_45 => ?_) (fun c_45 => ?_))
       ·
        replace hx:=ZK c_45 hx
        refine Run.clz_bs [] 9 ZF rfl (ZA rfl rfl (Zt rfl rfl (of_decide_eq_true c_17) (IsSlice.lenI ha_3)) (Run.lnz [] 2 ZF rfl ?_))
        replace hx:=ZX hd_17 hx
        exact JN.cut ⟨(w64 (s_14.1 + 1),s_14.2 + 1),rfl,rfl,rfl,hx⟩ ⟨rfl,rfl,rfl,trivial⟩ rfl rfl
       ·
        replace hx:=ZL c_45 hx
        refine Run.clz_bs [] 5 ZF rfl (ZA rfl rfl (Zt rfl rfl (of_decide_eq_true c_17) (IsSlice.lenI ha_3)) (Run.lnz [] 2 ZF rfl ?_))
        replace hx:=ZX hd_17 hx
        exact JN.cut ⟨(s_14.1,s_14.2 + 1),rfl,rfl,rfl,hx⟩ ⟨rfl,rfl,rfl,trivial⟩ rfl rfl
     ·
      replace hx:=ZL c_18 hx
      refine Run.cnz_k [] 2 ZF rfl ?_
      obtain rfl:=Za hd_17 hx
      refine Run.nnz_kb [] 2 ZF rfl ?_
      exact JN.cut ⟨rfl,rfl,rfl⟩ ⟨rfl,rfl,trivial⟩ rfl rfl
    ·
     replace hx:=ZL c_17 hx
     refine Run.lnz_sk [] 8 ZF rfl ?_
     obtain rfl:=Za hd_17 hx
     refine Run.nnz_kb [] 2 ZF rfl ?_
     exact JN.cut ⟨rfl,rfl,rfl⟩ ⟨rfl,rfl,trivial⟩ rfl rfl
 ·
  have hxo_6:=hx; clear hx; have hx:=ht_7; clear ht_7
  refine JC.block (Zf (fun n l o g => ∃ s_8 : Int × Nat,l = [(1,.pointer (some ⟨b_4,0,none⟩)),(3,.int .i64 s_8.1),(4,.int .i64 ((s_8.2 : Nat) : Int))] ∧ o = [[(b_4,.cells #[.slice aa_2 na_2 ca_2,.slice aa_3 na_3 ca_3] 25 (0,0))]] ∧ H = g ∧ run (ref09_May_l1 p_1) n s_8 = some t_5) FUEL ?_ ⟨(0,0),rfl,rfl,rfl,hx⟩ ⟨rfl,rfl,rfl,trivial⟩ ?_)
  ·
   rintro _ _ _ ⟨s_8,rfl,rfl,rfl,hn_9⟩
   exact Ze hn_9
  ·
   rintro n_10 _ _ _ ⟨s_8,rfl,rfl,rfl,hn_9⟩
   clear hx; obtain ⟨oo_12,hx,hd_11⟩:=Zd hn_9
   unfold ref09_May_l1 at hx
   refine Run.cl [0] 6 ZF rfl (ZA rfl rfl (ZV U22 rfl (IsSlice.long ha_2)) (Run.llz [] 2 ZF rfl (ZQ (t:=11) rfl (fun c_11 => ?_) (fun c_11 => ?_))))
   ·
    replace hx:=ZK c_11 hx
    refine Run.lcz_s [] 7 ZF rfl (ZM rfl (fun c_12 => ?_) (fun c_12 => ?_))
    ·
     replace hx:=ZK c_12 hx
     refine Run.cl_s [0] 9 ZF rfl ?_
     obtain ⟨y_13,hN_14,hx⟩:=ZY hx
     obtain ⟨b_15,o_16,cs_17,hE_18,hR_19,hl_20,hc_21⟩:=IsSlice.elem ha_2 hN_14
     obtain ⟨v_22,rfl,hs_23⟩:=hR_19
     obtain ⟨av_22,cv_22,rfl⟩:=IsSlice.val hs_23
     refine ZA rfl rfl (Zu U22 S26 rfl rfl hE_18) (ZA rfl rfl (R.ldH S26 rfl (hc_21 0 _ rfl)) (ZA rfl rfl (ZV U26 rfl (IsSlice.long hs_23)) (Run.lcz_s [] 3 ZF rfl (ZM rfl (fun c_24 => ?_) (fun c_24 => ?_)))))
     ·
      replace hx:=ZK c_24 hx
      refine Run.clz_bs [] 9 ZF rfl (ZA rfl rfl (Zt rfl rfl (of_decide_eq_true c_11) (IsSlice.lenI ha_2)) (Run.lnz [] 2 ZF rfl ?_))
      replace hx:=ZX hd_11 hx
      exact JN.cut ⟨(w64 (s_8.1 + 1),s_8.2 + 1),rfl,rfl,rfl,hx⟩ ⟨rfl,rfl,rfl,trivial⟩ rfl rfl
     ·
      replace hx:=ZL c_24 hx
      refine Run.clz_bs [] 5 ZF rfl (ZA rfl rfl (Zt rfl rfl (of_decide_eq_true c_11) (IsSlice.lenI ha_2)) (Run.lnz [] 2 ZF rfl ?_))
      replace hx:=ZX hd_11 hx
      exact JN.cut ⟨(s_8.1,s_8.2 + 1),rfl,rfl,rfl,hx⟩ ⟨rfl,rfl,rfl,trivial⟩ rfl rfl
    ·
     replace hx:=ZL c_12 hx
     refine Run.cnz_k [] 2 ZF rfl ?_
     obtain rfl:=Za hd_11 hx
     refine Run.nnz_kb [] 2 ZF rfl ?_
     exact JN.cut ⟨rfl,rfl,rfl⟩ ⟨rfl,rfl,trivial⟩ rfl rfl
   ·
    replace hx:=ZL c_11 hx
    refine Run.lnz_sk [] 8 ZF rfl ?_
    obtain rfl:=Za hd_11 hx
    refine Run.nnz_kb [] 2 ZF rfl ?_
    exact JN.cut ⟨rfl,rfl,rfl⟩ ⟨rfl,rfl,trivial⟩ rfl rfl

set_option maxHeartbeats 8000000 in
theorem ref12_May_ok (p_1 : List UInt8) (H : Heaplet) {aa_2 : Option Addr} {na_2 : Nat} {ca_2 : Nat} (ha_2 : IsSlice H RU8 1 (.slice aa_2 na_2 ca_2) p_1) (r : Bool) (hx : ref12_May p_1 = some r) :
  Does Tryz.prog 105 #[.slice aa_2 na_2 ca_2] [] H (fun u K' H' => u = .bool r ∧ K' = [] ∧ H = H' ∧ True):=by
 refine Does.enterL (vs:=[.slice aa_2 na_2 ca_2]) (l:=[(0,.slice aa_2 na_2 ca_2)]) Tryz.func105 rfl rfl ⟨rfl,trivial⟩ (fun w hlt => ?_)
 unfold ref12_May at hx
 refine Run.cl [] 9 ZF rfl (ZA rfl rfl (ZV U26 rfl (IsSlice.long ha_2)) (Run.lcz_s [] 3 ZF rfl (ZM rfl (fun c_3 => ?_) (fun c_3 => ?_))))
 ·
  replace hx:=ZK c_3 hx
  refine Run.cnz_k [] 7 ZF rfl (ZJ (vs:=[.bool false]) (K:=[]) (rst:=[]) (.inl rfl) rfl rfl (ZG rfl rfl) ZC ?_)
  obtain rfl:=Option.some.inj hx
  exact ⟨rfl,rfl,rfl,trivial⟩
 ·
  replace hx:=ZL c_3 hx
  refine Run.cc_s [] 8 ZF rfl ?_
  obtain ⟨t_4,ht_6,hx⟩:=ZD hx
  refine JC.cut (fun l o g => ∃ t_4a : Unit,l = [] ∧ o = [] ∧ H = g ∧ t_4 = .inl t_4a) ?_ ?_
  ·
   rintro _ _ _ ⟨t_4a,rfl,rfl,rfl,rfl⟩
   simp only [Sum.elim_inl] at hx
   refine Run.nnz_s [] 7 ZF rfl (ZJ (vs:=[.bool true]) (K:=[]) (rst:=[]) (.inl rfl) rfl rfl (ZG rfl rfl) ZC ?_)
   obtain rfl:=Option.some.inj hx
   exact ⟨rfl,rfl,rfl,trivial⟩
  ·
   have hxo_5:=hx; clear hx; have hx:=ht_6; clear ht_6
   refine JC.block (Zf (fun n l o g => ∃ s_7 : Nat,l = [(0,.slice aa_2 na_2 ca_2),(3,.int .i64 ((s_7 : Nat) : Int))] ∧ o = [] ∧ H = g ∧ run (ref12_May_l1 p_1) n s_7 = some t_4) FUEL ?_ ⟨0,rfl,rfl,rfl,hx⟩ ⟨rfl,rfl,trivial⟩ ?_)
   ·
    rintro _ _ _ ⟨s_7,rfl,rfl,rfl,hn_8⟩
    exact Ze hn_8
   ·
    rintro n_9 _ _ _ ⟨s_7,rfl,rfl,rfl,hn_8⟩
    clear hx; obtain ⟨oo_11,hx,hd_10⟩:=Zd hn_8
    unfold ref12_May_l1 at hx
    refine Run.cc [] 7 ZF rfl (ZM rfl (fun c_10 => ?_) (fun c_10 => ?_))
    ·
     replace hx:=ZK c_10 hx
     refine Run.cl_s [] 8 ZF rfl ?_
     obtain ⟨y_11,hN_12,hx⟩:=ZY hx
     obtain ⟨b_13,o_14,cs_15,hE_16,hR_17,hl_18,hc_19⟩:=IsSlice.elem ha_2 hN_12
     obtain rfl:=hR_17
     refine ZA rfl rfl (Zu U26 S5 rfl rfl hE_16) (ZA rfl rfl (R.ldH S5 rfl (hc_19 0 _ rfl)) (ZA rfl rfl (R.gtr8 (a:=y_11) (b:=(2 : UInt8)) rfl rfl) (ZA rfl rfl (ZZ rfl) (ZQ (t:=16) rfl (fun c_20 => ?_) (fun c_20 => ?_)))))
     ·
      replace hx:=ZK c_20 hx
      refine Run.lnz_sbk [] 21 ZF rfl ?_
      obtain rfl:=Za hd_10 hx
      refine Run.nnz_kb [] 2 ZF rfl ?_
      clear hx; have hx:=hxo_5
      simp only [Sum.elim_inl,Sum.elim_inr] at hx
      refine Run.nnz_kk [] 2 ZF rfl (ZJ (vs:=[.bool false]) (K:=[]) (rst:=[]) (.inl rfl) rfl rfl (ZG rfl rfl) ZC ?_)
      obtain rfl:=Option.some.inj hx
      exact ⟨rfl,rfl,rfl,trivial⟩
     ·
      replace hx:=ZL c_20 hx
      refine Run.llz [] 6 ZF rfl (ZQ (t:=19) rfl (fun c_21 => ?_) (fun c_21 => ?_))
      ·
       replace hx:=ZK c_21 hx
       refine Run.llz [] 5 ZF rfl ?_
       obtain ⟨y_22,hN_23,hx⟩:=ZY hx
       obtain ⟨b_24,o_25,cs_26,hE_27,hR_28,hl_29,hc_30⟩:=IsSlice.elem ha_2 hN_23
       obtain rfl:=hR_28
       refine ZA rfl rfl (Zu U26 S5 rfl rfl hE_27) (JL.gYes rfl rfl rfl (ZA rfl rfl (R.ldH S5 rfl (hc_30 0 _ rfl)) (JL.gYes rfl rfl rfl (ZA rfl rfl (R.neq8 (a:=y_22) (b:=(1 : UInt8)) rfl rfl) (Run.lcz_s [] 5 ZF rfl (ZM rfl (fun c_31 => ?_) (fun c_31 => ?_)))))))
       ·
        replace hx:=ZK c_31 hx
        refine Run.cnz_bk [] 8 ZF rfl ?_
        obtain rfl:=Za hd_10 hx
        refine Run.nnz_kb [] 2 ZF rfl ?_
        clear hx; have hx:=hxo_5
        simp only [Sum.elim_inl,Sum.elim_inr] at hx
        refine Run.nnz_kk [] 2 ZF rfl (ZJ (vs:=[.bool false]) (K:=[]) (rst:=[]) (.inl rfl) rfl rfl (ZG rfl rfl) ZC ?_)
        obtain rfl:=Option.some.inj hx
        exact ⟨rfl,rfl,rfl,trivial⟩
       ·
        replace hx:=ZL c_31 hx
        refine Run.clz_bs [] 5 ZF rfl (ZA rfl rfl (Zt rfl rfl (of_decide_eq_true c_10) (by decide)) ?_)
        refine Run.lnz [] 2 ZF rfl ?_
        replace hx:=ZX hd_10 hx
        exact JN.cut ⟨s_7 + 1,rfl,rfl,rfl,hx⟩ ⟨rfl,rfl,trivial⟩ rfl rfl
      ·
       replace hx:=ZL c_21 hx
       refine Run.llz_sbs [] 16 ZF rfl (ZA rfl rfl (Zt rfl rfl (of_decide_eq_true c_10) (by decide)) ?_)
       refine Run.lnz [] 2 ZF rfl ?_
       replace hx:=ZX hd_10 hx
       exact JN.cut ⟨s_7 + 1,rfl,rfl,rfl,hx⟩ ⟨rfl,rfl,trivial⟩ rfl rfl
    ·
     replace hx:=ZL c_10 hx
     refine Run.cnz_k [] 2 ZF rfl ?_
     obtain rfl:=Za hd_10 hx
     refine Run.nnz_kb [] 2 ZF rfl ?_
     exact JN.cut ⟨(),rfl,rfl,rfl,rfl⟩ trivial rfl rfl

set_option maxHeartbeats 8000000 in
theorem ref13_May_ok (p_1 : Store) (H : Heaplet) {aa_2 : Option Addr} {na_2 : Nat} {ca_2 : Nat} {aa_3 : Option Addr} {na_3 : Nat} {ca_3 : Nat} {aa_4 : Option Addr} {na_4 : Nat} {ca_4 : Nat} (ha_2 : IsSlice H (RSl RU8 1) 1 (.slice aa_2 na_2 ca_2) p_1.Disk.Blocks) (ha_3 : IsSlice H R_Write 2 (.slice aa_3 na_3 ca_3) p_1.Disk.Waits) (ha_4 : IsSlice H RU8 1 (.slice aa_4 na_4 ca_4) p_1.Space) (r : Bool) (hx : ref13_May p_1 = some r) :
  Does Tryz.prog 45 #[.agg #[.slice aa_2 na_2 ca_2,.slice aa_3 na_3 ca_3,.slice aa_4 na_4 ca_4,.int .u32 (p_1.Epoch.toNat : Int),.int .u32 (p_1.Count.toNat : Int)]] [] H (fun u K' H' => u = .bool r ∧ K' = [] ∧ H = H' ∧ True):=by
 refine Does.enterL (vs:=[.agg #[.slice aa_2 na_2 ca_2,.slice aa_3 na_3 ca_3,.slice aa_4 na_4 ca_4,.int .u32 (p_1.Epoch.toNat : Int),.int .u32 (p_1.Count.toNat : Int)]]) (l:=[(0,.agg #[.slice aa_2 na_2 ca_2,.slice aa_3 na_3 ca_3,.slice aa_4 na_4 ca_4,.int .u32 (p_1.Epoch.toNat : Int),.int .u32 (p_1.Count.toNat : Int)])]) Tryz.func45 rfl rfl ⟨rfl,trivial⟩ (fun w hlt => ?_)
 unfold ref13_May at hx
 refine Run.cl [] 2 ZF rfl (Zk rfl rfl (fun b_5 hb_5 => Run.lc_s [] 4 ZF rfl ?_))
 obtain ⟨t_6,ht_8,hx⟩:=ZD hx
 refine JC.cut (fun l o g => l = [(2,.bool t_6)] ∧ o = [] ∧ H = g) ?_ ?_
 ·
  rintro _ _ _ ⟨rfl,rfl,rfl⟩
  refine Run.nnz_s [] 2 ZF rfl (ZJ (vs:=[.bool t_6]) (K:=[]) (rst:=[]) (.inl rfl) rfl rfl (ZG rfl rfl) ZC ?_)
  obtain rfl:=Option.some.inj hx
  exact ⟨rfl,rfl,rfl,trivial⟩
 ·
  have hxo_7:=hx; clear hx; have hx:=ht_8; clear ht_8
  refine Run.clz [0] 3 ZF rfl ?_
  obtain ⟨x_9,hr_10,hx⟩:=ZD hx
  refine ZI (vs:=[_]) (args:=[_]) (K:=[]) (rst:=[_]) E104 rfl rfl rfl ZC (ref09_May_ok (Disk.mk p_1.Disk.Blocks p_1.Disk.Waits) _ ha_2 ha_3 _ hr_10) rfl (fun u_11 Ku_11 Hu_11 hRu_11 hleu_11 hfu_11 => ?_)
  obtain ⟨rfl,rfl,rfl,-⟩:=hRu_11
  refine ZA rfl rfl (ZZ rfl) (ZQ (t:=6) rfl (fun c_12 => ?_) (fun c_12 => ?_))
  ·
   replace hx:=ZK c_12 hx
   refine Run.llz [0] 5 ZF rfl ?_
   obtain ⟨x_13,hr_14,hx⟩:=ZD hx
   refine ZI (vs:=[_]) (args:=[_]) (K:=[]) (rst:=[_]) E105 rfl rfl rfl ZC (ref12_May_ok p_1.Space _ ha_4 _ hr_14) rfl (fun u_15 Ku_15 Hu_15 hRu_15 hleu_15 hfu_15 => ?_)
   obtain ⟨rfl,rfl,rfl,-⟩:=hRu_15
   refine Run.llz [] 2 ZF rfl (ZQ (t:=11) rfl (fun c_16 => ?_) (fun c_16 => ?_))
   ·
    replace hx:=ZK c_16 hx
    refine Run.llz [0] 5 ZF rfl (ZA rfl rfl (R.geq32 (a:=p_1.Epoch) (b:=(1 : UInt32)) rfl rfl) (Run.llz [] 2 ZF rfl (ZQ (t:=16) rfl (fun c_17 => ?_) (fun c_17 => ?_))))
    ·
     replace hx:=ZK c_17 hx
     refine Run.llz [0] 5 ZF rfl (ZA rfl rfl (R.leq32 (a:=p_1.Epoch) (b:=(65535 : UInt32)) rfl rfl) (Run.llz [] 2 ZF rfl (ZQ (t:=21) rfl (fun c_18 => ?_) (fun c_18 => ?_))))
     ·
      replace hx:=ZK c_18 hx
      refine Run.llz [0] 5 ZF rfl (ZA rfl rfl (R.leq32 (a:=p_1.Count) (b:=(65535 : UInt32)) rfl rfl) (Run.lnz [] 3 ZF rfl ?_))
      obtain rfl:=Option.some.inj hx
      refine JN.forget 0 ?_
      exact JN.cut ⟨rfl,rfl,rfl⟩ ⟨rfl,trivial⟩ rfl rfl
     ·
      replace hx:=ZL c_18 hx
      refine Run.lnz [] 6 ZF rfl ?_
      obtain rfl:=Option.some.inj hx
      refine JN.forget 0 ?_
      exact JN.cut ⟨rfl,rfl,rfl⟩ ⟨rfl,trivial⟩ rfl rfl
    ·
     replace hx:=ZL c_17 hx
     refine Run.lnz [] 11 ZF rfl ?_
     obtain rfl:=Option.some.inj hx
     refine JN.forget 0 ?_
     exact JN.cut ⟨rfl,rfl,rfl⟩ ⟨rfl,trivial⟩ rfl rfl
   ·
    replace hx:=ZL c_16 hx
    refine Run.lnz [] 16 ZF rfl ?_
    obtain rfl:=Option.some.inj hx
    refine JN.forget 0 ?_
    exact JN.cut ⟨rfl,rfl,rfl⟩ ⟨rfl,trivial⟩ rfl rfl
  ·
   replace hx:=ZL c_12 hx
   refine Run.lnz [] 21 ZF rfl ?_
   obtain rfl:=Option.some.inj hx
   refine JN.forget 0 ?_
   exact JN.cut ⟨rfl,rfl,rfl⟩ ⟨rfl,trivial⟩ rfl rfl

set_option maxHeartbeats 8000000 in
theorem ref10_None_ok (p_1 : Ptr) (H : Heaplet) (r : Bool) (hx : ref10_None p_1 = some r) :
  Does Tryz.prog 52 #[.agg #[.int .i64 p_1.At,.int .u32 (p_1.Birth.toNat : Int),.int .u32 (p_1.Iv.toNat : Int),.int .u32 (p_1.Tag.toNat : Int),.int .u32 (p_1.Sum.toNat : Int)]] [] H (fun u K' H' => u = .bool r ∧ K' = [] ∧ H = H' ∧ True):=by
 refine Does.enterL (vs:=[.agg #[.int .i64 p_1.At,.int .u32 (p_1.Birth.toNat : Int),.int .u32 (p_1.Iv.toNat : Int),.int .u32 (p_1.Tag.toNat : Int),.int .u32 (p_1.Sum.toNat : Int)]]) (l:=[(0,.agg #[.int .i64 p_1.At,.int .u32 (p_1.Birth.toNat : Int),.int .u32 (p_1.Iv.toNat : Int),.int .u32 (p_1.Tag.toNat : Int),.int .u32 (p_1.Sum.toNat : Int)])]) Tryz.func52 rfl rfl ⟨rfl,trivial⟩ (fun w hlt => ?_)
 unfold ref10_None at hx
 refine Run.cl [] 2 ZF rfl (Zk rfl rfl (fun b_2 hb_2 => Run.ll_s [0] 7 ZF rfl (ZA rfl rfl (R.eqlAgg QU31 QP31 QG31 QF31 rfl rfl (EqF.i (by decide) S3 U3 rfl rfl (EqF.u32 (a:=p_1.Birth) (b:=(0 : UInt32)) (by decide) S27 U27 rfl rfl (EqF.u32 (a:=p_1.Iv) (b:=(0 : UInt32)) (by decide) S27 U27 rfl rfl (EqF.u32 (a:=p_1.Tag) (b:=(0 : UInt32)) (by decide) S27 U27 rfl rfl (EqF.u32 (a:=p_1.Sum) (b:=(0 : UInt32)) (by decide) S27 U27 rfl rfl EqF.nil)))))) ?_)))
 refine Run.lnz_s [] 4 ZF rfl (ZJ (vs:=[.bool (decide (p_1.At = 0) && (decide (p_1.Birth = (0 : UInt32)) && (decide (p_1.Iv = (0 : UInt32)) && (decide (p_1.Tag = (0 : UInt32)) && (decide (p_1.Sum = (0 : UInt32)) && true)))))]) (K:=[]) (rst:=[_]) (.inl rfl) rfl rfl (ZG rfl rfl) ZC ?_)
 obtain rfl:=Option.some.inj hx
 exact ⟨rfl,rfl,rfl,trivial⟩

set_option maxHeartbeats 8000000 in
theorem ref10_May_ok (p_1 : Ptr) (H : Heaplet) (r : Bool) (hx : ref10_May p_1 = some r) :
  Does Tryz.prog 46 #[.agg #[.int .i64 p_1.At,.int .u32 (p_1.Birth.toNat : Int),.int .u32 (p_1.Iv.toNat : Int),.int .u32 (p_1.Tag.toNat : Int),.int .u32 (p_1.Sum.toNat : Int)]] [] H (fun u K' H' => u = .bool r ∧ K' = [] ∧ H = H' ∧ True):=by
 refine Does.enterL (vs:=[.agg #[.int .i64 p_1.At,.int .u32 (p_1.Birth.toNat : Int),.int .u32 (p_1.Iv.toNat : Int),.int .u32 (p_1.Tag.toNat : Int),.int .u32 (p_1.Sum.toNat : Int)]]) (l:=[(0,.agg #[.int .i64 p_1.At,.int .u32 (p_1.Birth.toNat : Int),.int .u32 (p_1.Iv.toNat : Int),.int .u32 (p_1.Tag.toNat : Int),.int .u32 (p_1.Sum.toNat : Int)])]) Tryz.func46 rfl rfl ⟨rfl,trivial⟩ (fun w hlt => ?_)
 unfold ref10_May at hx
 refine Run.cl [] 2 ZF rfl (Zk rfl rfl (fun b_2 hb_2 => Run.lc_s [] 4 ZF rfl ?_))
 obtain ⟨t_3,ht_5,hx⟩:=ZD hx
 refine JC.cut (fun l o g => l = [(2,.bool t_3)] ∧ o = [] ∧ H = g) ?_ ?_
 ·
  rintro _ _ _ ⟨rfl,rfl,rfl⟩
  refine Run.nnz_s [] 2 ZF rfl (ZJ (vs:=[.bool t_3]) (K:=[]) (rst:=[]) (.inl rfl) rfl rfl (ZG rfl rfl) ZC ?_)
  obtain rfl:=Option.some.inj hx
  exact ⟨rfl,rfl,rfl,trivial⟩
 ·
  have hxo_4:=hx; clear hx; have hx:=ht_5; clear ht_5
  refine Run.clz [0] 2 ZF rfl ?_
  obtain ⟨x_6,hr_7,hx⟩:=ZD hx
  refine ZI (vs:=[_]) (args:=[_]) (K:=[]) (rst:=[_]) E52 rfl rfl rfl ZC (ref10_None_ok p_1 _ _ hr_7) rfl (fun u_8 Ku_8 Hu_8 hRu_8 hleu_8 hfu_8 => ?_)
  obtain ⟨rfl,rfl,rfl,-⟩:=hRu_8
  refine ZA rfl rfl (ZZ rfl) (ZQ (t:=5) rfl (fun c_9 => ?_) (fun c_9 => ?_))
  ·
   replace hx:=ZK c_9 hx
   refine Run.lnz [] 21 ZF rfl ?_
   obtain rfl:=Option.some.inj hx
   refine JN.forget 0 ?_
   exact JN.cut ⟨rfl,rfl,rfl⟩ ⟨rfl,trivial⟩ rfl rfl
  ·
   replace hx:=ZL c_9 hx
   refine Run.llz [0] 8 ZF rfl (ZQ (t:=9) rfl (fun c_10 => ?_) (fun c_10 => ?_))
   ·
    replace hx:=ZK c_10 hx
    refine Run.llz [0] 10 ZF rfl (ZQ (t:=14) rfl (fun c_11 => ?_) (fun c_11 => ?_))
    ·
     replace hx:=ZK c_11 hx
     refine Run.llz [0] 5 ZF rfl (ZA rfl rfl (R.geq32 (a:=p_1.Birth) (b:=(1 : UInt32)) rfl rfl) (Run.llz [] 4 ZF rfl (ZQ (t:=19) rfl (fun c_12 => ?_) (fun c_12 => ?_))))
     ·
      replace hx:=ZK c_12 hx
      refine Run.llz [0] 5 ZF rfl (ZA rfl rfl (R.leq32 (a:=p_1.Birth) (b:=(16777215 : UInt32)) rfl rfl) (Run.lnz [] 5 ZF rfl ?_))
      obtain rfl:=Option.some.inj hx
      refine JN.forget 0 ?_
      exact JN.cut ⟨rfl,rfl,rfl⟩ ⟨rfl,trivial⟩ rfl rfl
     ·
      replace hx:=ZL c_12 hx
      refine Run.lnz [] 8 ZF rfl ?_
      obtain rfl:=Option.some.inj hx
      refine JN.forget 0 ?_
      exact JN.cut ⟨rfl,rfl,rfl⟩ ⟨rfl,trivial⟩ rfl rfl
    ·
     replace hx:=ZL c_11 hx
     refine Run.lnz [] 15 ZF rfl ?_
     obtain rfl:=Option.some.inj hx
     refine JN.forget 0 ?_
     exact JN.cut ⟨rfl,rfl,rfl⟩ ⟨rfl,trivial⟩ rfl rfl
   ·
    replace hx:=ZL c_10 hx
    refine Run.lnz [] 22 ZF rfl ?_
    obtain rfl:=Option.some.inj hx
    refine JN.forget 0 ?_
    exact JN.cut ⟨rfl,rfl,rfl⟩ ⟨rfl,trivial⟩ rfl rfl

set_option maxHeartbeats 8000000 in
theorem ref09_last_ok (p_1 : Disk) (p_4 : List Bool) (p_6 : Int) (H : Heaplet) {aa_2 : Option Addr} {na_2 : Nat} {ca_2 : Nat} {aa_3 : Option Addr} {na_3 : Nat} {ca_3 : Nat} {aa_5 : Option Addr} {na_5 : Nat} {ca_5 : Nat} (ha_2 : IsSlice H (RSl RU8 1) 1 (.slice aa_2 na_2 ca_2) p_1.Blocks) (ha_3 : IsSlice H R_Write 2 (.slice aa_3 na_3 ca_3) p_1.Waits) (ha_5 : IsSlice H RBool 1 (.slice aa_5 na_5 ca_5) p_4) (r : Int) (hx : ref09_last p_1 p_4 p_6 = some r) :
  Does Tryz.prog 219 #[.agg #[.slice aa_2 na_2 ca_2,.slice aa_3 na_3 ca_3],.slice aa_5 na_5 ca_5,.int .i64 p_6] [] H (fun u K' H' => u = .int .i64 r ∧ K' = [] ∧ H = H' ∧ True):=by
 refine Does.enterL (vs:=[.agg #[.slice aa_2 na_2 ca_2,.slice aa_3 na_3 ca_3],.slice aa_5 na_5 ca_5,.int .i64 p_6]) (l:=[(0,.agg #[.slice aa_2 na_2 ca_2,.slice aa_3 na_3 ca_3]),(1,.slice aa_5 na_5 ca_5),(2,.int .i64 p_6)]) Tryz.func219 rfl rfl ⟨rfl,rfl,rfl,trivial⟩ (fun w hlt => ?_)
 unfold ref09_last at hx
 refine Run.cl [] 2 ZF rfl (Zk rfl rfl (fun b_7 hb_7 => Run.ll_s [0] 7 ZF rfl (ZA rfl rfl (ZV U23 rfl (IsSlice.long ha_3)) (Run.lc_s [] 5 ZF rfl ?_))))
 obtain ⟨t_8,ht_10,hx⟩:=ZD hx
 refine JC.cut (fun l o g => l = [(7,.int .i64 t_8)] ∧ o = [] ∧ H = g) ?_ ?_
 ·
  rintro _ _ _ ⟨rfl,rfl,rfl⟩
  refine Run.nnz_s [] 8 ZF rfl (ZJ (vs:=[.int .i64 t_8]) (K:=[]) (rst:=[]) (.inl rfl) rfl rfl (ZG rfl rfl) ZC ?_)
  obtain rfl:=Option.some.inj hx
  exact ⟨rfl,rfl,rfl,trivial⟩
 ·
  have hxo_9:=hx; clear hx; have hx:=ht_10; clear ht_10
  refine JC.block (Zf (fun n l o g => ∃ s_11 : Int,l = [(1,.slice aa_5 na_5 ca_5),(2,.int .i64 p_6),(3,.pointer (some ⟨b_7,0,none⟩)),(7,.int .i64 s_11)] ∧ o = [[(b_7,.cells #[.slice aa_2 na_2 ca_2,.slice aa_3 na_3 ca_3] 25 (0,0))]] ∧ H = g ∧ run (ref09_last_l1 p_1 p_4 p_6) n s_11 = some t_8) FUEL ?_ ⟨w64 ((p_1.Waits.length : Int) - 1),rfl,rfl,rfl,hx⟩ ⟨rfl,rfl,rfl,rfl,trivial⟩ ?_)
  ·
   rintro _ _ _ ⟨s_11,rfl,rfl,rfl,hn_12⟩
   exact Ze hn_12
  ·
   rintro n_13 _ _ _ ⟨s_11,rfl,rfl,rfl,hn_12⟩
   clear hx; obtain ⟨oo_15,hx,hd_14⟩:=Zd hn_12
   unfold ref09_last_l1 at hx
   refine JC.seq ?_
   obtain ⟨t_14,ht_16,hx⟩:=ZD hx
   refine JC.cut (fun l o g => ∃ t_14a : Unit,l = [(1,.slice aa_5 na_5 ca_5),(2,.int .i64 p_6),(3,.pointer (some ⟨b_7,0,none⟩)),(7,.int .i64 s_11)] ∧ o = [[(b_7,.cells #[.slice aa_2 na_2 ca_2,.slice aa_3 na_3 ca_3] 25 (0,0))]] ∧ H = g ∧ t_14 = .inl t_14a) ?_ ?_
   ·
    rintro _ _ _ ⟨t_14a,rfl,rfl,rfl,rfl⟩
    simp only [Sum.elim_inl] at hx
    refine Run.nnz_s [] 8 ZF rfl ?_
    replace hx:=ZX hd_14 hx
    exact JN.cut ⟨w64 (s_11 - 1),rfl,rfl,rfl,hx⟩ ⟨rfl,rfl,rfl,rfl,trivial⟩ rfl rfl
   ·
    have hxo_15:=hx; clear hx; have hx:=ht_16; clear ht_16
    refine Run.cl [] 5 ZF rfl (ZQ (t:=14) rfl (fun c_17 => ?_) (fun c_17 => ?_))
    ·
     replace hx:=ZK c_17 hx
     refine Run.llz [0] 7 ZF rfl ?_
     obtain ⟨y_18,hN_19,hx⟩:=ZY hx
     obtain ⟨b_20,o_21,cs_22,hE_23,hR_24,hl_25,hc_26⟩:=IsSlice.elem ha_3 hN_19
     obtain ⟨v_27,rfl,hs_28⟩:=hR_24
     obtain ⟨av_27,cv_27',rfl⟩:=IsSlice.val hs_28
     refine ZA rfl rfl (Zu U23 S96 rfl rfl hE_23) (Run.llz [] 3 ZF rfl (ZA rfl rfl (R.ldH S3 rfl (hc_26 0 _ rfl)) (Run.llz [] 6 ZF rfl (ZQ (t:=23) rfl (fun c_29 => ?_) (fun c_29 => ?_)))))
     ·
      replace hx:=ZK c_29 hx
      refine Run.llz [] 3 ZF rfl (ZA rfl rfl (ZV U265 rfl (IsSlice.long ha_5)) (Run.llz [] 4 ZF rfl (ZQ (t:=27) rfl (fun c_30 => ?_) (fun c_30 => ?_))))
      ·
       replace hx:=ZK c_30 hx
       refine Run.lnz_s [] 15 ZF rfl ?_
       obtain rfl:=Option.some.inj hx
       clear hx; have hx:=hxo_15
       simp only [Sum.elim_inl,Sum.elim_inr] at hx
       refine Run.nnz_kk [] 2 ZF rfl ?_
       obtain rfl:=Za hd_14 hx
       refine Run.nnz_kb [] 2 ZF rfl (JN.forget 0 ?_)
       exact JN.cut ⟨rfl,rfl,rfl⟩ ⟨rfl,trivial⟩ rfl rfl
      ·
       replace hx:=ZL c_30 hx
       refine Run.llz [] 5 ZF rfl ?_
       obtain ⟨y_31,hN_32,hx⟩:=ZY hx
       obtain ⟨b_33,o_34,cs_35,hE_36,hR_37,hl_38,hc_39⟩:=IsSlice.elem ha_5 hN_32
       obtain rfl:=hR_37
       refine ZA rfl rfl (Zu U265 S4 rfl rfl hE_36) (JL.gYes rfl rfl rfl (ZA rfl rfl (R.ldH S4 rfl (hc_39 0 _ rfl)) (Run.lcz_s [] 9 ZF rfl (ZM rfl (fun c_40 => ?_) (fun c_40 => ?_)))))
       ·
        replace hx:=ZK c_40 hx
        refine JC.skip ?_
        obtain rfl:=Option.some.inj hx
        exact JN.cut ⟨(),rfl,rfl,rfl,rfl⟩ ⟨rfl,rfl,rfl,rfl,trivial⟩ rfl rfl
       ·
        replace hx:=ZL c_40 hx
        refine JC.exit ?_
        obtain rfl:=Option.some.inj hx
        clear hx; have hx:=hxo_15
        simp only [Sum.elim_inl,Sum.elim_inr] at hx
        refine Run.nnz_kk [] 2 ZF rfl ?_
        obtain rfl:=Za hd_14 hx
        refine Run.nnz_kb [] 2 ZF rfl (JN.forget 0 ?_)
        exact JN.cut ⟨rfl,rfl,rfl⟩ ⟨rfl,trivial⟩ rfl rfl
     ·
      replace hx:=ZL c_29 hx
      refine Run.lnz_s [] 18 ZF rfl ?_
      obtain rfl:=Option.some.inj hx
      exact JN.cut ⟨(),rfl,rfl,rfl,rfl⟩ ⟨rfl,rfl,rfl,rfl,trivial⟩ rfl rfl
    ·
     replace hx:=ZL c_17 hx
     refine Run.lnz_s [] 25 ZF rfl ?_
     obtain rfl:=Option.some.inj hx
     clear hx; have hx:=hxo_15
     simp only [Sum.elim_inl,Sum.elim_inr] at hx
     refine Run.nnz_kk [] 2 ZF rfl ?_
     obtain rfl:=Za hd_14 hx
     refine Run.nnz_kb [] 2 ZF rfl (JN.forget 0 ?_)
     exact JN.cut ⟨rfl,rfl,rfl⟩ ⟨rfl,trivial⟩ rfl rfl

set_option maxHeartbeats 8000000 in
theorem ref09_left_ok (p_1 : Disk) (p_4 : List Bool) (p_6 : Int) (H : Heaplet) {aa_2 : Option Addr} {na_2 : Nat} {ca_2 : Nat} {aa_3 : Option Addr} {na_3 : Nat} {ca_3 : Nat} {aa_5 : Option Addr} {na_5 : Nat} {ca_5 : Nat} (ha_2 : IsSlice H (RSl RU8 1) 1 (.slice aa_2 na_2 ca_2) p_1.Blocks) (ha_3 : IsSlice H R_Write 2 (.slice aa_3 na_3 ca_3) p_1.Waits) (ha_5 : IsSlice H RBool 1 (.slice aa_5 na_5 ca_5) p_4) (r : List UInt8) (hx : ref09_left p_1 p_4 p_6 = some r) :
  Does Tryz.prog 167 #[.agg #[.slice aa_2 na_2 ca_2,.slice aa_3 na_3 ca_3],.slice aa_5 na_5 ca_5,.int .i64 p_6] [] H (fun u K' H' => ∃ ao0 : Option Addr,∃ n0 : Nat,∃ cap0 : Nat,∃ K0 : Own,u = .slice ao0 n0 cap0 ∧ K' = [K0] ∧ H = H' ∧ RowOf (New H H) RU8 0 5 1 (.slice ao0 n0 cap0) r K0 ∧ (∀ p ∈ K0,p.1 ∉ ids (List.flatten [])) ∧ True):=by
 refine Does.enterL (vs:=[.agg #[.slice aa_2 na_2 ca_2,.slice aa_3 na_3 ca_3],.slice aa_5 na_5 ca_5,.int .i64 p_6]) (l:=[(0,.agg #[.slice aa_2 na_2 ca_2,.slice aa_3 na_3 ca_3]),(1,.slice aa_5 na_5 ca_5),(2,.int .i64 p_6)]) Tryz.func167 rfl rfl ⟨rfl,rfl,rfl,trivial⟩ (fun w hlt => ?_)
 unfold ref09_left at hx
 refine Run.cl [] 2 ZF rfl (Zk rfl rfl (fun b_7 hb_7 => Run.ll_s [0] 8 ZF rfl ?_))
 obtain ⟨x_8,hr_9,hx⟩:=ZD hx
 refine ZI (vs:=[_,_,_]) (args:=[_,_,_]) (K:=[]) (rst:=[_]) E219 rfl rfl rfl ZC (ref09_last_ok p_1 p_4 p_6 _ ha_2 ha_3 ha_5 _ hr_9) rfl (fun u_10 Ku_10 Hu_10 hRu_10 hleu_10 hfu_10 => ?_)
 obtain ⟨rfl,rfl,rfl,-⟩:=hRu_10
 refine Run.lc_s [] 10 ZF rfl (ZM rfl (fun c_11 => ?_) (fun c_11 => ?_))
 ·
  replace hx:=ZK c_11 hx
  refine Run.cl [0] 5 ZF rfl ?_
  obtain ⟨y_12,hN_13,hx⟩:=ZY hx
  obtain ⟨b_14,o_15,cs_16,hE_17,hR_18,hl_19,hc_20⟩:=IsSlice.elem ha_2 hN_13
  obtain ⟨v_21,rfl,hs_22⟩:=hR_18
  obtain ⟨av_21,cv_21,rfl⟩:=IsSlice.val hs_22
  refine ZA rfl rfl (Zu U22 S26 rfl rfl hE_17) (ZA rfl rfl (R.ldH S26 rfl (hc_20 0 _ rfl)) (JL.seg0 ?_))
  obtain ⟨q_24,hm_25,hl_26,hx⟩:=Zo hx
  refine Zr (HF:=(New H H)) 0 U26 I5 rfl rfl (ZR _ RU8 _ _ _) rfl (SrcF.sliceC RU8.const RU8.one U26 hs_22) hm_25 hl_26 rfl (Nat.le_refl _) rfl (fun vr_27 Kr_27 hr_27 => ?_)
  obtain ⟨ar_27,cr_27,rfl⟩:=RowOf.val hr_27
  refine Run.lnz_sk [] 5 ZF rfl (ZJ (vs:=[.slice ar_27 q_24.length cr_27]) (K:=[_]) (rst:=[_]) (.inl rfl) rfl rfl (ZG rfl rfl) (ZO 0 rfl ZC) ?_)
  obtain rfl:=Option.some.inj hx
  exact ⟨ar_27,q_24.length,cr_27,Kr_27,rfl,rfl,rfl,(ZT (Nat.zero_le _) hr_27),(Zh hr_27 hlt),trivial⟩
 ·
  replace hx:=ZL c_11 hx
  refine Run.cl_s [0] 7 ZF rfl ?_
  obtain ⟨y_28,hN_29,hx⟩:=ZY hx
  obtain ⟨b_30,o_31,cs_32,hE_33,hR_34,hl_35,hc_36⟩:=IsSlice.elem ha_3 hN_29
  obtain ⟨v_37,rfl,hs_38⟩:=hR_34
  obtain ⟨av_37,cv_37,rfl⟩:=IsSlice.val hs_38
  refine ZA rfl rfl (Zu U23 S96 rfl rfl hE_33) (ZA rfl rfl (R.fa F96_1 rfl) (ZA rfl rfl (R.ldH S26 rfl (hc_36 1 _ rfl)) (JL.seg0 ?_)))
  obtain ⟨q_40,hm_41,hl_42,hx⟩:=Zo hx
  refine Zr (HF:=(New H H)) 0 U26 I5 rfl rfl (ZR _ RU8 _ _ _) rfl (SrcF.sliceC RU8.const RU8.one U26 hs_38) hm_41 hl_42 rfl (Nat.le_refl _) rfl (fun vr_43 Kr_43 hr_43 => ?_)
  obtain ⟨ar_43,cr_43,rfl⟩:=RowOf.val hr_43
  refine Run.lnz_s [] 4 ZF rfl (ZJ (vs:=[.slice ar_43 q_40.length cr_43]) (K:=[_]) (rst:=[_]) (.inl rfl) rfl rfl (ZG rfl rfl) (ZO 0 rfl ZC) ?_)
  obtain rfl:=Option.some.inj hx
  exact ⟨ar_43,q_40.length,cr_43,Kr_43,rfl,rfl,rfl,(ZT (Nat.zero_le _) hr_43),(Zh hr_43 hlt),trivial⟩

set_option maxHeartbeats 8000000 in
theorem ref09_Seen_ok (p_1 : Disk) (p_4 : Int) (H : Heaplet) {aa_2 : Option Addr} {na_2 : Nat} {ca_2 : Nat} {aa_3 : Option Addr} {na_3 : Nat} {ca_3 : Nat} (ha_2 : IsSlice H (RSl RU8 1) 1 (.slice aa_2 na_2 ca_2) p_1.Blocks) (ha_3 : IsSlice H R_Write 2 (.slice aa_3 na_3 ca_3) p_1.Waits) (r : List UInt8) (hx : ref09_Seen p_1 p_4 = some r) :
  Does Tryz.prog 106 #[.agg #[.slice aa_2 na_2 ca_2,.slice aa_3 na_3 ca_3],.int .i64 p_4] [] H (fun u K' H' => ∃ ao0 : Option Addr,∃ n0 : Nat,∃ cap0 : Nat,∃ K0 : Own,u = .slice ao0 n0 cap0 ∧ K' = [K0] ∧ H = H' ∧ RowOf (New H H) RU8 0 5 1 (.slice ao0 n0 cap0) r K0 ∧ (∀ p ∈ K0,p.1 ∉ ids (List.flatten [])) ∧ True):=by
 refine Does.enterL (vs:=[.agg #[.slice aa_2 na_2 ca_2,.slice aa_3 na_3 ca_3],.int .i64 p_4]) (l:=[(0,.agg #[.slice aa_2 na_2 ca_2,.slice aa_3 na_3 ca_3]),(1,.int .i64 p_4)]) Tryz.func106 rfl rfl ⟨rfl,rfl,trivial⟩ (fun w hlt => ?_)
 unfold ref09_Seen at hx
 refine Run.cl [] 2 ZF rfl (Zk rfl rfl (fun b_5 hb_5 => Run.ll_s [0] 7 ZF rfl ?_))
 obtain ⟨x_6,hr_7,hx⟩:=ZD hx
 refine ZI (vs:=[_,_,_]) (args:=[_,_,_]) (K:=[]) (rst:=[_]) E167 rfl rfl rfl ZC (ref09_left_ok p_1 ([] : List Bool) p_4 _ ha_2 ha_3 (IsSlice.nil _ _ _) _ hr_7) rfl (fun u_8 Ku_8 Hu_8 hRu_8 hleu_8 hfu_8 => ?_)
 obtain ⟨ar_9,nr_9,cr_9,Kr_9,rfl,rfl,rfl,hr_9,hnewr_9,-⟩:=hRu_8
 replace hr_9:=(RowOf.base (ZP (H2:=New H H) RU8.const hr_9) (fun p hp => (hfu_8 p (ZS 0 rfl hp)).resolve_left (hnewr_9 p hp)))
 refine Run.lnz_s [] 4 ZF rfl (ZJ (vs:=[.slice ar_9 nr_9 cr_9]) (K:=[_]) (rst:=[_]) (.inl rfl) rfl rfl (ZG rfl rfl) (ZO 0 rfl ZC) ?_)
 obtain rfl:=Option.some.inj hx
 exact ⟨ar_9,nr_9,cr_9,Kr_9,rfl,rfl,rfl,(ZT (Nat.zero_le _) hr_9),(Zh hr_9 hlt),trivial⟩

set_option maxHeartbeats 8000000 in
theorem ref02_byteAt_ok (p_1 : List UInt8) (p_3 : Int) (H : Heaplet) {aa_2 : Option Addr} {na_2 : Nat} {ca_2 : Nat} (ha_2 : IsSlice H RU8 1 (.slice aa_2 na_2 ca_2) p_1) (r : UInt32) (hx : ref02_byteAt p_1 p_3 = some r) :
  Does Tryz.prog 257 #[.slice aa_2 na_2 ca_2,.int .i64 p_3] [] H (fun u K' H' => u = .int .u32 (r.toNat : Int) ∧ K' = [] ∧ H = H' ∧ True):=by
 refine Does.enterL (vs:=[.slice aa_2 na_2 ca_2,.int .i64 p_3]) (l:=[(0,.slice aa_2 na_2 ca_2),(1,.int .i64 p_3)]) Tryz.func257 rfl rfl ⟨rfl,rfl,trivial⟩ (fun w hlt => ?_)
 unfold ref02_byteAt at hx
 refine Run.cl [] 10 ZF rfl (ZA rfl rfl (ZV U26 rfl (IsSlice.long ha_2)) (Run.lcz_s [] 3 ZF rfl (ZM rfl (fun c_4 => ?_) (fun c_4 => ?_))))
 ·
  replace hx:=ZK c_4 hx
  refine Run.cl [] 4 ZF rfl ?_
  obtain ⟨y_5,hN_6,hx⟩:=ZY hx
  obtain ⟨b_7,o_8,cs_9,hE_10,hR_11,hl_12,hc_13⟩:=IsSlice.elem ha_2 hN_6
  obtain rfl:=hR_11
  refine ZA rfl rfl (Zu U26 S5 rfl rfl hE_10) (ZA rfl rfl (R.ldH S5 rfl (hc_13 0 _ rfl)) (ZA rfl rfl (R.cv_u8_u32 (a:=y_5) U5 U27 rfl) (Run.lnz_sk [] 5 ZF rfl (ZJ (vs:=[.int .u32 (y_5.toUInt32.toNat : Int)]) (K:=[]) (rst:=[]) (.inl rfl) rfl rfl (ZG rfl rfl) ZC ?_))))
  obtain rfl:=Option.some.inj hx
  exact ⟨rfl,rfl,rfl,trivial⟩
 ·
  replace hx:=ZL c_4 hx
  refine Run.cl_s [] 7 ZF rfl (ZA rfl rfl (ZV U26 rfl (IsSlice.long ha_2)) (Run.lcz_s [] 3 ZF rfl (ZM rfl (fun c_14 => ?_) (fun c_14 => ?_))))
  ·
   replace hx:=ZK c_14 hx
   refine Run.cnz_k [] 7 ZF rfl (ZJ (vs:=[.int .u32 ((1 : UInt32).toNat : Int)]) (K:=[]) (rst:=[]) (.inl rfl) rfl rfl (ZG rfl rfl) ZC ?_)
   obtain rfl:=Option.some.inj hx
   exact ⟨rfl,rfl,rfl,trivial⟩
  ·
   replace hx:=ZL c_14 hx
   refine Run.cnz_s [] 8 ZF rfl (ZJ (vs:=[.int .u32 ((0 : UInt32).toNat : Int)]) (K:=[]) (rst:=[]) (.inl rfl) rfl rfl (ZG rfl rfl) ZC ?_)
   obtain rfl:=Option.some.inj hx
   exact ⟨rfl,rfl,rfl,trivial⟩

set_option maxHeartbeats 8000000 in
theorem ref02_word_ok (p_1 : List UInt8) (p_3 : Int) (H : Heaplet) {aa_2 : Option Addr} {na_2 : Nat} {ca_2 : Nat} (ha_2 : IsSlice H RU8 1 (.slice aa_2 na_2 ca_2) p_1) (r : UInt32) (hx : ref02_word p_1 p_3 = some r) :
  Does Tryz.prog 220 #[.slice aa_2 na_2 ca_2,.int .i64 p_3] [] H (fun u K' H' => u = .int .u32 (r.toNat : Int) ∧ K' = [] ∧ H = H' ∧ True):=by
 refine Does.enterL (vs:=[.slice aa_2 na_2 ca_2,.int .i64 p_3]) (l:=[(0,.slice aa_2 na_2 ca_2),(1,.int .i64 p_3)]) Tryz.func220 rfl rfl ⟨rfl,rfl,trivial⟩ (fun w hlt => ?_)
 unfold ref02_word at hx
 refine Run.cl [] 9 ZF rfl ?_
 obtain ⟨x_4,hr_5,hx⟩:=ZD hx
 refine ZI (vs:=[_,_]) (args:=[_,_]) (K:=[]) (rst:=[]) E257 rfl rfl rfl ZC (ref02_byteAt_ok p_1 p_3 _ ha_2 _ hr_5) rfl (fun u_6 Ku_6 Hu_6 hRu_6 hleu_6 hfu_6 => ?_)
 obtain ⟨rfl,rfl,rfl,-⟩:=hRu_6
 refine Run.llz [] 3 ZF rfl ?_
 obtain ⟨x_7,hr_8,hx⟩:=ZD hx
 refine ZI (vs:=[_,_]) (args:=[_,_]) (K:=[]) (rst:=[]) E257 rfl rfl rfl ZC (ref02_byteAt_ok p_1 (w64 (p_3 + 1)) _ ha_2 _ hr_8) rfl (fun u_9 Ku_9 Hu_9 hRu_9 hleu_9 hfu_9 => ?_)
 obtain ⟨rfl,rfl,rfl,-⟩:=hRu_9
 refine ZA rfl rfl (R.mul32 (a:=(256 : UInt32)) (b:=x_7) rfl rfl) (ZA rfl rfl (R.add32 (a:=x_4) (b:=(256 : UInt32) * x_7) rfl rfl) (Run.llz [] 3 ZF rfl ?_))
 obtain ⟨x_10,hr_11,hx⟩:=ZD hx
 refine ZI (vs:=[_,_]) (args:=[_,_]) (K:=[]) (rst:=[]) E257 rfl rfl rfl ZC (ref02_byteAt_ok p_1 (w64 (p_3 + 2)) _ ha_2 _ hr_11) rfl (fun u_12 Ku_12 Hu_12 hRu_12 hleu_12 hfu_12 => ?_)
 obtain ⟨rfl,rfl,rfl,-⟩:=hRu_12
 refine ZA rfl rfl (R.mul32 (a:=(65536 : UInt32)) (b:=x_10) rfl rfl) (ZA rfl rfl (R.add32 (a:=x_4 + ((256 : UInt32) * x_7)) (b:=(65536 : UInt32) * x_10) rfl rfl) (Run.llz [] 3 ZF rfl ?_))
 obtain ⟨x_13,hr_14,hx⟩:=ZD hx
 refine ZI (vs:=[_,_]) (args:=[_,_]) (K:=[]) (rst:=[]) E257 rfl rfl rfl ZC (ref02_byteAt_ok p_1 (w64 (p_3 + 3)) _ ha_2 _ hr_14) rfl (fun u_15 Ku_15 Hu_15 hRu_15 hleu_15 hfu_15 => ?_)
 obtain ⟨rfl,rfl,rfl,-⟩:=hRu_15
 refine ZA rfl rfl (R.mul32 (a:=(16777216 : UInt32)) (b:=x_13) rfl rfl) (ZA rfl rfl (R.add32 (a:=(x_4 + ((256 : UInt32) * x_7)) + ((65536 : UInt32) * x_10)) (b:=(16777216 : UInt32) * x_13) rfl rfl) (Run.lnz_s [] 4 ZF rfl (ZJ (vs:=[.int .u32 ((((x_4 + ((256 : UInt32) * x_7)) + ((65536 : UInt32) * x_10)) + ((16777216 : UInt32) * x_13)).toNat : Int)]) (K:=[]) (rst:=[]) (.inl rfl) rfl rfl (ZG rfl rfl) ZC ?_)))
 obtain rfl:=Option.some.inj hx
 exact ⟨rfl,rfl,rfl,trivial⟩

set_option maxHeartbeats 8000000 in
theorem ref02_plus_ok (p_1 : UInt32) (p_2 : UInt32) (H : Heaplet) (r : UInt32) (hx : ref02_plus p_1 p_2 = some r) :
  Does Tryz.prog 258 #[.int .u32 (p_1.toNat : Int),.int .u32 (p_2.toNat : Int)] [] H (fun u K' H' => u = .int .u32 (r.toNat : Int) ∧ K' = [] ∧ H = H' ∧ True):=by
 refine Does.enterL (vs:=[.int .u32 (p_1.toNat : Int),.int .u32 (p_2.toNat : Int)]) (l:=[(0,.int .u32 (p_1.toNat : Int)),(1,.int .u32 (p_2.toNat : Int))]) Tryz.func258 rfl rfl ⟨rfl,rfl,trivial⟩ (fun w hlt => ?_)
 unfold ref02_plus at hx
 refine Run.cl [] 8 ZF rfl (ZA rfl rfl (R.cv_u32_i64 (a:=p_1) U27 U3 rfl) (ZA rfl rfl (ZZ rfl) (ZA rfl rfl (R.cv_u32_i64 (a:=p_2) U27 U3 rfl) (ZA rfl rfl (R.add_i rfl rfl) (ZA rfl rfl (R.rem_i rfl rfl (by decide)) (ZA rfl rfl (R.cv_i64_u32 U3 U27 rfl) ?_))))))
 refine Run.lnz_s [] 4 ZF rfl (ZJ (vs:=[.int .u32 ((u32i ((w64 ((p_1.toNat : Int) + (p_2.toNat : Int))).tmod 4294967296)).toNat : Int)]) (K:=[]) (rst:=[]) (.inl rfl) rfl rfl (ZG rfl rfl) ZC ?_)
 obtain rfl:=Option.some.inj hx
 exact ⟨rfl,rfl,rfl,trivial⟩

set_option maxHeartbeats 8000000 in
theorem ref02_left_ok (p_1 : UInt32) (p_2 : Int) (H : Heaplet) (r : UInt32) (hx : ref02_left p_1 p_2 = some r) :
  Does Tryz.prog 259 #[.int .u32 (p_1.toNat : Int),.int .i64 p_2] [] H (fun u K' H' => u = .int .u32 (r.toNat : Int) ∧ K' = [] ∧ H = H' ∧ True):=by
 refine Does.enterL (vs:=[.int .u32 (p_1.toNat : Int),.int .i64 p_2]) (l:=[(0,.int .u32 (p_1.toNat : Int)),(1,.int .i64 p_2)]) Tryz.func259 rfl rfl ⟨rfl,rfl,trivial⟩ (fun w hlt => ?_)
 unfold ref02_left at hx
 refine Run.cl [] 8 ZF rfl (ZA rfl rfl (R.cv_u32_i64 (a:=p_1) U27 U3 rfl) (Run.lc_s [] 9 ZF rfl ?_))
 obtain ⟨t_3,ht_5,hx⟩:=ZD hx
 refine JC.cut (fun l o g => l = [(5,.int .i64 t_3)] ∧ o = [] ∧ H = g) ?_ ?_
 ·
  rintro _ _ _ ⟨rfl,rfl,rfl⟩
  refine Run.nl_s [] 4 ZF rfl (ZA rfl rfl (R.cv_i64_u32 U3 U27 rfl) (Run.lnz_s [] 4 ZF rfl (ZJ (vs:=[.int .u32 ((u32i t_3).toNat : Int)]) (K:=[]) (rst:=[]) (.inl rfl) rfl rfl (ZG rfl rfl) ZC ?_)))
  obtain rfl:=Option.some.inj hx
  exact ⟨rfl,rfl,rfl,trivial⟩
 ·
  have hxo_4:=hx; clear hx; have hx:=ht_5; clear ht_5
  refine JC.block (Zf (fun n l o g => ∃ s_6 : Int × Int,l = [(1,.int .i64 p_2),(5,.int .i64 s_6.1),(6,.int .i64 s_6.2)] ∧ o = [] ∧ H = g ∧ run (ref02_left_l1 p_2) n s_6 = some t_3) FUEL ?_ ⟨((p_1.toNat : Int),0),rfl,rfl,rfl,hx⟩ ⟨rfl,rfl,rfl,trivial⟩ ?_)
  ·
   rintro _ _ _ ⟨s_6,rfl,rfl,rfl,hn_7⟩
   exact Ze hn_7
  ·
   rintro n_8 _ _ _ ⟨s_6,rfl,rfl,rfl,hn_7⟩
   clear hx; obtain ⟨oo_10,hx,hd_9⟩:=Zd hn_7
   unfold ref02_left_l1 at hx
   refine Run.cc [] 8 ZF rfl (ZM rfl (fun c_9 => ?_) (fun c_9 => ?_))
   ·
    replace hx:=ZK c_9 hx
    refine Run.cl_s [] 7 ZF rfl (ZA rfl rfl (R.rem_i rfl rfl (by decide)) ?_)
    refine Run.llz [] 2 ZF rfl (ZA rfl rfl (R.quo_i rfl rfl (by decide)) ?_)
    refine Run.lnz_bs [] 10 ZF rfl ?_
    replace hx:=ZX hd_9 hx
    exact JN.cut ⟨(w64 (((w64 (s_6.1 * 2)).tmod 4294967296) + (w64 ((w64 (s_6.1 * 2)).tdiv 4294967296))),w64 (s_6.2 + 1)),rfl,rfl,rfl,hx⟩ ⟨rfl,rfl,rfl,trivial⟩ rfl rfl
   ·
    replace hx:=ZL c_9 hx
    refine Run.cnz_k [] 2 ZF rfl ?_
    obtain rfl:=Za hd_9 hx
    refine Run.nnz_kb [] 2 ZF rfl ?_
    exact JN.cut ⟨rfl,rfl,rfl⟩ ⟨rfl,trivial⟩ rfl rfl

set_option maxHeartbeats 8000000 in
theorem ref02_Turn_ok (p_1 : A4 UInt32) (H : Heaplet) (r : A4 UInt32) (hx : ref02_Turn p_1 = some r) :
  Does Tryz.prog 221 #[.agg #[.int .u32 (p_1.e0.toNat : Int),.int .u32 (p_1.e1.toNat : Int),.int .u32 (p_1.e2.toNat : Int),.int .u32 (p_1.e3.toNat : Int)]] [] H (fun u K' H' => u = .agg #[.int .u32 (r.e0.toNat : Int),.int .u32 (r.e1.toNat : Int),.int .u32 (r.e2.toNat : Int),.int .u32 (r.e3.toNat : Int)] ∧ K' = [] ∧ H = H' ∧ True):=by
 refine Does.enterL (vs:=[.agg #[.int .u32 (p_1.e0.toNat : Int),.int .u32 (p_1.e1.toNat : Int),.int .u32 (p_1.e2.toNat : Int),.int .u32 (p_1.e3.toNat : Int)]]) (l:=[(0,.agg #[.int .u32 (p_1.e0.toNat : Int),.int .u32 (p_1.e1.toNat : Int),.int .u32 (p_1.e2.toNat : Int),.int .u32 (p_1.e3.toNat : Int)])]) Tryz.func221 rfl rfl ⟨rfl,trivial⟩ (fun w hlt => ?_)
 unfold ref02_Turn at hx
 refine Run.cl [] 2 ZF rfl (Zk rfl rfl (fun b_2 hb_2 => JL.alloc Z156 rfl (fun b_3 hb_3 => Run.ll_s [] 4 ZF rfl (ZA rfl rfl (R.ixA 0 U156 S27 rfl rfl rfl) (Run.ll_s [1] 6 ZF rfl (ZA rfl rfl (R.ixA 1 U156 S27 rfl rfl rfl) (Run.ll_s [1] 6 ZF rfl (ZA rfl rfl (R.ixA 2 U156 S27 rfl rfl rfl) (Run.ll_s [1] 6 ZF rfl (ZA rfl rfl (R.ixA 3 U156 S27 rfl rfl rfl) (Run.ll_s [1] 8 ZF rfl ?_)))))))))))
 obtain ⟨x_4,hr_5,hx⟩:=ZD hx
 refine ZI (vs:=[_,_]) (args:=[_,_]) (K:=[]) (rst:=[_,_]) E258 rfl rfl rfl ZC (ref02_plus_ok p_1.e0 p_1.e1 _ _ hr_5) rfl (fun u_6 Ku_6 Hu_6 hRu_6 hleu_6 hfu_6 => ?_)
 obtain ⟨rfl,rfl,rfl,-⟩:=hRu_6
 refine Run.ll_s [] 7 ZF rfl (ZA rfl rfl (R.xor32 (a:=p_1.e3) (b:=x_4) rfl rfl) ?_)
 obtain ⟨x_7,hr_8,hx⟩:=ZD hx
 refine ZI (vs:=[_,_]) (args:=[_,_]) (K:=[]) (rst:=[_,_]) E259 rfl rfl rfl ZC (ref02_left_ok (p_1.e3 ^^^ x_4) 15 _ _ hr_8) rfl (fun u_9 Ku_9 Hu_9 hRu_9 hleu_9 hfu_9 => ?_)
 obtain ⟨rfl,rfl,rfl,-⟩:=hRu_9
 refine Run.ll_s [] 7 ZF rfl ?_
 obtain ⟨x_10,hr_11,hx⟩:=ZD hx
 refine ZI (vs:=[_,_]) (args:=[_,_]) (K:=[]) (rst:=[_,_]) E258 rfl rfl rfl ZC (ref02_plus_ok p_1.e2 x_7 _ _ hr_11) rfl (fun u_12 Ku_12 Hu_12 hRu_12 hleu_12 hfu_12 => ?_)
 obtain ⟨rfl,rfl,rfl,-⟩:=hRu_12
 refine Run.ll_s [] 7 ZF rfl (ZA rfl rfl (R.xor32 (a:=p_1.e1) (b:=x_10) rfl rfl) ?_)
 obtain ⟨x_13,hr_14,hx⟩:=ZD hx
 refine ZI (vs:=[_,_]) (args:=[_,_]) (K:=[]) (rst:=[_,_]) E259 rfl rfl rfl ZC (ref02_left_ok (p_1.e1 ^^^ x_10) 11 _ _ hr_14) rfl (fun u_15 Ku_15 Hu_15 hRu_15 hleu_15 hfu_15 => ?_)
 obtain ⟨rfl,rfl,rfl,-⟩:=hRu_15
 refine Run.ll_s [] 7 ZF rfl ?_
 obtain ⟨x_16,hr_17,hx⟩:=ZD hx
 refine ZI (vs:=[_,_]) (args:=[_,_]) (K:=[]) (rst:=[_,_]) E258 rfl rfl rfl ZC (ref02_plus_ok x_4 x_13 _ _ hr_17) rfl (fun u_18 Ku_18 Hu_18 hRu_18 hleu_18 hfu_18 => ?_)
 obtain ⟨rfl,rfl,rfl,-⟩:=hRu_18
 refine Run.ll_s [] 7 ZF rfl (ZA rfl rfl (R.xor32 (a:=x_7) (b:=x_16) rfl rfl) ?_)
 obtain ⟨x_19,hr_20,hx⟩:=ZD hx
 refine ZI (vs:=[_,_]) (args:=[_,_]) (K:=[]) (rst:=[_,_]) E259 rfl rfl rfl ZC (ref02_left_ok (x_7 ^^^ x_16) 9 _ _ hr_20) rfl (fun u_21 Ku_21 Hu_21 hRu_21 hleu_21 hfu_21 => ?_)
 obtain ⟨rfl,rfl,rfl,-⟩:=hRu_21
 refine Run.lcz_s [] 3 ZF rfl (JC.tidy (l':=[(2,.pointer (some ⟨b_3,0,none⟩)),(3,.int .u32 (x_16.toNat : Int)),(4,.int .u32 (x_13.toNat : Int)),(5,.int .u32 (x_10.toNat : Int)),(6,.int .u32 (x_19.toNat : Int))]) (own':=[[(b_3,.cells #[.int .u32 ((0 : UInt32).toNat : Int),.int .u32 ((0 : UInt32).toNat : Int),.int .u32 ((0 : UInt32).toNat : Int),.int .u32 ((0 : UInt32).toNat : Int)] 156 (0,0))],[(b_2,.cells #[.int .u32 (p_1.e0.toNat : Int),.int .u32 (p_1.e1.toNat : Int),.int .u32 (p_1.e2.toNat : Int),.int .u32 (p_1.e3.toNat : Int)] 156 (0,0))]]) ⟨rfl,rfl,rfl,rfl,rfl,trivial⟩ rfl (JC.tidyP (l':=[(2,.pointer (some ⟨b_3,0,none⟩)),(3,.int .u32 (x_16.toNat : Int)),(4,.int .u32 (x_13.toNat : Int)),(5,.int .u32 (x_10.toNat : Int)),(6,.int .u32 (x_19.toNat : Int))]) (own':=[[(b_3,.cells #[.int .u32 ((0 : UInt32).toNat : Int),.int .u32 ((0 : UInt32).toNat : Int),.int .u32 ((0 : UInt32).toNat : Int),.int .u32 ((0 : UInt32).toNat : Int)] 156 (0,0))]]) (rst:=[_]) ⟨rfl,rfl,rfl,rfl,rfl,trivial⟩ (ZO 0 rfl ZC) (Run.cl [] 4 ZF rfl ?_)))
 obtain ⟨x_22,hr_23,hx⟩:=ZD hx
 refine ZI (vs:=[_,_]) (args:=[_,_]) (K:=[]) (rst:=[_]) E258 rfl rfl rfl ZC (ref02_plus_ok x_10 x_19 _ _ hr_23) rfl (fun u_24 Ku_24 Hu_24 hRu_24 hleu_24 hfu_24 => ?_)
 obtain ⟨rfl,rfl,rfl,-⟩:=hRu_24
 refine Run.ll_s [] 7 ZF rfl (ZA rfl rfl (R.xor32 (a:=x_13) (b:=x_22) rfl rfl) ?_)
 obtain ⟨x_25,hr_26,hx⟩:=ZD hx
 refine ZI (vs:=[_,_]) (args:=[_,_]) (K:=[]) (rst:=[_]) E259 rfl rfl rfl ZC (ref02_left_ok (x_13 ^^^ x_22) 6 _ _ hr_26) rfl (fun u_27 Ku_27 Hu_27 hRu_27 hleu_27 hfu_27 => ?_)
 obtain ⟨rfl,rfl,rfl,-⟩:=hRu_27
 refine Run.ll_s [] 9 ZF rfl (ZA rfl rfl (R.bldA (vs:=[(0,.int .u32 (x_16.toNat : Int)),(1,.int .u32 (x_25.toNat : Int)),(2,.int .u32 (x_22.toNat : Int)),(3,.int .u32 (x_19.toNat : Int))]) (cells:=#[.int .u32 (x_16.toNat : Int),.int .u32 (x_25.toNat : Int),.int .u32 (x_22.toNat : Int),.int .u32 (x_19.toNat : Int)]) Z156 B156 rfl rfl rfl rfl) (Run.lnz_s [0] 4 ZF rfl (ZJ (vs:=[.agg #[.int .u32 (x_16.toNat : Int),.int .u32 (x_25.toNat : Int),.int .u32 (x_22.toNat : Int),.int .u32 (x_19.toNat : Int)]]) (K:=[]) (rst:=[_]) (.inl rfl) rfl rfl (Zn 0 rfl rfl S156 rfl) ZC ?_)))
 obtain rfl:=Option.some.inj hx
 exact ⟨rfl,rfl,rfl,trivial⟩

set_option maxHeartbeats 8000000 in
theorem ref02_Four_ok (p_1 : List UInt8) (H : Heaplet) {aa_2 : Option Addr} {na_2 : Nat} {ca_2 : Nat} (ha_2 : IsSlice H RU8 1 (.slice aa_2 na_2 ca_2) p_1) (r : A4 UInt32) (hx : ref02_Four p_1 = some r) :
  Does Tryz.prog 168 #[.slice aa_2 na_2 ca_2] [] H (fun u K' H' => u = .agg #[.int .u32 (r.e0.toNat : Int),.int .u32 (r.e1.toNat : Int),.int .u32 (r.e2.toNat : Int),.int .u32 (r.e3.toNat : Int)] ∧ K' = [] ∧ H = H' ∧ True):=by
 refine Does.enterL (vs:=[.slice aa_2 na_2 ca_2]) (l:=[(0,.slice aa_2 na_2 ca_2)]) Tryz.func168 rfl rfl ⟨rfl,trivial⟩ (fun w hlt => ?_)
 unfold ref02_Four at hx
 refine Run.cl [] 2 ZF rfl (JL.alloc Z156 rfl (fun b_3 hb_3 => Run.ll_s [] 4 ZF rfl (ZA rfl rfl (R.bldA (vs:=[(0,.int .u32 ((1 : UInt32).toNat : Int)),(1,.int .u32 ((2 : UInt32).toNat : Int)),(2,.int .u32 ((3 : UInt32).toNat : Int)),(3,.int .u32 ((4 : UInt32).toNat : Int))]) (cells:=#[.int .u32 ((1 : UInt32).toNat : Int),.int .u32 ((2 : UInt32).toNat : Int),.int .u32 ((3 : UInt32).toNat : Int),.int .u32 ((4 : UInt32).toNat : Int)]) Z156 B156 rfl rfl rfl rfl) (JL.alloc Z156 rfl (fun b_4 hb_4 => Run.lc_s [0] 9 ZF rfl ?_)))))
 obtain ⟨t_5,ht_7,hx⟩:=ZD hx
 refine JC.cut (fun l o g => l = [(0,.slice aa_2 na_2 ca_2),(2,.pointer (some ⟨b_3,0,none⟩)),(3,.pointer (some ⟨b_4,0,none⟩))] ∧ o = [[(b_3,.cells #[.int .u32 ((0 : UInt32).toNat : Int),.int .u32 ((0 : UInt32).toNat : Int),.int .u32 ((0 : UInt32).toNat : Int),.int .u32 ((0 : UInt32).toNat : Int)] 156 (0,0))],[(b_4,.cells #[.int .u32 (t_5.1.toNat : Int),.int .u32 (t_5.2.1.toNat : Int),.int .u32 (t_5.2.2.1.toNat : Int),.int .u32 (t_5.2.2.2.toNat : Int)] 156 (0,0))]] ∧ H = g) ?_ ?_
 ·
  rintro _ _ _ ⟨rfl,rfl,rfl⟩
  refine Run.nl_s [] 3 ZF rfl (ZA rfl rfl (R.ixA 1 U156 S27 rfl rfl rfl) (Run.llz [1] 2 ZF rfl (ZA rfl rfl (ZV U26 rfl (IsSlice.long ha_2)) (ZA rfl rfl (R.cv_i64_u32 U3 U27 rfl) (ZA rfl rfl (R.xor32 (a:=t_5.2.1) (b:=u32i (p_1.length : Int)) rfl rfl) (ZA rfl rfl (R.ixA 1 U156 S27 rfl rfl rfl) (Run.ll_s [1,1] 6 ZF rfl ?_)))))))
  obtain ⟨x_11,hr_12,hx⟩:=ZD hx
  refine ZI (vs:=[_]) (args:=[_]) (K:=[]) (rst:=[_,_]) E221 rfl rfl rfl ZC (ref02_Turn_ok (A4.mk t_5.1 (t_5.2.1 ^^^ (u32i (p_1.length : Int))) t_5.2.2.1 t_5.2.2.2) _ _ hr_12) rfl (fun u_13 Ku_13 Hu_13 hRu_13 hleu_13 hfu_13 => ?_)
  obtain ⟨rfl,rfl,rfl,-⟩:=hRu_13
  obtain ⟨x_14,hr_15,hx⟩:=ZD hx
  refine ZI (vs:=[_]) (args:=[_]) (K:=[]) (rst:=[_,_]) E221 rfl rfl rfl ZC (ref02_Turn_ok x_11 _ _ hr_15) rfl (fun u_16 Ku_16 Hu_16 hRu_16 hleu_16 hfu_16 => ?_)
  obtain ⟨rfl,rfl,rfl,-⟩:=hRu_16
  obtain ⟨x_17,hr_18,hx⟩:=ZD hx
  refine ZI (vs:=[_]) (args:=[_]) (K:=[]) (rst:=[_,_]) E221 rfl rfl rfl ZC (ref02_Turn_ok x_14 _ _ hr_18) rfl (fun u_19 Ku_19 Hu_19 hRu_19 hleu_19 hfu_19 => ?_)
  obtain ⟨rfl,rfl,rfl,-⟩:=hRu_19
  obtain ⟨x_20,hr_21,hx⟩:=ZD hx
  refine ZI (vs:=[_]) (args:=[_]) (K:=[]) (rst:=[_,_]) E221 rfl rfl rfl ZC (ref02_Turn_ok x_17 _ _ hr_21) rfl (fun u_22 Ku_22 Hu_22 hRu_22 hleu_22 hfu_22 => ?_)
  obtain ⟨rfl,rfl,rfl,-⟩:=hRu_22
  refine Run.ll_s [1,1] 6 ZF rfl ?_
  obtain ⟨x_23,hr_24,hx⟩:=ZD hx
  refine ZI (vs:=[_]) (args:=[_]) (K:=[]) (rst:=[_,_]) E221 rfl rfl rfl ZC (ref02_Turn_ok x_20 _ _ hr_24) rfl (fun u_25 Ku_25 Hu_25 hRu_25 hleu_25 hfu_25 => ?_)
  obtain ⟨rfl,rfl,rfl,-⟩:=hRu_25
  obtain ⟨x_26,hr_27,hx⟩:=ZD hx
  refine ZI (vs:=[_]) (args:=[_]) (K:=[]) (rst:=[_,_]) E221 rfl rfl rfl ZC (ref02_Turn_ok x_23 _ _ hr_27) rfl (fun u_28 Ku_28 Hu_28 hRu_28 hleu_28 hfu_28 => ?_)
  obtain ⟨rfl,rfl,rfl,-⟩:=hRu_28
  obtain ⟨x_29,hr_30,hx⟩:=ZD hx
  refine ZI (vs:=[_]) (args:=[_]) (K:=[]) (rst:=[_,_]) E221 rfl rfl rfl ZC (ref02_Turn_ok x_26 _ _ hr_30) rfl (fun u_31 Ku_31 Hu_31 hRu_31 hleu_31 hfu_31 => ?_)
  obtain ⟨rfl,rfl,rfl,-⟩:=hRu_31
  obtain ⟨x_32,hr_33,hx⟩:=ZD hx
  refine ZI (vs:=[_]) (args:=[_]) (K:=[]) (rst:=[_,_]) E221 rfl rfl rfl ZC (ref02_Turn_ok x_29 _ _ hr_33) rfl (fun u_34 Ku_34 Hu_34 hRu_34 hleu_34 hfu_34 => ?_)
  obtain ⟨rfl,rfl,rfl,-⟩:=hRu_34
  refine Run.lnz_s [0] 4 ZF rfl (ZJ (vs:=[.agg #[.int .u32 (x_32.e0.toNat : Int),.int .u32 (x_32.e1.toNat : Int),.int .u32 (x_32.e2.toNat : Int),.int .u32 (x_32.e3.toNat : Int)]]) (K:=[]) (rst:=[_,_]) (.inl rfl) rfl rfl (Zn 0 rfl rfl S156 rfl) ZC ?_)
  obtain rfl:=Option.some.inj hx
  exact ⟨rfl,rfl,rfl,trivial⟩
 ·
  have hxo_6:=hx; clear hx; have hx:=ht_7; clear ht_7
  refine JC.block (Zc 1 rfl (Zf (fun n l o g => ∃ s_8 : UInt32 × UInt32 × UInt32 × UInt32 × Int,l = [(0,.slice aa_2 na_2 ca_2),(2,.pointer (some ⟨b_3,0,none⟩)),(3,.pointer (some ⟨b_4,0,none⟩)),(4,.int .i64 s_8.2.2.2.2)] ∧ o = [[(b_3,.cells #[.int .u32 ((0 : UInt32).toNat : Int),.int .u32 ((0 : UInt32).toNat : Int),.int .u32 ((0 : UInt32).toNat : Int),.int .u32 ((0 : UInt32).toNat : Int)] 156 (0,0))],[(b_4,.cells #[.int .u32 (s_8.1.toNat : Int),.int .u32 (s_8.2.1.toNat : Int),.int .u32 (s_8.2.2.1.toNat : Int),.int .u32 (s_8.2.2.2.1.toNat : Int)] 156 (0,0))]] ∧ H = g ∧ run (ref02_Four_l1 p_1) n s_8 = some t_5) FUEL ?_ ⟨((1 : UInt32),(2 : UInt32),(3 : UInt32),(4 : UInt32),0),rfl,rfl,rfl,hx⟩ ⟨rfl,rfl,rfl,rfl,trivial⟩ ?_))
  ·
   rintro _ _ _ ⟨s_8,rfl,rfl,rfl,hn_9⟩
   exact Ze hn_9
  ·
   rintro n_10 _ _ _ ⟨s_8,rfl,rfl,rfl,hn_9⟩
   clear hx; obtain ⟨oo_12,hx,hd_11⟩:=Zd hn_9
   unfold ref02_Four_l1 at hx
   refine Run.cl [] 5 ZF rfl (ZA rfl rfl (ZV U26 rfl (IsSlice.long ha_2)) (Run.lcz_s [] 3 ZF rfl (ZM rfl (fun c_11 => ?_) (fun c_11 => ?_))))
   ·
    replace hx:=ZK c_11 hx
    refine Run.cc_s [] 5 ZF rfl ?_
    obtain ⟨t_12,ht_14,hx⟩:=ZD hx
    refine JC.cut (fun l o g => l = [(0,.slice aa_2 na_2 ca_2),(2,.pointer (some ⟨b_3,0,none⟩)),(3,.pointer (some ⟨b_4,0,none⟩)),(4,.int .i64 s_8.2.2.2.2)] ∧ o = [[(b_3,.cells #[.int .u32 ((0 : UInt32).toNat : Int),.int .u32 ((0 : UInt32).toNat : Int),.int .u32 ((0 : UInt32).toNat : Int),.int .u32 ((0 : UInt32).toNat : Int)] 156 (0,0))],[(b_4,.cells #[.int .u32 (t_12.toNat : Int),.int .u32 (s_8.2.1.toNat : Int),.int .u32 (s_8.2.2.1.toNat : Int),.int .u32 (s_8.2.2.2.1.toNat : Int)] 156 (0,0))]] ∧ H = g) ?_ ?_
    ·
     rintro _ _ _ ⟨rfl,rfl,rfl⟩
     refine Run.nc_s [] 2 ZF rfl ?_
     obtain ⟨t_21,ht_23,hx⟩:=ZD hx
     refine JC.cut (fun l o g => l = [(0,.slice aa_2 na_2 ca_2),(2,.pointer (some ⟨b_3,0,none⟩)),(3,.pointer (some ⟨b_4,0,none⟩)),(4,.int .i64 s_8.2.2.2.2)] ∧ o = [[(b_3,.cells #[.int .u32 ((0 : UInt32).toNat : Int),.int .u32 ((0 : UInt32).toNat : Int),.int .u32 ((0 : UInt32).toNat : Int),.int .u32 ((0 : UInt32).toNat : Int)] 156 (0,0))],[(b_4,.cells #[.int .u32 (t_12.toNat : Int),.int .u32 (s_8.2.1.toNat : Int),.int .u32 (t_21.toNat : Int),.int .u32 (s_8.2.2.2.1.toNat : Int)] 156 (0,0))]] ∧ H = g) ?_ ?_
     ·
      rintro _ _ _ ⟨rfl,rfl,rfl⟩
      refine Run.nlz_s [1] 3 ZF rfl ?_
      obtain ⟨x_30,hr_31,hx⟩:=ZD hx
      refine ZI (vs:=[_]) (args:=[_]) (K:=[]) (rst:=[_,_]) E221 rfl rfl rfl ZC (ref02_Turn_ok (A4.mk t_12 s_8.2.1 t_21 s_8.2.2.2.1) _ _ hr_31) rfl (fun u_32 Ku_32 Hu_32 hRu_32 hleu_32 hfu_32 => ?_)
      obtain ⟨rfl,rfl,rfl,-⟩:=hRu_32
      obtain ⟨x_33,hr_34,hx⟩:=ZD hx
      refine ZI (vs:=[_]) (args:=[_]) (K:=[]) (rst:=[_,_]) E221 rfl rfl rfl ZC (ref02_Turn_ok x_30 _ _ hr_34) rfl (fun u_35 Ku_35 Hu_35 hRu_35 hleu_35 hfu_35 => ?_)
      obtain ⟨rfl,rfl,rfl,-⟩:=hRu_35
      obtain ⟨x_36,hr_37,hx⟩:=ZD hx
      refine ZI (vs:=[_]) (args:=[_]) (K:=[]) (rst:=[_,_]) E221 rfl rfl rfl ZC (ref02_Turn_ok x_33 _ _ hr_37) rfl (fun u_38 Ku_38 Hu_38 hRu_38 hleu_38 hfu_38 => ?_)
      obtain ⟨rfl,rfl,rfl,-⟩:=hRu_38
      obtain ⟨x_39,hr_40,hx⟩:=ZD hx
      refine ZI (vs:=[_]) (args:=[_]) (K:=[]) (rst:=[_,_]) E221 rfl rfl rfl ZC (ref02_Turn_ok x_36 _ _ hr_40) rfl (fun u_41 Ku_41 Hu_41 hRu_41 hleu_41 hfu_41 => ?_)
      obtain ⟨rfl,rfl,rfl,-⟩:=hRu_41
      refine Run.lnz_bs [1] 9 ZF rfl ?_
      replace hx:=ZX hd_11 hx
      refine ZH 1 rfl (ZH 1 rfl ?_)
      exact JN.cut ⟨(x_39.e0,x_39.e1,x_39.e2,x_39.e3,w64 (s_8.2.2.2.2 + 8)),rfl,rfl,rfl,hx⟩ ⟨rfl,rfl,rfl,rfl,trivial⟩ rfl rfl
     ·
      have hxo_22:=hx; clear hx; have hx:=ht_23; clear ht_23
      refine JC.draw (so:=[_]) 9 rfl Mixed ⟨⟨0,rfl⟩,trivial⟩ (JA.val ⟨by kernel_rfl,by kernel_rfl⟩ (ZE _) (i:=0) rfl ⟨by kernel_rfl,by kernel_rfl,rfl⟩ trivial (ZB (Hle.refl _) ⟨⟨0,rfl⟩,trivial⟩) (R.ixA 2 U156 S27 rfl rfl rfl) rfl (JA.val ⟨by kernel_rfl,by kernel_rfl⟩ (ZE _) (i:=2) rfl ⟨by kernel_rfl,by kernel_rfl,rfl⟩ trivial (ZB (Hle.refl _) ⟨⟨0,rfl⟩,trivial⟩) (ZZ rfl) rfl (JA.val ⟨by kernel_rfl,by kernel_rfl⟩ (ZE _) (i:=3) rfl ⟨by kernel_rfl,by kernel_rfl,rfl⟩ trivial (ZB (Hle.refl _) ⟨⟨0,rfl⟩,trivial⟩) (ZZ rfl) rfl (JA.val ⟨by kernel_rfl,by kernel_rfl⟩ (ZE _) (i:=4) rfl ⟨by kernel_rfl,by kernel_rfl,rfl⟩ trivial (ZB (Hle.refl _) ⟨⟨0,rfl⟩,trivial⟩) (R.add_i rfl rfl) rfl (JA.two (i:=1) (j:=5) (by kernel_rfl) ?_ ?_)))))
      ·
       refine JO.step rfl trivial rfl (fun K hK => Run.lnz [1] 2 ZF rfl (hK _ _ _ (ZB (Hle.refl _) ⟨⟨0,rfl⟩,trivial⟩) (JA.one (i:=5) (by kernel_rfl) (JO.step rfl trivial rfl (fun K hK => ?_)))))
       obtain ⟨x_24,hr_25,hx⟩:=ZD hx
       refine ZI (vs:=[_,_]) (args:=[_,_]) (K:=[]) (rst:=[_,_]) E220 rfl rfl rfl ZC (ref02_word_ok p_1 (w64 (s_8.2.2.2.2 + 4)) _ ha_2 _ hr_25) rfl (fun u_26 Ku_26 Hu_26 hRu_26 hleu_26 hfu_26 => ?_)
       obtain ⟨rfl,rfl,rfl,-⟩:=hRu_26
       refine ZW (hK _ _ _ (ZB (Hle.refl _) ⟨⟨0,rfl⟩,trivial⟩) (JA.val ⟨by kernel_rfl,by kernel_rfl⟩ (ZE _) (i:=6) rfl ⟨by kernel_rfl,by kernel_rfl,rfl⟩ trivial (ZB (Hle.refl _) ⟨⟨0,rfl⟩,trivial⟩) (R.xor32 (a:=s_8.2.2.1) (b:=x_24) rfl rfl) rfl (JA.val ⟨by kernel_rfl,by kernel_rfl⟩ (ZE _) (i:=7) rfl ⟨by kernel_rfl,by kernel_rfl,rfl⟩ trivial (ZB (Hle.refl _) ⟨⟨0,rfl⟩,trivial⟩) (R.ixA 2 U156 S27 rfl rfl rfl) rfl (JA.one (i:=8) (by kernel_rfl) (JO.step rfl trivial rfl (fun K hK => ?_))))))
       refine Run.lnz [1] 2 ZF rfl (hK _ _ _ (ZB (Hle.refl _) ⟨⟨0,rfl⟩,trivial⟩) (Zg (by kernel_rfl) ?_))
       obtain rfl:=Option.some.inj hx
       refine ZH 1 rfl (ZH 1 rfl ?_)
       exact JN.cut ⟨rfl,rfl,rfl⟩ ⟨rfl,rfl,rfl,rfl,trivial⟩ rfl rfl
      ·
       refine JO.step rfl trivial rfl (fun K hK => ?_)
       obtain ⟨x_27,hr_28,hx⟩:=ZD hx
       refine ZI (vs:=[_,_]) (args:=[_,_]) (K:=[]) (rst:=[_,_]) E220 rfl rfl rfl ZC (ref02_word_ok p_1 (w64 (s_8.2.2.2.2 + 4)) _ ha_2 _ hr_28) rfl (fun u_29 Ku_29 Hu_29 hRu_29 hleu_29 hfu_29 => ?_)
       obtain ⟨rfl,rfl,rfl,-⟩:=hRu_29
       refine ZW (hK _ _ _ (ZB (Hle.refl _) ⟨⟨0,rfl⟩,trivial⟩) (JA.one (i:=1) (by kernel_rfl) (JO.step rfl trivial rfl (fun K hK => ?_))))
       refine Run.lnz [1] 2 ZF rfl (hK _ _ _ (ZB (Hle.refl _) ⟨⟨0,rfl⟩,trivial⟩) (JA.val ⟨by kernel_rfl,by kernel_rfl⟩ (ZE _) (i:=6) rfl ⟨by kernel_rfl,by kernel_rfl,rfl⟩ trivial (ZB (Hle.refl _) ⟨⟨0,rfl⟩,trivial⟩) (R.xor32 (a:=s_8.2.2.1) (b:=x_27) rfl rfl) rfl (JA.val ⟨by kernel_rfl,by kernel_rfl⟩ (ZE _) (i:=7) rfl ⟨by kernel_rfl,by kernel_rfl,rfl⟩ trivial (ZB (Hle.refl _) ⟨⟨0,rfl⟩,trivial⟩) (R.ixA 2 U156 S27 rfl rfl rfl) rfl (JA.one (i:=8) (by kernel_rfl) (JO.step rfl trivial rfl (fun K hK => ?_))))))
       refine Run.lnz [1] 2 ZF rfl (hK _ _ _ (ZB (Hle.refl _) ⟨⟨0,rfl⟩,trivial⟩) (Zg (by kernel_rfl) ?_))
       obtain rfl:=Option.some.inj hx
       refine ZH 1 rfl (ZH 1 rfl ?_)
       exact JN.cut ⟨rfl,rfl,rfl⟩ ⟨rfl,rfl,rfl,rfl,trivial⟩ rfl rfl
    ·
     have hxo_13:=hx; clear hx; have hx:=ht_14; clear ht_14
     refine JC.draw (so:=[_]) 8 rfl Mixed ⟨⟨0,rfl⟩,trivial⟩ (JA.val ⟨by kernel_rfl,by kernel_rfl⟩ (ZE _) (i:=0) rfl ⟨by kernel_rfl,by kernel_rfl,rfl⟩ trivial (ZB (Hle.refl _) ⟨⟨0,rfl⟩,trivial⟩) (R.ixA 0 U156 S27 rfl rfl rfl) rfl (JA.val ⟨by kernel_rfl,by kernel_rfl⟩ (ZE _) (i:=2) rfl ⟨by kernel_rfl,by kernel_rfl,rfl⟩ trivial (ZB (Hle.refl _) ⟨⟨0,rfl⟩,trivial⟩) (ZZ rfl) rfl (JA.val ⟨by kernel_rfl,by kernel_rfl⟩ (ZE _) (i:=3) rfl ⟨by kernel_rfl,by kernel_rfl,rfl⟩ trivial (ZB (Hle.refl _) ⟨⟨0,rfl⟩,trivial⟩) (ZZ rfl) rfl (JA.two (i:=1) (j:=4) (by kernel_rfl) ?_ ?_))))
     ·
      refine JO.step rfl trivial rfl (fun K hK => Run.lnz [1] 2 ZF rfl (hK _ _ _ (ZB (Hle.refl _) ⟨⟨0,rfl⟩,trivial⟩) (JA.one (i:=4) (by kernel_rfl) (JO.step rfl trivial rfl (fun K hK => ?_)))))
      obtain ⟨x_15,hr_16,hx⟩:=ZD hx
      refine ZI (vs:=[_,_]) (args:=[_,_]) (K:=[]) (rst:=[_,_]) E220 rfl rfl rfl ZC (ref02_word_ok p_1 s_8.2.2.2.2 _ ha_2 _ hr_16) rfl (fun u_17 Ku_17 Hu_17 hRu_17 hleu_17 hfu_17 => ?_)
      obtain ⟨rfl,rfl,rfl,-⟩:=hRu_17
      refine ZW (hK _ _ _ (ZB (Hle.refl _) ⟨⟨0,rfl⟩,trivial⟩) (JA.val ⟨by kernel_rfl,by kernel_rfl⟩ (ZE _) (i:=5) rfl ⟨by kernel_rfl,by kernel_rfl,rfl⟩ trivial (ZB (Hle.refl _) ⟨⟨0,rfl⟩,trivial⟩) (R.xor32 (a:=s_8.1) (b:=x_15) rfl rfl) rfl (JA.val ⟨by kernel_rfl,by kernel_rfl⟩ (ZE _) (i:=6) rfl ⟨by kernel_rfl,by kernel_rfl,rfl⟩ trivial (ZB (Hle.refl _) ⟨⟨0,rfl⟩,trivial⟩) (R.ixA 0 U156 S27 rfl rfl rfl) rfl (JA.one (i:=7) (by kernel_rfl) (JO.step rfl trivial rfl (fun K hK => ?_))))))
      refine Run.lnz [1] 2 ZF rfl (hK _ _ _ (ZB (Hle.refl _) ⟨⟨0,rfl⟩,trivial⟩) (Zg (by kernel_rfl) ?_))
      obtain rfl:=Option.some.inj hx
      refine ZH 1 rfl (ZH 1 rfl ?_)
      exact JN.cut ⟨rfl,rfl,rfl⟩ ⟨rfl,rfl,rfl,rfl,trivial⟩ rfl rfl
     ·
      refine JO.step rfl trivial rfl (fun K hK => ?_)
      obtain ⟨x_18,hr_19,hx⟩:=ZD hx
      refine ZI (vs:=[_,_]) (args:=[_,_]) (K:=[]) (rst:=[_,_]) E220 rfl rfl rfl ZC (ref02_word_ok p_1 s_8.2.2.2.2 _ ha_2 _ hr_19) rfl (fun u_20 Ku_20 Hu_20 hRu_20 hleu_20 hfu_20 => ?_)
      obtain ⟨rfl,rfl,rfl,-⟩:=hRu_20
      refine ZW (hK _ _ _ (ZB (Hle.refl _) ⟨⟨0,rfl⟩,trivial⟩) (JA.one (i:=1) (by kernel_rfl) (JO.step rfl trivial rfl (fun K hK => ?_))))
      refine Run.lnz [1] 2 ZF rfl (hK _ _ _ (ZB (Hle.refl _) ⟨⟨0,rfl⟩,trivial⟩) (JA.val ⟨by kernel_rfl,by kernel_rfl⟩ (ZE _) (i:=5) rfl ⟨by kernel_rfl,by kernel_rfl,rfl⟩ trivial (ZB (Hle.refl _) ⟨⟨0,rfl⟩,trivial⟩) (R.xor32 (a:=s_8.1) (b:=x_18) rfl rfl) rfl (JA.val ⟨by kernel_rfl,by kernel_rfl⟩ (ZE _) (i:=6) rfl ⟨by kernel_rfl,by kernel_rfl,rfl⟩ trivial (ZB (Hle.refl _) ⟨⟨0,rfl⟩,trivial⟩) (R.ixA 0 U156 S27 rfl rfl rfl) rfl (JA.one (i:=7) (by kernel_rfl) (JO.step rfl trivial rfl (fun K hK => ?_))))))
      refine Run.lnz [1] 2 ZF rfl (hK _ _ _ (ZB (Hle.refl _) ⟨⟨0,rfl⟩,trivial⟩) (Zg (by kernel_rfl) ?_))
      obtain rfl:=Option.some.inj hx
      refine ZH 1 rfl (ZH 1 rfl ?_)
      exact JN.cut ⟨rfl,rfl,rfl⟩ ⟨rfl,rfl,rfl,rfl,trivial⟩ rfl rfl
   ·
    replace hx:=ZL c_11 hx
    refine Run.cnz_k [] 2 ZF rfl ?_
    obtain rfl:=Za hd_11 hx
    refine Run.nnz_kb [] 2 ZF rfl (ZH 1 rfl (ZH 1 rfl ?_))
    exact JN.cut ⟨rfl,rfl,rfl⟩ ⟨rfl,rfl,rfl,trivial⟩ rfl rfl

set_option maxHeartbeats 8000000 in
theorem ref02_Sum_ok (p_1 : List UInt8) (H : Heaplet) {aa_2 : Option Addr} {na_2 : Nat} {ca_2 : Nat} (ha_2 : IsSlice H RU8 1 (.slice aa_2 na_2 ca_2) p_1) (r : UInt32) (hx : ref02_Sum p_1 = some r) :
  Does Tryz.prog 107 #[.slice aa_2 na_2 ca_2] [] H (fun u K' H' => u = .int .u32 (r.toNat : Int) ∧ K' = [] ∧ H = H' ∧ True):=by
 refine Does.enterL (vs:=[.slice aa_2 na_2 ca_2]) (l:=[(0,.slice aa_2 na_2 ca_2)]) Tryz.func107 rfl rfl ⟨rfl,trivial⟩ (fun w hlt => ?_)
 unfold ref02_Sum at hx
 refine Run.cl [] 8 ZF rfl ?_
 obtain ⟨x_3,hr_4,hx⟩:=ZD hx
 refine ZI (vs:=[_]) (args:=[_]) (K:=[]) (rst:=[]) E168 rfl rfl rfl ZC (ref02_Four_ok p_1 _ ha_2 _ hr_4) rfl (fun u_5 Ku_5 Hu_5 hRu_5 hleu_5 hfu_5 => ?_)
 obtain ⟨rfl,rfl,rfl,-⟩:=hRu_5
 refine ZA rfl rfl (R.idxAk 0 U156 S27 rfl rfl rfl rfl rfl) (Run.lnz_s [] 4 ZF rfl (ZJ (vs:=[.int .u32 (x_3.e0.toNat : Int)]) (K:=[]) (rst:=[]) (.inl rfl) rfl rfl (ZG rfl rfl) ZC ?_))
 obtain rfl:=Option.some.inj hx
 exact ⟨rfl,rfl,rfl,trivial⟩

set_option maxHeartbeats 8000000 in
theorem ref13_Seen_ok (p_1 : Store) (p_5 : Ptr) (H : Heaplet) {aa_2 : Option Addr} {na_2 : Nat} {ca_2 : Nat} {aa_3 : Option Addr} {na_3 : Nat} {ca_3 : Nat} {aa_4 : Option Addr} {na_4 : Nat} {ca_4 : Nat} (ha_2 : IsSlice H (RSl RU8 1) 1 (.slice aa_2 na_2 ca_2) p_1.Disk.Blocks) (ha_3 : IsSlice H R_Write 2 (.slice aa_3 na_3 ca_3) p_1.Disk.Waits) (ha_4 : IsSlice H RU8 1 (.slice aa_4 na_4 ca_4) p_1.Space) (r : List UInt8 × Int) (hx : ref13_Seen p_1 p_5 = some r) :
  Does Tryz.prog 47 #[.agg #[.slice aa_2 na_2 ca_2,.slice aa_3 na_3 ca_3,.slice aa_4 na_4 ca_4,.int .u32 (p_1.Epoch.toNat : Int),.int .u32 (p_1.Count.toNat : Int)],.agg #[.int .i64 p_5.At,.int .u32 (p_5.Birth.toNat : Int),.int .u32 (p_5.Iv.toNat : Int),.int .u32 (p_5.Tag.toNat : Int),.int .u32 (p_5.Sum.toNat : Int)]] [] H (fun u K' H' => ∃ ao0 : Option Addr,∃ n0 : Nat,∃ cap0 : Nat,∃ K0 : Own,u = .tuple #[.slice ao0 n0 cap0,.int .i64 r.2] ∧ K' = [K0] ∧ H = H' ∧ RowOf (New H H) RU8 0 5 1 (.slice ao0 n0 cap0) r.1 K0 ∧ (∀ p ∈ K0,p.1 ∉ ids (List.flatten [])) ∧ True):=by
 refine Does.enterL (vs:=[.agg #[.slice aa_2 na_2 ca_2,.slice aa_3 na_3 ca_3,.slice aa_4 na_4 ca_4,.int .u32 (p_1.Epoch.toNat : Int),.int .u32 (p_1.Count.toNat : Int)],.agg #[.int .i64 p_5.At,.int .u32 (p_5.Birth.toNat : Int),.int .u32 (p_5.Iv.toNat : Int),.int .u32 (p_5.Tag.toNat : Int),.int .u32 (p_5.Sum.toNat : Int)]]) (l:=[(0,.agg #[.slice aa_2 na_2 ca_2,.slice aa_3 na_3 ca_3,.slice aa_4 na_4 ca_4,.int .u32 (p_1.Epoch.toNat : Int),.int .u32 (p_1.Count.toNat : Int)]),(1,.agg #[.int .i64 p_5.At,.int .u32 (p_5.Birth.toNat : Int),.int .u32 (p_5.Iv.toNat : Int),.int .u32 (p_5.Tag.toNat : Int),.int .u32 (p_5.Sum.toNat : Int)])]) Tryz.func47 rfl rfl ⟨rfl,rfl,trivial⟩ (fun w hlt => ?_)
 unfold ref13_Seen at hx
 refine Run.cl [] 2 ZF rfl (Zk rfl rfl (fun b_6 hb_6 => Zk rfl rfl (fun b_7 hb_7 => Run.ll_s [0] 8 ZF rfl ?_)))
 obtain ⟨x_8,hr_9,hx⟩:=ZD hx
 refine ZI (vs:=[_]) (args:=[_]) (K:=[]) (rst:=[_,_]) E52 rfl rfl rfl ZC (ref10_None_ok p_5 _ _ hr_9) rfl (fun u_10 Ku_10 Hu_10 hRu_10 hleu_10 hfu_10 => ?_)
 obtain ⟨rfl,rfl,rfl,-⟩:=hRu_10
 refine Run.lcz_s [] 2 ZF rfl (ZM rfl (fun c_11 => ?_) (fun c_11 => ?_))
 ·
  replace hx:=ZK c_11 hx
  refine Run.cnz_k [] 8 ZF rfl (Zj (ZJ (vs:=[.slice none 0 0,.int .i64 6]) (K:=[_]) (rst:=[_,_]) (.inl rfl) rfl rfl (ZG rfl (ZG rfl rfl)) (ZO 0 rfl ZC) ?_))
  obtain rfl:=Option.some.inj hx
  exact ⟨none,0,0,[],rfl,rfl,rfl,(ZR _ _ _ _ _),(fun p hp => by cases hp),trivial⟩
 ·
  replace hx:=ZL c_11 hx
  refine Run.cl_s [1,0] 8 ZF rfl ?_
  obtain ⟨x_12,hr_13,hx⟩:=ZD hx
  refine ZI (vs:=[_,_]) (args:=[_,_]) (K:=[]) (rst:=[_,_]) E106 rfl rfl rfl ZC (ref09_Seen_ok (Disk.mk p_1.Disk.Blocks p_1.Disk.Waits) p_5.At _ ha_2 ha_3 _ hr_13) rfl (fun u_14 Ku_14 Hu_14 hRu_14 hleu_14 hfu_14 => ?_)
  obtain ⟨ar_15,nr_15,cr_15,Kr_15,rfl,rfl,rfl,hr_15,hnewr_15,-⟩:=hRu_14
  replace hr_15:=(RowOf.base (ZP (H2:=New H H) RU8.const hr_15) (fun p hp => (hfu_14 p (ZS 0 rfl hp)).resolve_left (hnewr_15 p hp)))
  refine Run.lc_s [] 5 ZF rfl (JC.draw (so:=[_,_]) 5 rfl Mixed ⟨⟨1,rfl⟩,⟨2,rfl⟩,trivial⟩ (JA.val ⟨by kernel_rfl,by kernel_rfl⟩ (ZE _) (i:=0) rfl ⟨by kernel_rfl,by kernel_rfl,rfl⟩ trivial (ZB (Hle.refl _) ⟨⟨1,rfl⟩,⟨2,rfl⟩,trivial⟩) (ZZ rfl) rfl (JA.val ⟨by kernel_rfl,by kernel_rfl⟩ (ZE _) (i:=2) rfl ⟨by kernel_rfl,by kernel_rfl,rfl⟩ trivial (ZB (Hle.refl _) ⟨⟨1,rfl⟩,⟨2,rfl⟩,trivial⟩) (R.fa F31_4 rfl) rfl (JA.val ⟨by kernel_rfl,by kernel_rfl⟩ (ZE _) (i:=3) rfl ⟨by kernel_rfl,by kernel_rfl,rfl⟩ trivial (ZB (Hle.refl _) ⟨⟨1,rfl⟩,⟨2,rfl⟩,trivial⟩) (R.ldo 0 S27 rfl rfl rfl) rfl (JA.one (i:=1) (by kernel_rfl) (JO.step rfl trivial rfl (fun K hK => ?_)))))))
  obtain ⟨x_19,hr_20,hx⟩:=ZD hx
  refine JL.callL2 (vs:=[_]) (v:=.int .u32 (x_19.toNat : Int)) E107 rfl rfl (fun H_18 hle_17 hl_16 => Does.mono (ref02_Sum_ok x_12 _ (Lent.row' 0 hl_16 RU8.mono hle_17 rfl (hr_15.old RU8.mono)) _ hr_20) (fun _ _ _ h => h.1)) rfl (ZW (hK _ _ _ (ZB (Hle.refl _) ⟨⟨1,rfl⟩,⟨2,rfl⟩,trivial⟩) (JA.val ⟨by kernel_rfl,by kernel_rfl⟩ (ZE _) (i:=4) rfl ⟨by kernel_rfl,by kernel_rfl,rfl⟩ trivial (ZB (Hle.refl _) ⟨⟨1,rfl⟩,⟨2,rfl⟩,trivial⟩) (R.neq32 (a:=x_19) (b:=p_5.Sum) rfl rfl) rfl (Zg (by kernel_rfl) (JN.next (ZM rfl (fun c_21 => ?_) (fun c_21 => ?_)))))))
  ·
   replace hx:=ZK c_21 hx
   refine Run.cnz_k [] 8 ZF rfl (Zj (ZJ (vs:=[.slice none 0 0,.int .i64 130]) (K:=[_]) (rst:=[_,_,_]) (.inl rfl) rfl rfl (ZG rfl (ZG rfl rfl)) (ZO 0 rfl ZC) ?_))
   obtain rfl:=Option.some.inj hx
   exact ⟨none,0,0,[],rfl,rfl,rfl,(ZR _ _ _ _ _),(fun p hp => by cases hp),trivial⟩
  ·
   replace hx:=ZL c_21 hx
   refine Run.cl_s [] 5 ZF rfl (JL.seg0 ?_)
   obtain ⟨q_23,hm_24,hl_25,hx⟩:=Zo hx
   refine Zr (HF:=(New H H)) 0 U26 I5 rfl rfl (ZR _ RU8 _ _ _) rfl (SrcF.row 1 U26 rfl hr_15) hm_24 hl_25 rfl (Nat.le_refl _) rfl (fun vr_26 Kr_26 hr_26 => ?_)
   obtain ⟨ar_26,cr_26,rfl⟩:=RowOf.val hr_26
   refine Run.lnz_s [] 5 ZF rfl (ZJ (vs:=[.slice ar_26 q_23.length cr_26,.int .i64 0]) (K:=[_]) (rst:=[_,_,_]) (.inl rfl) rfl rfl (ZG rfl (ZG rfl rfl)) (ZO 0 rfl ZC) ?_)
   obtain rfl:=Option.some.inj hx
   exact ⟨ar_26,q_23.length,cr_26,Kr_26,rfl,rfl,rfl,(ZT (Nat.zero_le _) hr_26),(Zh hr_26 hlt),trivial⟩

set_option maxHeartbeats 8000000 in
theorem ref13_Look_ok (p_1 : Store) (p_5 : Ptr) (H : Heaplet) {aa_2 : Option Addr} {na_2 : Nat} {ca_2 : Nat} {aa_3 : Option Addr} {na_3 : Nat} {ca_3 : Nat} {aa_4 : Option Addr} {na_4 : Nat} {ca_4 : Nat} (ha_2 : IsSlice H (RSl RU8 1) 1 (.slice aa_2 na_2 ca_2) p_1.Disk.Blocks) (ha_3 : IsSlice H R_Write 2 (.slice aa_3 na_3 ca_3) p_1.Disk.Waits) (ha_4 : IsSlice H RU8 1 (.slice aa_4 na_4 ca_4) p_1.Space) (r : List UInt8 × Int) (hx : ref13_Look p_1 p_5 = some r) :
  Does Tryz.prog 10 #[.agg #[.slice aa_2 na_2 ca_2,.slice aa_3 na_3 ca_3,.slice aa_4 na_4 ca_4,.int .u32 (p_1.Epoch.toNat : Int),.int .u32 (p_1.Count.toNat : Int)],.agg #[.int .i64 p_5.At,.int .u32 (p_5.Birth.toNat : Int),.int .u32 (p_5.Iv.toNat : Int),.int .u32 (p_5.Tag.toNat : Int),.int .u32 (p_5.Sum.toNat : Int)]] [] H (fun u K' H' => ∃ ao0 : Option Addr,∃ n0 : Nat,∃ cap0 : Nat,∃ K0 : Own,u = .tuple #[.slice ao0 n0 cap0,.int .i64 r.2] ∧ K' = [K0] ∧ H = H' ∧ RowOf (New H H) RU8 0 5 1 (.slice ao0 n0 cap0) r.1 K0 ∧ (∀ p ∈ K0,p.1 ∉ ids (List.flatten [])) ∧ True):=by
 refine Does.enterL (vs:=[.agg #[.slice aa_2 na_2 ca_2,.slice aa_3 na_3 ca_3,.slice aa_4 na_4 ca_4,.int .u32 (p_1.Epoch.toNat : Int),.int .u32 (p_1.Count.toNat : Int)],.agg #[.int .i64 p_5.At,.int .u32 (p_5.Birth.toNat : Int),.int .u32 (p_5.Iv.toNat : Int),.int .u32 (p_5.Tag.toNat : Int),.int .u32 (p_5.Sum.toNat : Int)]]) (l:=[(0,.agg #[.slice aa_2 na_2 ca_2,.slice aa_3 na_3 ca_3,.slice aa_4 na_4 ca_4,.int .u32 (p_1.Epoch.toNat : Int),.int .u32 (p_1.Count.toNat : Int)]),(1,.agg #[.int .i64 p_5.At,.int .u32 (p_5.Birth.toNat : Int),.int .u32 (p_5.Iv.toNat : Int),.int .u32 (p_5.Tag.toNat : Int),.int .u32 (p_5.Sum.toNat : Int)])]) Tryz.func10 rfl rfl ⟨rfl,rfl,trivial⟩ (fun w hlt => ?_)
 unfold ref13_Look at hx
 refine Run.cl [] 2 ZF rfl (Zk rfl rfl (fun b_6 hb_6 => Zk rfl rfl (fun b_7 hb_7 => Run.ll_s [1] 8 ZF rfl ?_)))
 obtain ⟨x_8,hr_9,hx⟩:=ZD hx
 refine ZI (vs:=[_]) (args:=[_]) (K:=[]) (rst:=[_,_]) E45 rfl rfl rfl ZC (ref13_May_ok p_1 _ ha_2 ha_3 ha_4 _ hr_9) rfl (fun u_10 Ku_10 Hu_10 hRu_10 hleu_10 hfu_10 => ?_)
 obtain ⟨rfl,rfl,rfl,-⟩:=hRu_10
 refine Run.llz [] 2 ZF rfl (ZQ (t:=9) rfl (fun c_11 => ?_) (fun c_11 => ?_))
 ·
  replace hx:=ZK c_11 hx
  refine Run.lnz_sk [] 15 ZF rfl (Zj (ZJ (vs:=[.slice none 0 0,.int .i64 8]) (K:=[_]) (rst:=[_,_]) (.inl rfl) rfl rfl (ZG rfl (ZG rfl rfl)) (ZO 0 rfl ZC) ?_))
  obtain rfl:=Option.some.inj hx
  exact ⟨none,0,0,[],rfl,rfl,rfl,(ZR _ _ _ _ _),(fun p hp => by cases hp),trivial⟩
 ·
  replace hx:=ZL c_11 hx
  refine Run.llz [0] 3 ZF rfl ?_
  obtain ⟨x_12,hr_13,hx⟩:=ZD hx
  refine ZI (vs:=[_]) (args:=[_]) (K:=[]) (rst:=[_,_]) E46 rfl rfl rfl ZC (ref10_May_ok p_5 _ _ hr_13) rfl (fun u_14 Ku_14 Hu_14 hRu_14 hleu_14 hfu_14 => ?_)
  obtain ⟨rfl,rfl,rfl,-⟩:=hRu_14
  refine Run.lcz_s [] 5 ZF rfl (ZM rfl (fun c_15 => ?_) (fun c_15 => ?_))
  ·
   replace hx:=ZK c_15 hx
   refine Run.cnz_k [] 8 ZF rfl (Zj (ZJ (vs:=[.slice none 0 0,.int .i64 8]) (K:=[_]) (rst:=[_,_]) (.inl rfl) rfl rfl (ZG rfl (ZG rfl rfl)) (ZO 0 rfl ZC) ?_))
   obtain rfl:=Option.some.inj hx
   exact ⟨none,0,0,[],rfl,rfl,rfl,(ZR _ _ _ _ _),(fun p hp => by cases hp),trivial⟩
  ·
   replace hx:=ZL c_15 hx
   refine Run.cl_s [1,0] 6 ZF rfl ?_
   obtain ⟨x_16,hr_17,hx⟩:=ZD hx
   refine ZI (vs:=[_,_]) (args:=[_,_]) (K:=[]) (rst:=[_,_]) E47 rfl rfl rfl ZC (ref13_Seen_ok p_1 p_5 _ ha_2 ha_3 ha_4 _ hr_17) rfl (fun u_18 Ku_18 Hu_18 hRu_18 hleu_18 hfu_18 => ?_)
   obtain ⟨ar_19,nr_19,cr_19,Kr_19,rfl,rfl,rfl,hr_19,hnewr_19,-⟩:=hRu_18
   replace hr_19:=(RowOf.base (ZP (H2:=New H H) RU8.const hr_19) (fun p hp => (hfu_18 p (ZS 0 rfl hp)).resolve_left (hnewr_19 p hp)))
   refine Run.lnz_s [] 7 ZF rfl (ZJ (vs:=[.slice ar_19 nr_19 cr_19,.int .i64 x_16.2]) (K:=[_]) (rst:=[_,_]) (.inl rfl) rfl rfl (ZG rfl (ZG rfl rfl)) (ZO 0 rfl ZC) ?_)
   obtain rfl:=Option.some.inj hx
   exact ⟨ar_19,nr_19,cr_19,Kr_19,rfl,rfl,rfl,(ZT (Nat.zero_le _) hr_19),(Zh hr_19 hlt),trivial⟩

set_option maxHeartbeats 8000000 in
theorem code_Put_ok (p_1 : Int) (p_2 : Int) (H : Heaplet) (r : List UInt8 × Int) (hx : code_Put p_1 p_2 = some r) :
  Does Tryz.prog 170 #[.int .i64 p_1,.int .i64 p_2] [] H (fun u K' H' => ∃ ao0 : Option Addr,∃ n0 : Nat,∃ cap0 : Nat,∃ K0 : Own,u = .tuple #[.slice ao0 n0 cap0,.int .i64 r.2] ∧ K' = [K0] ∧ H = H' ∧ RowOf (New H H) RU8 0 5 1 (.slice ao0 n0 cap0) r.1 K0 ∧ (∀ p ∈ K0,p.1 ∉ ids (List.flatten [])) ∧ True):=by
 refine Does.enterL (vs:=[.int .i64 p_1,.int .i64 p_2]) (l:=[(0,.int .i64 p_1),(1,.int .i64 p_2)]) Tryz.func170 rfl rfl ⟨rfl,rfl,trivial⟩ (fun w hlt => ?_)
 unfold code_Put at hx
 refine Run.cl [] 10 ZF rfl ?_
 obtain ⟨x_3,hr_4,hx⟩:=ZD hx
 refine ZI (vs:=[_]) (args:=[_]) (K:=[]) (rst:=[]) E202 rfl rfl rfl ZC (code_sized_ok p_2 _ _ hr_4) rfl (fun u_5 Ku_5 Hu_5 hRu_5 hleu_5 hfu_5 => ?_)
 obtain ⟨rfl,rfl,rfl,-⟩:=hRu_5
 refine Run.llz [] 2 ZF rfl (ZQ (t:=10) rfl (fun c_6 => ?_) (fun c_6 => ?_))
 ·
  replace hx:=ZK c_6 hx
  refine Run.lnz_sk [] 21 ZF rfl (Zj (ZJ (vs:=[.slice none 0 0,.int .i64 2]) (K:=[_]) (rst:=[]) (.inl rfl) rfl rfl (ZG rfl (ZG rfl rfl)) (ZO 0 rfl ZC) ?_))
  obtain rfl:=Option.some.inj hx
  exact ⟨none,0,0,[],rfl,rfl,rfl,(ZR _ _ _ _ _),(fun p hp => by cases hp),trivial⟩
 ·
  replace hx:=ZL c_6 hx
  refine Run.llz [] 6 ZF rfl (ZQ (t:=14) rfl (fun c_7 => ?_) (fun c_7 => ?_))
  ·
   replace hx:=ZK c_7 hx
   refine Run.lnz_sk [] 17 ZF rfl (Zj (ZJ (vs:=[.slice none 0 0,.int .i64 2]) (K:=[_]) (rst:=[]) (.inl rfl) rfl rfl (ZG rfl (ZG rfl rfl)) (ZO 0 rfl ZC) ?_))
   obtain rfl:=Option.some.inj hx
   exact ⟨none,0,0,[],rfl,rfl,rfl,(ZR _ _ _ _ _),(fun p hp => by cases hp),trivial⟩
  ·
   replace hx:=ZL c_7 hx
   refine Run.llz [] 7 ZF rfl ?_
   obtain ⟨hz_8,hx⟩:=chk_some hx
   refine ZA rfl rfl (R.shl_i (n:=(w64 (8 * p_2))) rfl rfl hz_8) (Run.lcz_s [] 5 ZF rfl (ZM rfl (fun c_9 => ?_) (fun c_9 => ?_)))
   ·
    replace hx:=ZK c_9 hx
    refine Run.cnz_k [] 8 ZF rfl (Zj (ZJ (vs:=[.slice none 0 0,.int .i64 2]) (K:=[_]) (rst:=[]) (.inl rfl) rfl rfl (ZG rfl (ZG rfl rfl)) (ZO 0 rfl ZC) ?_))
    obtain rfl:=Option.some.inj hx
    exact ⟨none,0,0,[],rfl,rfl,rfl,(ZR _ _ _ _ _),(fun p hp => by cases hp),trivial⟩
   ·
    replace hx:=ZL c_9 hx
    refine Run.cc_s [] 8 ZF rfl ?_
    obtain ⟨t_10,ht_12,hx⟩:=ZD hx
    refine JC.cut (fun l o g => ∃ ar_17 : Option Addr,∃ nr_17 : Nat,∃ cr_17 : Nat,∃ Kr_17 : Own,l = [(6,.slice ar_17 nr_17 cr_17)] ∧ o = [Kr_17] ∧ H = g ∧ RowOf (New H H) RU8 w.heap.size 5 1 (.slice ar_17 nr_17 cr_17) t_10 Kr_17) ?_ ?_
    ·
     rintro _ _ _ ⟨ar_17,nr_17,cr_17,Kr_17,rfl,rfl,rfl,hr_17⟩
     refine Run.nnz_s [] 9 ZF rfl (ZJ (vs:=[.slice ar_17 nr_17 cr_17,.int .i64 0]) (K:=[_]) (rst:=[]) (.inl rfl) rfl rfl (ZG rfl (ZG rfl rfl)) (ZO 0 rfl ZC) ?_)
     obtain rfl:=Option.some.inj hx
     exact ⟨ar_17,nr_17,cr_17,Kr_17,rfl,rfl,rfl,(ZT (Nat.zero_le _) hr_17),(Zh hr_17 hlt),trivial⟩
    ·
     have hxo_11:=hx; clear hx; have hx:=ht_12; clear ht_12
     refine JC.block (JC.seg0 (Zf (fun n l o g => ∃ s_13 : Int × List UInt8,∃ ar_16 : Option Addr,∃ nr_16 : Nat,∃ cr_16 : Nat,∃ Kr_16 : Own,l = [(0,.int .i64 s_13.1),(1,.int .i64 p_2),(6,.slice ar_16 nr_16 cr_16)] ∧ o = [Kr_16] ∧ H = g ∧ run (code_Put_l1 p_2) n s_13 = some t_10 ∧ RowOf (New H H) RU8 w.heap.size 5 1 (.slice ar_16 nr_16 cr_16) s_13.2 Kr_16) FUEL ?_ ⟨(p_1,([] : List UInt8)),none,0,0,[],rfl,rfl,rfl,hx,(ZR _ _ _ _ _)⟩ ⟨rfl,rfl,rfl,trivial⟩ ?_))
     ·
      rintro _ _ _ ⟨s_13,ar_16,nr_16,cr_16,Kr_16,rfl,rfl,rfl,hn_14,hr_16⟩
      exact Ze hn_14
     ·
      rintro n_15 _ _ _ ⟨s_13,ar_16,nr_16,cr_16,Kr_16,rfl,rfl,rfl,hn_14,hr_16⟩
      clear hx; obtain ⟨oo_18,hx,hd_17⟩:=Zd hn_14
      unfold code_Put_l1 at hx
      refine Run.cl [] 4 ZF rfl (ZA rfl rfl (ZV U26 rfl (RowOf.long hr_16)) (Run.lcz_s [] 4 ZF rfl (ZM rfl (fun c_17 => ?_) (fun c_17 => ?_))))
      ·
       replace hx:=ZK c_17 hx
       refine Run.cl_s [] 7 ZF rfl (ZA rfl rfl (R.cv_i64_u8 U3 U5 rfl) (JL.bslF (HF:=(New H H)) (R:=RU8) (ls:=[u8i s_13.1]) (vs:=[.int .u8 ((u8i s_13.1).toNat : Int)]) U26 I5 rfl rfl (⟨_,_,rfl,rfl,rfl,rfl⟩) RU8.one rfl rfl rfl (by simp [maxLen]) rfl (fun vr_18 Kr_18 hr_18 => ?_)))
       obtain ⟨ar_18,cr_18,rfl⟩:=RowOf.val hr_18
       obtain ⟨q_19,hm_20,hl_21,hx⟩:=Zo hx
       refine Zr (HF:=(New H H)) 1 U26 I5 rfl rfl hr_16 rfl (SrcF.row 0 U26 rfl hr_18) hm_20 hl_21 rfl (Nat.le_refl _) rfl (fun vr_22 Kr_22 hr_22 => ?_)
       obtain ⟨ar_22,cr_22,rfl⟩:=RowOf.val hr_22
       refine Run.llz_bs [] 6 ZF rfl (ZA rfl rfl (R.quo_i rfl rfl (by decide)) ?_)
       refine Run.lnz [] 2 ZF rfl ?_
       replace hx:=ZX hd_17 hx
       refine JN.forget 0 ?_
       exact JN.cut ⟨(w64 (s_13.1.tdiv 256),q_19),ar_22,q_19.length,cr_22,Kr_22,rfl,rfl,rfl,hx,hr_22⟩ ⟨rfl,rfl,rfl,trivial⟩ rfl rfl
      ·
       replace hx:=ZL c_17 hx
       refine Run.cnz_k [] 2 ZF rfl ?_
       obtain rfl:=Za hd_17 hx
       refine Run.nnz_kb [] 2 ZF rfl ?_
       exact JN.cut ⟨ar_16,nr_16,cr_16,Kr_16,rfl,rfl,rfl,hr_16⟩ ⟨rfl,trivial⟩ rfl rfl

set_option maxHeartbeats 8000000 in
theorem cipher_pieces_ok (p_1 : List UInt8) (p_3 : UInt32) (H : Heaplet) {aa_2 : Option Addr} {na_2 : Nat} {ca_2 : Nat} (ha_2 : IsSlice H RU8 1 (.slice aa_2 na_2 ca_2) p_1) (r : (List UInt8 × List UInt8)) (hx : cipher_pieces p_1 p_3 = some r) :
  Does Tryz.prog 260 #[.slice aa_2 na_2 ca_2,.int .u32 (p_3.toNat : Int)] [] H (fun u K' H' => ∃ b0 : Nat,∃ ao1 : Option Addr,∃ n1 : Nat,∃ cap1 : Nat,∃ b2 : Nat,∃ ao3 : Option Addr,∃ n3 : Nat,∃ cap3 : Nat,∃ K3 : Own,u = .func (.func 274) #[] #[.pointer (some ⟨b0,0,none⟩),.pointer (some ⟨b2,0,none⟩)] ∧ K' = [[(b0,.cells #[.slice ao1 n1 cap1] 26 (0,0))],[(b2,.cells #[.slice ao3 n3 cap3] 26 (0,0))],K3] ∧ H = H' ∧ IsSlice H RU8 1 (.slice ao1 n1 cap1) r.1 ∧ RowOf (New H H) RU8 0 5 1 (.slice ao3 n3 cap3) r.2 K3 ∧ (∀ p ∈ K3,p.1 ∉ ids (List.flatten [])) ∧ True):=by
 refine Does.enterL (vs:=[.slice aa_2 na_2 ca_2,.int .u32 (p_3.toNat : Int)]) (l:=[(0,.slice aa_2 na_2 ca_2),(1,.int .u32 (p_3.toNat : Int))]) Tryz.func260 rfl rfl ⟨rfl,rfl,trivial⟩ (fun w hlt => ?_)
 unfold cipher_pieces at hx
 refine Run.cl [] 2 ZF rfl (Zk rfl rfl (fun b_4 hb_4 => Run.ll_s [] 6 ZF rfl (ZA rfl rfl (R.cv_u32_i64 (a:=p_3) U27 U3 rfl) ?_)))
 obtain ⟨x_5,hr_6,hx⟩:=ZD hx
 refine ZI (vs:=[_,_]) (args:=[_,_]) (K:=[]) (rst:=[_]) E170 rfl rfl rfl ZC (code_Put_ok (p_3.toNat : Int) 4 _ _ hr_6) rfl (fun u_7 Ku_7 Hu_7 hRu_7 hleu_7 hfu_7 => ?_)
 obtain ⟨ar_8,nr_8,cr_8,Kr_8,rfl,rfl,rfl,hr_8,hnewr_8,-⟩:=hRu_7
 replace hr_8:=(RowOf.base (ZP (H2:=New H H) RU8.const hr_8) (fun p hp => (hfu_7 p (ZS 0 rfl hp)).resolve_left (hnewr_8 p hp)))
 refine Run.llz [] 3 ZF rfl (JL.alloc Z26 rfl (fun b_9 hb_9 => Run.lnz_s [0] 11 ZF rfl (ZJ (vs:=[.func (.func 274) #[] #[.pointer (some ⟨b_4,0,none⟩),.pointer (some ⟨b_9,0,none⟩)]]) (K:=[_,_,_]) (rst:=[]) (.inl rfl) rfl rfl (ZG rfl rfl) (ZO 2 rfl (ZO 0 rfl (ZO 0 rfl ZC))) ?_)))
 obtain rfl:=Option.some.inj hx
 exact ⟨b_4,aa_2,na_2,ca_2,b_9,ar_8,nr_8,cr_8,Kr_8,rfl,rfl,rfl,ha_2,(ZT (Nat.zero_le _) hr_8),(Zh hr_8 hlt),trivial⟩

set_option maxHeartbeats 8000000 in
theorem slices_Grow_byte_ok (p_1 : Int) (H : Heaplet) (r : List UInt8) (hx : slices_Grow_byte p_1 = some r) :
  Does Tryz.prog 224 #[.slice none 0 0,.int .i64 p_1] [] H (fun u K' H' => ∃ ao0 : Option Addr,∃ n0 : Nat,∃ cap0 : Nat,∃ K0 : Own,u = .slice ao0 n0 cap0 ∧ K' = [K0] ∧ H = H' ∧ RowOf (New H H) RU8 0 5 1 (.slice ao0 n0 cap0) r K0 ∧ (∀ p ∈ K0,p.1 ∉ ids (List.flatten [])) ∧ True):=by
 refine Does.enterL (vs:=[.slice none 0 0,.int .i64 p_1]) (l:=[(0,.slice none 0 0),(1,.int .i64 p_1)]) Tryz.func224 rfl rfl ⟨rfl,rfl,trivial⟩ (fun w hlt => ?_)
 unfold slices_Grow_byte at hx
 refine Run.cc [] 12 ZF rfl (ZM rfl (fun c_2 => ?_) (fun c_2 => ?_))
 ·
  replace hx:=ZK c_2 hx
  refine JC.region ?_
  cases hx
 ·
  replace hx:=ZL c_2 hx
  refine Run.cl_s [] 7 ZF rfl (ZA rfl rfl (R.capN ⟨_,U26⟩ rfl) (ZA rfl rfl (ZZ rfl) (ZA rfl rfl (R.len U26 rfl) (Run.lcz_s [] 11 ZF rfl ?_))))
  obtain ⟨t_3,ht_5,hx⟩:=ZD hx
  refine JC.cut (fun l o g => ∃ ar_16 : Option Addr,∃ nr_16 : Nat,∃ cr_16 : Nat,∃ Kr_16 : Own,l = [(0,.slice ar_16 nr_16 cr_16)] ∧ o = [Kr_16] ∧ H = g ∧ RowOf (New H H) RU8 w.heap.size 5 1 (.slice ar_16 nr_16 cr_16) t_3 Kr_16) ?_ ?_
  ·
   rintro _ _ _ ⟨ar_16,nr_16,cr_16,Kr_16,rfl,rfl,rfl,hr_16⟩
   refine Run.nnz_s [] 8 ZF rfl (ZJ (vs:=[.slice ar_16 nr_16 cr_16]) (K:=[_]) (rst:=[]) (.inl rfl) rfl rfl (ZG rfl rfl) (ZO 0 rfl ZC) ?_)
   obtain rfl:=Option.some.inj hx
   exact ⟨ar_16,nr_16,cr_16,Kr_16,rfl,rfl,rfl,(ZT (Nat.zero_le _) hr_16),(Zh hr_16 hlt),trivial⟩
  ·
   have hxo_4:=hx; clear hx; have hx:=ht_5; clear ht_5
   refine ZM rfl (fun c_6 => ?_) (fun c_6 => ?_)
   ·
    replace hx:=ZK c_6 hx
    refine Run.clz [] 3 ZF rfl (ZA rfl rfl (R.capN ⟨_,U26⟩ rfl) (ZA rfl rfl (R.slcN U26 S5 rfl trivial ⟨_,rfl⟩ rfl) (ZA rfl rfl (ZZ rfl) ?_)))
    obtain ⟨q_9,hm_8,hc_7,hx⟩:=mks_some hx
    refine JL.appZ (HF:=New H H) (R:=RU8) (y:=(0 : UInt8)) (n:=w64 (p_1 - 0)) U26 U3 I5 rfl rfl (fun _ => rfl) RU8.one hm_8 hc_7 rfl rfl (fun vr_10 Kr_10 hr_10 => ?_)
    obtain ⟨ar_10,cr_10,rfl⟩:=RowOf.val hr_10
    refine ZA rfl rfl (ZZ rfl) (ZA rfl rfl (R.len U26 rfl) ?_)
    obtain ⟨m_13,hm_14,hb_12,hx⟩:=slc_some hx
    obtain ⟨vv_11,cv_11,h1v_11,h2v_11,h3v_11,hsv_11⟩:=RowOf.pre hr_10 hm_14 hb_12
    refine ZA rfl rfl (R.slc (cap:=cv_11) (a:=0) (b:=0) (c:=(cv_11 : Int)) (m:=q_9) (R:=RU8) U26 S5 rfl rfl ⟨_,rfl⟩ (by obtain ⟨ao,n,e,_⟩:=h1v_11; exact ⟨ao,n,e,rfl⟩) ⟨hb_12.1,hb_12.2.1,h2v_11⟩ h3v_11 (.inl rfl)) ?_
    obtain ⟨av_11,cv_11',rfl⟩:=RowOf.val hsv_11
    refine Run.lnz [] 2 ZF rfl ?_
    obtain rfl:=Option.some.inj hx
    exact JN.cut ⟨av_11,m_13.length,cv_11',Kr_10,rfl,rfl,rfl,hsv_11⟩ ⟨rfl,trivial⟩ rfl rfl
   ·
    replace hx:=ZL c_6 hx
    refine JC.skip ?_
    obtain rfl:=Option.some.inj hx
    refine Zj ?_
    exact JN.cut ⟨none,0,0,[],rfl,rfl,rfl,(ZR _ _ _ _ _)⟩ ⟨rfl,trivial⟩ rfl rfl

set_option maxHeartbeats 8000000 in
theorem slices_Concat_byte_ok (p_1 : List (List UInt8)) (H : Heaplet) {aa_2 : Option Addr} {na_2 : Nat} {ca_2 : Nat} (ha_2 : IsSlice H (RSl RU8 1) 1 (.slice aa_2 na_2 ca_2) p_1) (r : List UInt8) (hx : slices_Concat_byte p_1 = some r) :
  Does Tryz.prog 172 #[.slice aa_2 na_2 ca_2] [] H (fun u K' H' => ∃ ao0 : Option Addr,∃ n0 : Nat,∃ cap0 : Nat,∃ K0 : Own,u = .slice ao0 n0 cap0 ∧ K' = [K0] ∧ H = H' ∧ RowOf (New H H) RU8 0 5 1 (.slice ao0 n0 cap0) r K0 ∧ (∀ p ∈ K0,p.1 ∉ ids (List.flatten [])) ∧ True):=by
 refine Does.enterL (vs:=[.slice aa_2 na_2 ca_2]) (l:=[(0,.slice aa_2 na_2 ca_2)]) Tryz.func172 rfl rfl ⟨rfl,trivial⟩ (fun w hlt => ?_)
 unfold slices_Concat_byte at hx
 refine Run.cl [] 14 ZF rfl (ZA rfl rfl (ZV U22 rfl (IsSlice.long ha_2)) (Run.lcz_s [] 3 ZF rfl ?_))
 obtain ⟨t_3,ht_5,hx⟩:=ZD hx
 refine JC.cut (fun l o g => l = [(0,.slice aa_2 na_2 ca_2),(3,.int .i64 t_3)] ∧ o = [] ∧ H = g) ?_ ?_
 ·
  rintro _ _ _ ⟨rfl,rfl,rfl⟩
  refine Run.nl_s [] 4 ZF rfl ?_
  obtain ⟨x_9,hr_10,hx⟩:=ZD hx
  refine ZI (vs:=[_,_]) (args:=[_,_]) (K:=[]) (rst:=[]) E224 rfl rfl rfl ZC (slices_Grow_byte_ok t_3 _ _ hr_10) rfl (fun u_11 Ku_11 Hu_11 hRu_11 hleu_11 hfu_11 => ?_)
  obtain ⟨ar_12,nr_12,cr_12,Kr_12,rfl,rfl,rfl,hr_12,hnewr_12,-⟩:=hRu_11
  replace hr_12:=(RowOf.base (ZP (H2:=New H H) RU8.const hr_12) (fun p hp => (hfu_11 p (ZS 0 rfl hp)).resolve_left (hnewr_12 p hp)))
  refine Run.ll_s [] 7 ZF rfl (ZA rfl rfl (ZV U22 rfl (IsSlice.long ha_2)) (Run.lcz_s [] 3 ZF rfl ?_))
  obtain ⟨t_13,ht_15,hx⟩:=ZD hx
  refine JC.cut (fun l o g => ∃ ar_20 : Option Addr,∃ nr_20 : Nat,∃ cr_20 : Nat,∃ Kr_20 : Own,l = [(6,.slice ar_20 nr_20 cr_20)] ∧ o = [Kr_20] ∧ H = g ∧ RowOf (New H H) RU8 w.heap.size 5 1 (.slice ar_20 nr_20 cr_20) t_13 Kr_20) ?_ ?_
  ·
   rintro _ _ _ ⟨ar_20,nr_20,cr_20,Kr_20,rfl,rfl,rfl,hr_20⟩
   refine Run.nnz_s [] 8 ZF rfl (ZJ (vs:=[.slice ar_20 nr_20 cr_20]) (K:=[_]) (rst:=[]) (.inl rfl) rfl rfl (ZG rfl rfl) (ZO 0 rfl ZC) ?_)
   obtain rfl:=Option.some.inj hx
   exact ⟨ar_20,nr_20,cr_20,Kr_20,rfl,rfl,rfl,(ZT (Nat.zero_le _) hr_20),(Zh hr_20 hlt),trivial⟩
  ·
   have hxo_14:=hx; clear hx; have hx:=ht_15; clear ht_15
   refine JC.block (Zf (fun n l o g => ∃ s_16 : List UInt8 × Nat,∃ ar_19 : Option Addr,∃ nr_19 : Nat,∃ cr_19 : Nat,∃ Kr_19 : Own,l = [(6,.slice ar_19 nr_19 cr_19),(25,.slice aa_2 na_2 ca_2),(26,.int .i64 (p_1.length : Int)),(27,.int .i64 ((s_16.2 : Nat) : Int))] ∧ o = [Kr_19] ∧ H = g ∧ run (slices_Concat_byte_l2 p_1) n s_16 = some t_13 ∧ RowOf (New H H) RU8 w.heap.size 5 1 (.slice ar_19 nr_19 cr_19) s_16.1 Kr_19) FUEL ?_ ⟨(x_9,0),ar_12,nr_12,cr_12,Kr_12,rfl,rfl,rfl,hx,hr_12⟩ ⟨rfl,rfl,rfl,rfl,trivial⟩ ?_)
   ·
    rintro _ _ _ ⟨s_16,ar_19,nr_19,cr_19,Kr_19,rfl,rfl,rfl,hn_17,hr_19⟩
    exact Ze hn_17
   ·
    rintro n_18 _ _ _ ⟨s_16,ar_19,nr_19,cr_19,Kr_19,rfl,rfl,rfl,hn_17,hr_19⟩
    clear hx; obtain ⟨oo_21,hx,hd_20⟩:=Zd hn_17
    unfold slices_Concat_byte_l2 at hx
    refine Run.cc [] 6 ZF rfl (ZM rfl (fun c_20 => ?_) (fun c_20 => ?_))
    ·
     replace hx:=ZK c_20 hx
     refine Run.cl_s [] 6 ZF rfl ?_
     obtain ⟨y_21,hN_22,hx⟩:=ZY hx
     obtain ⟨b_23,o_24,cs_25,hE_26,hR_27,hl_28,hc_29⟩:=IsSlice.elem ha_2 hN_22
     obtain ⟨v_30,rfl,hs_31⟩:=hR_27
     obtain ⟨av_30,cv_30,rfl⟩:=IsSlice.val hs_31
     refine ZA rfl rfl (Zu U22 S26 rfl rfl hE_26) (ZA rfl rfl (R.ldH S26 rfl (hc_29 0 _ rfl)) (Run.llz_s [] 6 ZF rfl ?_))
     obtain ⟨q_32,hm_33,hl_34,hx⟩:=Zo hx
     refine Zr (HF:=(New H H)) 0 U26 I5 rfl rfl hr_19 rfl (SrcF.sliceC RU8.const RU8.one U26 hs_31) hm_33 hl_34 rfl (Nat.le_refl _) rfl (fun vr_35 Kr_35 hr_35 => ?_)
     obtain ⟨ar_35,cr_35,rfl⟩:=RowOf.val hr_35
     refine Run.llz_bs [] 5 ZF rfl (ZA rfl rfl (Zt rfl rfl (of_decide_eq_true c_20) (IsSlice.lenI ha_2)) (Run.lnz [] 2 ZF rfl ?_))
     replace hx:=ZX hd_20 hx
     exact JN.cut ⟨(q_32,s_16.2 + 1),ar_35,q_32.length,cr_35,Kr_35,rfl,rfl,rfl,hx,hr_35⟩ ⟨rfl,rfl,rfl,rfl,trivial⟩ rfl rfl
    ·
     replace hx:=ZL c_20 hx
     refine Run.cnz_k [] 2 ZF rfl ?_
     obtain rfl:=Za hd_20 hx
     refine Run.nnz_kb [] 2 ZF rfl ?_
     exact JN.cut ⟨ar_19,nr_19,cr_19,Kr_19,rfl,rfl,rfl,hr_19⟩ ⟨rfl,trivial⟩ rfl rfl
 ·
  have hxo_4:=hx; clear hx; have hx:=ht_5; clear ht_5
  refine JC.block (Zf (fun n l o g => ∃ s_6 : Int × Nat,l = [(0,.slice aa_2 na_2 ca_2),(3,.int .i64 s_6.1),(9,.slice aa_2 na_2 ca_2),(10,.int .i64 (p_1.length : Int)),(11,.int .i64 ((s_6.2 : Nat) : Int))] ∧ o = [] ∧ H = g ∧ run (slices_Concat_byte_l1 p_1) n s_6 = some t_3) FUEL ?_ ⟨(0,0),rfl,rfl,rfl,hx⟩ ⟨rfl,rfl,rfl,rfl,rfl,trivial⟩ ?_)
  ·
   rintro _ _ _ ⟨s_6,rfl,rfl,rfl,hn_7⟩
   exact Ze hn_7
  ·
   rintro n_8 _ _ _ ⟨s_6,rfl,rfl,rfl,hn_7⟩
   clear hx; obtain ⟨oo_10,hx,hd_9⟩:=Zd hn_7
   unfold slices_Concat_byte_l1 at hx
   refine Run.cc [] 6 ZF rfl (ZM rfl (fun c_9 => ?_) (fun c_9 => ?_))
   ·
    replace hx:=ZK c_9 hx
    refine Run.cl_s [] 6 ZF rfl ?_
    obtain ⟨y_10,hN_11,hx⟩:=ZY hx
    obtain ⟨b_12,o_13,cs_14,hE_15,hR_16,hl_17,hc_18⟩:=IsSlice.elem ha_2 hN_11
    obtain ⟨v_19,rfl,hs_20⟩:=hR_16
    obtain ⟨av_19,cv_19',rfl⟩:=IsSlice.val hs_20
    refine ZA rfl rfl (Zu U22 S26 rfl rfl hE_15) (ZA rfl rfl (R.ldH S26 rfl (hc_18 0 _ rfl)) (Run.ll_s [] 7 ZF rfl (ZA rfl rfl (ZV U26 rfl (IsSlice.long hs_20)) (Run.lcz_s [] 10 ZF rfl (ZM rfl (fun c_21 => ?_) (fun c_21 => ?_))))))
    ·
     replace hx:=ZK c_21 hx
     refine JC.region ?_
     cases hx
    ·
     replace hx:=ZL c_21 hx
     refine Run.clz_bs [] 4 ZF rfl (ZA rfl rfl (Zt rfl rfl (of_decide_eq_true c_9) (IsSlice.lenI ha_2)) (Run.lnz [] 2 ZF rfl ?_))
     replace hx:=ZX hd_9 hx
     exact JN.cut ⟨(w64 (s_6.1 + (y_10.length : Int)),s_6.2 + 1),rfl,rfl,rfl,hx⟩ ⟨rfl,rfl,rfl,rfl,rfl,trivial⟩ rfl rfl
   ·
    replace hx:=ZL c_9 hx
    refine Run.cnz_k [] 2 ZF rfl ?_
    obtain rfl:=Za hd_9 hx
    refine Run.nnz_kb [] 2 ZF rfl ?_
    exact JN.cut ⟨rfl,rfl,rfl⟩ ⟨rfl,rfl,trivial⟩ rfl rfl

set_option maxHeartbeats 8000000 in
theorem mix_Key_ok (p_1 : List UInt8) (H : Heaplet) {aa_2 : Option Addr} {na_2 : Nat} {ca_2 : Nat} (ha_2 : IsSlice H RU8 1 (.slice aa_2 na_2 ca_2) p_1) (r : List UInt8) (hx : mix_Key p_1 = some r) :
  Does Tryz.prog 261 #[.slice aa_2 na_2 ca_2] [] H (fun u K' H' => ∃ ao0 : Option Addr,∃ n0 : Nat,∃ cap0 : Nat,∃ K0 : Own,u = .slice ao0 n0 cap0 ∧ K' = [K0] ∧ RowOf (New H H') RU8 0 5 1 (.slice ao0 n0 cap0) r K0 ∧ (∀ p ∈ K0,p.1 ∉ ids (List.flatten [])) ∧ True):=by
 refine Does.enterL (vs:=[.slice aa_2 na_2 ca_2]) (l:=[(0,.slice aa_2 na_2 ca_2)]) Tryz.func261 rfl rfl ⟨rfl,trivial⟩ (fun w hlt => ?_)
 unfold mix_Key at hx
 refine Run.cl [] 14 ZF rfl ?_
 obtain ⟨x_3,hr_4,hx⟩:=ZD hx
 refine ZI (vs:=[_]) (args:=[_]) (K:=[]) (rst:=[]) E103 rfl rfl rfl ZC (mix_four_ok p_1 _ ha_2 _ hr_4) rfl (fun u_5 Ku_5 Hu_5 hRu_5 hleu_5 hfu_5 => ?_)
 obtain ⟨rfl,rfl,-⟩:=hRu_5
 refine Run.lcz_s [] 3 ZF rfl ?_
 obtain ⟨t_6,ht_8,hx⟩:=ZD hx
 refine JC.cut (fun l o g => ∃ ar_13 : Option Addr,∃ nr_13 : Nat,∃ cr_13 : Nat,∃ Kr_13 : Own,l = [(3,.slice ar_13 nr_13 cr_13)] ∧ o = [Kr_13] ∧ Hu_5 = g ∧ RowOf (New H Hu_5) RU8 w.heap.size 5 1 (.slice ar_13 nr_13 cr_13) t_6 Kr_13) ?_ ?_
 ·
  rintro _ _ _ ⟨ar_13,nr_13,cr_13,Kr_13,rfl,rfl,rfl,hr_13⟩
  refine Run.nnz_s [] 8 ZF rfl (ZJ (vs:=[.slice ar_13 nr_13 cr_13]) (K:=[_]) (rst:=[]) (.inl rfl) rfl rfl (ZG rfl rfl) (ZO 0 rfl ZC) ?_)
  obtain rfl:=Option.some.inj hx
  exact ⟨ar_13,nr_13,cr_13,Kr_13,rfl,rfl,(ZT (Nat.zero_le _) hr_13),(Zh hr_13 hlt),trivial⟩
 ·
  have hxo_7:=hx; clear hx; have hx:=ht_8; clear ht_8
  refine JC.block (JC.seg0 (Zf (fun n l o g => ∃ s_9 : List UInt8 × Nat,∃ ar_12 : Option Addr,∃ nr_12 : Nat,∃ cr_12 : Nat,∃ Kr_12 : Own,l = [(3,.slice ar_12 nr_12 cr_12),(9,.agg #[.int .u32 (x_3.e0.toNat : Int),.int .u32 (x_3.e1.toNat : Int),.int .u32 (x_3.e2.toNat : Int),.int .u32 (x_3.e3.toNat : Int)]),(10,.int .i64 ((s_9.2 : Nat) : Int))] ∧ o = [Kr_12] ∧ Hu_5 = g ∧ run (mix_Key_l1 x_3) n s_9 = some t_6 ∧ RowOf (New H Hu_5) RU8 w.heap.size 5 1 (.slice ar_12 nr_12 cr_12) s_9.1 Kr_12) FUEL ?_ ⟨(([] : List UInt8),0),none,0,0,[],rfl,rfl,rfl,hx,(ZR _ _ _ _ _)⟩ ⟨rfl,rfl,rfl,trivial⟩ ?_))
  ·
   rintro _ _ _ ⟨s_9,ar_12,nr_12,cr_12,Kr_12,rfl,rfl,rfl,hn_10,hr_12⟩
   exact Ze hn_10
  ·
   rintro n_11 _ _ _ ⟨s_9,ar_12,nr_12,cr_12,Kr_12,rfl,rfl,rfl,hn_10,hr_12⟩
   clear hx; obtain ⟨oo_14,hx,hd_13⟩:=Zd hn_10
   unfold mix_Key_l1 at hx
   refine Run.cc [] 6 ZF rfl (ZM rfl (fun c_13 => ?_) (fun c_13 => ?_))
   ·
    replace hx:=ZK c_13 hx
    refine Run.cl_s [] 6 ZF rfl ?_
    obtain ⟨y_14,hN_15,hx⟩:=ZY hx
    refine ZA rfl rfl (R.idxA (enc:=(fun a : UInt32 => Value.int .u32 (a.toNat : Int))) (L:=x_3.l) U157 S27 rfl rfl rfl rfl rfl hN_15) (Run.ll_s [] 6 ZF rfl (ZA rfl rfl (R.cv_u32_i64 (a:=y_14) U27 U3 rfl) ?_))
    obtain ⟨x_16,hr_17,hx⟩:=ZD hx
    refine ZI (vs:=[_,_]) (args:=[_,_]) (K:=[]) (rst:=[_]) E170 rfl rfl rfl ZC (code_Put_ok (y_14.toNat : Int) 4 _ _ hr_17) rfl (fun u_18 Ku_18 Hu_18 hRu_18 hleu_18 hfu_18 => ?_)
    obtain ⟨ar_19,nr_19,cr_19,Kr_19,rfl,rfl,rfl,hr_19,hnewr_19,-⟩:=hRu_18
    replace hr_19:=(RowOf.base (ZP (H2:=New H Hu_5) RU8.const hr_19) (fun p hp => (hfu_18 p (ZS 0 rfl hp)).resolve_left (hnewr_19 p hp)))
    refine Run.llz_s [] 10 ZF rfl ?_
    obtain ⟨q_20,hm_21,hl_22,hx⟩:=Zo hx
    refine Zr (HF:=(New H Hu_5)) 1 U26 I5 rfl rfl hr_12 rfl (SrcF.row 0 U26 rfl hr_19) hm_21 hl_22 rfl (Nat.le_refl _) rfl (fun vr_23 Kr_23 hr_23 => ?_)
    obtain ⟨ar_23,cr_23,rfl⟩:=RowOf.val hr_23
    refine Run.llz_bs [] 5 ZF rfl (ZA rfl rfl (Zt rfl rfl (of_decide_eq_true c_13) (by decide)) ?_)
    refine Run.lnz [] 2 ZF rfl ?_
    replace hx:=ZX hd_13 hx
    refine JN.forget 0 ?_
    exact JN.cut ⟨(q_20,s_9.2 + 1),ar_23,q_20.length,cr_23,Kr_23,rfl,rfl,rfl,hx,hr_23⟩ ⟨rfl,rfl,rfl,trivial⟩ rfl rfl
   ·
    replace hx:=ZL c_13 hx
    refine Run.cnz_k [] 2 ZF rfl ?_
    obtain rfl:=Za hd_13 hx
    refine Run.nnz_kb [] 2 ZF rfl ?_
    exact JN.cut ⟨ar_12,nr_12,cr_12,Kr_12,rfl,rfl,rfl,hr_12⟩ ⟨rfl,trivial⟩ rfl rfl

set_option maxHeartbeats 8000000 in
theorem cipher_pieces_1_ok {σ τ : Type} (p_1 : (List UInt8) → σ → Option (σ ⊕ τ)) (p_2 : σ) (p_4 : List UInt8) (p_7 : List UInt8) (H : Heaplet) {lr_ : Nat} {I_ : σ → Own → Heaplet → Prop} {X_ : τ → Own → Heaplet → Prop} {O_ : Own} {b_3 : Nat} {aa_5 : Option Addr} {na_5 : Nat} {ca_5 : Nat} {b_6 : Nat} {aa_8 : Option Addr} {na_8 : Nat} {ca_8 : Nat} (hY_ : YSpecG Tryz.prog lr_ (fun (H : Heaplet) (args : Array Value) (y : List UInt8) => ∃ v0 : Value,args = #[v0] ∧ IsSlice H RU8 1 v0 y) p_1 I_ X_) (hI_ : IX I_ X_ (.inl p_2) O_ H) (ha_5 : IsSlice H RU8 1 (.slice aa_5 na_5 ca_5) p_4) (ha_8 : IsSlice H RU8 1 (.slice aa_8 na_8 ca_8) p_7) (r : σ ⊕ τ) (hx : cipher_pieces_1 p_1 p_2 p_4 p_7 = some r) :
  Does Tryz.prog 274 #[.func (.yield lr_) #[] #[],.pointer (some ⟨b_3,0,none⟩),.pointer (some ⟨b_6,0,none⟩)] [[(b_3,.cells #[.slice aa_5 na_5 ca_5] 26 (0,0))],[(b_6,.cells #[.slice aa_8 na_8 ca_8] 26 (0,0))],O_] H (fun u K' H' => ∃ O' : Own,u = .tuple #[] ∧ K' = [[(b_3,.cells #[.slice aa_5 na_5 ca_5] 26 (0,0))],[(b_6,.cells #[.slice aa_8 na_8 ca_8] 26 (0,0))],O'] ∧ IX I_ X_ r O' H' ∧ True):=by
 refine Does.enterL (vs:=[.func (.yield lr_) #[] #[],.pointer (some ⟨b_3,0,none⟩),.pointer (some ⟨b_6,0,none⟩)]) (l:=[(0,.func (.yield lr_) #[] #[]),(1,.pointer (some ⟨b_3,0,none⟩)),(2,.pointer (some ⟨b_6,0,none⟩))]) Tryz.func274 rfl rfl ⟨rfl,rfl,rfl,trivial⟩ (fun w hlt => ?_)
 unfold cipher_pieces_1 at hx
 refine Run.ccz [] 5 ZF rfl ?_
 obtain ⟨t_9,ht_11,hx⟩:=ZD hx
 have hxo_10:=hx; clear hx; have hx:=ht_11; clear ht_11
 refine JC.block (Zc 1 rfl (Zc 1 rfl (Zc 2 rfl (Zf (fun n l o g => ∃ s_12 : σ × Int,∃ H_15 : Heaplet,∃ O_16 : Own,l = [(0,.func (.yield lr_) #[] #[]),(1,.pointer (some ⟨b_3,0,none⟩)),(2,.pointer (some ⟨b_6,0,none⟩)),(4,.int .i64 s_12.2)] ∧ o = [O_16,[(b_3,.cells #[.slice aa_5 na_5 ca_5] 26 (0,0))],[(b_6,.cells #[.slice aa_8 na_8 ca_8] 26 (0,0))]] ∧ H_15 = g ∧ run (cipher_pieces_1_l1 p_1 p_4 p_7) n s_12 = some t_9 ∧ Hle H H_15 ∧ IX I_ X_ (.inl (s_12.1)) O_16 H_15) FUEL ?_ ⟨(p_2,0),H,O_,rfl,rfl,rfl,hx,(Hle.refl _),hI_⟩ ⟨rfl,rfl,rfl,rfl,trivial⟩ ?_))))
 ·
  rintro _ _ _ ⟨s_12,H_15,O_16,rfl,rfl,rfl,hn_13,hleH_15,hI_17⟩
  exact Ze hn_13
 ·
  rintro n_14 _ _ _ ⟨s_12,H_15,O_16,rfl,rfl,rfl,hn_13,hleH_15,hI_17⟩
  clear hx; obtain ⟨oo_19,hx,hd_18⟩:=Zd hn_13
  unfold cipher_pieces_1_l1 at hx
  refine Run.cl [] 5 ZF rfl ?_
  obtain ⟨x_18,hr_19,hx⟩:=ZD hx
  refine ZI (vs:=[_,_]) (args:=[_,_]) (K:=[]) (rst:=[_,_,_]) E170 rfl rfl rfl ZC (code_Put_ok s_12.2 4 _ _ hr_19) rfl (fun u_20 Ku_20 Hu_20 hRu_20 hleu_20 hfu_20 => ?_)
  obtain ⟨ar_21,nr_21,cr_21,Kr_21,rfl,rfl,rfl,hr_21,hnewr_21,-⟩:=hRu_20
  replace hr_21:=(RowOf.base (ZP (H2:=New H H_15) RU8.const hr_21) (fun p hp => (hfu_20 p (ZS 0 rfl hp)).resolve_left (hnewr_21 p hp)))
  refine Run.ll_s [2,3] 13 ZF rfl (JL.pubN 0 RU8.mono rfl hr_21 (Nat.le_refl _) (fun H_22 hleH_22 hsH_22 => JL.forget 0 (JL.bslF (HF:=H_22) (R:=(RSl RU8 1)) (ls:=[p_4,p_7,x_18.1]) (vs:=[.slice aa_5 na_5 ca_5,.slice aa_8 na_8 ca_8,.slice ar_21 nr_21 cr_21]) U22 I26 rfl rfl (⟨_,_,rfl,rfl,⟨_,rfl,(ha_5.mono RU8.mono (hleH_15.trans hleH_22))⟩,⟨_,_,rfl,rfl,⟨_,rfl,(ha_8.mono RU8.mono (hleH_15.trans hleH_22))⟩,⟨_,_,rfl,rfl,⟨_,rfl,(hsH_22.old RU8.mono)⟩,rfl⟩⟩⟩) RSl.one rfl rfl rfl (by simp [maxLen]) rfl (fun vr_23 Kr_23 hr_23 => ?_))))
  obtain ⟨ar_23,cr_23,rfl⟩:=RowOf.val hr_23
  obtain ⟨x_27,hr_28,hx⟩:=ZD hx
  refine JL.callL3 (vs:=[_]) E172 rfl rfl (fun H_26 hle_25 hl_24 => slices_Concat_byte_ok ([p_4,p_7,x_18.1]) _ (Lent.row' 0 hl_24 (RSl.mono RU8.mono) hle_25 rfl hr_23) _ hr_28) rfl (fun _ _ _ _ hR_30 hf_31 => ?_)
  obtain ⟨ar_29,nr_29,cr_29,Kr_29,rfl,rfl,rfl,hr_29,-,-⟩:=hR_30
  replace hr_29:=RowOf.base (ZP (H2:=New H H_22) RU8.const hr_29) (fun p hp => hf_31 p (ZS 0 rfl hp))
  obtain ⟨x_35,hr_36,hx⟩:=ZD hx
  refine JL.callL3 (vs:=[_]) E261 rfl rfl (fun H_34 hle_33 hl_32 => mix_Key_ok x_27 _ (Lent.row' 0 hl_32 RU8.mono hle_33 rfl (hr_29.old RU8.mono)) _ hr_36) rfl (fun _ _ _ _ hR_38 hf_39 => ?_)
  obtain ⟨ar_37,nr_37,cr_37,Kr_37,rfl,rfl,hr_37,-,-⟩:=hR_38
  replace hr_37:=RowOf.base (ZP (H2:=New H H_22) RU8.const hr_37) (fun p hp => hf_39 p (ZS 0 rfl hp))
  refine JL.pubN 0 RU8.mono rfl hr_37 (Nat.le_refl _) (fun H_40 hleH_40 hsH_40 => JL.forget 0 ?_)
  obtain ⟨out_41,hb_42,hx⟩:=ZD hx
  refine JL.yieldG 2 x_35 hb_42 hY_ rfl rfl rfl (hI_17.mono (hleH_22.trans hleH_40)) ⟨_,rfl,(hsH_40.old RU8.mono)⟩ rfl (fun s_43 O_45 H_46 hleH_46 hIH_46 he_47 => ?_) (fun t_44 O_45 H_46 hleH_46 hIH_46 he_47 => ?_)
  ·
   subst he_47
   simp only [Sum.elim_inl] at hx
   refine Run.lnz_sbs [] 12 ZF rfl ?_
   replace hx:=ZX hd_18 hx
   refine JN.forget 1 (JN.forget 0 (ZH 2 rfl (ZH 2 rfl (ZH 2 rfl ?_))))
   exact JN.cut ⟨(s_43,w64 (s_12.2 + 1)),H_46,O_45,rfl,rfl,rfl,hx,((hleH_15.trans (hleH_22.trans (hleH_40.trans hleH_46)))),hIH_46⟩ ⟨rfl,rfl,rfl,rfl,trivial⟩ rfl rfl
  ·
   subst he_47
   simp only [Sum.elim_inr] at hx
   refine Run.lnz_sbk [] 7 ZF rfl ?_
   obtain rfl:=Za hd_18 hx
   refine Run.nnz_kb [] 2 ZF rfl ?_
   clear hx; have hx:=hxo_10
   refine ZJ (vs:=[]) (K:=[_,_,_]) (rst:=[_,_]) (.inl rfl) rfl rfl rfl (ZO 3 rfl (ZO 3 rfl (ZO 2 rfl ZC))) ?_
   obtain rfl:=Option.some.inj hx
   exact ⟨O_45,rfl,rfl,hIH_46,trivial⟩

set_option maxHeartbeats 8000000 in
theorem cipher_Stream_ok (p_1 : List UInt8) (p_3 : UInt32) (p_4 : Int) (H : Heaplet) {aa_2 : Option Addr} {na_2 : Nat} {ca_2 : Nat} (ha_2 : IsSlice H RU8 1 (.slice aa_2 na_2 ca_2) p_1) (r : List UInt8 × Int) (hx : cipher_Stream p_1 p_3 p_4 = some r) :
  Does Tryz.prog 222 #[.slice aa_2 na_2 ca_2,.int .u32 (p_3.toNat : Int),.int .i64 p_4] [] H (fun u K' H' => ∃ ao0 : Option Addr,∃ n0 : Nat,∃ cap0 : Nat,∃ K0 : Own,u = .tuple #[.slice ao0 n0 cap0,.int .i64 r.2] ∧ K' = [K0] ∧ RowOf (New H H') RU8 0 5 1 (.slice ao0 n0 cap0) r.1 K0 ∧ (∀ p ∈ K0,p.1 ∉ ids (List.flatten [])) ∧ True):=by
 refine Does.enterML (vs:=[.slice aa_2 na_2 ca_2,.int .u32 (p_3.toNat : Int),.int .i64 p_4]) (l:=[(0,.slice aa_2 na_2 ca_2),(1,.int .u32 (p_3.toNat : Int)),(2,.int .i64 p_4)]) Tryz.func222 rfl rfl ⟨rfl,rfl,rfl,trivial⟩ (fun w hlt => ?_)
 unfold cipher_Stream at hx
 refine Run.cl [] 2 ZF rfl (Zk rfl rfl (fun b_5 hb_5 => Run.ll_s [] 8 ZF rfl (ZA rfl rfl (ZV U26 rfl (IsSlice.long ha_2)) (Run.llz [] 2 ZF rfl (ZQ (t:=13) rfl (fun c_6 => ?_) (fun c_6 => ?_))))))
 ·
  replace hx:=ZK c_6 hx
  refine Run.lnz_sk [] 18 ZF rfl (Zj (JN.outMP (vs:=[.slice none 0 0,.int .i64 2]) (K:=[_]) (rst:=[_]) (own2:=[_,_]) [] (.inl rfl) ⟨rfl,rfl,rfl,rfl⟩ rfl rfl ZC (ZG rfl (ZG rfl rfl)) (ZO 0 rfl ZC) ?_))
  obtain rfl:=Option.some.inj hx
  exact ⟨none,0,0,[],rfl,rfl,(ZR _ _ _ _ _),(fun p hp => by cases hp),trivial⟩
 ·
  replace hx:=ZL c_6 hx
  refine Run.llz [0] 6 ZF rfl (ZQ (t:=17) rfl (fun c_7 => ?_) (fun c_7 => ?_))
  ·
   replace hx:=ZK c_7 hx
   refine Run.lnz_sk [] 14 ZF rfl (Zj (JN.outMP (vs:=[.slice none 0 0,.int .i64 2]) (K:=[_]) (rst:=[_]) (own2:=[_,_]) [] (.inl rfl) ⟨rfl,rfl,rfl,rfl⟩ rfl rfl ZC (ZG rfl (ZG rfl rfl)) (ZO 0 rfl ZC) ?_))
   obtain rfl:=Option.some.inj hx
   exact ⟨none,0,0,[],rfl,rfl,(ZR _ _ _ _ _),(fun p hp => by cases hp),trivial⟩
  ·
   replace hx:=ZL c_7 hx
   refine Run.lcz_s [0] 7 ZF rfl (ZM rfl (fun c_8 => ?_) (fun c_8 => ?_))
   ·
    replace hx:=ZK c_8 hx
    refine Run.cnz_k [] 8 ZF rfl (Zj (JN.outMP (vs:=[.slice none 0 0,.int .i64 2]) (K:=[_]) (rst:=[_]) (own2:=[_,_]) [] (.inl rfl) ⟨rfl,rfl,rfl,rfl⟩ rfl rfl ZC (ZG rfl (ZG rfl rfl)) (ZO 0 rfl ZC) ?_))
    obtain rfl:=Option.some.inj hx
    exact ⟨none,0,0,[],rfl,rfl,(ZR _ _ _ _ _),(fun p hp => by cases hp),trivial⟩
   ·
    replace hx:=ZL c_8 hx
    refine Run.cl_s [] 4 ZF rfl (JL.alloc Z26 rfl (fun b_9 hb_9 => Run.ll_s [] 7 ZF rfl ?_))
    obtain ⟨x_10,hr_11,hx⟩:=ZD hx
    refine ZI (vs:=[_,_]) (args:=[_,_]) (K:=[]) (rst:=[_,_]) E260 rfl rfl rfl ZC (cipher_pieces_ok p_1 p_3 _ ha_2 _ hr_11) rfl (fun u_12 Ku_12 Hu_12 hRu_12 hleu_12 hfu_12 => ?_)
    obtain ⟨b_13,az_14,nz_14,cz_14,b_15,ar_16,nr_16,cr_16,Kr_16,rfl,rfl,rfl,hz_14,hr_16,hnewr_16,-⟩:=hRu_12
    have hb_13:=(hfu_12 _ (ZS 0 rfl (List.mem_singleton.2 rfl))).resolve_left (fun h => by cases h)
    have hb_15:=(hfu_12 _ (ZS 1 rfl (List.mem_singleton.2 rfl))).resolve_left (fun h => by cases h)
    replace hr_16:=(RowOf.base (ZP (H2:=New H H) RU8.const hr_16) (fun p hp => (hfu_12 p (ZS 2 rfl hp)).resolve_left (hnewr_16 p hp)))
    refine Run.lcz_s [] 2 ZF rfl ?_
    obtain ⟨t_17,ht_19,hx⟩:=ZD hx
    refine JC.cutD (fun ds l o g => ∃ H_41 : Heaplet,∃ D_42 : Nat,∃ ar_43 : Option Addr,∃ nr_43 : Nat,∃ cr_43 : Nat,∃ Kr_43 : Own,ds = [Go.Ow.mark D_42] ∧ l = [(5,.pointer (some ⟨b_5,0,none⟩)),(8,.pointer (some ⟨b_9,0,none⟩))] ∧ o = [[(D_42,Obj.deferred (some []))],[(b_5,.cells #[.int .i64 p_4] 3 (0,0))],[(b_9,.cells #[.slice ar_43 nr_43 cr_43] 26 (0,0))],Kr_43] ∧ H_41 = g ∧ Hle H H_41 ∧ RowOf (New H H_41) RU8 w.heap.size 5 1 (.slice ar_43 nr_43 cr_43) t_17 Kr_43) ?_ ?_
    ·
     rintro _ _ _ _ ⟨H_41,D_42,ar_43,nr_43,cr_43,Kr_43,rfl,rfl,rfl,rfl,hleH_41,hr_43⟩
     refine Run.nl_s [2,1] 5 ZF rfl (JL.pubN 3 RU8.mono rfl hr_43 (Nat.le_refl _) (fun H_44 hleH_44 hsH_44 => JL.forget 3 ?_))
     obtain ⟨m_45,hm_47,hb_46,hx⟩:=slc_some hx
     obtain ⟨vv_48,cv_48,h1v_48,h2v_48,h3v_48,hsv_48⟩:=IsSlice.cutv hsH_44 hm_47 hb_46
     refine ZA rfl rfl (R.slc (cap:=cv_48) (a:=0) (b:=p_4) (c:=(cv_48 : Int)) (m:=t_17) (R:=RU8) U26 S5 rfl rfl ⟨_,rfl⟩ (by obtain ⟨ao,n,e,_⟩:=h1v_48; exact ⟨ao,n,e,rfl⟩) ⟨hb_46.1,hb_46.2.1,h2v_48⟩ h3v_48 (.inl rfl)) ?_
     obtain ⟨av_48,cv_48',rfl⟩:=IsSlice.val hsv_48
     obtain ⟨x_49,hr_50,hx⟩:=ZD hx
     refine ZI (vs:=[_]) (args:=[_]) (K:=[]) (rst:=[_,_,_]) E163 rfl rfl rfl ZC (slices_Clone_byte_ok m_45 _ (hsv_48.old RU8.mono) _ hr_50) rfl (fun u_51 Ku_51 Hu_51 hRu_51 hleu_51 hfu_51 => ?_)
     obtain ⟨ar_52,nr_52,cr_52,Kr_52,rfl,rfl,rfl,hr_52,hnewr_52,-⟩:=hRu_51
     replace hr_52:=(RowOf.base (ZP (H2:=New H H_44) RU8.const hr_52) (fun p hp => (hfu_51 p (ZS 0 rfl hp)).resolve_left (hnewr_52 p hp)))
     refine Run.lnz_s [] 5 ZF rfl (JN.outMP (vs:=[.slice ar_52 nr_52 cr_52,.int .i64 0]) (K:=[_]) (rst:=[_,_]) (own2:=[_,_,_]) [D_42] (.inl rfl) ⟨rfl,rfl,rfl,rfl⟩ rfl rfl (ZO 1 rfl ZC) (ZG rfl (ZG rfl rfl)) (ZO 0 rfl ZC) ?_)
     obtain rfl:=Option.some.inj hx
     exact ⟨ar_52,nr_52,cr_52,Kr_52,rfl,rfl,(ZT (Nat.zero_le _) hr_52),(Zh hr_52 hlt),trivial⟩
    ·
     have hxo_18:=hx; clear hx; have hx:=ht_19; clear ht_19
     refine JC.block (JC.pubN 2 RU8.mono rfl hr_16 (Nat.le_refl _) (fun H_20 hleH_20 hsH_20 => JC.forget 2 (JC.seg0 (Zc 3 rfl (Zc 4 rfl (Zc 4 rfl (Zc 4 rfl ?_)))))))
     obtain ⟨t_21,ht_23,hx⟩:=ZD hx
     refine JC.rangeG (RA:=(fun (H : Heaplet) (args : Array Value) (y : List UInt8) => ∃ v0 : Value,args = #[v0] ∧ IsSlice H RU8 1 v0 y)) rfl (cipher_Stream_r1 p_4) ([] : List UInt8) t_21 (fun s_24 o g => ∃ H_34 : Heaplet,∃ ar_35 : Option Addr,∃ nr_35 : Nat,∃ cr_35 : Nat,∃ Kr_35 : Own,o = [[(b_5,.cells #[.int .i64 p_4] 3 (0,0))],[(b_9,.cells #[.slice ar_35 nr_35 cr_35] 26 (0,0))],Kr_35] ∧ H_34 = g ∧ Hle H_20 H_34 ∧ RowOf (New H H_34) RU8 w.heap.size 5 1 (.slice ar_35 nr_35 cr_35) s_24 Kr_35) (fun e c o g => (c = .exit 0 ∧ ∃ t_21e0 : List UInt8,t_21e0 = e ∧ ∃ H_36 : Heaplet,∃ ar_37 : Option Addr,∃ nr_37 : Nat,∃ cr_37 : Nat,∃ Kr_37 : Own,o = [[(b_5,.cells #[.int .i64 p_4] 3 (0,0))],[(b_9,.cells #[.slice ar_37 nr_37 cr_37] 26 (0,0))],Kr_37] ∧ H_36 = g ∧ Hle H_20 H_36 ∧ RowOf (New H H_36) RU8 w.heap.size 5 1 (.slice ar_37 nr_37 cr_37) t_21e0 Kr_37)) (fun mm g => mm = [[(b_13,.cells #[.slice az_14 nz_14 cz_14] 26 (0,0))],[(b_15,.cells #[.slice ar_16 nr_16 cr_16] 26 (0,0))]]) [_,_] [_,_,_] rfl E274 rfl (fun lr' I' X' O' hY' hI' => Does.mono (cipher_pieces_1_ok (cipher_Stream_r1 p_4) ([] : List UInt8) x_10.1 x_10.2 _ hY' hI' (hz_14.mono RU8.mono hleH_20) (hsH_20.old RU8.mono) _ ht_23) (fun u K' H' h => by obtain ⟨Oo,-,hK,hIX,-⟩:=h; exact ⟨_,_,hK,rfl,hIX⟩)) (fun _ _ _ h => by obtain ⟨_,rfl,_⟩:=h; first | rfl | (subst h; rfl)) rfl ⟨H_20,none,0,0,[],rfl,rfl,(Hle.refl _),(ZR _ _ _ _ _)⟩ ?_ ?_ ?_
     ·
      rintro lr_26 y_25 s_24 args o g H_30 out_28 hleH_30 ⟨H_34,ar_35,nr_35,cr_35,Kr_35,rfl,rfl,hleH_34,hr_35⟩ hA hx2
      clear hx; have hx:=hx2; clear hx2; unfold cipher_Stream_r1 at hx
      obtain ⟨vy_25_0,rfl,hsy_25_0⟩:=hA
      obtain ⟨ay_25_0,cy_25_0,rfl⟩:=IsSlice.val hsy_25_0
      refine ⟨[(5,.pointer (some ⟨b_5,0,none⟩)),(8,.pointer (some ⟨b_9,0,none⟩)),(9,.slice ay_25_0 y_25.length cy_25_0)],fun wb_27 hwb_27 => ?_,fun wb_27 hwb_27 => ?_⟩
      ·
       refine Run.cnz [] 3 ZF rfl ?_
       exact JN.assigned ⟨rfl,rfl,rfl,trivial⟩
      ·
       refine Run.cl [1] 5 ZF rfl (ZA rfl rfl (ZV U26 rfl (RowOf.long hr_35)) (Run.lcz_s [0] 4 ZF rfl (ZM rfl (fun c_36 => ?_) (fun c_36 => ?_))))
       ·
        replace hx:=ZK c_36 hx
        refine Run.cnz_kb [] 3 ZF rfl ?_
        obtain rfl:=Option.some.inj hx
        refine ZH 2 rfl (ZH 2 rfl (ZH 2 rfl ?_))
        exact JN.rX ⟨rfl,s_24,rfl,H_30,ar_35,nr_35,cr_35,Kr_35,rfl,rfl,((hleH_34.trans hleH_30)),(hr_35.mono RU8.mono (New.mono hleH_30))⟩
       ·
        replace hx:=ZL c_36 hx
        refine Run.clz_s [1] 5 ZF rfl ?_
        obtain ⟨q_37,hm_38,hl_39,hx⟩:=Zo hx
        refine Zr (HF:=(New H H_30)) 2 U26 I5 rfl rfl (hr_35.mono RU8.mono (New.mono hleH_30)) rfl (SrcF.sliceC RU8.const RU8.one U26 hsy_25_0) hm_38 hl_39 rfl hwb_27 rfl (fun vr_40 Kr_40 hr_40 => ?_)
        obtain ⟨ar_40,cr_40,rfl⟩:=RowOf.val hr_40
        refine Run.lnz_b [1] 3 ZF rfl ?_
        obtain rfl:=Option.some.inj hx
        refine ZH 2 rfl (ZH 2 rfl (ZH 2 rfl ?_))
        exact JN.rN ⟨H_30,ar_40,q_37.length,cr_40,Kr_40,rfl,rfl,((hleH_34.trans hleH_30)),hr_40⟩
     ·
      rintro D_29 s_24 m_31 o g H_30 hD_29 htt_32 hM_33 hleH_30 ⟨H_34,ar_35,nr_35,cr_35,Kr_35,rfl,rfl,hleH_34,hr_35⟩ hle2
      obtain rfl:=hM_33
      rw [htt_32] at hx; simp only [Sum.elim_inl] at hx
      refine JN.blkN ?_
      obtain rfl:=Option.some.inj hx
      refine JN.forget 2 (JN.forget 1 (ZH 3 rfl (ZH 3 rfl (ZH 3 rfl (ZH 3 rfl ?_)))))
      exact JN.cutD ⟨H_30,D_29,ar_35,nr_35,cr_35,Kr_35,rfl,rfl,rfl,rfl,((hleH_20.trans (hleH_34.trans hleH_30))),(hr_35.mono RU8.mono (New.mono hleH_30))⟩ rfl ⟨rfl,rfl,trivial⟩ rfl rfl
     ·
      rintro D_29 c e m_31 o g H_30 hD_29 htt_32 hM_33 hleH_30 hX hle2
      obtain rfl:=hM_33
      rcases hX with ⟨rfl,t_21e0,rfl,H_36,ar_37,nr_37,cr_37,Kr_37,rfl,rfl,hleH_36,hr_37⟩
      rw [htt_32] at hx; simp only [Sum.elim_inl,Sum.elim_inr] at hx
      refine Run.cnz_b [] 2 ZF rfl ?_
      obtain rfl:=Option.some.inj hx
      refine JN.forget 2 (JN.forget 1 (ZH 3 rfl (ZH 3 rfl (ZH 3 rfl (ZH 3 rfl ?_)))))
      exact JN.cutD ⟨H_30,D_29,ar_37,nr_37,cr_37,Kr_37,rfl,rfl,rfl,rfl,((hleH_20.trans (hleH_36.trans hleH_30))),(hr_37.mono RU8.mono (New.mono hleH_30))⟩ rfl ⟨rfl,rfl,trivial⟩ rfl rfl
end Go.Proofs.YtebhagohhbmgoaaGreat
