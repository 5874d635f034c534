import Derived.Test.YtebhagohhbmgoaaGreatW2p2
/- walks: what the code computes, function by function. -/
namespace Go.Proofs.YtebhagohhbmgoaaGreat
open Go.Ow Go.RowKit Go.Proofs
set_option linter.unusedVariables false
set_option linter.unusedSimpArgs false
set_option maxHeartbeats 8000000 in
theorem math_bits_Mul64_ok (p_1 : UInt64) (p_2 : UInt64) (H : Heaplet) (r : UInt64 × UInt64) (hx : math_bits_Mul64 p_1 p_2 = some r) :
  Does Tryz.prog 234 #[.int .u64 (p_1.toNat : Int),.int .u64 (p_2.toNat : Int)] [] H (fun u K' H' => u = .tuple #[.int .u64 (r.1.toNat : Int),.int .u64 (r.2.toNat : Int)] ∧ K' = [] ∧ H = H' ∧ True):=by
 refine Does.enterL (vs:=[.int .u64 (p_1.toNat : Int),.int .u64 (p_2.toNat : Int)]) (l:=[(0,.int .u64 (p_1.toNat : Int)),(1,.int .u64 (p_2.toNat : Int))]) Tryz.func234 rfl rfl ⟨rfl,rfl,trivial⟩ (fun w hlt => ?_)
 unfold math_bits_Mul64 at hx
 refine Run.cl [] 9 ZF rfl (ZA rfl rfl (R.and64 (a:=p_1) (b:=(4294967295 : UInt64)) rfl rfl) (Run.ll_s [] 6 ZF rfl (ZA rfl rfl (R.shr64 (n:=((32 : UInt64).toNat : Int)) (a:=p_1) rfl rfl (by decide)) ?_)))
 refine Run.ll_s [] 6 ZF rfl (ZA rfl rfl (R.and64 (a:=p_2) (b:=(4294967295 : UInt64)) rfl rfl) (Run.ll_s [] 6 ZF rfl (ZA rfl rfl (R.shr64 (n:=((32 : UInt64).toNat : Int)) (a:=p_2) rfl rfl (by decide)) ?_)))
 refine Run.ll_s [] 7 ZF rfl (ZA rfl rfl (R.mul64 (a:=p_1 &&& (4294967295 : UInt64)) (b:=p_2 &&& (4294967295 : UInt64)) rfl rfl) (Run.ll_s [] 7 ZF rfl (ZA rfl rfl (R.mul64 (a:=sr64 p_1 (((32 : UInt64).toNat : Int)).toNat) (b:=p_2 &&& (4294967295 : UInt64)) rfl rfl) (ZA rfl rfl (ZZ rfl) (ZA rfl rfl (R.shr64 (n:=((32 : UInt64).toNat : Int)) (a:=(p_1 &&& (4294967295 : UInt64)) * (p_2 &&& (4294967295 : UInt64))) rfl rfl (by decide)) (ZA rfl rfl (R.add64 (a:=(sr64 p_1 (((32 : UInt64).toNat : Int)).toNat) * (p_2 &&& (4294967295 : UInt64))) (b:=sr64 ((p_1 &&& (4294967295 : UInt64)) * (p_2 &&& (4294967295 : UInt64))) (((32 : UInt64).toNat : Int)).toNat) rfl rfl) ?_))))))
 refine Run.ll_s [] 6 ZF rfl (ZA rfl rfl (R.and64 (a:=((sr64 p_1 (((32 : UInt64).toNat : Int)).toNat) * (p_2 &&& (4294967295 : UInt64))) + (sr64 ((p_1 &&& (4294967295 : UInt64)) * (p_2 &&& (4294967295 : UInt64))) (((32 : UInt64).toNat : Int)).toNat)) (b:=(4294967295 : UInt64)) rfl rfl) (Run.ll_s [] 6 ZF rfl (ZA rfl rfl (R.shr64 (n:=((32 : UInt64).toNat : Int)) (a:=((sr64 p_1 (((32 : UInt64).toNat : Int)).toNat) * (p_2 &&& (4294967295 : UInt64))) + (sr64 ((p_1 &&& (4294967295 : UInt64)) * (p_2 &&& (4294967295 : UInt64))) (((32 : UInt64).toNat : Int)).toNat)) rfl rfl (by decide)) ?_)))
 refine Run.ll_s [] 8 ZF rfl (ZA rfl rfl (R.mul64 (a:=p_1 &&& (4294967295 : UInt64)) (b:=sr64 p_2 (((32 : UInt64).toNat : Int)).toNat) rfl rfl) (ZA rfl rfl (R.add64 (a:=(((sr64 p_1 (((32 : UInt64).toNat : Int)).toNat) * (p_2 &&& (4294967295 : UInt64))) + (sr64 ((p_1 &&& (4294967295 : UInt64)) * (p_2 &&& (4294967295 : UInt64))) (((32 : UInt64).toNat : Int)).toNat)) &&& (4294967295 : UInt64)) (b:=(p_1 &&& (4294967295 : UInt64)) * (sr64 p_2 (((32 : UInt64).toNat : Int)).toNat)) rfl rfl) (Run.ll_s [] 7 ZF rfl (ZA rfl rfl (R.mul64 (a:=sr64 p_1 (((32 : UInt64).toNat : Int)).toNat) (b:=sr64 p_2 (((32 : UInt64).toNat : Int)).toNat) rfl rfl) (ZA rfl rfl (ZZ rfl) (ZA rfl rfl (R.add64 (a:=(sr64 p_1 (((32 : UInt64).toNat : Int)).toNat) * (sr64 p_2 (((32 : UInt64).toNat : Int)).toNat)) (b:=sr64 (((sr64 p_1 (((32 : UInt64).toNat : Int)).toNat) * (p_2 &&& (4294967295 : UInt64))) + (sr64 ((p_1 &&& (4294967295 : UInt64)) * (p_2 &&& (4294967295 : UInt64))) (((32 : UInt64).toNat : Int)).toNat)) (((32 : UInt64).toNat : Int)).toNat) rfl rfl) (ZA rfl rfl (ZZ rfl) (ZA rfl rfl (R.shr64 (n:=((32 : UInt64).toNat : Int)) (a:=((((sr64 p_1 (((32 : UInt64).toNat : Int)).toNat) * (p_2 &&& (4294967295 : UInt64))) + (sr64 ((p_1 &&& (4294967295 : UInt64)) * (p_2 &&& (4294967295 : UInt64))) (((32 : UInt64).toNat : Int)).toNat)) &&& (4294967295 : UInt64)) + ((p_1 &&& (4294967295 : UInt64)) * (sr64 p_2 (((32 : UInt64).toNat : Int)).toNat))) rfl rfl (by decide)) (ZA rfl rfl (R.add64 (a:=((sr64 p_1 (((32 : UInt64).toNat : Int)).toNat) * (sr64 p_2 (((32 : UInt64).toNat : Int)).toNat)) + (sr64 (((sr64 p_1 (((32 : UInt64).toNat : Int)).toNat) * (p_2 &&& (4294967295 : UInt64))) + (sr64 ((p_1 &&& (4294967295 : UInt64)) * (p_2 &&& (4294967295 : UInt64))) (((32 : UInt64).toNat : Int)).toNat)) (((32 : UInt64).toNat : Int)).toNat)) (b:=sr64 (((((sr64 p_1 (((32 : UInt64).toNat : Int)).toNat) * (p_2 &&& (4294967295 : UInt64))) + (sr64 ((p_1 &&& (4294967295 : UInt64)) * (p_2 &&& (4294967295 : UInt64))) (((32 : UInt64).toNat : Int)).toNat)) &&& (4294967295 : UInt64)) + ((p_1 &&& (4294967295 : UInt64)) * (sr64 p_2 (((32 : UInt64).toNat : Int)).toNat))) (((32 : UInt64).toNat : Int)).toNat) rfl rfl) ?_)))))))))
 refine Run.lcz_s [] 3 ZF rfl (JC.tidy (l':=[(0,.int .u64 (p_1.toNat : Int)),(1,.int .u64 (p_2.toNat : Int)),(4,.int .u64 (((((sr64 p_1 (((32 : UInt64).toNat : Int)).toNat) * (sr64 p_2 (((32 : UInt64).toNat : Int)).toNat)) + (sr64 (((sr64 p_1 (((32 : UInt64).toNat : Int)).toNat) * (p_2 &&& (4294967295 : UInt64))) + (sr64 ((p_1 &&& (4294967295 : UInt64)) * (p_2 &&& (4294967295 : UInt64))) (((32 : UInt64).toNat : Int)).toNat)) (((32 : UInt64).toNat : Int)).toNat)) + (sr64 (((((sr64 p_1 (((32 : UInt64).toNat : Int)).toNat) * (p_2 &&& (4294967295 : UInt64))) + (sr64 ((p_1 &&& (4294967295 : UInt64)) * (p_2 &&& (4294967295 : UInt64))) (((32 : UInt64).toNat : Int)).toNat)) &&& (4294967295 : UInt64)) + ((p_1 &&& (4294967295 : UInt64)) * (sr64 p_2 (((32 : UInt64).toNat : Int)).toNat))) (((32 : UInt64).toNat : Int)).toNat)).toNat : Int)),(5,.int .u64 ((0 : UInt64).toNat : Int))]) (own':=[]) ⟨rfl,rfl,rfl,rfl,trivial⟩ rfl (JC.tidyP (l':=[(0,.int .u64 (p_1.toNat : Int)),(1,.int .u64 (p_2.toNat : Int)),(4,.int .u64 (((((sr64 p_1 (((32 : UInt64).toNat : Int)).toNat) * (sr64 p_2 (((32 : UInt64).toNat : Int)).toNat)) + (sr64 (((sr64 p_1 (((32 : UInt64).toNat : Int)).toNat) * (p_2 &&& (4294967295 : UInt64))) + (sr64 ((p_1 &&& (4294967295 : UInt64)) * (p_2 &&& (4294967295 : UInt64))) (((32 : UInt64).toNat : Int)).toNat)) (((32 : UInt64).toNat : Int)).toNat)) + (sr64 (((((sr64 p_1 (((32 : UInt64).toNat : Int)).toNat) * (p_2 &&& (4294967295 : UInt64))) + (sr64 ((p_1 &&& (4294967295 : UInt64)) * (p_2 &&& (4294967295 : UInt64))) (((32 : UInt64).toNat : Int)).toNat)) &&& (4294967295 : UInt64)) + ((p_1 &&& (4294967295 : UInt64)) * (sr64 p_2 (((32 : UInt64).toNat : Int)).toNat))) (((32 : UInt64).toNat : Int)).toNat)).toNat : Int)),(5,.int .u64 ((0 : UInt64).toNat : Int))]) (own':=[]) (rst:=[]) ⟨rfl,rfl,rfl,rfl,trivial⟩ ZC (Run.cl [] 4 ZF rfl (ZA rfl rfl (R.mul64 (a:=p_1) (b:=p_2) rfl rfl) (Run.lnz_s [] 4 ZF rfl (ZJ (vs:=[.int .u64 (((((sr64 p_1 (((32 : UInt64).toNat : Int)).toNat) * (sr64 p_2 (((32 : UInt64).toNat : Int)).toNat)) + (sr64 (((sr64 p_1 (((32 : UInt64).toNat : Int)).toNat) * (p_2 &&& (4294967295 : UInt64))) + (sr64 ((p_1 &&& (4294967295 : UInt64)) * (p_2 &&& (4294967295 : UInt64))) (((32 : UInt64).toNat : Int)).toNat)) (((32 : UInt64).toNat : Int)).toNat)) + (sr64 (((((sr64 p_1 (((32 : UInt64).toNat : Int)).toNat) * (p_2 &&& (4294967295 : UInt64))) + (sr64 ((p_1 &&& (4294967295 : UInt64)) * (p_2 &&& (4294967295 : UInt64))) (((32 : UInt64).toNat : Int)).toNat)) &&& (4294967295 : UInt64)) + ((p_1 &&& (4294967295 : UInt64)) * (sr64 p_2 (((32 : UInt64).toNat : Int)).toNat))) (((32 : UInt64).toNat : Int)).toNat)).toNat : Int),.int .u64 ((p_1 * p_2).toNat : Int)]) (K:=[]) (rst:=[]) (.inl rfl) rfl rfl (ZG rfl (ZG rfl rfl)) ZC ?_))))))
 obtain rfl:=Option.some.inj hx
 exact ⟨rfl,rfl,rfl,trivial⟩

set_option maxHeartbeats 8000000 in
theorem math_bits_Mul_ok (p_1 : UInt64) (p_2 : UInt64) (H : Heaplet) (r : UInt64 × UInt64) (hx : math_bits_Mul p_1 p_2 = some r) :
  Does Tryz.prog 180 #[.int .u64 (p_1.toNat : Int),.int .u64 (p_2.toNat : Int)] [] H (fun u K' H' => u = .tuple #[.int .u64 (r.1.toNat : Int),.int .u64 (r.2.toNat : Int)] ∧ K' = [] ∧ H = H' ∧ True):=by
 refine Does.enterL (vs:=[.int .u64 (p_1.toNat : Int),.int .u64 (p_2.toNat : Int)]) (l:=[(0,.int .u64 (p_1.toNat : Int)),(1,.int .u64 (p_2.toNat : Int))]) Tryz.func180 rfl rfl ⟨rfl,rfl,trivial⟩ (fun w hlt => ?_)
 unfold math_bits_Mul at hx
 refine Run.cl [] 14 ZF rfl ?_
 obtain ⟨x_3,hr_4,hx⟩:=ZD hx
 refine ZI (vs:=[_,_]) (args:=[_,_]) (K:=[]) (rst:=[]) E234 rfl rfl rfl ZC (math_bits_Mul64_ok p_1 p_2 _ _ hr_4) rfl (fun u_5 Ku_5 Hu_5 hRu_5 hleu_5 hfu_5 => ?_)
 obtain ⟨rfl,rfl,rfl,-⟩:=hRu_5
 refine Run.lnz_s [] 16 ZF rfl (ZJ (vs:=[.int .u64 (x_3.1.toNat : Int),.int .u64 (x_3.2.toNat : Int)]) (K:=[]) (rst:=[]) (.inl rfl) rfl rfl (ZG rfl (ZG rfl rfl)) ZC ?_)
 obtain rfl:=Option.some.inj hx
 exact ⟨rfl,rfl,rfl,trivial⟩

set_option maxHeartbeats 8000000 in
theorem slices_Repeat_int_ok (p_1 : List Int) (p_3 : Int) (H : Heaplet) {aa_2 : Option Addr} {na_2 : Nat} {ca_2 : Nat} (ha_2 : IsSlice H RInt 1 (.slice aa_2 na_2 ca_2) p_1) (r : List Int) (hx : slices_Repeat_int p_1 p_3 = some r) :
  Does Tryz.prog 119 #[.slice aa_2 na_2 ca_2,.int .i64 p_3] [] H (fun u K' H' => ∃ ao0 : Option Addr,∃ n0 : Nat,∃ cap0 : Nat,∃ K0 : Own,u = .slice ao0 n0 cap0 ∧ K' = [K0] ∧ H = H' ∧ RowOf (New H H) RInt 0 3 1 (.slice ao0 n0 cap0) r K0 ∧ (∀ p ∈ K0,p.1 ∉ ids (List.flatten [])) ∧ True):=by
 refine Does.enterL (vs:=[.slice aa_2 na_2 ca_2,.int .i64 p_3]) (l:=[(0,.slice aa_2 na_2 ca_2),(1,.int .i64 p_3)]) Tryz.func119 rfl rfl ⟨rfl,rfl,trivial⟩ (fun w hlt => ?_)
 unfold slices_Repeat_int at hx
 refine Run.cc [] 12 ZF rfl (ZM rfl (fun c_4 => ?_) (fun c_4 => ?_))
 ·
  replace hx:=ZK c_4 hx
  refine JC.region ?_
  cases hx
 ·
  replace hx:=ZL c_4 hx
  refine Run.cl_s [] 5 ZF rfl (ZA rfl rfl (ZV U51 rfl (IsSlice.long ha_2)) (ZA rfl rfl (R.cv_i64_u64 U3 U214 rfl) (ZA rfl rfl (ZZ rfl) (ZA rfl rfl (R.cv_i64_u64 U3 U214 rfl) ?_))))
  obtain ⟨x_5,hr_6,hx⟩:=ZD hx
  refine ZI (vs:=[_,_]) (args:=[_,_]) (K:=[]) (rst:=[]) E180 rfl rfl rfl ZC (math_bits_Mul_ok (u64i (p_1.length : Int)) (u64i p_3) _ _ hr_6) rfl (fun u_7 Ku_7 Hu_7 hRu_7 hleu_7 hfu_7 => ?_)
  obtain ⟨rfl,rfl,rfl,-⟩:=hRu_7
  refine Run.ll_s [] 11 ZF rfl (ZA rfl rfl (R.gtr64 (a:=x_5.1) (b:=(0 : UInt64)) rfl rfl) (ZA rfl rfl (ZZ rfl) (ZQ (t:=23) rfl (fun c_8 => ?_) (fun c_8 => ?_))))
  ·
   replace hx:=ZK c_8 hx
   refine Run.llz_s [] 7 ZF rfl ?_
   cases hx
  ·
   replace hx:=ZL c_8 hx
   refine Run.llz [] 3 ZF rfl (ZA rfl rfl (R.gtr64 (a:=x_5.2) (b:=(9223372036854775807 : UInt64)) rfl rfl) (Run.lcz_s [] 3 ZF rfl (ZM rfl (fun c_9 => ?_) (fun c_9 => ?_))))
   ·
    replace hx:=ZK c_9 hx
    refine JC.region ?_
    cases hx
   ·
    replace hx:=ZL c_9 hx
    refine Run.cl_s [] 5 ZF rfl (ZA rfl rfl (R.cv_u64_i64 (a:=x_5.2) U214 U3 rfl) ?_)
    obtain ⟨x_12,hm_11,hc_10,hx⟩:=mks_some hx
    refine JL.mkF (HF:=New H H) (R:=RInt) (y:=0) (n:=w64 (x_5.2.toNat : Int)) U51 I3 rfl rfl (fun _ => rfl) RInt.one hm_11 hc_10 rfl rfl (fun vr_13 Kr_13 hr_13 => ?_)
    obtain ⟨ar_13,cr_13,rfl⟩:=RowOf.val hr_13
    refine Run.ll_s [] 7 ZF rfl ?_
    obtain ⟨m_14,hm_15,hb_16,hx⟩:=cpyO_some hx
    refine JL.copyR (HF:=(New H H)) (lo:=0) (hi:=(x_12.length : Int)) 0 U51 S3 rfl hr_13 rfl (RowOf.whole hr_13) rfl (CSrc.slice RInt.one (Hle.refl _) ha_2 (fun _ _ h => RInt.const _ _ _ _ h)) hb_16 hm_15 rfl (fun Kr_17 hr_17 => Run.lc_s [] 4 ZF rfl ?_)
    obtain ⟨t_18,ht_20,hx⟩:=ZD hx
    refine JC.cut (fun l o g => ∃ Kr_25 : Own,l = [(7,.slice ar_13 x_12.length cr_13)] ∧ o = [Kr_25] ∧ H = g ∧ RowOf (New H H) RInt w.heap.size 3 1 (.slice ar_13 x_12.length cr_13) t_18 Kr_25) ?_ ?_
    ·
     rintro _ _ _ ⟨Kr_25,rfl,rfl,rfl,hr_25⟩
     refine Run.nnz_s [] 8 ZF rfl (ZJ (vs:=[.slice ar_13 x_12.length cr_13]) (K:=[_]) (rst:=[]) (.inl rfl) rfl rfl (ZG rfl rfl) (ZO 0 rfl ZC) ?_)
     obtain rfl:=Option.some.inj hx
     exact ⟨ar_13,x_12.length,cr_13,Kr_25,rfl,rfl,rfl,(ZT (Nat.zero_le _) hr_25),(Zh hr_25 hlt),trivial⟩
    ·
     have hxo_19:=hx; clear hx; have hx:=ht_20; clear ht_20
     refine JC.block (Zf (fun n l o g => ∃ s_21 : List Int × Int,∃ Kr_24 : Own,l = [(7,.slice ar_13 x_12.length cr_13),(8,.int .i64 s_21.2)] ∧ o = [Kr_24] ∧ H = g ∧ run slices_Repeat_int_l1 n s_21 = some t_18 ∧ RowOf (New H H) RInt w.heap.size 3 1 (.slice ar_13 x_12.length cr_13) s_21.1 Kr_24) FUEL ?_ ⟨(m_14,min (p_1.length : Int) ((x_12.length : Int) - 0)),Kr_17,rfl,rfl,rfl,hx,hr_17⟩ ⟨rfl,rfl,trivial⟩ ?_)
     ·
      rintro _ _ _ ⟨s_21,Kr_24,rfl,rfl,rfl,hn_22,hr_24⟩
      exact Ze hn_22
     ·
      rintro n_23 _ _ _ ⟨s_21,Kr_24,rfl,rfl,rfl,hn_22,hr_24⟩
      clear hx; obtain ⟨oo_26,hx,hd_25⟩:=Zd hn_22
      unfold slices_Repeat_int_l1 at hx
      refine Run.cl [] 5 ZF rfl (ZA rfl rfl (ZV U51 rfl (RowOf.long hr_24)) (Run.lcz_s [] 3 ZF rfl (ZM rfl (fun c_25 => ?_) (fun c_25 => ?_))))
      ·
       replace hx:=ZK c_25 hx
       refine Run.cc_s [] 3 ZF rfl (JC.draw (so:=[]) 10 rfl Mixed trivial (JA.val ⟨by kernel_rfl,by kernel_rfl⟩ (ZE _) (i:=0) rfl ⟨by kernel_rfl,by kernel_rfl,rfl⟩ trivial (ZB (Hle.refl _) trivial) (ZZ rfl) rfl (JA.val ⟨by kernel_rfl,by kernel_rfl⟩ (ZE _) (i:=1) rfl ⟨by kernel_rfl,by kernel_rfl,rfl⟩ trivial (ZB (Hle.refl _) trivial) (ZZ rfl) rfl (JA.val ⟨by kernel_rfl,by kernel_rfl⟩ (ZE _) (i:=2) rfl ⟨by kernel_rfl,by kernel_rfl,rfl⟩ trivial (ZB (Hle.refl _) trivial) (ZZ rfl) rfl (JA.val ⟨by kernel_rfl,by kernel_rfl⟩ (ZE _) (i:=4) rfl ⟨by kernel_rfl,by kernel_rfl,rfl⟩ trivial (ZB (Hle.refl _) trivial) (ZZ rfl) rfl (JA.val ⟨by kernel_rfl,by kernel_rfl⟩ (ZE _) (i:=5) rfl ⟨by kernel_rfl,by kernel_rfl,rfl⟩ trivial (ZB (Hle.refl _) trivial) (ZZ rfl) rfl ?_))))))
       obtain ⟨hb_27,hx⟩:=chk_some hx
       obtain ⟨hb_29,hx⟩:=chk_some hx
       obtain ⟨m_30,hm_31,hb_32,hx⟩:=cpyO_some hx
       refine JA.two (i:=3) (j:=6) (by kernel_rfl) ?_ ?_
       ·
        refine JO.step rfl trivial rfl (fun K hK => ?_)
        obtain ⟨vv_26,cv_26,h1v_26,h2v_26,h3v_26,hsv_26,hlv_26⟩:=RowOf.cutv hr_24 hb_27
        refine ZA rfl rfl (R.slc (cap:=cv_26) (a:=s_21.2) (b:=(s_21.1.length : Int)) (c:=(cv_26 : Int)) (m:=s_21.1) (R:=RInt) U51 S3 rfl ⟨_,rfl⟩ rfl (by obtain ⟨ao,n,e,_⟩:=h1v_26; exact ⟨ao,n,e,rfl⟩) ⟨hb_27.1,hb_27.2.1,h2v_26⟩ h3v_26 (.inl rfl)) (ZW (hK _ _ _ (ZB (Hle.refl _) trivial) (JA.one (i:=6) (by kernel_rfl) (JO.step rfl trivial rfl (fun K hK => ?_)))))
        obtain ⟨vv_28,cv_28,h1v_28,h2v_28,h3v_28,hsv_28,hlv_28⟩:=RowOf.cutv hr_24 hb_29
        refine ZA rfl rfl (R.slc (cap:=cv_28) (a:=(0 : Int)) (b:=s_21.2) (c:=(cv_28 : Int)) (m:=s_21.1) (R:=RInt) U51 S3 rfl rfl ⟨_,rfl⟩ (by obtain ⟨ao,n,e,_⟩:=h1v_28; exact ⟨ao,n,e,rfl⟩) ⟨hb_29.1,hb_29.2.1,h2v_28⟩ h3v_28 (.inl rfl)) (ZW (hK _ _ _ (ZB (Hle.refl _) trivial) (JA.one (i:=7) (by kernel_rfl) (JO.step rfl trivial rfl (fun K hK => JL.copyR (HF:=(New H H)) (lo:=s_21.2) (hi:=(s_21.1.length : Int)) 0 U51 S3 rfl hr_24 rfl hsv_26 rfl (CSrc.part 0 rfl hr_24 hsv_28 hb_29 rfl) hb_32 hm_31 rfl (fun Kr_33 hr_33 => ZW (hK _ _ _ (ZB (Hle.refl _) trivial) (JA.val ⟨by kernel_rfl,by kernel_rfl⟩ (ZE _) (i:=8) rfl ⟨by kernel_rfl,by kernel_rfl,rfl⟩ trivial (ZB (Hle.refl _) trivial) (R.add_i rfl rfl) rfl (JA.val ⟨by kernel_rfl,by kernel_rfl⟩ (ZE _) (i:=9) rfl ⟨by kernel_rfl,by kernel_rfl,rfl⟩ trivial (ZB (Hle.refl _) trivial) (R.assign rfl) rfl (Zg (by kernel_rfl) (JN.blkN ?_)))))))))))
        replace hx:=ZX hd_25 hx
        exact JN.cut ⟨(m_30,w64 (s_21.2 + (min ((cut s_21.1 (0 : Int) s_21.2).length : Int) ((s_21.1.length : Int) - s_21.2)))),Kr_33,rfl,rfl,rfl,hx,hr_33⟩ ⟨rfl,rfl,trivial⟩ rfl rfl
       ·
        refine JO.step rfl trivial rfl (fun K hK => ?_)
        obtain ⟨vv_28,cv_28,h1v_28,h2v_28,h3v_28,hsv_28,hlv_28⟩:=RowOf.cutv hr_24 hb_29
        refine ZA rfl rfl (R.slc (cap:=cv_28) (a:=(0 : Int)) (b:=s_21.2) (c:=(cv_28 : Int)) (m:=s_21.1) (R:=RInt) U51 S3 rfl rfl ⟨_,rfl⟩ (by obtain ⟨ao,n,e,_⟩:=h1v_28; exact ⟨ao,n,e,rfl⟩) ⟨hb_29.1,hb_29.2.1,h2v_28⟩ h3v_28 (.inl rfl)) (ZW (hK _ _ _ (ZB (Hle.refl _) trivial) (JA.one (i:=3) (by kernel_rfl) (JO.step rfl trivial rfl (fun K hK => ?_)))))
        obtain ⟨vv_26,cv_26,h1v_26,h2v_26,h3v_26,hsv_26,hlv_26⟩:=RowOf.cutv hr_24 hb_27
        refine ZA rfl rfl (R.slc (cap:=cv_26) (a:=s_21.2) (b:=(s_21.1.length : Int)) (c:=(cv_26 : Int)) (m:=s_21.1) (R:=RInt) U51 S3 rfl ⟨_,rfl⟩ rfl (by obtain ⟨ao,n,e,_⟩:=h1v_26; exact ⟨ao,n,e,rfl⟩) ⟨hb_27.1,hb_27.2.1,h2v_26⟩ h3v_26 (.inl rfl)) (ZW (hK _ _ _ (ZB (Hle.refl _) trivial) (JA.one (i:=7) (by kernel_rfl) (JO.step rfl trivial rfl (fun K hK => JL.copyR (HF:=(New H H)) (lo:=s_21.2) (hi:=(s_21.1.length : Int)) 0 U51 S3 rfl hr_24 rfl hsv_26 rfl (CSrc.part 0 rfl hr_24 hsv_28 hb_29 rfl) hb_32 hm_31 rfl (fun Kr_33 hr_33 => ZW (hK _ _ _ (ZB (Hle.refl _) trivial) (JA.val ⟨by kernel_rfl,by kernel_rfl⟩ (ZE _) (i:=8) rfl ⟨by kernel_rfl,by kernel_rfl,rfl⟩ trivial (ZB (Hle.refl _) trivial) (R.add_i rfl rfl) rfl (JA.val ⟨by kernel_rfl,by kernel_rfl⟩ (ZE _) (i:=9) rfl ⟨by kernel_rfl,by kernel_rfl,rfl⟩ trivial (ZB (Hle.refl _) trivial) (R.assign rfl) rfl (Zg (by kernel_rfl) (JN.blkN ?_)))))))))))
        replace hx:=ZX hd_25 hx
        exact JN.cut ⟨(m_30,w64 (s_21.2 + (min ((cut s_21.1 (0 : Int) s_21.2).length : Int) ((s_21.1.length : Int) - s_21.2)))),Kr_33,rfl,rfl,rfl,hx,hr_33⟩ ⟨rfl,rfl,trivial⟩ rfl rfl
      ·
       replace hx:=ZL c_25 hx
       refine Run.cnz_k [] 2 ZF rfl ?_
       obtain rfl:=Za hd_25 hx
       refine Run.nnz_kb [] 2 ZF rfl ?_
       exact JN.cut ⟨Kr_24,rfl,rfl,rfl,hr_24⟩ ⟨rfl,trivial⟩ rfl rfl

set_option maxHeartbeats 8000000 in
theorem dev_New_ok (H : Heaplet) (r : Disk) (hx : dev_New = some r) :
  Does Tryz.prog 60 #[] [] H (fun u K' H' => ∃ ao0 : Option Addr,∃ n0 : Nat,∃ cap0 : Nat,∃ K0 : Own,∃ ao1 : Option Addr,∃ n1 : Nat,u = .agg #[.slice ao0 n0 cap0,.slice ao1 n1 n1] ∧ K' = [K0] ∧ Pcs 0 5 26 (.slice ao0 n0 cap0) r.Blocks K0 ∧ (∀ p ∈ K0,p.1 ∉ ids (List.flatten [])) ∧ IsSlice (New H H') R_Write 2 (.slice ao1 n1 n1) r.Waits ∧ True):=by
 refine Does.enterL (vs:=[]) (l:=[]) Tryz.func60 rfl rfl trivial (fun w hlt => ?_)
 unfold dev_New at hx
 refine Run.cl [] 2 ZF rfl (JL.alloc Z25 rfl (fun b_1 hb_1 => Run.ll_s [] 4 ZF rfl (JL.bslF (HF:=(New H H)) (R:=RInt) (ls:=[256]) (vs:=[.int .i64 256]) U51 I3 rfl rfl (⟨_,_,rfl,rfl,rfl,rfl⟩) RInt.one rfl rfl rfl (by simp [maxLen]) rfl (fun vr_2 Kr_2 hr_2 => ?_))))
 obtain ⟨ar_2,cr_2,rfl⟩:=RowOf.val hr_2
 obtain ⟨x_6,hr_7,hx⟩:=ZD hx
 refine JL.callL3 (vs:=[_,_]) E119 rfl rfl (fun H_5 hle_4 hl_3 => slices_Repeat_int_ok ([256]) 256 _ (Lent.row' 0 hl_3 RInt.mono hle_4 rfl (hr_2.old RInt.mono)) _ hr_7) rfl (fun _ _ _ _ hR_9 hf_10 => ?_)
 obtain ⟨ar_8,nr_8,cr_8,Kr_8,rfl,rfl,rfl,hr_8,-,-⟩:=hR_9
 replace hr_8:=RowOf.base (ZP (H2:=New H H) RInt.const hr_8) (fun p hp => hf_10 p (ZS 0 rfl hp))
 refine JL.pubN 0 RInt.mono rfl hr_8 (Nat.le_refl _) (fun H_11 hleH_11 hsH_11 => JL.forget 0 ?_)
 obtain ⟨x_12,hr_13,hx⟩:=ZD hx
 refine ZI (vs:=[_]) (args:=[_]) (K:=[]) (rst:=[_,_]) E111 rfl rfl rfl ZC (dev_cut_ok x_6 _ (hsH_11.old RInt.mono) _ hr_13) rfl (fun u_14 Ku_14 Hu_14 hRu_14 hleu_14 hfu_14 => ?_)
 obtain ⟨ar_15,nr_15,cr_15,Kr_15,rfl,rfl,rfl,hr_15,hnewr_15,-⟩:=hRu_14
 replace hr_15:=(Pcs.base hr_15 (fun p hp => (hfu_14 p (ZS 0 rfl hp)).resolve_left (hnewr_15 p hp)))
 refine Run.lnz_s [2] 5 ZF rfl (ZJ (vs:=[.agg #[.slice ar_15 nr_15 cr_15,.slice none 0 0]]) (K:=[_]) (rst:=[_,_]) (.inl rfl) rfl rfl (Zn 2 rfl rfl S25 rfl) (ZO 0 rfl ZC) ?_)
 obtain rfl:=Option.some.inj hx
 exact ⟨ar_15,nr_15,cr_15,Kr_15,none,0,rfl,rfl,(Pcs.weak (Nat.zero_le _) hr_15),(newP_ids hr_15 hlt),(IsSlice.nil _ _ _),trivial⟩

set_option maxHeartbeats 8000000 in
theorem bytes_Repeat_ok (p_1 : List UInt8) (p_3 : Int) (H : Heaplet) {aa_2 : Option Addr} {na_2 : Nat} {ca_2 : Nat} (ha_2 : IsSlice H RU8 1 (.slice aa_2 na_2 ca_2) p_1) (r : List UInt8) (hx : bytes_Repeat p_1 p_3 = some r) :
  Does Tryz.prog 120 #[.slice aa_2 na_2 ca_2,.int .i64 p_3] [] H (fun u K' H' => ∃ ao0 : Option Addr,∃ n0 : Nat,∃ cap0 : Nat,∃ K0 : Own,u = .slice ao0 n0 cap0 ∧ K' = [K0] ∧ H = H' ∧ RowOf (New H H) RU8 0 5 1 (.slice ao0 n0 cap0) r K0 ∧ (∀ p ∈ K0,p.1 ∉ ids (List.flatten [])) ∧ True):=by
 refine Does.enterL (vs:=[.slice aa_2 na_2 ca_2,.int .i64 p_3]) (l:=[(0,.slice aa_2 na_2 ca_2),(1,.int .i64 p_3)]) Tryz.func120 rfl rfl ⟨rfl,rfl,trivial⟩ (fun w hlt => ?_)
 unfold bytes_Repeat at hx
 refine Run.cc [] 12 ZF rfl (ZM rfl (fun c_4 => ?_) (fun c_4 => ?_))
 ·
  replace hx:=ZK c_4 hx
  refine Run.cl [] 2 ZF rfl (JL.bslF (HF:=(New H H)) (R:=RU8) (ls:=([] : List UInt8)) (vs:=[]) U26 I5 rfl rfl (rfl) RU8.one rfl rfl rfl (by simp [maxLen]) rfl (fun vr_5 Kr_5 hr_5 => ?_))
  obtain ⟨ar_5,cr_5,rfl⟩:=RowOf.val hr_5
  refine Run.lnz_sk [] 5 ZF rfl (ZJ (vs:=[.slice ar_5 (([] : List UInt8).length) cr_5]) (K:=[_]) (rst:=[]) (.inl rfl) rfl rfl (ZG rfl rfl) (ZO 0 rfl ZC) ?_)
  obtain rfl:=Option.some.inj hx
  exact ⟨ar_5,([] : List UInt8).length,cr_5,Kr_5,rfl,rfl,rfl,(ZT (Nat.zero_le _) hr_5),(Zh hr_5 hlt),trivial⟩
 ·
  replace hx:=ZL c_4 hx
  refine Run.cc_s [] 9 ZF rfl (ZM rfl (fun c_6 => ?_) (fun c_6 => ?_))
  ·
   replace hx:=ZK c_6 hx
   refine JC.region ?_
   cases hx
  ·
   replace hx:=ZL c_6 hx
   refine Run.cl_s [] 5 ZF rfl (ZA rfl rfl (ZV U26 rfl (IsSlice.long ha_2)) (ZA rfl rfl (R.cv_i64_u64 U3 U214 rfl) (ZA rfl rfl (ZZ rfl) (ZA rfl rfl (R.cv_i64_u64 U3 U214 rfl) ?_))))
   obtain ⟨x_7,hr_8,hx⟩:=ZD hx
   refine ZI (vs:=[_,_]) (args:=[_,_]) (K:=[]) (rst:=[]) E180 rfl rfl rfl ZC (math_bits_Mul_ok (u64i (p_1.length : Int)) (u64i p_3) _ _ hr_8) rfl (fun u_9 Ku_9 Hu_9 hRu_9 hleu_9 hfu_9 => ?_)
   obtain ⟨rfl,rfl,rfl,-⟩:=hRu_9
   refine Run.ll_s [] 11 ZF rfl (ZA rfl rfl (R.gtr64 (a:=x_7.1) (b:=(0 : UInt64)) rfl rfl) (ZA rfl rfl (ZZ rfl) (ZQ (t:=29) rfl (fun c_10 => ?_) (fun c_10 => ?_))))
   ·
    replace hx:=ZK c_10 hx
    refine Run.llz_s [] 7 ZF rfl ?_
    cases hx
   ·
    replace hx:=ZL c_10 hx
    refine Run.llz [] 3 ZF rfl (ZA rfl rfl (R.gtr64 (a:=x_7.2) (b:=(9223372036854775807 : UInt64)) rfl rfl) (Run.lcz_s [] 3 ZF rfl (ZM rfl (fun c_11 => ?_) (fun c_11 => ?_))))
    ·
     replace hx:=ZK c_11 hx
     refine JC.region ?_
     cases hx
    ·
     replace hx:=ZL c_11 hx
     refine Run.cl_s [] 5 ZF rfl (ZA rfl rfl (R.cv_u64_i64 (a:=x_7.2) U214 U3 rfl) (Run.ll_s [] 7 ZF rfl (ZA rfl rfl (ZV U26 rfl (IsSlice.long ha_2)) (Run.lcz_s [] 3 ZF rfl (ZM rfl (fun c_12 => ?_) (fun c_12 => ?_))))))
     ·
      replace hx:=ZK c_12 hx
      refine Run.cl [] 2 ZF rfl (JL.bslF (HF:=(New H H)) (R:=RU8) (ls:=([] : List UInt8)) (vs:=[]) U26 I5 rfl rfl (rfl) RU8.one rfl rfl rfl (by simp [maxLen]) rfl (fun vr_13 Kr_13 hr_13 => ?_))
      obtain ⟨ar_13,cr_13,rfl⟩:=RowOf.val hr_13
      refine Run.lnz_sk [] 5 ZF rfl (ZJ (vs:=[.slice ar_13 (([] : List UInt8).length) cr_13]) (K:=[_]) (rst:=[]) (.inl rfl) rfl rfl (ZG rfl rfl) (ZO 0 rfl ZC) ?_)
      obtain rfl:=Option.some.inj hx
      exact ⟨ar_13,([] : List UInt8).length,cr_13,Kr_13,rfl,rfl,rfl,(ZT (Nat.zero_le _) hr_13),(Zh hr_13 hlt),trivial⟩
     ·
      replace hx:=ZL c_12 hx
      refine Run.cc_s [] 15 ZF rfl ?_
      obtain ⟨t_14,ht_16,hx⟩:=ZD hx
      refine JC.cut (fun l o g => l = [(0,.slice aa_2 na_2 ca_2),(7,.int .i64 (w64 (x_7.2.toNat : Int))),(8,.int .i64 t_14)] ∧ o = [] ∧ H = g) ?_ ?_
      ·
       rintro _ _ _ ⟨rfl,rfl,rfl⟩
       refine Run.nl_s [] 4 ZF rfl ?_
       obtain ⟨nz_200,hm_21,hc_22,hx⟩:=mks_some hx
       obtain ⟨nn_25,hnn_26⟩:=Int.eq_ofNat_of_zero_le hc_22.1
       refine JL.mkNZ (HF:=New H H) (N:=nn_25) Tryz.func181 (by kernel_rfl) rfl (by kernel_rfl) U26 (by kernel_rfl) (congrArg (fun q => some (Value.int .i64 q)) hnn_26) (by simpa [hnn_26] using hc_22.2) rfl (fun ar_24 cr_24 nz_20 Kr_24 hL_23 hr_24 => ?_)
       replace hx:=bytes_Repeat_any hm_21 hnn_26 hL_23 hx (by have:=hc_22.2; omega)
       refine Run.llz [] 2 ZF rfl ?_
       obtain ⟨m_29,hm_30,hb_28,hx⟩:=slc_some hx
       obtain ⟨vv_27,cv_27,av_27,h1v_27,h2v_27,hsv_27⟩:=RowOf.cutc hr_24 hm_30 hb_28
       refine ZA rfl rfl (R.slc (cap:=cv_27) (a:=0) (b:=w64 (x_7.2.toNat : Int)) (c:=w64 (x_7.2.toNat : Int)) (m:=nz_20) (R:=RU8) U26 S5 rfl rfl ⟨_,rfl⟩ ⟨_,rfl⟩ ⟨hb_28.1,hb_28.2.1,Int.le_refl _⟩ h1v_27 (.inr (fun h => by cases h))) ?_
       subst h2v_27
       refine Run.ll_s [] 7 ZF rfl ?_
       obtain ⟨m_32,hm_33,hb_34,hx⟩:=cpyO_some hx
       refine JL.copyR (HF:=(New H H)) (lo:=0) (hi:=(m_29.length : Int)) 0 U26 S5 rfl hsv_27 rfl (RowOf.whole hsv_27) rfl (CSrc.slice RU8.one (Hle.refl _) ha_2 (fun _ _ h => RU8.const _ _ _ _ h)) hb_34 hm_33 rfl (fun Kr_35 hr_35 => Run.lc_s [] 4 ZF rfl ?_)
       obtain ⟨t_36,ht_38,hx⟩:=ZD hx
       refine JC.cut (fun l o g => ∃ Kr_43 : Own,l = [(9,.slice av_27 m_29.length m_29.length)] ∧ o = [Kr_43] ∧ H = g ∧ RowOf (New H H) RU8 w.heap.size 5 1 (.slice av_27 m_29.length m_29.length) t_36 Kr_43) ?_ ?_
       ·
        rintro _ _ _ ⟨Kr_43,rfl,rfl,rfl,hr_43⟩
        refine Run.nnz_s [] 8 ZF rfl (ZJ (vs:=[.slice av_27 m_29.length m_29.length]) (K:=[_]) (rst:=[]) (.inl rfl) rfl rfl (ZG rfl rfl) (ZO 0 rfl ZC) ?_)
        obtain rfl:=Option.some.inj hx
        exact ⟨av_27,m_29.length,m_29.length,Kr_43,rfl,rfl,rfl,(ZT (Nat.zero_le _) hr_43),(Zh hr_43 hlt),trivial⟩
       ·
        have hxo_37:=hx; clear hx; have hx:=ht_38; clear ht_38
        refine JC.block (Zf (fun n l o g => ∃ s_39 : List UInt8 × Int,∃ Kr_42 : Own,l = [(7,.int .i64 (w64 (x_7.2.toNat : Int))),(8,.int .i64 t_14),(9,.slice av_27 m_29.length m_29.length),(10,.int .i64 s_39.2)] ∧ o = [Kr_42] ∧ H = g ∧ run (bytes_Repeat_l1 x_7 t_14) n s_39 = some t_36 ∧ RowOf (New H H) RU8 w.heap.size 5 1 (.slice av_27 m_29.length m_29.length) s_39.1 Kr_42) FUEL ?_ ⟨(m_32,min (p_1.length : Int) ((m_29.length : Int) - 0)),Kr_35,rfl,rfl,rfl,hx,hr_35⟩ ⟨rfl,rfl,rfl,rfl,trivial⟩ ?_)
        ·
         rintro _ _ _ ⟨s_39,Kr_42,rfl,rfl,rfl,hn_40,hr_42⟩
         exact Ze hn_40
        ·
         rintro n_41 _ _ _ ⟨s_39,Kr_42,rfl,rfl,rfl,hn_40,hr_42⟩
         clear hx; obtain ⟨oo_44,hx,hd_43⟩:=Zd hn_40
         unfold bytes_Repeat_l1 at hx
         refine Run.cc [] 8 ZF rfl (ZM rfl (fun c_43 => ?_) (fun c_43 => ?_))
         ·
          replace hx:=ZK c_43 hx
          refine Run.cl_s [] 7 ZF rfl (ZA rfl rfl (R.min2 rfl rfl) (Run.lcz_s [] 3 ZF rfl (JC.draw (so:=[]) 10 rfl Mixed trivial (JA.val ⟨by kernel_rfl,by kernel_rfl⟩ (ZE _) (i:=0) rfl ⟨by kernel_rfl,by kernel_rfl,rfl⟩ trivial (ZB (Hle.refl _) trivial) (ZZ rfl) rfl (JA.val ⟨by kernel_rfl,by kernel_rfl⟩ (ZE _) (i:=1) rfl ⟨by kernel_rfl,by kernel_rfl,rfl⟩ trivial (ZB (Hle.refl _) trivial) (ZZ rfl) rfl (JA.val ⟨by kernel_rfl,by kernel_rfl⟩ (ZE _) (i:=2) rfl ⟨by kernel_rfl,by kernel_rfl,rfl⟩ trivial (ZB (Hle.refl _) trivial) (ZZ rfl) rfl (JA.val ⟨by kernel_rfl,by kernel_rfl⟩ (ZE _) (i:=4) rfl ⟨by kernel_rfl,by kernel_rfl,rfl⟩ trivial (ZB (Hle.refl _) trivial) (ZZ rfl) rfl (JA.val ⟨by kernel_rfl,by kernel_rfl⟩ (ZE _) (i:=5) rfl ⟨by kernel_rfl,by kernel_rfl,rfl⟩ trivial (ZB (Hle.refl _) trivial) (ZZ rfl) rfl ?_))))))))
          obtain ⟨hb_45,hx⟩:=chk_some hx
          obtain ⟨hb_47,hx⟩:=chk_some hx
          obtain ⟨m_48,hm_49,hb_50,hx⟩:=cpyO_some hx
          refine JA.two (i:=3) (j:=6) (by kernel_rfl) ?_ ?_
          ·
           refine JO.step rfl trivial rfl (fun K hK => ?_)
           obtain ⟨vv_44,cv_44,h1v_44,h2v_44,h3v_44,hsv_44,hlv_44⟩:=RowOf.cutv hr_42 hb_45
           refine ZA rfl rfl (R.slc (cap:=cv_44) (a:=s_39.2) (b:=(s_39.1.length : Int)) (c:=(cv_44 : Int)) (m:=s_39.1) (R:=RU8) U26 S5 rfl ⟨_,rfl⟩ rfl (by obtain ⟨ao,n,e,_⟩:=h1v_44; exact ⟨ao,n,e,rfl⟩) ⟨hb_45.1,hb_45.2.1,h2v_44⟩ h3v_44 (.inl rfl)) (ZW (hK _ _ _ (ZB (Hle.refl _) trivial) (JA.one (i:=6) (by kernel_rfl) (JO.step rfl trivial rfl (fun K hK => ?_)))))
           obtain ⟨vv_46,cv_46,h1v_46,h2v_46,h3v_46,hsv_46,hlv_46⟩:=RowOf.cutv hr_42 hb_47
           refine ZA rfl rfl (R.slc (cap:=cv_46) (a:=(0 : Int)) (b:=min s_39.2 t_14) (c:=(cv_46 : Int)) (m:=s_39.1) (R:=RU8) U26 S5 rfl rfl ⟨_,rfl⟩ (by obtain ⟨ao,n,e,_⟩:=h1v_46; exact ⟨ao,n,e,rfl⟩) ⟨hb_47.1,hb_47.2.1,h2v_46⟩ h3v_46 (.inl rfl)) (ZW (hK _ _ _ (ZB (Hle.refl _) trivial) (JA.one (i:=7) (by kernel_rfl) (JO.step rfl trivial rfl (fun K hK => JL.copyR (HF:=(New H H)) (lo:=s_39.2) (hi:=(s_39.1.length : Int)) 0 U26 S5 rfl hr_42 rfl hsv_44 rfl (CSrc.part 0 rfl hr_42 hsv_46 hb_47 rfl) hb_50 hm_49 rfl (fun Kr_51 hr_51 => ZW (hK _ _ _ (ZB (Hle.refl _) trivial) (JA.val ⟨by kernel_rfl,by kernel_rfl⟩ (ZE _) (i:=8) rfl ⟨by kernel_rfl,by kernel_rfl,rfl⟩ trivial (ZB (Hle.refl _) trivial) (R.add_i rfl rfl) rfl (JA.val ⟨by kernel_rfl,by kernel_rfl⟩ (ZE _) (i:=9) rfl ⟨by kernel_rfl,by kernel_rfl,rfl⟩ trivial (ZB (Hle.refl _) trivial) (R.assign rfl) rfl (Zg (by kernel_rfl) (JN.blkN ?_)))))))))))
           replace hx:=ZX hd_43 hx
           exact JN.cut ⟨(m_48,w64 (s_39.2 + (min ((cut s_39.1 (0 : Int) (min s_39.2 t_14)).length : Int) ((s_39.1.length : Int) - s_39.2)))),Kr_51,rfl,rfl,rfl,hx,hr_51⟩ ⟨rfl,rfl,rfl,rfl,trivial⟩ rfl rfl
          ·
           refine JO.step rfl trivial rfl (fun K hK => ?_)
           obtain ⟨vv_46,cv_46,h1v_46,h2v_46,h3v_46,hsv_46,hlv_46⟩:=RowOf.cutv hr_42 hb_47
           refine ZA rfl rfl (R.slc (cap:=cv_46) (a:=(0 : Int)) (b:=min s_39.2 t_14) (c:=(cv_46 : Int)) (m:=s_39.1) (R:=RU8) U26 S5 rfl rfl ⟨_,rfl⟩ (by obtain ⟨ao,n,e,_⟩:=h1v_46; exact ⟨ao,n,e,rfl⟩) ⟨hb_47.1,hb_47.2.1,h2v_46⟩ h3v_46 (.inl rfl)) (ZW (hK _ _ _ (ZB (Hle.refl _) trivial) (JA.one (i:=3) (by kernel_rfl) (JO.step rfl trivial rfl (fun K hK => ?_)))))
           obtain ⟨vv_44,cv_44,h1v_44,h2v_44,h3v_44,hsv_44,hlv_44⟩:=RowOf.cutv hr_42 hb_45
           refine ZA rfl rfl (R.slc (cap:=cv_44) (a:=s_39.2) (b:=(s_39.1.length : Int)) (c:=(cv_44 : Int)) (m:=s_39.1) (R:=RU8) U26 S5 rfl ⟨_,rfl⟩ rfl (by obtain ⟨ao,n,e,_⟩:=h1v_44; exact ⟨ao,n,e,rfl⟩) ⟨hb_45.1,hb_45.2.1,h2v_44⟩ h3v_44 (.inl rfl)) (ZW (hK _ _ _ (ZB (Hle.refl _) trivial) (JA.one (i:=7) (by kernel_rfl) (JO.step rfl trivial rfl (fun K hK => JL.copyR (HF:=(New H H)) (lo:=s_39.2) (hi:=(s_39.1.length : Int)) 0 U26 S5 rfl hr_42 rfl hsv_44 rfl (CSrc.part 0 rfl hr_42 hsv_46 hb_47 rfl) hb_50 hm_49 rfl (fun Kr_51 hr_51 => ZW (hK _ _ _ (ZB (Hle.refl _) trivial) (JA.val ⟨by kernel_rfl,by kernel_rfl⟩ (ZE _) (i:=8) rfl ⟨by kernel_rfl,by kernel_rfl,rfl⟩ trivial (ZB (Hle.refl _) trivial) (R.add_i rfl rfl) rfl (JA.val ⟨by kernel_rfl,by kernel_rfl⟩ (ZE _) (i:=9) rfl ⟨by kernel_rfl,by kernel_rfl,rfl⟩ trivial (ZB (Hle.refl _) trivial) (R.assign rfl) rfl (Zg (by kernel_rfl) (JN.blkN ?_)))))))))))
           replace hx:=ZX hd_43 hx
           exact JN.cut ⟨(m_48,w64 (s_39.2 + (min ((cut s_39.1 (0 : Int) (min s_39.2 t_14)).length : Int) ((s_39.1.length : Int) - s_39.2)))),Kr_51,rfl,rfl,rfl,hx,hr_51⟩ ⟨rfl,rfl,rfl,rfl,trivial⟩ rfl rfl
         ·
          replace hx:=ZL c_43 hx
          refine Run.cnz_k [] 2 ZF rfl ?_
          obtain rfl:=Za hd_43 hx
          refine Run.nnz_kb [] 2 ZF rfl ?_
          exact JN.cut ⟨Kr_42,rfl,rfl,rfl,hr_42⟩ ⟨rfl,trivial⟩ rfl rfl
      ·
       have hxo_15:=hx; clear hx; have hx:=ht_16; clear ht_16
       refine ZM rfl (fun c_17 => ?_) (fun c_17 => ?_)
       ·
        replace hx:=ZK c_17 hx
        refine Run.cl [] 3 ZF rfl (ZA rfl rfl (ZV U26 rfl (IsSlice.long ha_2)) ?_)
        obtain ⟨hz_18,hx⟩:=chk_some hx
        refine ZA rfl rfl (R.quo_i rfl rfl hz_18) (ZA rfl rfl (ZZ rfl) (ZA rfl rfl (ZV U26 rfl (IsSlice.long ha_2)) (Run.lcz_s [] 10 ZF rfl (ZM rfl (fun c_19 => ?_) (fun c_19 => ?_)))))
        ·
         replace hx:=ZK c_19 hx
         refine Run.clz [] 2 ZF rfl (ZA rfl rfl (ZV U26 rfl (IsSlice.long ha_2)) (Run.lnz [] 2 ZF rfl ?_))
         obtain rfl:=Option.some.inj hx
         exact JN.cut ⟨rfl,rfl,rfl⟩ ⟨rfl,rfl,rfl,trivial⟩ rfl rfl
        ·
         replace hx:=ZL c_19 hx
         refine JC.skip ?_
         obtain rfl:=Option.some.inj hx
         exact JN.cut ⟨rfl,rfl,rfl⟩ ⟨rfl,rfl,rfl,trivial⟩ rfl rfl
       ·
        replace hx:=ZL c_17 hx
        refine JC.skip ?_
        obtain rfl:=Option.some.inj hx
        exact JN.cut ⟨rfl,rfl,rfl⟩ ⟨rfl,rfl,rfl,trivial⟩ rfl rfl

set_option maxHeartbeats 8000000 in
theorem space_New_ok (H : Heaplet) (r : List UInt8) (hx : space_New = some r) :
  Does Tryz.prog 61 #[] [] H (fun u K' H' => ∃ ao0 : Option Addr,∃ n0 : Nat,∃ cap0 : Nat,∃ K0 : Own,u = .slice ao0 n0 cap0 ∧ K' = [K0] ∧ H = H' ∧ RowOf (New H H) RU8 0 5 1 (.slice ao0 n0 cap0) r K0 ∧ (∀ p ∈ K0,p.1 ∉ ids (List.flatten [])) ∧ True):=by
 refine Does.enterL (vs:=[]) (l:=[]) Tryz.func61 rfl rfl trivial (fun w hlt => ?_)
 unfold space_New at hx
 refine Run.cl [] 7 ZF rfl (JL.bslF (HF:=(New H H)) (R:=RU8) (ls:=[(1 : UInt8)]) (vs:=[.int .u8 ((1 : UInt8).toNat : Int)]) U26 I5 rfl rfl (⟨_,_,rfl,rfl,rfl,rfl⟩) RU8.one rfl rfl rfl (by simp [maxLen]) rfl (fun vr_1 Kr_1 hr_1 => ?_))
 obtain ⟨ar_1,cr_1,rfl⟩:=RowOf.val hr_1
 obtain ⟨x_5,hr_6,hx⟩:=ZD hx
 refine JL.callL3 (vs:=[_,_]) E120 rfl rfl (fun H_4 hle_3 hl_2 => bytes_Repeat_ok ([(1 : UInt8)]) 12 _ (Lent.row' 0 hl_2 RU8.mono hle_3 rfl (hr_1.old RU8.mono)) _ hr_6) rfl (fun _ _ _ _ hR_8 hf_9 => ?_)
 obtain ⟨ar_7,nr_7,cr_7,Kr_7,rfl,rfl,rfl,hr_7,-,-⟩:=hR_8
 replace hr_7:=RowOf.base (ZP (H2:=New H H) RU8.const hr_7) (fun p hp => hf_9 p (ZS 0 rfl hp))
 obtain ⟨z_12,hz_11,hc_10,hx⟩:=mks_some hx
 obtain ⟨q_13,hm_14,hl_15,hx⟩:=Zo hx
 refine JL.appZR (HF:=(New H H)) (y:=(0 : UInt8)) 0 U26 U3 I5 rfl rfl hr_7 rfl (fun _ => rfl) RU8.one hz_11 hc_10 hm_14 hl_15 rfl (Nat.le_refl _) rfl (fun vr_16 Kr_16 hr_16 => ?_)
 obtain ⟨ar_16,cr_16,rfl⟩:=RowOf.val hr_16
 refine Run.lnz_s [] 4 ZF rfl (ZJ (vs:=[.slice ar_16 q_13.length cr_16]) (K:=[_]) (rst:=[_]) (.inl rfl) rfl rfl (ZG rfl rfl) (ZO 0 rfl ZC) ?_)
 obtain rfl:=Option.some.inj hx
 exact ⟨ar_16,q_13.length,cr_16,Kr_16,rfl,rfl,rfl,(ZT (Nat.zero_le _) hr_16),(Zh hr_16 hlt),trivial⟩

set_option maxHeartbeats 8000000 in
theorem store_New_ok (H : Heaplet) (r : Store) (hx : store_New = some r) :
  Does Tryz.prog 20 #[] [] H (fun u K' H' => ∃ ao0 : Option Addr,∃ n0 : Nat,∃ cap0 : Nat,∃ K0 : Own,∃ ao1 : Option Addr,∃ n1 : Nat,∃ ao2 : Option Addr,∃ n2 : Nat,∃ cap2 : Nat,∃ K2 : Own,u = .agg #[.slice ao0 n0 cap0,.slice ao1 n1 n1,.slice ao2 n2 cap2,.int .u32 (r.Epoch.toNat : Int),.int .u32 (r.Count.toNat : Int)] ∧ K' = [K0,K2] ∧ Pcs 0 5 26 (.slice ao0 n0 cap0) r.Disk.Blocks K0 ∧ (∀ p ∈ K0,p.1 ∉ ids (List.flatten [])) ∧ IsSlice (New H H') R_Write 2 (.slice ao1 n1 n1) r.Disk.Waits ∧ RowOf (New H H') RU8 0 5 1 (.slice ao2 n2 cap2) r.Space K2 ∧ (∀ p ∈ K2,p.1 ∉ ids (List.flatten [])) ∧ True):=by
 refine Does.enterL (vs:=[]) (l:=[]) Tryz.func20 rfl rfl trivial (fun w hlt => ?_)
 unfold store_New at hx
 refine Run.cl [] 2 ZF rfl (JL.alloc Z29 rfl (fun b_1 hb_1 => Run.ll_s [] 4 ZF rfl ?_))
 obtain ⟨x_2,hr_3,hx⟩:=ZD hx
 refine ZI (vs:=[]) (args:=[]) (K:=[]) (rst:=[_]) E60 rfl rfl rfl ZC (dev_New_ok _ _ hr_3) rfl (fun u_4 Ku_4 Hu_4 hRu_4 hleu_4 hfu_4 => ?_)
 obtain ⟨ar_5,nr_5,cr_5,Kr_5,az_6,nz_6,rfl,rfl,hr_5,hnewr_5,hz_6,-⟩:=hRu_4
 replace hr_5:=(Pcs.base hr_5 (fun p hp => (hfu_4 p (ZS 0 rfl hp)).resolve_left (hnewr_5 p hp)))
 replace hz_6:=IsSlice.mono R_Write.mono (New.call (Hle.refl _)) hz_6
 obtain ⟨x_7,hr_8,hx⟩:=ZD hx
 refine ZI (vs:=[]) (args:=[]) (K:=[]) (rst:=[_,_]) E61 rfl rfl rfl ZC (space_New_ok _ _ hr_8) rfl (fun u_9 Ku_9 Hu_9 hRu_9 hleu_9 hfu_9 => ?_)
 obtain ⟨ar_10,nr_10,cr_10,Kr_10,rfl,rfl,rfl,hr_10,hnewr_10,-⟩:=hRu_9
 replace hr_10:=(RowOf.base (ZP (H2:=New H Hu_4) RU8.const hr_10) (fun p hp => (hfu_9 p (ZS 0 rfl hp)).resolve_left (hnewr_10 p hp)))
 refine Run.lnz_s [2] 5 ZF rfl (ZJ (vs:=[.agg #[.slice ar_5 nr_5 cr_5,.slice az_6 nz_6 nz_6,.slice ar_10 nr_10 cr_10,.int .u32 ((1 : UInt32).toNat : Int),.int .u32 ((0 : UInt32).toNat : Int)]]) (K:=[_,_]) (rst:=[_]) (.inl rfl) rfl rfl (Zn 2 rfl rfl S29 rfl) (ZO 1 rfl (ZO 0 rfl ZC)) ?_)
 obtain rfl:=Option.some.inj hx
 exact ⟨ar_5,nr_5,cr_5,Kr_5,az_6,nz_6,ar_10,nr_10,cr_10,Kr_10,rfl,rfl,(Pcs.weak (Nat.zero_le _) hr_5),(newP_ids hr_5 hlt),hz_6,(ZT (Nat.zero_le _) hr_10),(Zh hr_10 hlt),trivial⟩

set_option maxHeartbeats 8000000 in
theorem ref09_New_ok (H : Heaplet) (r : Disk) (hx : ref09_New = some r) :
  Does Tryz.prog 62 #[] [] H (fun u K' H' => ∃ ao0 : Option Addr,∃ n0 : Nat,∃ cap0 : Nat,∃ K0 : Own,∃ ao1 : Option Addr,∃ n1 : Nat,u = .agg #[.slice ao0 n0 cap0,.slice ao1 n1 n1] ∧ K' = [K0] ∧ RowOf (New H H') (RSl RU8 1) 0 26 1 (.slice ao0 n0 cap0) r.Blocks K0 ∧ (∀ p ∈ K0,p.1 ∉ ids (List.flatten [])) ∧ IsSlice (New H H') R_Write 2 (.slice ao1 n1 n1) r.Waits ∧ True):=by
 refine Does.enterL (vs:=[]) (l:=[]) Tryz.func62 rfl rfl trivial (fun w hlt => ?_)
 unfold ref09_New at hx
 refine Run.cl [] 2 ZF rfl (JL.alloc Z25 rfl (fun b_1 hb_1 => Run.ll_s [] 4 ZF rfl ?_))
 obtain ⟨x_4,hm_3,hc_2,hx⟩:=mks_some hx
 refine JL.mkF (HF:=New H H) (R:=(RSl RU8 1)) (y:=([] : List UInt8)) (n:=256) U22 I26 rfl rfl (fun _ => ⟨_,rfl,IsSlice.nil _ _ _⟩) RSl.one hm_3 hc_2 rfl rfl (fun vr_5 Kr_5 hr_5 => ?_)
 obtain ⟨ar_5,cr_5,rfl⟩:=RowOf.val hr_5
 refine ZA rfl rfl (R.bldP (vs:=[(0,.slice ar_5 x_4.length cr_5)]) (cs:=[.slice ar_5 x_4.length cr_5,.slice none 0 0]) Z25 B25 rfl rfl rfl) (JL.alloc Z25 rfl (fun b_6 hb_6 => Run.lc_s [0] 9 ZF rfl ?_))
 obtain ⟨t_7,ht_9,hx⟩:=ZD hx
 refine JC.cut (fun l o g => ∃ H_15 : Heaplet,∃ Kr_16 : Own,l = [(0,.pointer (some ⟨b_1,0,none⟩)),(1,.pointer (some ⟨b_6,0,none⟩))] ∧ o = [[(b_1,.cells #[.slice none 0 0,.slice none 0 0] 25 (0,0))],[(b_6,.cells #[.slice ar_5 x_4.length cr_5,.slice none 0 0] 25 (0,0))],Kr_16] ∧ H_15 = g ∧ Hle H H_15 ∧ RowOf (New H H_15) (RSl RU8 1) w.heap.size 26 1 (.slice ar_5 x_4.length cr_5) t_7 Kr_16) ?_ ?_
 ·
  rintro _ _ _ ⟨H_15,Kr_16,rfl,rfl,rfl,hleH_15,hr_16⟩
  refine Run.nnz_s [1,0] 8 ZF rfl (ZJ (vs:=[.agg #[.slice ar_5 x_4.length cr_5,.slice none 0 0]]) (K:=[_]) (rst:=[_,_]) (.inl rfl) rfl rfl (Zn 0 rfl rfl S25 rfl) (ZO 2 rfl ZC) ?_)
  obtain rfl:=Option.some.inj hx
  exact ⟨ar_5,x_4.length,cr_5,Kr_16,none,0,rfl,rfl,(ZT (Nat.zero_le _) hr_16),(Zh hr_16 hlt),(IsSlice.nil _ _ _),trivial⟩
 ·
  have hxo_8:=hx; clear hx; have hx:=ht_9; clear ht_9
  refine JC.block (Zc 1 rfl (Zc 1 rfl (Zc 2 rfl (Zf (fun n l o g => ∃ s_10 : List (List UInt8) × Nat,∃ H_13 : Heaplet,∃ Kr_14 : Own,l = [(0,.pointer (some ⟨b_1,0,none⟩)),(1,.pointer (some ⟨b_6,0,none⟩)),(2,.int .i64 ((s_10.2 : Nat) : Int))] ∧ o = [[(b_1,.cells #[.slice none 0 0,.slice none 0 0] 25 (0,0))],[(b_6,.cells #[.slice ar_5 x_4.length cr_5,.slice none 0 0] 25 (0,0))],Kr_14] ∧ H_13 = g ∧ run ref09_New_l1 n s_10 = some t_7 ∧ Hle H H_13 ∧ RowOf (New H H_13) (RSl RU8 1) w.heap.size 26 1 (.slice ar_5 x_4.length cr_5) s_10.1 Kr_14) FUEL ?_ ⟨(x_4,0),H,Kr_5,rfl,rfl,rfl,hx,(Hle.refl _),hr_5⟩ ⟨rfl,rfl,rfl,trivial⟩ ?_))))
  ·
   rintro _ _ _ ⟨s_10,H_13,Kr_14,rfl,rfl,rfl,hn_11,hleH_13,hr_14⟩
   exact Ze hn_11
  ·
   rintro n_12 _ _ _ ⟨s_10,H_13,Kr_14,rfl,rfl,rfl,hn_11,hleH_13,hr_14⟩
   clear hx; obtain ⟨oo_16,hx,hd_15⟩:=Zd hn_11
   unfold ref09_New_l1 at hx
   refine Run.cc [] 7 ZF rfl (ZM rfl (fun c_15 => ?_) (fun c_15 => ?_))
   ·
    replace hx:=ZK c_15 hx
    refine Run.cc_s [] 4 ZF rfl (JC.drawB (so:=[(_,[]),(_,[]),(_,[5])]) 6 rfl Mixed ⟨by kernel_rfl,by kernel_rfl⟩ (kept0 [0,1,2] rfl) ?_)
    refine JB.val (i:=0) [] rfl (R.fa F25_0 rfl) ?_
    refine JB.val (i:=1) [] rfl (R.ldo 1 S22 rfl rfl rfl) ?_
    refine JB.val (i:=2) [] rfl (ZZ rfl) ?_
    refine JB.one (i:=3) (by kernel_rfl) ?_
    refine JOB.step rfl trivial rfl (fun K hK => ?_)
    obtain ⟨x_18,hm_17,hc_16,hx⟩:=mks_some hx
    refine JL.mkF (HF:=New H H_13) (R:=RU8) (y:=(0 : UInt8)) (n:=256) U26 I5 rfl rfl (fun _ => rfl) RU8.one hm_17 hc_16 rfl rfl (fun vr_19 Kr_19 hr_19 => ?_)
    obtain ⟨ar_19,cr_19,rfl⟩:=RowOf.val hr_19
    refine ZW (hK _ _ _ (Hle.refl _) (kept0 [1,2,3] rfl) ?_)
    refine JB.one (i:=4) (by kernel_rfl) ?_
    refine JOB.step rfl trivial rfl (fun K hK => ?_)
    obtain ⟨hp_20,hx⟩:=chk_some hx
    obtain ⟨b_21,o_22,hE_23⟩:=RowOf.place hr_14 hp_20
    refine ZA rfl rfl (Zu U22 S26 rfl rfl hE_23) (ZW (hK _ _ _ (Hle.refl _) (kept0 [1,2,3] rfl) ?_))
    refine JB.one (i:=5) (by kernel_rfl) ?_
    refine JOB.step rfl trivial rfl (fun K hK => JL.pubN 0 RU8.mono rfl hr_19 (Nat.le_refl _) (fun H_24 hleH_24 hsH_24 => JL.forget 0 ?_))
    obtain ⟨m_25,hm_26,hi_27,hx⟩:=setI_some hx
    refine JL.stE 2 (k:=((s_10.2 : Nat) : Int)) (y:=x_18) S26 rfl (hr_14.mono (RSl.mono RU8.mono) (New.mono hleH_24)) rfl hE_23 rfl rfl (⟨_,rfl,hsH_24⟩) RSl.one hm_26 (fun Kr_28 hr_28 hlr_28 => ZW (hK _ _ _ hleH_24 (kept1 [false,false,true] [0,1,0] (by kernel_rfl) rfl) ?_))
    refine JB.doneN (by kernel_rfl) ?_
    refine Run.nlz_bs [] 4 ZF rfl (ZA rfl rfl (Zt rfl rfl (of_decide_eq_true c_15) (by decide)) ?_)
    refine Run.lnz [] 2 ZF rfl ?_
    replace hx:=ZX hd_15 hx
    refine ZH 2 rfl (ZH 2 rfl (ZH 2 rfl ?_))
    exact JN.cut ⟨(m_25,s_10.2 + 1),H_24,Kr_28,rfl,rfl,rfl,hx,((hleH_13.trans hleH_24)),hr_28⟩ ⟨rfl,rfl,rfl,trivial⟩ rfl rfl
   ·
    replace hx:=ZL c_15 hx
    refine Run.cnz_k [] 2 ZF rfl ?_
    obtain rfl:=Za hd_15 hx
    refine Run.nnz_kb [] 2 ZF rfl (ZH 2 rfl (ZH 2 rfl (ZH 2 rfl ?_)))
    exact JN.cut ⟨H_13,Kr_14,rfl,rfl,rfl,(hleH_13),hr_14⟩ ⟨rfl,rfl,trivial⟩ rfl rfl

set_option maxHeartbeats 8000000 in
theorem ref12_New_ok (H : Heaplet) (r : List UInt8) (hx : ref12_New = some r) :
  Does Tryz.prog 63 #[] [] H (fun u K' H' => ∃ ao0 : Option Addr,∃ n0 : Nat,∃ cap0 : Nat,∃ K0 : Own,u = .slice ao0 n0 cap0 ∧ K' = [K0] ∧ H = H' ∧ RowOf (New H H) RU8 0 5 1 (.slice ao0 n0 cap0) r K0 ∧ (∀ p ∈ K0,p.1 ∉ ids (List.flatten [])) ∧ True):=by
 refine Does.enterL (vs:=[]) (l:=[]) Tryz.func63 rfl rfl trivial (fun w hlt => ?_)
 unfold ref12_New at hx
 refine Run.cl [] 7 ZF rfl ?_
 obtain ⟨x_3,hm_2,hc_1,hx⟩:=mks_some hx
 refine JL.mkF (HF:=New H H) (R:=RU8) (y:=(0 : UInt8)) (n:=256) U26 I5 rfl rfl (fun _ => rfl) RU8.one hm_2 hc_1 rfl rfl (fun vr_4 Kr_4 hr_4 => ?_)
 obtain ⟨ar_4,cr_4,rfl⟩:=RowOf.val hr_4
 refine Run.lc_s [] 9 ZF rfl ?_
 obtain ⟨t_5,ht_7,hx⟩:=ZD hx
 refine JC.cut (fun l o g => ∃ Kr_12 : Own,l = [(1,.slice ar_4 x_3.length cr_4)] ∧ o = [Kr_12] ∧ H = g ∧ RowOf (New H H) RU8 w.heap.size 5 1 (.slice ar_4 x_3.length cr_4) t_5 Kr_12) ?_ ?_
 ·
  rintro _ _ _ ⟨Kr_12,rfl,rfl,rfl,hr_12⟩
  refine Run.nnz_s [] 8 ZF rfl (ZJ (vs:=[.slice ar_4 x_3.length cr_4]) (K:=[_]) (rst:=[]) (.inl rfl) rfl rfl (ZG rfl rfl) (ZO 0 rfl ZC) ?_)
  obtain rfl:=Option.some.inj hx
  exact ⟨ar_4,x_3.length,cr_4,Kr_12,rfl,rfl,rfl,(ZT (Nat.zero_le _) hr_12),(Zh hr_12 hlt),trivial⟩
 ·
  have hxo_6:=hx; clear hx; have hx:=ht_7; clear ht_7
  refine JC.block (Zf (fun n l o g => ∃ s_8 : List UInt8 × Nat,∃ Kr_11 : Own,l = [(1,.slice ar_4 x_3.length cr_4),(2,.int .i64 ((s_8.2 : Nat) : Int))] ∧ o = [Kr_11] ∧ H = g ∧ run ref12_New_l1 n s_8 = some t_5 ∧ RowOf (New H H) RU8 w.heap.size 5 1 (.slice ar_4 x_3.length cr_4) s_8.1 Kr_11) FUEL ?_ ⟨(x_3,0),Kr_4,rfl,rfl,rfl,hx,hr_4⟩ ⟨rfl,rfl,trivial⟩ ?_)
  ·
   rintro _ _ _ ⟨s_8,Kr_11,rfl,rfl,rfl,hn_9,hr_11⟩
   exact Ze hn_9
  ·
   rintro n_10 _ _ _ ⟨s_8,Kr_11,rfl,rfl,rfl,hn_9,hr_11⟩
   clear hx; obtain ⟨oo_13,hx,hd_12⟩:=Zd hn_9
   unfold ref12_New_l1 at hx
   refine Run.cc [] 7 ZF rfl (ZM rfl (fun c_12 => ?_) (fun c_12 => ?_))
   ·
    replace hx:=ZK c_12 hx
    refine Run.cl_s [] 7 ZF rfl ?_
    obtain ⟨hp_13,hx⟩:=chk_some hx
    obtain ⟨b_14,o_15,hE_16⟩:=RowOf.place hr_11 hp_13
    refine ZA rfl rfl (Zu U26 S5 rfl rfl hE_16) ?_
    obtain ⟨m_17,hm_18,hi_19,hx⟩:=setI_some hx
    refine JL.stE 0 (k:=((s_8.2 : Nat) : Int)) (y:=(1 : UInt8)) S5 rfl hr_11 rfl hE_16 rfl rfl (rfl) RU8.one hm_18 (fun Kr_20 hr_20 hlr_20 => Run.llz_bs [] 5 ZF rfl (ZA rfl rfl (Zt rfl rfl (of_decide_eq_true c_12) (by decide)) ?_))
    refine Run.lnz [] 2 ZF rfl ?_
    replace hx:=ZX hd_12 hx
    exact JN.cut ⟨(m_17,s_8.2 + 1),Kr_20,rfl,rfl,rfl,hx,hr_20⟩ ⟨rfl,rfl,trivial⟩ rfl rfl
   ·
    replace hx:=ZL c_12 hx
    refine Run.cnz_k [] 2 ZF rfl ?_
    obtain rfl:=Za hd_12 hx
    refine Run.nnz_kb [] 2 ZF rfl ?_
    exact JN.cut ⟨Kr_11,rfl,rfl,rfl,hr_11⟩ ⟨rfl,trivial⟩ rfl rfl

set_option maxHeartbeats 8000000 in
theorem ref13_New_ok (H : Heaplet) (r : Store) (hx : ref13_New = some r) :
  Does Tryz.prog 21 #[] [] H (fun u K' H' => ∃ ao0 : Option Addr,∃ n0 : Nat,∃ cap0 : Nat,∃ K0 : Own,∃ ao1 : Option Addr,∃ n1 : Nat,∃ ao2 : Option Addr,∃ n2 : Nat,∃ cap2 : Nat,∃ K2 : Own,u = .agg #[.slice ao0 n0 cap0,.slice ao1 n1 n1,.slice ao2 n2 cap2,.int .u32 (r.Epoch.toNat : Int),.int .u32 (r.Count.toNat : Int)] ∧ K' = [K0,K2] ∧ RowOf (New H H') (RSl RU8 1) 0 26 1 (.slice ao0 n0 cap0) r.Disk.Blocks K0 ∧ (∀ p ∈ K0,p.1 ∉ ids (List.flatten [])) ∧ IsSlice (New H H') R_Write 2 (.slice ao1 n1 n1) r.Disk.Waits ∧ RowOf (New H H') RU8 0 5 1 (.slice ao2 n2 cap2) r.Space K2 ∧ (∀ p ∈ K2,p.1 ∉ ids (List.flatten [])) ∧ True):=by
 refine Does.enterL (vs:=[]) (l:=[]) Tryz.func21 rfl rfl trivial (fun w hlt => ?_)
 unfold ref13_New at hx
 refine Run.cl [] 2 ZF rfl (JL.alloc Z29 rfl (fun b_1 hb_1 => Run.ll_s [] 4 ZF rfl ?_))
 obtain ⟨x_2,hr_3,hx⟩:=ZD hx
 refine ZI (vs:=[]) (args:=[]) (K:=[]) (rst:=[_]) E62 rfl rfl rfl ZC (ref09_New_ok _ _ hr_3) rfl (fun u_4 Ku_4 Hu_4 hRu_4 hleu_4 hfu_4 => ?_)
 obtain ⟨ar_5,nr_5,cr_5,Kr_5,az_6,nz_6,rfl,rfl,hr_5,hnewr_5,hz_6,-⟩:=hRu_4
 replace hr_5:=(RowOf.base (RowOf.mono (RSl.mono RU8.mono) (New.call (Hle.refl _)) hr_5) (fun p hp => (hfu_4 p (ZS 0 rfl hp)).resolve_left (hnewr_5 p hp)))
 replace hz_6:=IsSlice.mono R_Write.mono (New.call (Hle.refl _)) hz_6
 obtain ⟨x_7,hr_8,hx⟩:=ZD hx
 refine ZI (vs:=[]) (args:=[]) (K:=[]) (rst:=[_,_]) E63 rfl rfl rfl ZC (ref12_New_ok _ _ hr_8) rfl (fun u_9 Ku_9 Hu_9 hRu_9 hleu_9 hfu_9 => ?_)
 obtain ⟨ar_10,nr_10,cr_10,Kr_10,rfl,rfl,rfl,hr_10,hnewr_10,-⟩:=hRu_9
 replace hr_10:=(RowOf.base (ZP (H2:=New H Hu_4) RU8.const hr_10) (fun p hp => (hfu_9 p (ZS 0 rfl hp)).resolve_left (hnewr_10 p hp)))
 refine Run.lnz_s [2] 5 ZF rfl (ZJ (vs:=[.agg #[.slice ar_5 nr_5 cr_5,.slice az_6 nz_6 nz_6,.slice ar_10 nr_10 cr_10,.int .u32 ((1 : UInt32).toNat : Int),.int .u32 ((0 : UInt32).toNat : Int)]]) (K:=[_,_]) (rst:=[_]) (.inl rfl) rfl rfl (Zn 2 rfl rfl S29 rfl) (ZO 1 rfl (ZO 0 rfl ZC)) ?_)
 obtain rfl:=Option.some.inj hx
 exact ⟨ar_5,nr_5,cr_5,Kr_5,az_6,nz_6,ar_10,nr_10,cr_10,Kr_10,rfl,rfl,(ZT (Nat.zero_le _) hr_5),(Zh hr_5 hlt),hz_6,(ZT (Nat.zero_le _) hr_10),(Zh hr_10 hlt),trivial⟩

set_option maxHeartbeats 8000000 in
theorem law13_spoil_ok (p_1 : Store) (H : Heaplet) {N_ : Heaplet} {D_ : Own} {aa_2 : Option Addr} {na_2 : Nat} {ca_2 : Nat} {aa_3 : Option Addr} {na_3 : Nat} {ca_3 : Nat} {aa_4 : Option Addr} {na_4 : Nat} {ca_4 : Nat} (hT_ : TH N_ D_) (ha_2 : IsSlice N_ (RSl RU8 1) 1 (.slice aa_2 na_2 ca_2) p_1.Disk.Blocks) (ha_3 : IsSlice N_ R_Write 2 (.slice aa_3 na_3 ca_3) p_1.Disk.Waits) (ha_4 : IsSlice N_ RU8 1 (.slice aa_4 na_4 ca_4) p_1.Space) (r : Unit) (hx : law13_spoil p_1 = some r) :
  Does Tryz.prog 22 #[.agg #[.slice aa_2 na_2 ca_2,.slice aa_3 na_3 ca_3,.slice aa_4 na_4 ca_4,.int .u32 (p_1.Epoch.toNat : Int),.int .u32 (p_1.Count.toNat : Int)]] [D_] H (fun u K' H' => ∃ D' : Own,u = .tuple #[] ∧ K' = [D'] ∧ H = H' ∧ TH N_ D' ∧ True):=by
 refine Does.enterL (vs:=[.agg #[.slice aa_2 na_2 ca_2,.slice aa_3 na_3 ca_3,.slice aa_4 na_4 ca_4,.int .u32 (p_1.Epoch.toNat : Int),.int .u32 (p_1.Count.toNat : Int)]]) (l:=[(0,.agg #[.slice aa_2 na_2 ca_2,.slice aa_3 na_3 ca_3,.slice aa_4 na_4 ca_4,.int .u32 (p_1.Epoch.toNat : Int),.int .u32 (p_1.Count.toNat : Int)])]) Tryz.func22 rfl rfl ⟨rfl,trivial⟩ (fun w hlt => ?_)
 unfold law13_spoil at hx
 refine Run.cl [] 2 ZF rfl (Zk rfl rfl (fun b_5 hb_5 => Run.lc_s [] 8 ZF rfl ?_))
 obtain ⟨t_6,ht_8,hx⟩:=ZD hx
 refine JC.cut (fun l o g => ∃ D_14 : Own,l = [(1,.pointer (some ⟨b_5,0,none⟩))] ∧ o = [[(b_5,.cells #[.slice aa_2 na_2 ca_2,.slice aa_3 na_3 ca_3,.slice aa_4 na_4 ca_4,.int .u32 (p_1.Epoch.toNat : Int),.int .u32 (p_1.Count.toNat : Int)] 29 (0,0))],D_14] ∧ H = g ∧ TH N_ D_14) ?_ ?_
 ·
  rintro _ _ _ ⟨D_14,rfl,rfl,rfl,hT_15⟩
  refine Run.nc_s [] 7 ZF rfl ?_
  obtain ⟨t_16,ht_18,hx⟩:=ZD hx
  refine JC.cut (fun l o g => ∃ D_24 : Own,l = [(1,.pointer (some ⟨b_5,0,none⟩))] ∧ o = [[(b_5,.cells #[.slice aa_2 na_2 ca_2,.slice aa_3 na_3 ca_3,.slice aa_4 na_4 ca_4,.int .u32 (p_1.Epoch.toNat : Int),.int .u32 (p_1.Count.toNat : Int)] 29 (0,0))],D_24] ∧ H = g ∧ TH N_ D_24) ?_ ?_
  ·
   rintro _ _ _ ⟨D_24,rfl,rfl,rfl,hT_25⟩
   refine Run.ncz_s [] 6 ZF rfl ?_
   obtain ⟨t_26,ht_28,hx⟩:=ZD hx
   refine JC.cut (fun l o g => ∃ D_34 : Own,l = [] ∧ o = [D_34] ∧ H = g ∧ TH N_ D_34) ?_ ?_
   ·
    rintro _ _ _ ⟨D_34,rfl,rfl,rfl,hT_35⟩
    refine ZJ (vs:=[]) (K:=[_]) (rst:=[]) (.inr rfl) rfl rfl rfl (ZO 0 rfl ZC) ?_
    obtain rfl:=Option.some.inj hx
    exact ⟨D_34,rfl,rfl,rfl,hT_35,trivial⟩
   ·
    have hxo_27:=hx; clear hx; have hx:=ht_28; clear ht_28
    refine JC.block (Zc 1 rfl (Zc 1 rfl (Zf (fun n l o g => ∃ s_29 : Nat,∃ D_32 : Own,l = [(1,.pointer (some ⟨b_5,0,none⟩)),(4,.int .i64 ((s_29 : Nat) : Int))] ∧ o = [[(b_5,.cells #[.slice aa_2 na_2 ca_2,.slice aa_3 na_3 ca_3,.slice aa_4 na_4 ca_4,.int .u32 (p_1.Epoch.toNat : Int),.int .u32 (p_1.Count.toNat : Int)] 29 (0,0))],D_32] ∧ H = g ∧ run (law13_spoil_l3 p_1) n s_29 = some t_26 ∧ TH N_ D_32) FUEL ?_ ⟨0,D_24,rfl,rfl,rfl,hx,hT_25⟩ ⟨rfl,rfl,trivial⟩ ?_)))
    ·
     rintro _ _ _ ⟨s_29,D_32,rfl,rfl,rfl,hn_30,hT_33⟩
     exact Ze hn_30
    ·
     rintro n_31 _ _ _ ⟨s_29,D_32,rfl,rfl,rfl,hn_30,hT_33⟩
     clear hx; obtain ⟨oo_35,hx,hd_34⟩:=Zd hn_30
     unfold law13_spoil_l3 at hx
     refine Run.cl [0] 6 ZF rfl (ZA rfl rfl (ZV U26 rfl (IsSlice.long ha_4)) (Run.lcz_s [] 3 ZF rfl (ZM rfl (fun c_34 => ?_) (fun c_34 => ?_))))
     ·
      replace hx:=ZK c_34 hx
      refine Run.cc_s [] 4 ZF rfl (JC.draw (so:=[_]) 11 rfl Mixed ⟨⟨0,rfl⟩,trivial⟩ (JA.val ⟨by kernel_rfl,by kernel_rfl⟩ (ZE _) (i:=0) rfl ⟨by kernel_rfl,by kernel_rfl,rfl⟩ trivial (ZB (Hle.refl _) ⟨⟨0,rfl⟩,trivial⟩) (R.fa F29_1 rfl) rfl (JA.val ⟨by kernel_rfl,by kernel_rfl⟩ (ZE _) (i:=1) rfl ⟨by kernel_rfl,by kernel_rfl,rfl⟩ trivial (ZB (Hle.refl _) ⟨⟨0,rfl⟩,trivial⟩) (R.ldo 0 S26 rfl rfl rfl) rfl (JA.val ⟨by kernel_rfl,by kernel_rfl⟩ (ZE _) (i:=2) rfl ⟨by kernel_rfl,by kernel_rfl,rfl⟩ trivial (ZB (Hle.refl _) ⟨⟨0,rfl⟩,trivial⟩) (ZZ rfl) rfl (JA.val ⟨by kernel_rfl,by kernel_rfl⟩ (ZE _) (i:=3) rfl ⟨by kernel_rfl,by kernel_rfl,rfl⟩ trivial (ZB (Hle.refl _) ⟨⟨0,rfl⟩,trivial⟩) (R.fa F29_1 rfl) rfl (JA.val ⟨by kernel_rfl,by kernel_rfl⟩ (ZE _) (i:=4) rfl ⟨by kernel_rfl,by kernel_rfl,rfl⟩ trivial (ZB (Hle.refl _) ⟨⟨0,rfl⟩,trivial⟩) (R.ldo 0 S26 rfl rfl rfl) rfl (JA.val ⟨by kernel_rfl,by kernel_rfl⟩ (ZE _) (i:=5) rfl ⟨by kernel_rfl,by kernel_rfl,rfl⟩ trivial (ZB (Hle.refl _) ⟨⟨0,rfl⟩,trivial⟩) (ZZ rfl) rfl ?_)))))))
      obtain ⟨y_35,hN_36,hx⟩:=ZY hx
      obtain ⟨b_37,o_38,cs_39,hE_40,hR_41,hl_42,hc_43⟩:=IsSlice.elem ha_4 hN_36
      obtain rfl:=hR_41
      refine JA.val ⟨by kernel_rfl,by kernel_rfl⟩ (ZE _) (i:=6) rfl ⟨by kernel_rfl,by kernel_rfl,rfl⟩ trivial (ZB (Hle.refl _) ⟨⟨0,rfl⟩,trivial⟩) (Zu U26 S5 rfl rfl hE_40) rfl (JA.one (i:=7) (by kernel_rfl) (JO.step rfl trivial rfl (fun K hK => ?_)))
      obtain ⟨ua_48,cur_44,tt_45,hm_46,hcc_47⟩:=TH.u8 (y:=y_35) hT_33 (hc_43 0 _ rfl)
      refine ZA rfl rfl (R.ldM 1 S5 rfl rfl hm_46 hcc_47) (ZW (hK _ _ _ (ZB (Hle.refl _) ⟨⟨0,rfl⟩,trivial⟩) (JA.val ⟨by kernel_rfl,by kernel_rfl⟩ (ZE _) (i:=8) rfl ⟨by kernel_rfl,by kernel_rfl,rfl⟩ trivial (ZB (Hle.refl _) ⟨⟨0,rfl⟩,trivial⟩) (R.add8 (a:=ua_48) (b:=(1 : UInt8)) rfl rfl) rfl ?_)))
      obtain ⟨y_49,hN_50,hx⟩:=ZY hx
      obtain ⟨b_51,o_52,cs_53,hE_54,hR_55,hl_56,hc_57⟩:=IsSlice.elem ha_4 hN_50
      obtain rfl:=hR_55
      refine JA.val ⟨by kernel_rfl,by kernel_rfl⟩ (ZE _) (i:=9) rfl ⟨by kernel_rfl,by kernel_rfl,rfl⟩ trivial (ZB (Hle.refl _) ⟨⟨0,rfl⟩,trivial⟩) (Zu U26 S5 rfl rfl hE_54) rfl (JA.one (i:=10) (by kernel_rfl) (JO.step rfl trivial rfl (fun K hK => JL.stT 1 S5 rfl hT_33 (hc_57 0 _ rfl) rfl rfl ⟨_,_,rfl⟩ (Kin.u8 (y:=y_49) (a:=ua_48 + (1 : UInt8))) (fun D_58 hTD_58 => ZW (hK _ _ _ (ZB (Hle.refl _) ⟨⟨0,rfl⟩,trivial⟩) (Zg (by kernel_rfl) ?_))))))
      refine Run.nlz_bs [] 4 ZF rfl (ZA rfl rfl (Zt rfl rfl (of_decide_eq_true c_34) (IsSlice.lenI ha_4)) (Run.lnz [] 2 ZF rfl ?_))
      replace hx:=ZX hd_34 hx
      refine ZH 1 rfl (ZH 1 rfl ?_)
      exact JN.cut ⟨s_29 + 1,D_58,rfl,rfl,rfl,hx,hTD_58⟩ ⟨rfl,rfl,trivial⟩ rfl rfl
     ·
      replace hx:=ZL c_34 hx
      refine Run.cnz_k [] 2 ZF rfl ?_
      obtain rfl:=Za hd_34 hx
      refine Run.nnz_kb [] 2 ZF rfl (JN.forget 0 ?_)
      exact JN.cut ⟨D_32,rfl,rfl,rfl,hT_33⟩ trivial rfl rfl
  ·
   have hxo_17:=hx; clear hx; have hx:=ht_18; clear ht_18
   refine JC.block (Zc 1 rfl (Zc 1 rfl (Zf (fun n l o g => ∃ s_19 : Nat,∃ D_22 : Own,l = [(1,.pointer (some ⟨b_5,0,none⟩)),(3,.int .i64 ((s_19 : Nat) : Int))] ∧ o = [[(b_5,.cells #[.slice aa_2 na_2 ca_2,.slice aa_3 na_3 ca_3,.slice aa_4 na_4 ca_4,.int .u32 (p_1.Epoch.toNat : Int),.int .u32 (p_1.Count.toNat : Int)] 29 (0,0))],D_22] ∧ H = g ∧ run (law13_spoil_l2 p_1) n s_19 = some t_16 ∧ TH N_ D_22) FUEL ?_ ⟨0,D_14,rfl,rfl,rfl,hx,hT_15⟩ ⟨rfl,rfl,trivial⟩ ?_)))
   ·
    rintro _ _ _ ⟨s_19,D_22,rfl,rfl,rfl,hn_20,hT_23⟩
    exact Ze hn_20
   ·
    rintro n_21 _ _ _ ⟨s_19,D_22,rfl,rfl,rfl,hn_20,hT_23⟩
    clear hx; obtain ⟨oo_25,hx,hd_24⟩:=Zd hn_20
    unfold law13_spoil_l2 at hx
    refine Run.cl [0] 7 ZF rfl (ZA rfl rfl (ZV U23 rfl (IsSlice.long ha_3)) (Run.lcz_s [] 3 ZF rfl (ZM rfl (fun c_24 => ?_) (fun c_24 => ?_))))
    ·
     replace hx:=ZK c_24 hx
     refine Run.cl_s [0] 10 ZF rfl ?_
     obtain ⟨y_25,hN_26,hx⟩:=ZY hx
     obtain ⟨b_27,o_28,cs_29,hE_30,hR_31,hl_32,hc_33⟩:=IsSlice.elem ha_3 hN_26
     obtain ⟨v_34,rfl,hs_35⟩:=hR_31
     obtain ⟨av_34,cv_34,rfl⟩:=IsSlice.val hs_35
     refine ZA rfl rfl (Zu U23 S96 rfl rfl hE_30) (ZA rfl rfl (R.fa F96_1 rfl) ?_)
     obtain ⟨cur_36,tt_37,hm_38,hcc_39⟩:=TH.exact hT_23 (hc_33 1 _ rfl) (by intro k n e; cases e)
     refine ZA rfl rfl (R.ldM 1 S26 rfl rfl hm_38 hcc_39) (ZA rfl rfl (ZV U26 rfl (IsSlice.long hs_35)) (Run.lcz_s [] 3 ZF rfl (ZM rfl (fun c_41 => ?_) (fun c_41 => ?_))))
     ·
      replace hx:=ZK c_41 hx
      refine JC.draw (so:=[_]) 19 rfl Mixed ⟨⟨0,rfl⟩,trivial⟩ (JA.val ⟨by kernel_rfl,by kernel_rfl⟩ (ZE _) (i:=0) rfl ⟨by kernel_rfl,by kernel_rfl,rfl⟩ trivial (ZB (Hle.refl _) ⟨⟨0,rfl⟩,trivial⟩) (R.fa F29_0 rfl) rfl (JA.val ⟨by kernel_rfl,by kernel_rfl⟩ (ZE _) (i:=1) rfl ⟨by kernel_rfl,by kernel_rfl,rfl⟩ trivial (ZB (Hle.refl _) ⟨⟨0,rfl⟩,trivial⟩) (R.fa F25_1 rfl) rfl (JA.val ⟨by kernel_rfl,by kernel_rfl⟩ (ZE _) (i:=2) rfl ⟨by kernel_rfl,by kernel_rfl,rfl⟩ trivial (ZB (Hle.refl _) ⟨⟨0,rfl⟩,trivial⟩) (R.ldo 0 S23 rfl rfl rfl) rfl (JA.val ⟨by kernel_rfl,by kernel_rfl⟩ (ZE _) (i:=3) rfl ⟨by kernel_rfl,by kernel_rfl,rfl⟩ trivial (ZB (Hle.refl _) ⟨⟨0,rfl⟩,trivial⟩) (ZZ rfl) rfl ?_))))
      obtain ⟨y_42,hN_43,hx⟩:=ZY hx
      obtain ⟨b_44,o_45,cs_46,hE_47,hR_48,hl_49,hc_50⟩:=IsSlice.elem ha_3 hN_43
      obtain ⟨v_51,rfl,hs_52⟩:=hR_48
      obtain ⟨av_51,cv_51,rfl⟩:=IsSlice.val hs_52
      refine JA.val ⟨by kernel_rfl,by kernel_rfl⟩ (ZE _) (i:=4) rfl ⟨by kernel_rfl,by kernel_rfl,rfl⟩ trivial (ZB (Hle.refl _) ⟨⟨0,rfl⟩,trivial⟩) (Zu U23 S96 rfl rfl hE_47) rfl (JA.val ⟨by kernel_rfl,by kernel_rfl⟩ (ZE _) (i:=5) rfl ⟨by kernel_rfl,by kernel_rfl,rfl⟩ trivial (ZB (Hle.refl _) ⟨⟨0,rfl⟩,trivial⟩) (R.fa F96_1 rfl) rfl (JA.val ⟨by kernel_rfl,by kernel_rfl⟩ (ZE _) (i:=7) rfl ⟨by kernel_rfl,by kernel_rfl,rfl⟩ trivial (ZB (Hle.refl _) ⟨⟨0,rfl⟩,trivial⟩) (R.fa F29_0 rfl) rfl (JA.val ⟨by kernel_rfl,by kernel_rfl⟩ (ZE _) (i:=8) rfl ⟨by kernel_rfl,by kernel_rfl,rfl⟩ trivial (ZB (Hle.refl _) ⟨⟨0,rfl⟩,trivial⟩) (R.fa F25_1 rfl) rfl (JA.val ⟨by kernel_rfl,by kernel_rfl⟩ (ZE _) (i:=9) rfl ⟨by kernel_rfl,by kernel_rfl,rfl⟩ trivial (ZB (Hle.refl _) ⟨⟨0,rfl⟩,trivial⟩) (R.ldo 0 S23 rfl rfl rfl) rfl (JA.val ⟨by kernel_rfl,by kernel_rfl⟩ (ZE _) (i:=10) rfl ⟨by kernel_rfl,by kernel_rfl,rfl⟩ trivial (ZB (Hle.refl _) ⟨⟨0,rfl⟩,trivial⟩) (ZZ rfl) rfl ?_)))))
      obtain ⟨y_53,hN_54,hx⟩:=ZY hx
      obtain ⟨b_55,o_56,cs_57,hE_58,hR_59,hl_60,hc_61⟩:=IsSlice.elem ha_3 hN_54
      obtain ⟨v_62,rfl,hs_63⟩:=hR_59
      obtain ⟨av_62,cv_62,rfl⟩:=IsSlice.val hs_63
      refine JA.val ⟨by kernel_rfl,by kernel_rfl⟩ (ZE _) (i:=11) rfl ⟨by kernel_rfl,by kernel_rfl,rfl⟩ trivial (ZB (Hle.refl _) ⟨⟨0,rfl⟩,trivial⟩) (Zu U23 S96 rfl rfl hE_58) rfl (JA.val ⟨by kernel_rfl,by kernel_rfl⟩ (ZE _) (i:=12) rfl ⟨by kernel_rfl,by kernel_rfl,rfl⟩ trivial (ZB (Hle.refl _) ⟨⟨0,rfl⟩,trivial⟩) (R.fa F96_1 rfl) rfl ?_)
      obtain ⟨y_74,hN_75,hx⟩:=ZY hx
      obtain ⟨y_88,hN_89,hx⟩:=ZY hx
      refine JA.two (i:=6) (j:=13) (by kernel_rfl) ?_ ?_
      ·
       refine JO.step rfl trivial rfl (fun K hK => ?_)
       obtain ⟨cur_64,tt_65,hm_66,hcc_67⟩:=TH.exact hT_23 (hc_50 1 _ rfl) (by intro k n e; cases e)
       refine ZA rfl rfl (R.ldM 1 S26 rfl rfl hm_66 hcc_67) (ZW (hK _ _ _ (ZB (Hle.refl _) ⟨⟨0,rfl⟩,trivial⟩) (JA.one (i:=13) (by kernel_rfl) (JO.step rfl trivial rfl (fun K hK => ?_)))))
       obtain ⟨cur_69,tt_70,hm_71,hcc_72⟩:=TH.exact hT_23 (hc_61 1 _ rfl) (by intro k n e; cases e)
       refine ZA rfl rfl (R.ldM 1 S26 rfl rfl hm_71 hcc_72) (ZW (hK _ _ _ (ZB (Hle.refl _) ⟨⟨0,rfl⟩,trivial⟩) ?_))
       obtain ⟨b_76,o_77,cs_78,hE_79,hR_80,hl_81,hc_82⟩:=IsSlice.elem hs_63 hN_75
       obtain rfl:=hR_80
       refine JA.val ⟨by kernel_rfl,by kernel_rfl⟩ (ZE _) (i:=14) rfl ⟨by kernel_rfl,by kernel_rfl,rfl⟩ trivial (ZB (Hle.refl _) ⟨⟨0,rfl⟩,trivial⟩) (Zu U26 S5 rfl rfl hE_79) rfl (JA.one (i:=15) (by kernel_rfl) (JO.step rfl trivial rfl (fun K hK => ?_)))
       obtain ⟨ua_87,cur_83,tt_84,hm_85,hcc_86⟩:=TH.u8 (y:=y_74) hT_23 (hc_82 0 _ rfl)
       refine ZA rfl rfl (R.ldM 1 S5 rfl rfl hm_85 hcc_86) (ZW (hK _ _ _ (ZB (Hle.refl _) ⟨⟨0,rfl⟩,trivial⟩) (JA.val ⟨by kernel_rfl,by kernel_rfl⟩ (ZE _) (i:=16) rfl ⟨by kernel_rfl,by kernel_rfl,rfl⟩ trivial (ZB (Hle.refl _) ⟨⟨0,rfl⟩,trivial⟩) (R.add8 (a:=ua_87) (b:=(1 : UInt8)) rfl rfl) rfl ?_)))
       obtain ⟨b_90,o_91,cs_92,hE_93,hR_94,hl_95,hc_96⟩:=IsSlice.elem hs_52 hN_89
       obtain rfl:=hR_94
       refine JA.val ⟨by kernel_rfl,by kernel_rfl⟩ (ZE _) (i:=17) rfl ⟨by kernel_rfl,by kernel_rfl,rfl⟩ trivial (ZB (Hle.refl _) ⟨⟨0,rfl⟩,trivial⟩) (Zu U26 S5 rfl rfl hE_93) rfl (JA.one (i:=18) (by kernel_rfl) (JO.step rfl trivial rfl (fun K hK => JL.stT 1 S5 rfl hT_23 (hc_96 0 _ rfl) rfl rfl ⟨_,_,rfl⟩ (Kin.u8 (y:=y_88) (a:=ua_87 + (1 : UInt8))) (fun D_97 hTD_97 => ZW (hK _ _ _ (ZB (Hle.refl _) ⟨⟨0,rfl⟩,trivial⟩) (Zg (by kernel_rfl) ?_))))))
       refine Run.nlz_bs [] 4 ZF rfl (ZA rfl rfl (Zt rfl rfl (of_decide_eq_true c_24) (IsSlice.lenI ha_3)) (Run.lnz [] 2 ZF rfl ?_))
       replace hx:=ZX hd_24 hx
       refine ZH 1 rfl (ZH 1 rfl ?_)
       exact JN.cut ⟨s_19 + 1,D_97,rfl,rfl,rfl,hx,hTD_97⟩ ⟨rfl,rfl,trivial⟩ rfl rfl
      ·
       refine JO.step rfl trivial rfl (fun K hK => ?_)
       obtain ⟨cur_69,tt_70,hm_71,hcc_72⟩:=TH.exact hT_23 (hc_61 1 _ rfl) (by intro k n e; cases e)
       refine ZA rfl rfl (R.ldM 1 S26 rfl rfl hm_71 hcc_72) (ZW (hK _ _ _ (ZB (Hle.refl _) ⟨⟨0,rfl⟩,trivial⟩) ?_))
       obtain ⟨b_76,o_77,cs_78,hE_79,hR_80,hl_81,hc_82⟩:=IsSlice.elem hs_63 hN_75
       obtain rfl:=hR_80
       refine JA.val ⟨by kernel_rfl,by kernel_rfl⟩ (ZE _) (i:=14) rfl ⟨by kernel_rfl,by kernel_rfl,rfl⟩ trivial (ZB (Hle.refl _) ⟨⟨0,rfl⟩,trivial⟩) (Zu U26 S5 rfl rfl hE_79) rfl (JA.two (i:=6) (j:=15) (by kernel_rfl) ?_ ?_)
       ·
        refine JO.step rfl trivial rfl (fun K hK => ?_)
        obtain ⟨cur_64,tt_65,hm_66,hcc_67⟩:=TH.exact hT_23 (hc_50 1 _ rfl) (by intro k n e; cases e)
        refine ZA rfl rfl (R.ldM 1 S26 rfl rfl hm_66 hcc_67) (ZW (hK _ _ _ (ZB (Hle.refl _) ⟨⟨0,rfl⟩,trivial⟩) (JA.one (i:=15) (by kernel_rfl) (JO.step rfl trivial rfl (fun K hK => ?_)))))
        obtain ⟨ua_87,cur_83,tt_84,hm_85,hcc_86⟩:=TH.u8 (y:=y_74) hT_23 (hc_82 0 _ rfl)
        refine ZA rfl rfl (R.ldM 1 S5 rfl rfl hm_85 hcc_86) (ZW (hK _ _ _ (ZB (Hle.refl _) ⟨⟨0,rfl⟩,trivial⟩) (JA.val ⟨by kernel_rfl,by kernel_rfl⟩ (ZE _) (i:=16) rfl ⟨by kernel_rfl,by kernel_rfl,rfl⟩ trivial (ZB (Hle.refl _) ⟨⟨0,rfl⟩,trivial⟩) (R.add8 (a:=ua_87) (b:=(1 : UInt8)) rfl rfl) rfl ?_)))
        obtain ⟨b_90,o_91,cs_92,hE_93,hR_94,hl_95,hc_96⟩:=IsSlice.elem hs_52 hN_89
        obtain rfl:=hR_94
        refine JA.val ⟨by kernel_rfl,by kernel_rfl⟩ (ZE _) (i:=17) rfl ⟨by kernel_rfl,by kernel_rfl,rfl⟩ trivial (ZB (Hle.refl _) ⟨⟨0,rfl⟩,trivial⟩) (Zu U26 S5 rfl rfl hE_93) rfl (JA.one (i:=18) (by kernel_rfl) (JO.step rfl trivial rfl (fun K hK => JL.stT 1 S5 rfl hT_23 (hc_96 0 _ rfl) rfl rfl ⟨_,_,rfl⟩ (Kin.u8 (y:=y_88) (a:=ua_87 + (1 : UInt8))) (fun D_97 hTD_97 => ZW (hK _ _ _ (ZB (Hle.refl _) ⟨⟨0,rfl⟩,trivial⟩) (Zg (by kernel_rfl) ?_))))))
        refine Run.nlz_bs [] 4 ZF rfl (ZA rfl rfl (Zt rfl rfl (of_decide_eq_true c_24) (IsSlice.lenI ha_3)) (Run.lnz [] 2 ZF rfl ?_))
        replace hx:=ZX hd_24 hx
        refine ZH 1 rfl (ZH 1 rfl ?_)
        exact JN.cut ⟨s_19 + 1,D_97,rfl,rfl,rfl,hx,hTD_97⟩ ⟨rfl,rfl,trivial⟩ rfl rfl
       ·
        refine JO.step rfl trivial rfl (fun K hK => ?_)
        obtain ⟨ua_87,cur_83,tt_84,hm_85,hcc_86⟩:=TH.u8 (y:=y_74) hT_23 (hc_82 0 _ rfl)
        refine ZA rfl rfl (R.ldM 1 S5 rfl rfl hm_85 hcc_86) (ZW (hK _ _ _ (ZB (Hle.refl _) ⟨⟨0,rfl⟩,trivial⟩) (JA.val ⟨by kernel_rfl,by kernel_rfl⟩ (ZE _) (i:=16) rfl ⟨by kernel_rfl,by kernel_rfl,rfl⟩ trivial (ZB (Hle.refl _) ⟨⟨0,rfl⟩,trivial⟩) (R.add8 (a:=ua_87) (b:=(1 : UInt8)) rfl rfl) rfl (JA.one (i:=6) (by kernel_rfl) (JO.step rfl trivial rfl (fun K hK => ?_))))))
        obtain ⟨cur_64,tt_65,hm_66,hcc_67⟩:=TH.exact hT_23 (hc_50 1 _ rfl) (by intro k n e; cases e)
        refine ZA rfl rfl (R.ldM 1 S26 rfl rfl hm_66 hcc_67) (ZW (hK _ _ _ (ZB (Hle.refl _) ⟨⟨0,rfl⟩,trivial⟩) ?_))
        obtain ⟨b_90,o_91,cs_92,hE_93,hR_94,hl_95,hc_96⟩:=IsSlice.elem hs_52 hN_89
        obtain rfl:=hR_94
        refine JA.val ⟨by kernel_rfl,by kernel_rfl⟩ (ZE _) (i:=17) rfl ⟨by kernel_rfl,by kernel_rfl,rfl⟩ trivial (ZB (Hle.refl _) ⟨⟨0,rfl⟩,trivial⟩) (Zu U26 S5 rfl rfl hE_93) rfl (JA.one (i:=18) (by kernel_rfl) (JO.step rfl trivial rfl (fun K hK => JL.stT 1 S5 rfl hT_23 (hc_96 0 _ rfl) rfl rfl ⟨_,_,rfl⟩ (Kin.u8 (y:=y_88) (a:=ua_87 + (1 : UInt8))) (fun D_97 hTD_97 => ZW (hK _ _ _ (ZB (Hle.refl _) ⟨⟨0,rfl⟩,trivial⟩) (Zg (by kernel_rfl) ?_))))))
        refine Run.nlz_bs [] 4 ZF rfl (ZA rfl rfl (Zt rfl rfl (of_decide_eq_true c_24) (IsSlice.lenI ha_3)) (Run.lnz [] 2 ZF rfl ?_))
        replace hx:=ZX hd_24 hx
        refine ZH 1 rfl (ZH 1 rfl ?_)
        exact JN.cut ⟨s_19 + 1,D_97,rfl,rfl,rfl,hx,hTD_97⟩ ⟨rfl,rfl,trivial⟩ rfl rfl
     ·
      replace hx:=ZL c_41 hx
      refine Run.clz_bs [] 5 ZF rfl (ZA rfl rfl (Zt rfl rfl (of_decide_eq_true c_24) (IsSlice.lenI ha_3)) (Run.lnz [] 2 ZF rfl ?_))
      replace hx:=ZX hd_24 hx
      refine ZH 1 rfl (ZH 1 rfl ?_)
      exact JN.cut ⟨s_19 + 1,D_22,rfl,rfl,rfl,hx,hT_23⟩ ⟨rfl,rfl,trivial⟩ rfl rfl
    ·
     replace hx:=ZL c_24 hx
     refine Run.cnz_k [] 2 ZF rfl ?_
     obtain rfl:=Za hd_24 hx
     refine Run.nnz_kb [] 2 ZF rfl (ZH 1 rfl (ZH 1 rfl ?_))
     exact JN.cut ⟨D_22,rfl,rfl,rfl,hT_23⟩ ⟨rfl,trivial⟩ rfl rfl
 ·
  have hxo_7:=hx; clear hx; have hx:=ht_8; clear ht_8
  refine JC.block (Zc 1 rfl (Zc 1 rfl (Zf (fun n l o g => ∃ s_9 : Nat,∃ D_12 : Own,l = [(1,.pointer (some ⟨b_5,0,none⟩)),(2,.int .i64 ((s_9 : Nat) : Int))] ∧ o = [[(b_5,.cells #[.slice aa_2 na_2 ca_2,.slice aa_3 na_3 ca_3,.slice aa_4 na_4 ca_4,.int .u32 (p_1.Epoch.toNat : Int),.int .u32 (p_1.Count.toNat : Int)] 29 (0,0))],D_12] ∧ H = g ∧ run (law13_spoil_l1 p_1) n s_9 = some t_6 ∧ TH N_ D_12) FUEL ?_ ⟨0,D_,rfl,rfl,rfl,hx,hT_⟩ ⟨rfl,rfl,trivial⟩ ?_)))
  ·
   rintro _ _ _ ⟨s_9,D_12,rfl,rfl,rfl,hn_10,hT_13⟩
   exact Ze hn_10
  ·
   rintro n_11 _ _ _ ⟨s_9,D_12,rfl,rfl,rfl,hn_10,hT_13⟩
   clear hx; obtain ⟨oo_15,hx,hd_14⟩:=Zd hn_10
   unfold law13_spoil_l1 at hx
   refine Run.cl [0] 7 ZF rfl (ZA rfl rfl (ZV U22 rfl (IsSlice.long ha_2)) (Run.lcz_s [] 3 ZF rfl (ZM rfl (fun c_14 => ?_) (fun c_14 => ?_))))
   ·
    replace hx:=ZK c_14 hx
    refine Run.cl_s [0] 10 ZF rfl ?_
    obtain ⟨y_15,hN_16,hx⟩:=ZY hx
    obtain ⟨b_17,o_18,cs_19,hE_20,hR_21,hl_22,hc_23⟩:=IsSlice.elem ha_2 hN_16
    obtain ⟨v_24,rfl,hs_25⟩:=hR_21
    obtain ⟨av_24,cv_24,rfl⟩:=IsSlice.val hs_25
    refine ZA rfl rfl (Zu U22 S26 rfl rfl hE_20) ?_
    obtain ⟨cur_26,tt_27,hm_28,hcc_29⟩:=TH.exact hT_13 (hc_23 0 _ rfl) (by intro k n e; cases e)
    refine ZA rfl rfl (R.ldM 1 S26 rfl rfl hm_28 hcc_29) (ZA rfl rfl (ZV U26 rfl (IsSlice.long hs_25)) (Run.lcz_s [] 3 ZF rfl (ZM rfl (fun c_31 => ?_) (fun c_31 => ?_))))
    ·
     replace hx:=ZK c_31 hx
     refine JC.draw (so:=[_]) 17 rfl Mixed ⟨⟨0,rfl⟩,trivial⟩ (JA.val ⟨by kernel_rfl,by kernel_rfl⟩ (ZE _) (i:=0) rfl ⟨by kernel_rfl,by kernel_rfl,rfl⟩ trivial (ZB (Hle.refl _) ⟨⟨0,rfl⟩,trivial⟩) (R.fa F29_0 rfl) rfl (JA.val ⟨by kernel_rfl,by kernel_rfl⟩ (ZE _) (i:=1) rfl ⟨by kernel_rfl,by kernel_rfl,rfl⟩ trivial (ZB (Hle.refl _) ⟨⟨0,rfl⟩,trivial⟩) (R.fa F25_0 rfl) rfl (JA.val ⟨by kernel_rfl,by kernel_rfl⟩ (ZE _) (i:=2) rfl ⟨by kernel_rfl,by kernel_rfl,rfl⟩ trivial (ZB (Hle.refl _) ⟨⟨0,rfl⟩,trivial⟩) (R.ldo 0 S22 rfl rfl rfl) rfl (JA.val ⟨by kernel_rfl,by kernel_rfl⟩ (ZE _) (i:=3) rfl ⟨by kernel_rfl,by kernel_rfl,rfl⟩ trivial (ZB (Hle.refl _) ⟨⟨0,rfl⟩,trivial⟩) (ZZ rfl) rfl ?_))))
     obtain ⟨y_32,hN_33,hx⟩:=ZY hx
     obtain ⟨b_34,o_35,cs_36,hE_37,hR_38,hl_39,hc_40⟩:=IsSlice.elem ha_2 hN_33
     obtain ⟨v_41,rfl,hs_42⟩:=hR_38
     obtain ⟨av_41,cv_41,rfl⟩:=IsSlice.val hs_42
     refine JA.val ⟨by kernel_rfl,by kernel_rfl⟩ (ZE _) (i:=4) rfl ⟨by kernel_rfl,by kernel_rfl,rfl⟩ trivial (ZB (Hle.refl _) ⟨⟨0,rfl⟩,trivial⟩) (Zu U22 S26 rfl rfl hE_37) rfl (JA.val ⟨by kernel_rfl,by kernel_rfl⟩ (ZE _) (i:=6) rfl ⟨by kernel_rfl,by kernel_rfl,rfl⟩ trivial (ZB (Hle.refl _) ⟨⟨0,rfl⟩,trivial⟩) (R.fa F29_0 rfl) rfl (JA.val ⟨by kernel_rfl,by kernel_rfl⟩ (ZE _) (i:=7) rfl ⟨by kernel_rfl,by kernel_rfl,rfl⟩ trivial (ZB (Hle.refl _) ⟨⟨0,rfl⟩,trivial⟩) (R.fa F25_0 rfl) rfl (JA.val ⟨by kernel_rfl,by kernel_rfl⟩ (ZE _) (i:=8) rfl ⟨by kernel_rfl,by kernel_rfl,rfl⟩ trivial (ZB (Hle.refl _) ⟨⟨0,rfl⟩,trivial⟩) (R.ldo 0 S22 rfl rfl rfl) rfl (JA.val ⟨by kernel_rfl,by kernel_rfl⟩ (ZE _) (i:=9) rfl ⟨by kernel_rfl,by kernel_rfl,rfl⟩ trivial (ZB (Hle.refl _) ⟨⟨0,rfl⟩,trivial⟩) (ZZ rfl) rfl ?_))))
     obtain ⟨y_43,hN_44,hx⟩:=ZY hx
     obtain ⟨b_45,o_46,cs_47,hE_48,hR_49,hl_50,hc_51⟩:=IsSlice.elem ha_2 hN_44
     obtain ⟨v_52,rfl,hs_53⟩:=hR_49
     obtain ⟨av_52,cv_52,rfl⟩:=IsSlice.val hs_53
     refine JA.val ⟨by kernel_rfl,by kernel_rfl⟩ (ZE _) (i:=10) rfl ⟨by kernel_rfl,by kernel_rfl,rfl⟩ trivial (ZB (Hle.refl _) ⟨⟨0,rfl⟩,trivial⟩) (Zu U22 S26 rfl rfl hE_48) rfl ?_
     obtain ⟨y_64,hN_65,hx⟩:=ZY hx
     obtain ⟨y_78,hN_79,hx⟩:=ZY hx
     refine JA.two (i:=5) (j:=11) (by kernel_rfl) ?_ ?_
     ·
      refine JO.step rfl trivial rfl (fun K hK => ?_)
      obtain ⟨cur_54,tt_55,hm_56,hcc_57⟩:=TH.exact hT_13 (hc_40 0 _ rfl) (by intro k n e; cases e)
      refine ZA rfl rfl (R.ldM 1 S26 rfl rfl hm_56 hcc_57) (ZW (hK _ _ _ (ZB (Hle.refl _) ⟨⟨0,rfl⟩,trivial⟩) (JA.one (i:=11) (by kernel_rfl) (JO.step rfl trivial rfl (fun K hK => ?_)))))
      obtain ⟨cur_59,tt_60,hm_61,hcc_62⟩:=TH.exact hT_13 (hc_51 0 _ rfl) (by intro k n e; cases e)
      refine ZA rfl rfl (R.ldM 1 S26 rfl rfl hm_61 hcc_62) (ZW (hK _ _ _ (ZB (Hle.refl _) ⟨⟨0,rfl⟩,trivial⟩) ?_))
      obtain ⟨b_66,o_67,cs_68,hE_69,hR_70,hl_71,hc_72⟩:=IsSlice.elem hs_53 hN_65
      obtain rfl:=hR_70
      refine JA.val ⟨by kernel_rfl,by kernel_rfl⟩ (ZE _) (i:=12) rfl ⟨by kernel_rfl,by kernel_rfl,rfl⟩ trivial (ZB (Hle.refl _) ⟨⟨0,rfl⟩,trivial⟩) (Zu U26 S5 rfl rfl hE_69) rfl (JA.one (i:=13) (by kernel_rfl) (JO.step rfl trivial rfl (fun K hK => ?_)))
      obtain ⟨ua_77,cur_73,tt_74,hm_75,hcc_76⟩:=TH.u8 (y:=y_64) hT_13 (hc_72 0 _ rfl)
      refine ZA rfl rfl (R.ldM 1 S5 rfl rfl hm_75 hcc_76) (ZW (hK _ _ _ (ZB (Hle.refl _) ⟨⟨0,rfl⟩,trivial⟩) (JA.val ⟨by kernel_rfl,by kernel_rfl⟩ (ZE _) (i:=14) rfl ⟨by kernel_rfl,by kernel_rfl,rfl⟩ trivial (ZB (Hle.refl _) ⟨⟨0,rfl⟩,trivial⟩) (R.add8 (a:=ua_77) (b:=(1 : UInt8)) rfl rfl) rfl ?_)))
      obtain ⟨b_80,o_81,cs_82,hE_83,hR_84,hl_85,hc_86⟩:=IsSlice.elem hs_42 hN_79
      obtain rfl:=hR_84
      refine JA.val ⟨by kernel_rfl,by kernel_rfl⟩ (ZE _) (i:=15) rfl ⟨by kernel_rfl,by kernel_rfl,rfl⟩ trivial (ZB (Hle.refl _) ⟨⟨0,rfl⟩,trivial⟩) (Zu U26 S5 rfl rfl hE_83) rfl (JA.one (i:=16) (by kernel_rfl) (JO.step rfl trivial rfl (fun K hK => JL.stT 1 S5 rfl hT_13 (hc_86 0 _ rfl) rfl rfl ⟨_,_,rfl⟩ (Kin.u8 (y:=y_78) (a:=ua_77 + (1 : UInt8))) (fun D_87 hTD_87 => ZW (hK _ _ _ (ZB (Hle.refl _) ⟨⟨0,rfl⟩,trivial⟩) (Zg (by kernel_rfl) ?_))))))
      refine Run.nlz_bs [] 4 ZF rfl (ZA rfl rfl (Zt rfl rfl (of_decide_eq_true c_14) (IsSlice.lenI ha_2)) (Run.lnz [] 2 ZF rfl ?_))
      replace hx:=ZX hd_14 hx
      refine ZH 1 rfl (ZH 1 rfl ?_)
      exact JN.cut ⟨s_9 + 1,D_87,rfl,rfl,rfl,hx,hTD_87⟩ ⟨rfl,rfl,trivial⟩ rfl rfl
     ·
      refine JO.step rfl trivial rfl (fun K hK => ?_)
      obtain ⟨cur_59,tt_60,hm_61,hcc_62⟩:=TH.exact hT_13 (hc_51 0 _ rfl) (by intro k n e; cases e)
      refine ZA rfl rfl (R.ldM 1 S26 rfl rfl hm_61 hcc_62) (ZW (hK _ _ _ (ZB (Hle.refl _) ⟨⟨0,rfl⟩,trivial⟩) ?_))
      obtain ⟨b_66,o_67,cs_68,hE_69,hR_70,hl_71,hc_72⟩:=IsSlice.elem hs_53 hN_65
      obtain rfl:=hR_70
      refine JA.val ⟨by kernel_rfl,by kernel_rfl⟩ (ZE _) (i:=12) rfl ⟨by kernel_rfl,by kernel_rfl,rfl⟩ trivial (ZB (Hle.refl _) ⟨⟨0,rfl⟩,trivial⟩) (Zu U26 S5 rfl rfl hE_69) rfl (JA.two (i:=5) (j:=13) (by kernel_rfl) ?_ ?_)
      ·
       refine JO.step rfl trivial rfl (fun K hK => ?_)
       obtain ⟨cur_54,tt_55,hm_56,hcc_57⟩:=TH.exact hT_13 (hc_40 0 _ rfl) (by intro k n e; cases e)
       refine ZA rfl rfl (R.ldM 1 S26 rfl rfl hm_56 hcc_57) (ZW (hK _ _ _ (ZB (Hle.refl _) ⟨⟨0,rfl⟩,trivial⟩) (JA.one (i:=13) (by kernel_rfl) (JO.step rfl trivial rfl (fun K hK => ?_)))))
       obtain ⟨ua_77,cur_73,tt_74,hm_75,hcc_76⟩:=TH.u8 (y:=y_64) hT_13 (hc_72 0 _ rfl)
       refine ZA rfl rfl (R.ldM 1 S5 rfl rfl hm_75 hcc_76) (ZW (hK _ _ _ (ZB (Hle.refl _) ⟨⟨0,rfl⟩,trivial⟩) (JA.val ⟨by kernel_rfl,by kernel_rfl⟩ (ZE _) (i:=14) rfl ⟨by kernel_rfl,by kernel_rfl,rfl⟩ trivial (ZB (Hle.refl _) ⟨⟨0,rfl⟩,trivial⟩) (R.add8 (a:=ua_77) (b:=(1 : UInt8)) rfl rfl) rfl ?_)))
       obtain ⟨b_80,o_81,cs_82,hE_83,hR_84,hl_85,hc_86⟩:=IsSlice.elem hs_42 hN_79
       obtain rfl:=hR_84
       refine JA.val ⟨by kernel_rfl,by kernel_rfl⟩ (ZE _) (i:=15) rfl ⟨by kernel_rfl,by kernel_rfl,rfl⟩ trivial (ZB (Hle.refl _) ⟨⟨0,rfl⟩,trivial⟩) (Zu U26 S5 rfl rfl hE_83) rfl (JA.one (i:=16) (by kernel_rfl) (JO.step rfl trivial rfl (fun K hK => JL.stT 1 S5 rfl hT_13 (hc_86 0 _ rfl) rfl rfl ⟨_,_,rfl⟩ (Kin.u8 (y:=y_78) (a:=ua_77 + (1 : UInt8))) (fun D_87 hTD_87 => ZW (hK _ _ _ (ZB (Hle.refl _) ⟨⟨0,rfl⟩,trivial⟩) (Zg (by kernel_rfl) ?_))))))
       refine Run.nlz_bs [] 4 ZF rfl (ZA rfl rfl (Zt rfl rfl (of_decide_eq_true c_14) (IsSlice.lenI ha_2)) (Run.lnz [] 2 ZF rfl ?_))
       replace hx:=ZX hd_14 hx
       refine ZH 1 rfl (ZH 1 rfl ?_)
       exact JN.cut ⟨s_9 + 1,D_87,rfl,rfl,rfl,hx,hTD_87⟩ ⟨rfl,rfl,trivial⟩ rfl rfl
      ·
       refine JO.step rfl trivial rfl (fun K hK => ?_)
       obtain ⟨ua_77,cur_73,tt_74,hm_75,hcc_76⟩:=TH.u8 (y:=y_64) hT_13 (hc_72 0 _ rfl)
       refine ZA rfl rfl (R.ldM 1 S5 rfl rfl hm_75 hcc_76) (ZW (hK _ _ _ (ZB (Hle.refl _) ⟨⟨0,rfl⟩,trivial⟩) (JA.val ⟨by kernel_rfl,by kernel_rfl⟩ (ZE _) (i:=14) rfl ⟨by kernel_rfl,by kernel_rfl,rfl⟩ trivial (ZB (Hle.refl _) ⟨⟨0,rfl⟩,trivial⟩) (R.add8 (a:=ua_77) (b:=(1 : UInt8)) rfl rfl) rfl (JA.one (i:=5) (by kernel_rfl) (JO.step rfl trivial rfl (fun K hK => ?_))))))
       obtain ⟨cur_54,tt_55,hm_56,hcc_57⟩:=TH.exact hT_13 (hc_40 0 _ rfl) (by intro k n e; cases e)
       refine ZA rfl rfl (R.ldM 1 S26 rfl rfl hm_56 hcc_57) (ZW (hK _ _ _ (ZB (Hle.refl _) ⟨⟨0,rfl⟩,trivial⟩) ?_))
       obtain ⟨b_80,o_81,cs_82,hE_83,hR_84,hl_85,hc_86⟩:=IsSlice.elem hs_42 hN_79
       obtain rfl:=hR_84
       refine JA.val ⟨by kernel_rfl,by kernel_rfl⟩ (ZE _) (i:=15) rfl ⟨by kernel_rfl,by kernel_rfl,rfl⟩ trivial (ZB (Hle.refl _) ⟨⟨0,rfl⟩,trivial⟩) (Zu U26 S5 rfl rfl hE_83) rfl (JA.one (i:=16) (by kernel_rfl) (JO.step rfl trivial rfl (fun K hK => JL.stT 1 S5 rfl hT_13 (hc_86 0 _ rfl) rfl rfl ⟨_,_,rfl⟩ (Kin.u8 (y:=y_78) (a:=ua_77 + (1 : UInt8))) (fun D_87 hTD_87 => ZW (hK _ _ _ (ZB (Hle.refl _) ⟨⟨0,rfl⟩,trivial⟩) (Zg (by kernel_rfl) ?_))))))
       refine Run.nlz_bs [] 4 ZF rfl (ZA rfl rfl (Zt rfl rfl (of_decide_eq_true c_14) (IsSlice.lenI ha_2)) (Run.lnz [] 2 ZF rfl ?_))
       replace hx:=ZX hd_14 hx
       refine ZH 1 rfl (ZH 1 rfl ?_)
       exact JN.cut ⟨s_9 + 1,D_87,rfl,rfl,rfl,hx,hTD_87⟩ ⟨rfl,rfl,trivial⟩ rfl rfl
    ·
     replace hx:=ZL c_31 hx
     refine Run.clz_bs [] 5 ZF rfl (ZA rfl rfl (Zt rfl rfl (of_decide_eq_true c_14) (IsSlice.lenI ha_2)) (Run.lnz [] 2 ZF rfl ?_))
     replace hx:=ZX hd_14 hx
     refine ZH 1 rfl (ZH 1 rfl ?_)
     exact JN.cut ⟨s_9 + 1,D_12,rfl,rfl,rfl,hx,hT_13⟩ ⟨rfl,rfl,trivial⟩ rfl rfl
   ·
    replace hx:=ZL c_14 hx
    refine Run.cnz_k [] 2 ZF rfl ?_
    obtain rfl:=Za hd_14 hx
    refine Run.nnz_kb [] 2 ZF rfl (ZH 1 rfl (ZH 1 rfl ?_))
    exact JN.cut ⟨D_12,rfl,rfl,rfl,hT_13⟩ ⟨rfl,trivial⟩ rfl rfl

set_option maxHeartbeats 8000000 in
theorem law13_StoreReads_ok (p_1 : Store) (p_5 : Store) (p_9 : Ptr) (p_10 : List UInt8) (H : Heaplet) {aa_2 : Option Addr} {na_2 : Nat} {ca_2 : Nat} {aa_3 : Option Addr} {na_3 : Nat} {ca_3 : Nat} {aa_4 : Option Addr} {na_4 : Nat} {ca_4 : Nat} {aa_6 : Option Addr} {na_6 : Nat} {ca_6 : Nat} {aa_7 : Option Addr} {na_7 : Nat} {ca_7 : Nat} {aa_8 : Option Addr} {na_8 : Nat} {ca_8 : Nat} {aa_11 : Option Addr} {na_11 : Nat} {ca_11 : Nat} (ha_2 : IsSlice H (RSl RU8 1) 1 (.slice aa_2 na_2 ca_2) p_1.Disk.Blocks) (ha_3 : IsSlice H R_Write 2 (.slice aa_3 na_3 ca_3) p_1.Disk.Waits) (ha_4 : IsSlice H RU8 1 (.slice aa_4 na_4 ca_4) p_1.Space) (ha_6 : IsSlice H (RSl RU8 1) 1 (.slice aa_6 na_6 ca_6) p_5.Disk.Blocks) (ha_7 : IsSlice H R_Write 2 (.slice aa_7 na_7 ca_7) p_5.Disk.Waits) (ha_8 : IsSlice H RU8 1 (.slice aa_8 na_8 ca_8) p_5.Space) (ha_11 : IsSlice H RU8 1 (.slice aa_11 na_11 ca_11) p_10) (r : Bool) (hx : law13_StoreReads p_1 p_5 p_9 p_10 = some r) :
  Does Tryz.prog 3 #[.agg #[.slice aa_2 na_2 ca_2,.slice aa_3 na_3 ca_3,.slice aa_4 na_4 ca_4,.int .u32 (p_1.Epoch.toNat : Int),.int .u32 (p_1.Count.toNat : Int)],.agg #[.slice aa_6 na_6 ca_6,.slice aa_7 na_7 ca_7,.slice aa_8 na_8 ca_8,.int .u32 (p_5.Epoch.toNat : Int),.int .u32 (p_5.Count.toNat : Int)],.agg #[.int .i64 p_9.At,.int .u32 (p_9.Birth.toNat : Int),.int .u32 (p_9.Iv.toNat : Int),.int .u32 (p_9.Tag.toNat : Int),.int .u32 (p_9.Sum.toNat : Int)],.slice aa_11 na_11 ca_11] [] H (fun u K' H' => u = .bool r ∧ K' = [] ∧ True):=by
 refine Does.enterL (vs:=[.agg #[.slice aa_2 na_2 ca_2,.slice aa_3 na_3 ca_3,.slice aa_4 na_4 ca_4,.int .u32 (p_1.Epoch.toNat : Int),.int .u32 (p_1.Count.toNat : Int)],.agg #[.slice aa_6 na_6 ca_6,.slice aa_7 na_7 ca_7,.slice aa_8 na_8 ca_8,.int .u32 (p_5.Epoch.toNat : Int),.int .u32 (p_5.Count.toNat : Int)],.agg #[.int .i64 p_9.At,.int .u32 (p_9.Birth.toNat : Int),.int .u32 (p_9.Iv.toNat : Int),.int .u32 (p_9.Tag.toNat : Int),.int .u32 (p_9.Sum.toNat : Int)],.slice aa_11 na_11 ca_11]) (l:=[(0,.agg #[.slice aa_2 na_2 ca_2,.slice aa_3 na_3 ca_3,.slice aa_4 na_4 ca_4,.int .u32 (p_1.Epoch.toNat : Int),.int .u32 (p_1.Count.toNat : Int)]),(1,.agg #[.slice aa_6 na_6 ca_6,.slice aa_7 na_7 ca_7,.slice aa_8 na_8 ca_8,.int .u32 (p_5.Epoch.toNat : Int),.int .u32 (p_5.Count.toNat : Int)]),(2,.agg #[.int .i64 p_9.At,.int .u32 (p_9.Birth.toNat : Int),.int .u32 (p_9.Iv.toNat : Int),.int .u32 (p_9.Tag.toNat : Int),.int .u32 (p_9.Sum.toNat : Int)]),(3,.slice aa_11 na_11 ca_11)]) Tryz.func3 rfl rfl ⟨rfl,rfl,rfl,rfl,trivial⟩ (fun w hlt => ?_)
 unfold law13_StoreReads at hx
 refine Run.cl [] 2 ZF rfl (Zk rfl rfl (fun b_12 hb_12 => Zk rfl rfl (fun b_13 hb_13 => Zk rfl rfl (fun b_14 hb_14 => Run.ll_s [2] 7 ZF rfl ?_))))
 obtain ⟨x_15,hr_16,hx⟩:=ZD hx
 refine ZI (vs:=[_]) (args:=[_]) (K:=[]) (rst:=[_,_,_]) E7 rfl rfl rfl ZC (ref13_Great_ok p_1 _ ha_2 ha_3 ha_4 _ hr_16) rfl (fun u_17 Ku_17 Hu_17 hRu_17 hleu_17 hfu_17 => ?_)
 obtain ⟨rfl,rfl,rfl,-⟩:=hRu_17
 refine ZA rfl rfl (ZZ rfl) (ZQ (t:=25) rfl (fun c_18 => ?_) (fun c_18 => ?_))
 ·
  replace hx:=ZK c_18 hx
  refine Run.lnz_sk [] 18 ZF rfl (ZJ (vs:=[.bool true]) (K:=[]) (rst:=[_,_,_]) (.inl rfl) rfl rfl (ZG rfl rfl) ZC ?_)
  obtain rfl:=Option.some.inj hx
  exact ⟨rfl,rfl,trivial⟩
 ·
  replace hx:=ZL c_18 hx
  refine Run.llz [1] 3 ZF rfl ?_
  obtain ⟨x_19,hr_20,hx⟩:=ZD hx
  refine ZI (vs:=[_]) (args:=[_]) (K:=[]) (rst:=[_,_,_]) E7 rfl rfl rfl ZC (ref13_Great_ok p_5 _ ha_6 ha_7 ha_8 _ hr_20) rfl (fun u_21 Ku_21 Hu_21 hRu_21 hleu_21 hfu_21 => ?_)
  obtain ⟨rfl,rfl,rfl,-⟩:=hRu_21
  refine Run.llz [] 2 ZF rfl (ZQ (t:=29) rfl (fun c_22 => ?_) (fun c_22 => ?_))
  ·
   replace hx:=ZK c_22 hx
   refine Run.lnz_sk [] 14 ZF rfl (ZJ (vs:=[.bool true]) (K:=[]) (rst:=[_,_,_]) (.inl rfl) rfl rfl (ZG rfl rfl) ZC ?_)
   obtain rfl:=Option.some.inj hx
   exact ⟨rfl,rfl,trivial⟩
  ·
   replace hx:=ZL c_22 hx
   refine Run.llz [] 3 ZF rfl (ZA rfl rfl (ZV U26 rfl (IsSlice.long ha_11)) (Run.lcz_s [] 5 ZF rfl (ZM rfl (fun c_23 => ?_) (fun c_23 => ?_))))
   ·
    replace hx:=ZK c_23 hx
    refine Run.cnz_k [] 7 ZF rfl (ZJ (vs:=[.bool true]) (K:=[]) (rst:=[_,_,_]) (.inl rfl) rfl rfl (ZG rfl rfl) ZC ?_)
    obtain rfl:=Option.some.inj hx
    exact ⟨rfl,rfl,trivial⟩
   ·
    replace hx:=ZL c_23 hx
    refine Run.cl_s [2] 5 ZF rfl ?_
    obtain ⟨x_24,hr_25,hx⟩:=ZD hx
    refine ZI (vs:=[_]) (args:=[_]) (K:=[]) (rst:=[_,_,_]) E8 rfl rfl rfl ZC (ref13_Twin_ok p_1 _ ha_2 ha_3 ha_4 _ hr_25) rfl (fun u_26 Ku_26 Hu_26 hRu_26 hleu_26 hfu_26 => ?_)
    obtain ⟨ar_27,nr_27,cr_27,Kr_27,ar_28,nr_28,cr_28,Kr_28,ar_29,nr_29,cr_29,Kr_29,rfl,rfl,hr_27,hnewr_27,hr_28,hnewr_28,hr_29,hnewr_29,-⟩:=hRu_26
    replace hr_27:=(RowOf.base (RowOf.mono (RSl.mono RU8.mono) (New.call (Hle.refl _)) hr_27) (fun p hp => (hfu_26 p (ZS 0 rfl hp)).resolve_left (hnewr_27 p hp)))
    replace hr_28:=(RowOf.base (RowOf.mono R_Write.mono (New.call (Hle.refl _)) hr_28) (fun p hp => (hfu_26 p (ZS 1 rfl hp)).resolve_left (hnewr_28 p hp)))
    replace hr_29:=(RowOf.base (ZP (H2:=New H Hu_26) RU8.const hr_29) (fun p hp => (hfu_26 p (ZS 2 rfl hp)).resolve_left (hnewr_29 p hp)))
    refine JL.alloc Z29 rfl (fun b_30 hb_30 => Run.lcz_s [0] 3 ZF rfl (JC.tidy (l':=[(3,.slice aa_11 na_11 ca_11),(4,.pointer (some ⟨b_12,0,none⟩)),(5,.pointer (some ⟨b_13,0,none⟩)),(6,.pointer (some ⟨b_14,0,none⟩)),(8,.bool false),(9,.pointer (some ⟨b_30,0,none⟩))]) (own':=[[(b_30,.cells #[.slice ar_27 nr_27 cr_27,.slice ar_28 nr_28 cr_28,.slice ar_29 nr_29 cr_29,.int .u32 (x_24.Epoch.toNat : Int),.int .u32 (x_24.Count.toNat : Int)] 29 (0,0))],Kr_27,Kr_28,Kr_29,[(b_14,.cells #[.int .i64 p_9.At,.int .u32 (p_9.Birth.toNat : Int),.int .u32 (p_9.Iv.toNat : Int),.int .u32 (p_9.Tag.toNat : Int),.int .u32 (p_9.Sum.toNat : Int)] 31 (0,0))],[(b_13,.cells #[.slice aa_6 na_6 ca_6,.slice aa_7 na_7 ca_7,.slice aa_8 na_8 ca_8,.int .u32 (p_5.Epoch.toNat : Int),.int .u32 (p_5.Count.toNat : Int)] 29 (0,0))],[(b_12,.cells #[.slice aa_2 na_2 ca_2,.slice aa_3 na_3 ca_3,.slice aa_4 na_4 ca_4,.int .u32 (p_1.Epoch.toNat : Int),.int .u32 (p_1.Count.toNat : Int)] 29 (0,0))]]) ⟨rfl,rfl,rfl,rfl,rfl,rfl,trivial⟩ rfl (JC.tidyP (l':=[(3,.slice aa_11 na_11 ca_11),(4,.pointer (some ⟨b_12,0,none⟩)),(5,.pointer (some ⟨b_13,0,none⟩)),(6,.pointer (some ⟨b_14,0,none⟩)),(8,.bool false),(9,.pointer (some ⟨b_30,0,none⟩))]) (own':=[[(b_30,.cells #[.slice ar_27 nr_27 cr_27,.slice ar_28 nr_28 cr_28,.slice ar_29 nr_29 cr_29,.int .u32 (x_24.Epoch.toNat : Int),.int .u32 (x_24.Count.toNat : Int)] 29 (0,0))],Kr_27,Kr_28,Kr_29,[(b_14,.cells #[.int .i64 p_9.At,.int .u32 (p_9.Birth.toNat : Int),.int .u32 (p_9.Iv.toNat : Int),.int .u32 (p_9.Tag.toNat : Int),.int .u32 (p_9.Sum.toNat : Int)] 31 (0,0))],[(b_13,.cells #[.slice aa_6 na_6 ca_6,.slice aa_7 na_7 ca_7,.slice aa_8 na_8 ca_8,.int .u32 (p_5.Epoch.toNat : Int),.int .u32 (p_5.Count.toNat : Int)] 29 (0,0))],[(b_12,.cells #[.slice aa_2 na_2 ca_2,.slice aa_3 na_3 ca_3,.slice aa_4 na_4 ca_4,.int .u32 (p_1.Epoch.toNat : Int),.int .u32 (p_1.Count.toNat : Int)] 29 (0,0))]]) (rst:=[]) ⟨rfl,rfl,rfl,rfl,rfl,rfl,trivial⟩ (ZO 0 rfl (ZO 0 rfl (ZO 0 rfl (ZO 0 rfl (ZO 0 rfl (ZO 0 rfl (ZO 0 rfl ZC))))))) (JC.pubN 1 (RSl.mono RU8.mono) rfl hr_27 (Nat.le_refl _) (fun H_31 hleH_31 hsH_31 => JC.forget 1 (JC.tidy (l':=[(3,.slice aa_11 na_11 ca_11),(4,.pointer (some ⟨b_12,0,none⟩)),(5,.pointer (some ⟨b_13,0,none⟩)),(6,.pointer (some ⟨b_14,0,none⟩)),(8,.bool false),(9,.pointer (some ⟨b_30,0,none⟩))]) (own':=[[(b_30,.cells #[.slice ar_27 nr_27 cr_27,.slice ar_28 nr_28 cr_28,.slice ar_29 nr_29 cr_29,.int .u32 (x_24.Epoch.toNat : Int),.int .u32 (x_24.Count.toNat : Int)] 29 (0,0))],Kr_28,Kr_29,[(b_14,.cells #[.int .i64 p_9.At,.int .u32 (p_9.Birth.toNat : Int),.int .u32 (p_9.Iv.toNat : Int),.int .u32 (p_9.Tag.toNat : Int),.int .u32 (p_9.Sum.toNat : Int)] 31 (0,0))],[(b_13,.cells #[.slice aa_6 na_6 ca_6,.slice aa_7 na_7 ca_7,.slice aa_8 na_8 ca_8,.int .u32 (p_5.Epoch.toNat : Int),.int .u32 (p_5.Count.toNat : Int)] 29 (0,0))],[(b_12,.cells #[.slice aa_2 na_2 ca_2,.slice aa_3 na_3 ca_3,.slice aa_4 na_4 ca_4,.int .u32 (p_1.Epoch.toNat : Int),.int .u32 (p_1.Count.toNat : Int)] 29 (0,0))]]) ⟨rfl,rfl,rfl,rfl,rfl,rfl,trivial⟩ rfl (JC.tidyP (l':=[(3,.slice aa_11 na_11 ca_11),(4,.pointer (some ⟨b_12,0,none⟩)),(5,.pointer (some ⟨b_13,0,none⟩)),(6,.pointer (some ⟨b_14,0,none⟩)),(8,.bool false),(9,.pointer (some ⟨b_30,0,none⟩))]) (own':=[[(b_30,.cells #[.slice ar_27 nr_27 cr_27,.slice ar_28 nr_28 cr_28,.slice ar_29 nr_29 cr_29,.int .u32 (x_24.Epoch.toNat : Int),.int .u32 (x_24.Count.toNat : Int)] 29 (0,0))],Kr_28,Kr_29,[(b_14,.cells #[.int .i64 p_9.At,.int .u32 (p_9.Birth.toNat : Int),.int .u32 (p_9.Iv.toNat : Int),.int .u32 (p_9.Tag.toNat : Int),.int .u32 (p_9.Sum.toNat : Int)] 31 (0,0))],[(b_13,.cells #[.slice aa_6 na_6 ca_6,.slice aa_7 na_7 ca_7,.slice aa_8 na_8 ca_8,.int .u32 (p_5.Epoch.toNat : Int),.int .u32 (p_5.Count.toNat : Int)] 29 (0,0))],[(b_12,.cells #[.slice aa_2 na_2 ca_2,.slice aa_3 na_3 ca_3,.slice aa_4 na_4 ca_4,.int .u32 (p_1.Epoch.toNat : Int),.int .u32 (p_1.Count.toNat : Int)] 29 (0,0))]]) (rst:=[]) ⟨rfl,rfl,rfl,rfl,rfl,rfl,trivial⟩ (ZO 0 rfl (ZO 0 rfl (ZO 0 rfl (ZO 0 rfl (ZO 0 rfl (ZO 0 rfl ZC)))))) (JC.pubN 1 R_Write.mono rfl (hr_28.mono R_Write.mono (New.mono hleH_31)) (Nat.le_refl _) (fun H_32 hleH_32 hsH_32 => JC.forget 1 (JC.tidy (l':=[(3,.slice aa_11 na_11 ca_11),(4,.pointer (some ⟨b_12,0,none⟩)),(5,.pointer (some ⟨b_13,0,none⟩)),(6,.pointer (some ⟨b_14,0,none⟩)),(8,.bool false),(9,.pointer (some ⟨b_30,0,none⟩))]) (own':=[[(b_30,.cells #[.slice ar_27 nr_27 cr_27,.slice ar_28 nr_28 cr_28,.slice ar_29 nr_29 cr_29,.int .u32 (x_24.Epoch.toNat : Int),.int .u32 (x_24.Count.toNat : Int)] 29 (0,0))],Kr_29,[(b_14,.cells #[.int .i64 p_9.At,.int .u32 (p_9.Birth.toNat : Int),.int .u32 (p_9.Iv.toNat : Int),.int .u32 (p_9.Tag.toNat : Int),.int .u32 (p_9.Sum.toNat : Int)] 31 (0,0))],[(b_13,.cells #[.slice aa_6 na_6 ca_6,.slice aa_7 na_7 ca_7,.slice aa_8 na_8 ca_8,.int .u32 (p_5.Epoch.toNat : Int),.int .u32 (p_5.Count.toNat : Int)] 29 (0,0))],[(b_12,.cells #[.slice aa_2 na_2 ca_2,.slice aa_3 na_3 ca_3,.slice aa_4 na_4 ca_4,.int .u32 (p_1.Epoch.toNat : Int),.int .u32 (p_1.Count.toNat : Int)] 29 (0,0))]]) ⟨rfl,rfl,rfl,rfl,rfl,rfl,trivial⟩ rfl (JC.tidyP (l':=[(3,.slice aa_11 na_11 ca_11),(4,.pointer (some ⟨b_12,0,none⟩)),(5,.pointer (some ⟨b_13,0,none⟩)),(6,.pointer (some ⟨b_14,0,none⟩)),(8,.bool false),(9,.pointer (some ⟨b_30,0,none⟩))]) (own':=[[(b_30,.cells #[.slice ar_27 nr_27 cr_27,.slice ar_28 nr_28 cr_28,.slice ar_29 nr_29 cr_29,.int .u32 (x_24.Epoch.toNat : Int),.int .u32 (x_24.Count.toNat : Int)] 29 (0,0))],Kr_29,[(b_14,.cells #[.int .i64 p_9.At,.int .u32 (p_9.Birth.toNat : Int),.int .u32 (p_9.Iv.toNat : Int),.int .u32 (p_9.Tag.toNat : Int),.int .u32 (p_9.Sum.toNat : Int)] 31 (0,0))],[(b_13,.cells #[.slice aa_6 na_6 ca_6,.slice aa_7 na_7 ca_7,.slice aa_8 na_8 ca_8,.int .u32 (p_5.Epoch.toNat : Int),.int .u32 (p_5.Count.toNat : Int)] 29 (0,0))],[(b_12,.cells #[.slice aa_2 na_2 ca_2,.slice aa_3 na_3 ca_3,.slice aa_4 na_4 ca_4,.int .u32 (p_1.Epoch.toNat : Int),.int .u32 (p_1.Count.toNat : Int)] 29 (0,0))]]) (rst:=[]) ⟨rfl,rfl,rfl,rfl,rfl,rfl,trivial⟩ (ZO 0 rfl (ZO 0 rfl (ZO 0 rfl (ZO 0 rfl (ZO 0 rfl ZC))))) ?_)))))))))))
    refine JC.pubN 1 RU8.mono rfl (hr_29.mono RU8.mono (New.mono (hleH_31.trans hleH_32))) (Nat.le_refl _) (fun H_33 hleH_33 hsH_33 => JC.forget 1 (JC.tidy (l':=[(3,.slice aa_11 na_11 ca_11),(4,.pointer (some ⟨b_12,0,none⟩)),(5,.pointer (some ⟨b_13,0,none⟩)),(6,.pointer (some ⟨b_14,0,none⟩)),(8,.bool false),(9,.pointer (some ⟨b_30,0,none⟩))]) (own':=[[(b_30,.cells #[.slice ar_27 nr_27 cr_27,.slice ar_28 nr_28 cr_28,.slice ar_29 nr_29 cr_29,.int .u32 (x_24.Epoch.toNat : Int),.int .u32 (x_24.Count.toNat : Int)] 29 (0,0))],[(b_14,.cells #[.int .i64 p_9.At,.int .u32 (p_9.Birth.toNat : Int),.int .u32 (p_9.Iv.toNat : Int),.int .u32 (p_9.Tag.toNat : Int),.int .u32 (p_9.Sum.toNat : Int)] 31 (0,0))],[(b_13,.cells #[.slice aa_6 na_6 ca_6,.slice aa_7 na_7 ca_7,.slice aa_8 na_8 ca_8,.int .u32 (p_5.Epoch.toNat : Int),.int .u32 (p_5.Count.toNat : Int)] 29 (0,0))],[(b_12,.cells #[.slice aa_2 na_2 ca_2,.slice aa_3 na_3 ca_3,.slice aa_4 na_4 ca_4,.int .u32 (p_1.Epoch.toNat : Int),.int .u32 (p_1.Count.toNat : Int)] 29 (0,0))]]) ⟨rfl,rfl,rfl,rfl,rfl,rfl,trivial⟩ rfl (JC.tidyP (l':=[(3,.slice aa_11 na_11 ca_11),(4,.pointer (some ⟨b_12,0,none⟩)),(5,.pointer (some ⟨b_13,0,none⟩)),(6,.pointer (some ⟨b_14,0,none⟩)),(8,.bool false),(9,.pointer (some ⟨b_30,0,none⟩))]) (own':=[[(b_30,.cells #[.slice ar_27 nr_27 cr_27,.slice ar_28 nr_28 cr_28,.slice ar_29 nr_29 cr_29,.int .u32 (x_24.Epoch.toNat : Int),.int .u32 (x_24.Count.toNat : Int)] 29 (0,0))],[(b_14,.cells #[.int .i64 p_9.At,.int .u32 (p_9.Birth.toNat : Int),.int .u32 (p_9.Iv.toNat : Int),.int .u32 (p_9.Tag.toNat : Int),.int .u32 (p_9.Sum.toNat : Int)] 31 (0,0))],[(b_13,.cells #[.slice aa_6 na_6 ca_6,.slice aa_7 na_7 ca_7,.slice aa_8 na_8 ca_8,.int .u32 (p_5.Epoch.toNat : Int),.int .u32 (p_5.Count.toNat : Int)] 29 (0,0))],[(b_12,.cells #[.slice aa_2 na_2 ca_2,.slice aa_3 na_3 ca_3,.slice aa_4 na_4 ca_4,.int .u32 (p_1.Epoch.toNat : Int),.int .u32 (p_1.Count.toNat : Int)] 29 (0,0))]]) (rst:=[]) ⟨rfl,rfl,rfl,rfl,rfl,rfl,trivial⟩ (ZO 0 rfl (ZO 0 rfl (ZO 0 rfl (ZO 0 rfl ZC)))) ?_)))
    have ho_34:=(ha_11.mono RU8.mono (hleu_26.trans (hleH_31.trans (hleH_32.trans hleH_33))))
    have ho_35:=(ha_2.mono (RSl.mono RU8.mono) (hleu_26.trans (hleH_31.trans (hleH_32.trans hleH_33))))
    have ho_36:=(ha_3.mono R_Write.mono (hleu_26.trans (hleH_31.trans (hleH_32.trans hleH_33))))
    have ho_37:=(ha_4.mono RU8.mono (hleu_26.trans (hleH_31.trans (hleH_32.trans hleH_33))))
    have ho_38:=(ha_6.mono (RSl.mono RU8.mono) (hleu_26.trans (hleH_31.trans (hleH_32.trans hleH_33))))
    have ho_39:=(ha_7.mono R_Write.mono (hleu_26.trans (hleH_31.trans (hleH_32.trans hleH_33))))
    have ho_40:=(ha_8.mono RU8.mono (hleu_26.trans (hleH_31.trans (hleH_32.trans hleH_33))))
    have ho_41:=((hsH_31.mono (RSl.mono RU8.mono) (New.mono (hleH_32.trans hleH_33))).old (RSl.mono RU8.mono))
    have ho_42:=((hsH_32.mono R_Write.mono (New.mono hleH_33)).old R_Write.mono)
    have ho_43:=(hsH_33.old RU8.mono)
    refine JC.root (fun w_44 hw_44 low_45 hlt => Run.cl [0,1] 4 ZF rfl ?_)
    obtain ⟨x_46,hr_47,hx⟩:=ZD hx
    refine ZI (vs:=[_,_]) (args:=[_,_]) (K:=[]) (rst:=[_,_,_,_]) E9 rfl rfl rfl ZC (store_Look_ok x_24 p_9 _ ho_41 ho_42 ho_43 _ hr_47) rfl (fun u_48 Ku_48 Hu_48 hRu_48 hleu_48 hfu_48 => ?_)
    obtain ⟨az_49,nz_49,cz_49,rfl,rfl,hz_49,-⟩:=hRu_48
    replace hz_49:=IsSlice.mono RU8.mono (New.call (Hle.refl _)) hz_49
    refine Run.ll_s [3,1] 11 ZF rfl ?_
    obtain ⟨x_50,hr_51,hx⟩:=ZD hx
    refine ZI (vs:=[_,_]) (args:=[_,_]) (K:=[]) (rst:=[_,_,_,_]) E10 rfl rfl rfl ZC (ref13_Look_ok p_1 p_9 _ (ho_35.mono (RSl.mono RU8.mono) hleu_48) (ho_36.mono R_Write.mono hleu_48) (ho_37.mono RU8.mono hleu_48) _ hr_51) rfl (fun u_52 Ku_52 Hu_52 hRu_52 hleu_52 hfu_52 => ?_)
    obtain ⟨ar_53,nr_53,cr_53,Kr_53,rfl,rfl,rfl,hr_53,hnewr_53,-⟩:=hRu_52
    replace hr_53:=(RowOf.base (ZP (H2:=New H_33 Hu_48) RU8.const hr_53) (fun p hp => (hfu_52 p (ZS 0 rfl hp)).resolve_left (hnewr_53 p hp)))
    refine Run.ll_s [1,2] 12 ZF rfl ?_
    obtain ⟨x_54,hr_55,hx⟩:=ZD hx
    refine ZI (vs:=[_,_,_]) (args:=[_,_,_]) (K:=[]) (rst:=[_,_,_,_,_]) E11 rfl rfl rfl ZC (store_Open_ok x_24 p_9 p_10 _ (ho_41.mono (RSl.mono RU8.mono) hleu_48) (ho_42.mono R_Write.mono hleu_48) (ho_43.mono RU8.mono hleu_48) (ho_34.mono RU8.mono hleu_48) _ hr_55) rfl (fun u_56 Ku_56 Hu_56 hRu_56 hleu_56 hfu_56 => ?_)
    obtain ⟨ar_57,nr_57,cr_57,Kr_57,rfl,rfl,hr_57,hnewr_57,-⟩:=hRu_56
    replace hr_57:=(RowOf.base (ZP (H2:=New H_33 Hu_56) RU8.const hr_57) (fun p hp => (hfu_56 p (ZS 0 rfl hp)).resolve_left (hnewr_57 p hp)))
    refine Run.ll_s [5,3] 12 ZF rfl ?_
    obtain ⟨x_58,hr_59,hx⟩:=ZD hx
    refine ZI (vs:=[_,_,_]) (args:=[_,_,_]) (K:=[]) (rst:=[_,_,_,_,_,_]) E12 rfl rfl rfl ZC (ref13_Open_ok p_1 p_9 p_10 _ (ho_35.mono (RSl.mono RU8.mono) (hleu_48.trans hleu_56)) (ho_36.mono R_Write.mono (hleu_48.trans hleu_56)) (ho_37.mono RU8.mono (hleu_48.trans hleu_56)) (ho_34.mono RU8.mono (hleu_48.trans hleu_56)) _ hr_59) rfl (fun u_60 Ku_60 Hu_60 hRu_60 hleu_60 hfu_60 => ?_)
    obtain ⟨ar_61,nr_61,cr_61,Kr_61,rfl,rfl,rfl,hr_61,hnewr_61,-⟩:=hRu_60
    replace hr_61:=(RowOf.base (ZP (H2:=New H_33 Hu_56) RU8.const hr_61) (fun p hp => (hfu_60 p (ZS 0 rfl hp)).resolve_left (hnewr_61 p hp)))
    refine Run.ll_s [3,4] 11 ZF rfl ?_
    obtain ⟨x_62,hr_63,hx⟩:=ZD hx
    refine ZI (vs:=[_,_]) (args:=[_,_]) (K:=[]) (rst:=[_,_,_,_,_,_,_]) E13 rfl rfl rfl ZC (store_Give_ok x_24 p_9 _ (ho_41.mono (RSl.mono RU8.mono) (hleu_48.trans hleu_56)) (ho_42.mono R_Write.mono (hleu_48.trans hleu_56)) (ho_43.mono RU8.mono (hleu_48.trans hleu_56)) _ hr_63) rfl (fun u_64 Ku_64 Hu_64 hRu_64 hleu_64 hfu_64 => ?_)
    obtain ⟨az_65,nz_65,cz_65,ar_66,nr_66,cr_66,Kr_66,ar_67,nr_67,cr_67,Kr_67,rfl,rfl,hz_65,hr_66,hnewr_66,hr_67,hnewr_67,-⟩:=hRu_64
    replace hr_66:=(RowOf.base (RowOf.mono R_Write.mono (New.call (hleu_48.trans hleu_56)) hr_66) (fun p hp => (hfu_64 p (ZS 0 rfl hp)).resolve_left (hnewr_66 p hp)))
    replace hr_67:=(RowOf.base (ZP (H2:=New H_33 Hu_64) RU8.const hr_67) (fun p hp => (hfu_64 p (ZS 1 rfl hp)).resolve_left (hnewr_67 p hp)))
    replace hz_65:=IsSlice.mono (RSl.mono RU8.mono) (New.call (hleu_48.trans hleu_56)) hz_65
    refine Run.llz [] 3 ZF rfl (JL.alloc Z29 rfl (fun b_68 hb_68 => Run.lcz_s [0] 4 ZF rfl (JC.tidy (l':=[(4,.pointer (some ⟨b_12,0,none⟩)),(5,.pointer (some ⟨b_13,0,none⟩)),(6,.pointer (some ⟨b_14,0,none⟩)),(8,.bool false),(9,.pointer (some ⟨b_30,0,none⟩)),(10,.slice az_49 nz_49 cz_49),(11,.int .i64 x_46.2),(12,.slice ar_53 nr_53 cr_53),(13,.int .i64 x_50.2),(14,.slice ar_57 nr_57 cr_57),(15,.int .i64 x_54.2),(16,.slice ar_61 nr_61 cr_61),(17,.int .i64 x_58.2),(18,.pointer (some ⟨b_68,0,none⟩)),(19,.int .i64 x_62.2)]) (own':=[[(b_68,.cells #[.slice az_65 nz_65 cz_65,.slice ar_66 nr_66 cr_66,.slice ar_67 nr_67 cr_67,.int .u32 (x_62.1.Epoch.toNat : Int),.int .u32 (x_62.1.Count.toNat : Int)] 29 (0,0))],Kr_66,Kr_67,Kr_61,Kr_57,Kr_53,[(b_30,.cells #[.slice ar_27 nr_27 cr_27,.slice ar_28 nr_28 cr_28,.slice ar_29 nr_29 cr_29,.int .u32 (x_24.Epoch.toNat : Int),.int .u32 (x_24.Count.toNat : Int)] 29 (0,0))],[(b_14,.cells #[.int .i64 p_9.At,.int .u32 (p_9.Birth.toNat : Int),.int .u32 (p_9.Iv.toNat : Int),.int .u32 (p_9.Tag.toNat : Int),.int .u32 (p_9.Sum.toNat : Int)] 31 (0,0))],[(b_13,.cells #[.slice aa_6 na_6 ca_6,.slice aa_7 na_7 ca_7,.slice aa_8 na_8 ca_8,.int .u32 (p_5.Epoch.toNat : Int),.int .u32 (p_5.Count.toNat : Int)] 29 (0,0))],[(b_12,.cells #[.slice aa_2 na_2 ca_2,.slice aa_3 na_3 ca_3,.slice aa_4 na_4 ca_4,.int .u32 (p_1.Epoch.toNat : Int),.int .u32 (p_1.Count.toNat : Int)] 29 (0,0))]]) ⟨rfl,rfl,rfl,rfl,rfl,rfl,rfl,rfl,rfl,rfl,rfl,rfl,rfl,rfl,rfl,trivial⟩ rfl (JC.tidyP (l':=[(4,.pointer (some ⟨b_12,0,none⟩)),(5,.pointer (some ⟨b_13,0,none⟩)),(6,.pointer (some ⟨b_14,0,none⟩)),(8,.bool false),(9,.pointer (some ⟨b_30,0,none⟩)),(10,.slice az_49 nz_49 cz_49),(11,.int .i64 x_46.2),(12,.slice ar_53 nr_53 cr_53),(13,.int .i64 x_50.2),(14,.slice ar_57 nr_57 cr_57),(15,.int .i64 x_54.2),(16,.slice ar_61 nr_61 cr_61),(17,.int .i64 x_58.2),(18,.pointer (some ⟨b_68,0,none⟩)),(19,.int .i64 x_62.2)]) (own':=[[(b_68,.cells #[.slice az_65 nz_65 cz_65,.slice ar_66 nr_66 cr_66,.slice ar_67 nr_67 cr_67,.int .u32 (x_62.1.Epoch.toNat : Int),.int .u32 (x_62.1.Count.toNat : Int)] 29 (0,0))],Kr_66,Kr_67,Kr_61,Kr_57,Kr_53,[(b_30,.cells #[.slice ar_27 nr_27 cr_27,.slice ar_28 nr_28 cr_28,.slice ar_29 nr_29 cr_29,.int .u32 (x_24.Epoch.toNat : Int),.int .u32 (x_24.Count.toNat : Int)] 29 (0,0))],[(b_14,.cells #[.int .i64 p_9.At,.int .u32 (p_9.Birth.toNat : Int),.int .u32 (p_9.Iv.toNat : Int),.int .u32 (p_9.Tag.toNat : Int),.int .u32 (p_9.Sum.toNat : Int)] 31 (0,0))],[(b_13,.cells #[.slice aa_6 na_6 ca_6,.slice aa_7 na_7 ca_7,.slice aa_8 na_8 ca_8,.int .u32 (p_5.Epoch.toNat : Int),.int .u32 (p_5.Count.toNat : Int)] 29 (0,0))],[(b_12,.cells #[.slice aa_2 na_2 ca_2,.slice aa_3 na_3 ca_3,.slice aa_4 na_4 ca_4,.int .u32 (p_1.Epoch.toNat : Int),.int .u32 (p_1.Count.toNat : Int)] 29 (0,0))]]) (rst:=[]) ⟨rfl,rfl,rfl,rfl,rfl,rfl,rfl,rfl,rfl,rfl,rfl,rfl,rfl,rfl,rfl,trivial⟩ (ZO 0 rfl (ZO 0 rfl (ZO 0 rfl (ZO 0 rfl (ZO 0 rfl (ZO 0 rfl (ZO 0 rfl (ZO 0 rfl (ZO 0 rfl (ZO 0 rfl ZC)))))))))) (Run.cl [9,7] 4 ZF rfl ?_)))))
    obtain ⟨x_69,hr_70,hx⟩:=ZD hx
    refine ZI (vs:=[_,_]) (args:=[_,_]) (K:=[]) (rst:=[_,_,_,_,_,_,_,_,_,_]) E14 rfl rfl rfl ZC (ref13_Give_ok p_1 p_9 _ (ho_35.mono (RSl.mono RU8.mono) (hleu_48.trans (hleu_56.trans hleu_64))) (ho_36.mono R_Write.mono (hleu_48.trans (hleu_56.trans hleu_64))) (ho_37.mono RU8.mono (hleu_48.trans (hleu_56.trans hleu_64))) _ hr_70) rfl (fun u_71 Ku_71 Hu_71 hRu_71 hleu_71 hfu_71 => ?_)
    obtain ⟨az_72,nz_72,cz_72,az_73,nz_73,cz_73,ar_74,nr_74,cr_74,Kr_74,rfl,rfl,rfl,hz_72,hz_73,hr_74,hnewr_74,-⟩:=hRu_71
    replace hr_74:=(RowOf.base (ZP (H2:=New H_33 Hu_64) RU8.const hr_74) (fun p hp => (hfu_71 p (ZS 0 rfl hp)).resolve_left (hnewr_74 p hp)))
    refine Run.llz [] 3 ZF rfl (JL.alloc Z29 rfl (fun b_75 hb_75 => Run.ll_s [0] 8 ZF rfl (ZA rfl rfl (R.toStr U26 U5 U9 rfl ((hz_49.mono RU8.mono (New.mono (hleu_56.trans hleu_64))).old RU8.mono)) (ZA rfl rfl (ZZ rfl) (JL.pubN 7 RU8.mono rfl (hr_53.mono RU8.mono (New.mono (hleu_56.trans hleu_64))) (Nat.le_refl _) (fun H_76 hleH_76 hsH_76 => JL.forget 7 (ZA rfl rfl (R.toStr U26 U5 U9 rfl (hsH_76.old RU8.mono)) (ZA rfl rfl (R.neqStr (a:=x_46.1) (b:=x_50.1) rfl rfl) (ZA rfl rfl (ZZ rfl) (ZQ (t:=79) rfl (fun c_77 => ?_) (fun c_77 => ?_)))))))))))
    ·
     replace hx:=ZK c_77 hx
     refine Run.lnz_sk [] 37 ZF rfl (ZJ (vs:=[.bool false]) (K:=[]) (rst:=[_,_,_,_,_,_,_,_,_,_,_]) (.inl rfl) rfl rfl (ZG rfl rfl) ZC ?_)
     obtain rfl:=Option.some.inj hx
     exact ⟨rfl,rfl,trivial⟩
    ·
     replace hx:=ZL c_77 hx
     refine Run.llz [] 8 ZF rfl (ZQ (t:=84) rfl (fun c_78 => ?_) (fun c_78 => ?_))
     ·
      replace hx:=ZK c_78 hx
      refine Run.lnz_sk [] 32 ZF rfl (ZJ (vs:=[.bool false]) (K:=[]) (rst:=[_,_,_,_,_,_,_,_,_,_,_]) (.inl rfl) rfl rfl (ZG rfl rfl) ZC ?_)
      obtain rfl:=Option.some.inj hx
      exact ⟨rfl,rfl,trivial⟩
     ·
      replace hx:=ZL c_78 hx
      refine Run.llz [] 3 ZF rfl (JL.pubN 6 RU8.mono rfl (hr_57.mono RU8.mono (New.mono (hleu_64.trans hleH_76))) (Nat.le_refl _) (fun H_79 hleH_79 hsH_79 => JL.forget 6 (ZA rfl rfl (R.toStr U26 U5 U9 rfl (hsH_79.old RU8.mono)) (Run.llz [] 3 ZF rfl (JL.pubN 5 RU8.mono rfl (hr_61.mono RU8.mono (New.mono (hleu_64.trans (hleH_76.trans hleH_79)))) (Nat.le_refl _) (fun H_80 hleH_80 hsH_80 => JL.forget 5 (ZA rfl rfl (R.toStr U26 U5 U9 rfl (hsH_80.old RU8.mono)) (JL.gYes rfl rfl rfl (ZA rfl rfl (R.neqStr (a:=x_54.1) (b:=x_58.1) rfl rfl) (Run.llz [] 2 ZF rfl (ZQ (t:=91) rfl (fun c_81 => ?_) (fun c_81 => ?_))))))))))))
      ·
       replace hx:=ZK c_81 hx
       refine Run.lnz_sk [] 25 ZF rfl (ZJ (vs:=[.bool false]) (K:=[]) (rst:=[_,_,_,_,_,_,_,_,_]) (.inl rfl) rfl rfl (ZG rfl rfl) ZC ?_)
       obtain rfl:=Option.some.inj hx
       exact ⟨rfl,rfl,trivial⟩
      ·
       replace hx:=ZL c_81 hx
       refine Run.llz [] 8 ZF rfl (ZQ (t:=96) rfl (fun c_82 => ?_) (fun c_82 => ?_))
       ·
        replace hx:=ZK c_82 hx
        refine Run.lnz_sk [] 20 ZF rfl (ZJ (vs:=[.bool false]) (K:=[]) (rst:=[_,_,_,_,_,_,_,_,_]) (.inl rfl) rfl rfl (ZG rfl rfl) ZC ?_)
        obtain rfl:=Option.some.inj hx
        exact ⟨rfl,rfl,trivial⟩
       ·
        replace hx:=ZL c_82 hx
        refine Run.llz [2,0] 5 ZF rfl ?_
        obtain ⟨x_86,hr_87,hx⟩:=ZD hx
        refine JL.callL2 (vs:=[_,_]) (v:=.bool x_86) E15 rfl rfl (fun H_85 hle_84 hl_83 => Does.mono (ref13_Same_ok x_62.1 x_69.1 _ (IsSlice.mono (RSl.mono RU8.mono) hle_84 ((hz_65.mono (RSl.mono RU8.mono) (New.mono (hleH_76.trans (hleH_79.trans hleH_80)))).old (RSl.mono RU8.mono))) (Lent.row' 3 hl_83 R_Write.mono hle_84 rfl ((hr_66.mono R_Write.mono (New.mono (hleH_76.trans (hleH_79.trans hleH_80)))).old R_Write.mono)) (Lent.row' 4 hl_83 RU8.mono hle_84 rfl ((hr_67.mono RU8.mono (New.mono (hleH_76.trans (hleH_79.trans hleH_80)))).old RU8.mono)) (IsSlice.mono (RSl.mono RU8.mono) hle_84 (hz_72.mono (RSl.mono RU8.mono) (hleH_76.trans (hleH_79.trans hleH_80)))) (IsSlice.mono R_Write.mono hle_84 (hz_73.mono R_Write.mono (hleH_76.trans (hleH_79.trans hleH_80)))) (Lent.row' 1 hl_83 RU8.mono hle_84 rfl ((hr_74.mono RU8.mono (New.mono (hleH_76.trans (hleH_79.trans hleH_80)))).old RU8.mono)) _ hr_87) (fun _ _ _ h => h.1)) rfl (Run.llz [] 4 ZF rfl (ZQ (t:=102) rfl (fun c_88 => ?_) (fun c_88 => ?_)))
        ·
         replace hx:=ZK c_88 hx
         refine Run.lnz_sk [] 14 ZF rfl (ZJ (vs:=[.bool false]) (K:=[]) (rst:=[_,_,_,_,_,_,_,_,_]) (.inl rfl) rfl rfl (ZG rfl rfl) ZC ?_)
         obtain rfl:=Option.some.inj hx
         exact ⟨rfl,rfl,trivial⟩
        ·
         replace hx:=ZL c_88 hx
         refine Run.lcz_s [] 9 ZF rfl (JC.tidy (l':=[(4,.pointer (some ⟨b_12,0,none⟩)),(5,.pointer (some ⟨b_13,0,none⟩)),(8,.bool false),(9,.pointer (some ⟨b_30,0,none⟩)),(10,.slice az_49 nz_49 cz_49),(18,.pointer (some ⟨b_68,0,none⟩)),(106,.bool (!decide (x_62.2 = x_69.2)))]) (own':=[[(b_75,.cells #[.slice az_72 nz_72 cz_72,.slice az_73 nz_73 cz_73,.slice ar_74 nr_74 cr_74,.int .u32 (x_69.1.Epoch.toNat : Int),.int .u32 (x_69.1.Count.toNat : Int)] 29 (0,0))],Kr_74,[(b_68,.cells #[.slice az_65 nz_65 cz_65,.slice ar_66 nr_66 cr_66,.slice ar_67 nr_67 cr_67,.int .u32 (x_62.1.Epoch.toNat : Int),.int .u32 (x_62.1.Count.toNat : Int)] 29 (0,0))],Kr_66,Kr_67,[(b_30,.cells #[.slice ar_27 nr_27 cr_27,.slice ar_28 nr_28 cr_28,.slice ar_29 nr_29 cr_29,.int .u32 (x_24.Epoch.toNat : Int),.int .u32 (x_24.Count.toNat : Int)] 29 (0,0))],[(b_14,.cells #[.int .i64 p_9.At,.int .u32 (p_9.Birth.toNat : Int),.int .u32 (p_9.Iv.toNat : Int),.int .u32 (p_9.Tag.toNat : Int),.int .u32 (p_9.Sum.toNat : Int)] 31 (0,0))],[(b_13,.cells #[.slice aa_6 na_6 ca_6,.slice aa_7 na_7 ca_7,.slice aa_8 na_8 ca_8,.int .u32 (p_5.Epoch.toNat : Int),.int .u32 (p_5.Count.toNat : Int)] 29 (0,0))],[(b_12,.cells #[.slice aa_2 na_2 ca_2,.slice aa_3 na_3 ca_3,.slice aa_4 na_4 ca_4,.int .u32 (p_1.Epoch.toNat : Int),.int .u32 (p_1.Count.toNat : Int)] 29 (0,0))]]) ⟨rfl,rfl,rfl,rfl,rfl,rfl,rfl,trivial⟩ rfl (JC.tidyP (l':=[(4,.pointer (some ⟨b_12,0,none⟩)),(5,.pointer (some ⟨b_13,0,none⟩)),(8,.bool false),(9,.pointer (some ⟨b_30,0,none⟩)),(10,.slice az_49 nz_49 cz_49),(18,.pointer (some ⟨b_68,0,none⟩)),(106,.bool (!decide (x_62.2 = x_69.2)))]) (own':=[[(b_68,.cells #[.slice az_65 nz_65 cz_65,.slice ar_66 nr_66 cr_66,.slice ar_67 nr_67 cr_67,.int .u32 (x_62.1.Epoch.toNat : Int),.int .u32 (x_62.1.Count.toNat : Int)] 29 (0,0))],Kr_66,Kr_67,[(b_30,.cells #[.slice ar_27 nr_27 cr_27,.slice ar_28 nr_28 cr_28,.slice ar_29 nr_29 cr_29,.int .u32 (x_24.Epoch.toNat : Int),.int .u32 (x_24.Count.toNat : Int)] 29 (0,0))],[(b_13,.cells #[.slice aa_6 na_6 ca_6,.slice aa_7 na_7 ca_7,.slice aa_8 na_8 ca_8,.int .u32 (p_5.Epoch.toNat : Int),.int .u32 (p_5.Count.toNat : Int)] 29 (0,0))],[(b_12,.cells #[.slice aa_2 na_2 ca_2,.slice aa_3 na_3 ca_3,.slice aa_4 na_4 ca_4,.int .u32 (p_1.Epoch.toNat : Int),.int .u32 (p_1.Count.toNat : Int)] 29 (0,0))]]) (rst:=[_,_,_]) ⟨rfl,rfl,rfl,rfl,rfl,rfl,rfl,trivial⟩ (ZO 2 rfl (ZO 2 rfl (ZO 2 rfl (ZO 2 rfl (ZO 3 rfl (ZO 3 rfl ZC)))))) (ZM rfl (fun c_89 => ?_) (fun c_89 => ?_))))
         ·
          replace hx:=ZK c_89 hx
          refine Run.cnz_k [] 7 ZF rfl (ZJ (vs:=[.bool false]) (K:=[]) (rst:=[_,_,_,_,_,_]) (.inl rfl) rfl rfl (ZG rfl rfl) ZC ?_)
          obtain rfl:=Option.some.inj hx
          exact ⟨rfl,rfl,trivial⟩
         ·
          replace hx:=ZL c_89 hx
          refine Run.cc_s [] 4 ZF rfl (JC.drawB (so:=[(_,[]),(_,[]),(_,[]),(_,[]),(_,[]),(_,[])]) 27 rfl Mixed ⟨by kernel_rfl,by kernel_rfl⟩ (kept0 [0,1,2,3,4,5] rfl) ?_)
          refine JB.val (i:=0) [] rfl (R.ldoN 3 (vs:=[.slice ar_27 nr_27 cr_27,.slice ar_28 nr_28 cr_28,.slice ar_29 nr_29 cr_29,.int .u32 (x_24.Epoch.toNat : Int),.int .u32 (x_24.Count.toNat : Int)]) S29 rfl rfl rfl rfl) ?_
          refine JB.val (i:=2) [] rfl (R.ldoN 5 (vs:=[.slice aa_2 na_2 ca_2,.slice aa_3 na_3 ca_3,.slice aa_4 na_4 ca_4,.int .u32 (p_1.Epoch.toNat : Int),.int .u32 (p_1.Count.toNat : Int)]) S29 rfl rfl rfl rfl) ?_
          refine JB.one (i:=1) (by kernel_rfl) ?_
          refine JOB.step rfl trivial rfl (fun K hK => ?_)
          obtain ⟨x_90,hr_91,hx⟩:=ZD hx
          refine ZI (vs:=[_]) (args:=[_]) (K:=[]) (rst:=[_,_,_,_,_,_]) E16 rfl rfl rfl ZC (store_Check_ok x_24 _ (ho_41.mono (RSl.mono RU8.mono) (hleu_48.trans (hleu_56.trans (hleu_64.trans (hleH_76.trans (hleH_79.trans hleH_80)))))) (ho_42.mono R_Write.mono (hleu_48.trans (hleu_56.trans (hleu_64.trans (hleH_76.trans (hleH_79.trans hleH_80)))))) (ho_43.mono RU8.mono (hleu_48.trans (hleu_56.trans (hleu_64.trans (hleH_76.trans (hleH_79.trans hleH_80)))))) _ hr_91) rfl (fun u_92 Ku_92 Hu_92 hRu_92 hleu_92 hfu_92 => ?_)
          obtain ⟨rfl,rfl,rfl,-⟩:=hRu_92
          refine ZW (hK _ _ _ (Hle.refl _) (kept0 [0,1,2,3,4,5] rfl) ?_)
          refine JB.one (i:=3) (by kernel_rfl) ?_
          refine JOB.step rfl trivial rfl (fun K hK => ?_)
          obtain ⟨x_93,hr_94,hx⟩:=ZD hx
          refine ZI (vs:=[_]) (args:=[_]) (K:=[]) (rst:=[_,_,_,_,_,_]) E17 rfl rfl rfl ZC (ref13_Check_ok p_1 _ (ho_35.mono (RSl.mono RU8.mono) (hleu_48.trans (hleu_56.trans (hleu_64.trans (hleH_76.trans (hleH_79.trans hleH_80)))))) (ho_36.mono R_Write.mono (hleu_48.trans (hleu_56.trans (hleu_64.trans (hleH_76.trans (hleH_79.trans hleH_80)))))) (ho_37.mono RU8.mono (hleu_48.trans (hleu_56.trans (hleu_64.trans (hleH_76.trans (hleH_79.trans hleH_80)))))) _ hr_94) rfl (fun u_95 Ku_95 Hu_95 hRu_95 hleu_95 hfu_95 => ?_)
          obtain ⟨rfl,rfl,rfl,-⟩:=hRu_95
          refine ZW (hK _ _ _ (Hle.refl _) (kept0 [0,1,2,3,4,5] rfl) ?_)
          refine JB.val (i:=4) [] rfl (R.neq_i rfl rfl) ?_
          refine JB.val (i:=5) [] rfl (ZZ rfl) ?_
          refine JB.gSplit (t:=112) rfl (fun c_96 => ?_) (fun c_96 => ?_)
          ·
           replace hx:=ZK c_96 hx
           refine JB.no (i:=6) rfl rfl rfl rfl rfl ?_
           refine JB.no (i:=7) rfl rfl rfl rfl rfl ?_
           refine JB.no (i:=8) rfl rfl rfl rfl rfl ?_
           refine JB.no (i:=9) rfl rfl rfl rfl rfl ?_
           refine JB.no (i:=10) rfl rfl rfl rfl rfl ?_
           refine JB.no (i:=11) rfl rfl rfl rfl rfl ?_
           refine JB.no (i:=12) rfl rfl rfl rfl rfl ?_
           refine JB.val (i:=13) [] rfl (R.pickT rfl rfl) ?_
           refine JB.val (i:=14) [] rfl (ZZ rfl) ?_
           refine JB.no (i:=15) rfl rfl rfl rfl rfl ?_
           refine JB.no (i:=16) rfl rfl rfl rfl rfl ?_
           refine JB.no (i:=17) rfl rfl rfl rfl rfl ?_
           refine JB.no (i:=18) rfl rfl rfl rfl rfl ?_
           refine JB.no (i:=19) rfl rfl rfl rfl rfl ?_
           refine JB.val (i:=20) [] rfl (R.pickT rfl rfl) ?_
           refine JB.val (i:=21) [] rfl (ZZ rfl) ?_
           refine JB.no (i:=22) rfl rfl rfl rfl rfl ?_
           refine JB.no (i:=23) rfl rfl rfl rfl rfl ?_
           refine JB.no (i:=24) rfl rfl rfl rfl rfl ?_
           refine JB.no (i:=25) rfl rfl rfl rfl rfl ?_
           refine JB.val (i:=26) [] rfl (R.pickT rfl rfl) ?_
           refine JB.doneN (by kernel_rfl) ?_
           refine Run.nnz_sk [] 9 ZF rfl (ZJ (vs:=[.bool false]) (K:=[]) (rst:=[_,_,_,_,_,_]) (.inl rfl) rfl rfl (ZG rfl rfl) ZC ?_)
           obtain rfl:=Option.some.inj hx
           exact ⟨rfl,rfl,trivial⟩
          ·
           replace hx:=ZL c_96 hx
           refine JB.val (i:=6) [] rfl (R.ldoN 3 (vs:=[.slice ar_27 nr_27 cr_27,.slice ar_28 nr_28 cr_28,.slice ar_29 nr_29 cr_29,.int .u32 (x_24.Epoch.toNat : Int),.int .u32 (x_24.Count.toNat : Int)]) S29 rfl rfl rfl rfl) ?_
           refine JB.val (i:=7) [] rfl (R.ldoN 4 (vs:=[.slice aa_6 na_6 ca_6,.slice aa_7 na_7 ca_7,.slice aa_8 na_8 ca_8,.int .u32 (p_5.Epoch.toNat : Int),.int .u32 (p_5.Count.toNat : Int)]) S29 rfl rfl rfl rfl) ?_
           refine JB.val (i:=9) [] rfl (R.ldoN 5 (vs:=[.slice aa_2 na_2 ca_2,.slice aa_3 na_3 ca_3,.slice aa_4 na_4 ca_4,.int .u32 (p_1.Epoch.toNat : Int),.int .u32 (p_1.Count.toNat : Int)]) S29 rfl rfl rfl rfl) ?_
           refine JB.val (i:=10) [] rfl (R.ldoN 4 (vs:=[.slice aa_6 na_6 ca_6,.slice aa_7 na_7 ca_7,.slice aa_8 na_8 ca_8,.int .u32 (p_5.Epoch.toNat : Int),.int .u32 (p_5.Count.toNat : Int)]) S29 rfl rfl rfl rfl) ?_
           refine JB.one (i:=8) (by kernel_rfl) ?_
           refine JOB.step rfl ⟨_,_,rfl,rfl,rfl⟩ rfl (fun K hK => ?_)
           obtain ⟨x_97,hr_98,hx⟩:=ZD hx
           refine ZI (vs:=[_,_]) (args:=[_,_]) (K:=[]) (rst:=[_,_,_,_,_,_]) E18 rfl rfl rfl ZC (store_Same_ok x_24 p_5 _ (ho_41.mono (RSl.mono RU8.mono) (hleu_48.trans (hleu_56.trans (hleu_64.trans (hleH_76.trans (hleH_79.trans hleH_80)))))) (ho_42.mono R_Write.mono (hleu_48.trans (hleu_56.trans (hleu_64.trans (hleH_76.trans (hleH_79.trans hleH_80)))))) (ho_43.mono RU8.mono (hleu_48.trans (hleu_56.trans (hleu_64.trans (hleH_76.trans (hleH_79.trans hleH_80)))))) (ho_38.mono (RSl.mono RU8.mono) (hleu_48.trans (hleu_56.trans (hleu_64.trans (hleH_76.trans (hleH_79.trans hleH_80)))))) (ho_39.mono R_Write.mono (hleu_48.trans (hleu_56.trans (hleu_64.trans (hleH_76.trans (hleH_79.trans hleH_80)))))) (ho_40.mono RU8.mono (hleu_48.trans (hleu_56.trans (hleu_64.trans (hleH_76.trans (hleH_79.trans hleH_80)))))) _ hr_98) rfl (fun u_99 Ku_99 Hu_99 hRu_99 hleu_99 hfu_99 => ?_)
           obtain ⟨rfl,rfl,rfl,-⟩:=hRu_99
           refine ZW (hK _ _ _ (Hle.refl _) (kept0 [0,1,2,3,4,5] rfl) ?_)
           refine JB.one (i:=11) (by kernel_rfl) ?_
           refine JOB.step rfl ⟨_,_,rfl,rfl,rfl⟩ rfl (fun K hK => ?_)
           obtain ⟨x_100,hr_101,hx⟩:=ZD hx
           refine ZI (vs:=[_,_]) (args:=[_,_]) (K:=[]) (rst:=[_,_,_,_,_,_]) E15 rfl rfl rfl ZC (ref13_Same_ok p_1 p_5 _ (ho_35.mono (RSl.mono RU8.mono) (hleu_48.trans (hleu_56.trans (hleu_64.trans (hleH_76.trans (hleH_79.trans hleH_80)))))) (ho_36.mono R_Write.mono (hleu_48.trans (hleu_56.trans (hleu_64.trans (hleH_76.trans (hleH_79.trans hleH_80)))))) (ho_37.mono RU8.mono (hleu_48.trans (hleu_56.trans (hleu_64.trans (hleH_76.trans (hleH_79.trans hleH_80)))))) (ho_38.mono (RSl.mono RU8.mono) (hleu_48.trans (hleu_56.trans (hleu_64.trans (hleH_76.trans (hleH_79.trans hleH_80)))))) (ho_39.mono R_Write.mono (hleu_48.trans (hleu_56.trans (hleu_64.trans (hleH_76.trans (hleH_79.trans hleH_80)))))) (ho_40.mono RU8.mono (hleu_48.trans (hleu_56.trans (hleu_64.trans (hleH_76.trans (hleH_79.trans hleH_80)))))) _ hr_101) rfl (fun u_102 Ku_102 Hu_102 hRu_102 hleu_102 hfu_102 => ?_)
           obtain ⟨rfl,rfl,rfl,-⟩:=hRu_102
           refine ZW (hK _ _ _ (Hle.refl _) (kept0 [0,1,2,3,4,5] rfl) ?_)
           refine JB.val (i:=12) [] rfl (R.neqBool U4 rfl rfl) ?_
           refine JB.val (i:=13) [] rfl (R.pickF rfl rfl) ?_
           refine JB.val (i:=14) [] rfl (ZZ rfl) ?_
           refine JB.gSplit (t:=121) rfl (fun c_103 => ?_) (fun c_103 => ?_)
           ·
            replace hx:=ZK c_103 hx
            refine JB.no (i:=15) rfl rfl rfl rfl rfl ?_
            refine JB.no (i:=16) rfl rfl rfl rfl rfl ?_
            refine JB.no (i:=17) rfl rfl rfl rfl rfl ?_
            refine JB.no (i:=18) rfl rfl rfl rfl rfl ?_
            refine JB.no (i:=19) rfl rfl rfl rfl rfl ?_
            refine JB.val (i:=20) [] rfl (R.pickT rfl rfl) ?_
            refine JB.val (i:=21) [] rfl (ZZ rfl) ?_
            refine JB.no (i:=22) rfl rfl rfl rfl rfl ?_
            refine JB.no (i:=23) rfl rfl rfl rfl rfl ?_
            refine JB.no (i:=24) rfl rfl rfl rfl rfl ?_
            refine JB.no (i:=25) rfl rfl rfl rfl rfl ?_
            refine JB.val (i:=26) [] rfl (R.pickT rfl rfl) ?_
            refine JB.doneN (by kernel_rfl) ?_
            refine Run.nnz_sk [] 9 ZF rfl (ZJ (vs:=[.bool false]) (K:=[]) (rst:=[_,_,_,_,_,_]) (.inl rfl) rfl rfl (ZG rfl rfl) ZC ?_)
            obtain rfl:=Option.some.inj hx
            exact ⟨rfl,rfl,trivial⟩
           ·
            replace hx:=ZL c_103 hx
            refine JB.val (i:=15) [] rfl (R.ldoN 3 (vs:=[.slice ar_27 nr_27 cr_27,.slice ar_28 nr_28 cr_28,.slice ar_29 nr_29 cr_29,.int .u32 (x_24.Epoch.toNat : Int),.int .u32 (x_24.Count.toNat : Int)]) S29 rfl rfl rfl rfl) ?_
            refine JB.val (i:=17) [] rfl (R.ldoN 5 (vs:=[.slice aa_2 na_2 ca_2,.slice aa_3 na_3 ca_3,.slice aa_4 na_4 ca_4,.int .u32 (p_1.Epoch.toNat : Int),.int .u32 (p_1.Count.toNat : Int)]) S29 rfl rfl rfl rfl) ?_
            refine JB.one (i:=16) (by kernel_rfl) ?_
            refine JOB.step rfl ⟨_,_,rfl,rfl,rfl⟩ rfl (fun K hK => ?_)
            obtain ⟨x_104,hr_105,hx⟩:=ZD hx
            refine ZI (vs:=[_]) (args:=[_]) (K:=[]) (rst:=[_,_,_,_,_,_]) E19 rfl rfl rfl ZC (store_Twin_ok x_24 _ (ho_41.mono (RSl.mono RU8.mono) (hleu_48.trans (hleu_56.trans (hleu_64.trans (hleH_76.trans (hleH_79.trans hleH_80)))))) (ho_42.mono R_Write.mono (hleu_48.trans (hleu_56.trans (hleu_64.trans (hleH_76.trans (hleH_79.trans hleH_80)))))) (ho_43.mono RU8.mono (hleu_48.trans (hleu_56.trans (hleu_64.trans (hleH_76.trans (hleH_79.trans hleH_80)))))) _ hr_105) rfl (fun u_106 Ku_106 Hu_106 hRu_106 hleu_106 hfu_106 => ?_)
            obtain ⟨ar_107,nr_107,cr_107,Kr_107,ar_108,nr_108,cr_108,Kr_108,ar_109,nr_109,cr_109,Kr_109,rfl,rfl,hr_107,hnewr_107,hr_108,hnewr_108,hr_109,hnewr_109,-⟩:=hRu_106
            replace hr_107:=(Pcs.base hr_107 (fun p hp => (hfu_106 p (ZS 0 rfl hp)).resolve_left (hnewr_107 p hp)))
            replace hr_108:=(RowOf.base (RowOf.mono R_Write.mono (New.call (hleu_48.trans (hleu_56.trans (hleu_64.trans (hleH_76.trans (hleH_79.trans hleH_80)))))) hr_108) (fun p hp => (hfu_106 p (ZS 1 rfl hp)).resolve_left (hnewr_108 p hp)))
            replace hr_109:=(RowOf.base (ZP (H2:=New H_33 Hu_106) RU8.const hr_109) (fun p hp => (hfu_106 p (ZS 2 rfl hp)).resolve_left (hnewr_109 p hp)))
            refine ZW (hK _ _ _ hleu_106 (kept0 [3,4,5,6,7,8] rfl) ?_)
            refine JB.one (i:=18) (by kernel_rfl) ?_
            refine JOB.step rfl ⟨_,_,rfl,rfl,rfl⟩ rfl (fun K hK => JL.pubPcs 0  rfl hr_107 (Nat.le_refl _) (fun H_110 hleH_110 hsH_110 => JL.forget 0 (JL.pubN 0 R_Write.mono rfl (hr_108.mono R_Write.mono (New.mono hleH_110)) (Nat.le_refl _) (fun H_111 hleH_111 hsH_111 => JL.forget 0 (JL.pubN 0 RU8.mono rfl (hr_109.mono RU8.mono (New.mono (hleH_110.trans hleH_111))) (Nat.le_refl _) (fun H_112 hleH_112 hsH_112 => JL.forget 0 ?_))))))
            obtain ⟨x_113,hr_114,hx⟩:=ZD hx
            refine ZI (vs:=[_,_]) (args:=[_,_]) (K:=[]) (rst:=[_,_,_,_,_,_]) E15 rfl rfl rfl ZC (ref13_Same_ok x_104 p_1 _ ((hsH_110.mono (RSl.mono RU8.mono) (New.mono (hleH_111.trans hleH_112))).old (RSl.mono RU8.mono)) ((hsH_111.mono R_Write.mono (New.mono hleH_112)).old R_Write.mono) (hsH_112.old RU8.mono) (ho_35.mono (RSl.mono RU8.mono) (hleu_48.trans (hleu_56.trans (hleu_64.trans (hleH_76.trans (hleH_79.trans (hleH_80.trans (hleu_106.trans (hleH_110.trans (hleH_111.trans hleH_112)))))))))) (ho_36.mono R_Write.mono (hleu_48.trans (hleu_56.trans (hleu_64.trans (hleH_76.trans (hleH_79.trans (hleH_80.trans (hleu_106.trans (hleH_110.trans (hleH_111.trans hleH_112)))))))))) (ho_37.mono RU8.mono (hleu_48.trans (hleu_56.trans (hleu_64.trans (hleH_76.trans (hleH_79.trans (hleH_80.trans (hleu_106.trans (hleH_110.trans (hleH_111.trans hleH_112)))))))))) _ hr_114) rfl (fun u_115 Ku_115 Hu_115 hRu_115 hleu_115 hfu_115 => ?_)
            obtain ⟨rfl,rfl,rfl,-⟩:=hRu_115
            refine ZW (hK _ _ _ (hleu_106.trans (hleH_110.trans (hleH_111.trans hleH_112))) (kept0 [0,1,2,3,4,5] rfl) ?_)
            refine JB.val (i:=19) [] rfl (R.not rfl) ?_
            refine JB.val (i:=20) [] rfl (R.pickF rfl rfl) ?_
            refine JB.val (i:=21) [] rfl (ZZ rfl) ?_
            refine JB.gSplit (t:=128) rfl (fun c_116 => ?_) (fun c_116 => ?_)
            ·
             replace hx:=ZK c_116 hx
             refine JB.no (i:=22) rfl rfl rfl rfl rfl ?_
             refine JB.no (i:=23) rfl rfl rfl rfl rfl ?_
             refine JB.no (i:=24) rfl rfl rfl rfl rfl ?_
             refine JB.no (i:=25) rfl rfl rfl rfl rfl ?_
             refine JB.val (i:=26) [] rfl (R.pickT rfl rfl) ?_
             refine JB.doneN (by kernel_rfl) ?_
             refine Run.nnz_sk [] 9 ZF rfl (ZJ (vs:=[.bool false]) (K:=[]) (rst:=[_,_,_,_,_,_]) (.inl rfl) rfl rfl (ZG rfl rfl) ZC ?_)
             obtain rfl:=Option.some.inj hx
             exact ⟨rfl,rfl,trivial⟩
            ·
             replace hx:=ZL c_116 hx
             refine JB.one (i:=22) (by kernel_rfl) ?_
             refine JOB.step rfl ⟨_,_,rfl,rfl,rfl⟩ rfl (fun K hK => ?_)
             obtain ⟨x_117,hr_118,hx⟩:=ZD hx
             refine ZI (vs:=[]) (args:=[]) (K:=[]) (rst:=[_,_,_,_,_,_]) E20 rfl rfl rfl ZC (store_New_ok _ _ hr_118) rfl (fun u_119 Ku_119 Hu_119 hRu_119 hleu_119 hfu_119 => ?_)
             obtain ⟨ar_120,nr_120,cr_120,Kr_120,az_121,nz_121,ar_122,nr_122,cr_122,Kr_122,rfl,rfl,hr_120,hnewr_120,hz_121,hr_122,hnewr_122,-⟩:=hRu_119
             replace hr_120:=(Pcs.base hr_120 (fun p hp => (hfu_119 p (ZS 0 rfl hp)).resolve_left (hnewr_120 p hp)))
             replace hr_122:=(RowOf.base (ZP (H2:=New H_33 Hu_119) RU8.const hr_122) (fun p hp => (hfu_119 p (ZS 1 rfl hp)).resolve_left (hnewr_122 p hp)))
             replace hz_121:=IsSlice.mono R_Write.mono (New.call (hleu_48.trans (hleu_56.trans (hleu_64.trans (hleH_76.trans (hleH_79.trans (hleH_80.trans (hleu_106.trans (hleH_110.trans (hleH_111.trans hleH_112)))))))))) hz_121
             refine ZW (hK _ _ _ (hleu_106.trans (hleH_110.trans (hleH_111.trans (hleH_112.trans hleu_119)))) (kept0 [2,3,4,5,6,7] rfl) ?_)
             refine JB.one (i:=23) (by kernel_rfl) ?_
             refine JOB.step rfl ⟨_,_,rfl,rfl,rfl⟩ rfl (fun K hK => ?_)
             obtain ⟨x_123,hr_124,hx⟩:=ZD hx
             refine ZI (vs:=[]) (args:=[]) (K:=[]) (rst:=[_,_,_,_,_,_,_,_]) E21 rfl rfl rfl ZC (ref13_New_ok _ _ hr_124) rfl (fun u_125 Ku_125 Hu_125 hRu_125 hleu_125 hfu_125 => ?_)
             obtain ⟨ar_126,nr_126,cr_126,Kr_126,az_127,nz_127,ar_128,nr_128,cr_128,Kr_128,rfl,rfl,hr_126,hnewr_126,hz_127,hr_128,hnewr_128,-⟩:=hRu_125
             replace hr_126:=(RowOf.base (RowOf.mono (RSl.mono RU8.mono) (New.call (hleu_48.trans (hleu_56.trans (hleu_64.trans (hleH_76.trans (hleH_79.trans (hleH_80.trans (hleu_106.trans (hleH_110.trans (hleH_111.trans (hleH_112.trans hleu_119))))))))))) hr_126) (fun p hp => (hfu_125 p (ZS 0 rfl hp)).resolve_left (hnewr_126 p hp)))
             replace hr_128:=(RowOf.base (ZP (H2:=New H_33 Hu_125) RU8.const hr_128) (fun p hp => (hfu_125 p (ZS 1 rfl hp)).resolve_left (hnewr_128 p hp)))
             replace hz_127:=IsSlice.mono R_Write.mono (New.call (hleu_48.trans (hleu_56.trans (hleu_64.trans (hleH_76.trans (hleH_79.trans (hleH_80.trans (hleu_106.trans (hleH_110.trans (hleH_111.trans (hleH_112.trans hleu_119))))))))))) hz_127
             refine ZW (hK _ _ _ (hleu_106.trans (hleH_110.trans (hleH_111.trans (hleH_112.trans (hleu_119.trans hleu_125))))) (kept0 [4,5,6,7,8,9] rfl) ?_)
             refine JB.one (i:=24) (by kernel_rfl) ?_
             refine JOB.step rfl ⟨_,_,rfl,rfl,rfl⟩ rfl (fun K hK => JL.pubPcs 2  rfl hr_120 (Nat.le_refl _) (fun H_129 hleH_129 hsH_129 => JL.forget 2 (JL.pubN 2 RU8.mono rfl (hr_122.mono RU8.mono (New.mono (hleu_125.trans hleH_129))) (Nat.le_refl _) (fun H_130 hleH_130 hsH_130 => JL.forget 2 (JL.pubN 0 (RSl.mono RU8.mono) rfl (hr_126.mono (RSl.mono RU8.mono) (New.mono (hleH_129.trans hleH_130))) (Nat.le_refl _) (fun H_131 hleH_131 hsH_131 => JL.forget 0 (JL.pubN 0 RU8.mono rfl (hr_128.mono RU8.mono (New.mono (hleH_129.trans (hleH_130.trans hleH_131)))) (Nat.le_refl _) (fun H_132 hleH_132 hsH_132 => JL.forget 0 ?_))))))))
             obtain ⟨x_133,hr_134,hx⟩:=ZD hx
             refine ZI (vs:=[_,_]) (args:=[_,_]) (K:=[]) (rst:=[_,_,_,_,_,_]) E15 rfl rfl rfl ZC (ref13_Same_ok x_117 x_123 _ ((hsH_129.mono (RSl.mono RU8.mono) (New.mono (hleH_130.trans (hleH_131.trans hleH_132)))).old (RSl.mono RU8.mono)) ((hz_121.mono R_Write.mono (New.mono (hleu_125.trans (hleH_129.trans (hleH_130.trans (hleH_131.trans hleH_132)))))).old R_Write.mono) ((hsH_130.mono RU8.mono (New.mono (hleH_131.trans hleH_132))).old RU8.mono) ((hsH_131.mono (RSl.mono RU8.mono) (New.mono hleH_132)).old (RSl.mono RU8.mono)) ((hz_127.mono R_Write.mono (New.mono (hleH_129.trans (hleH_130.trans (hleH_131.trans hleH_132))))).old R_Write.mono) (hsH_132.old RU8.mono) _ hr_134) rfl (fun u_135 Ku_135 Hu_135 hRu_135 hleu_135 hfu_135 => ?_)
             obtain ⟨rfl,rfl,rfl,-⟩:=hRu_135
             refine ZW (hK _ _ _ (hleu_106.trans (hleH_110.trans (hleH_111.trans (hleH_112.trans (hleu_119.trans (hleu_125.trans (hleH_129.trans (hleH_130.trans (hleH_131.trans hleH_132))))))))) (kept0 [0,1,2,3,4,5] rfl) ?_)
             refine JB.val (i:=25) [] rfl (R.not rfl) ?_
             refine JB.val (i:=26) [] rfl (R.pickF rfl rfl) ?_
             refine JB.doneN (by kernel_rfl) ?_
             refine JN.next (ZM rfl (fun c_136 => ?_) (fun c_136 => ?_))
             ·
              replace hx:=ZK c_136 hx
              refine Run.cnz_k [] 7 ZF rfl (ZJ (vs:=[.bool false]) (K:=[]) (rst:=[_,_,_,_,_,_]) (.inl rfl) rfl rfl (ZG rfl rfl) ZC ?_)
              obtain rfl:=Option.some.inj hx
              exact ⟨rfl,rfl,trivial⟩
             ·
              replace hx:=ZL c_136 hx
              refine Run.ccz_s [] 2 ZF rfl (JC.tidy (l':=[(4,.pointer (some ⟨b_12,0,none⟩)),(8,.bool false),(9,.pointer (some ⟨b_30,0,none⟩)),(10,.slice az_49 nz_49 cz_49),(18,.pointer (some ⟨b_68,0,none⟩))]) (own':=[[(b_68,.cells #[.slice az_65 nz_65 cz_65,.slice ar_66 nr_66 cr_66,.slice ar_67 nr_67 cr_67,.int .u32 (x_62.1.Epoch.toNat : Int),.int .u32 (x_62.1.Count.toNat : Int)] 29 (0,0))],Kr_66,Kr_67,[(b_30,.cells #[.slice ar_27 nr_27 cr_27,.slice ar_28 nr_28 cr_28,.slice ar_29 nr_29 cr_29,.int .u32 (x_24.Epoch.toNat : Int),.int .u32 (x_24.Count.toNat : Int)] 29 (0,0))],[(b_13,.cells #[.slice aa_6 na_6 ca_6,.slice aa_7 na_7 ca_7,.slice aa_8 na_8 ca_8,.int .u32 (p_5.Epoch.toNat : Int),.int .u32 (p_5.Count.toNat : Int)] 29 (0,0))],[(b_12,.cells #[.slice aa_2 na_2 ca_2,.slice aa_3 na_3 ca_3,.slice aa_4 na_4 ca_4,.int .u32 (p_1.Epoch.toNat : Int),.int .u32 (p_1.Count.toNat : Int)] 29 (0,0))]]) ⟨rfl,rfl,rfl,rfl,rfl,trivial⟩ rfl (JC.tidyP (l':=[(4,.pointer (some ⟨b_12,0,none⟩)),(8,.bool false),(9,.pointer (some ⟨b_30,0,none⟩)),(10,.slice az_49 nz_49 cz_49),(18,.pointer (some ⟨b_68,0,none⟩))]) (own':=[[(b_68,.cells #[.slice az_65 nz_65 cz_65,.slice ar_66 nr_66 cr_66,.slice ar_67 nr_67 cr_67,.int .u32 (x_62.1.Epoch.toNat : Int),.int .u32 (x_62.1.Count.toNat : Int)] 29 (0,0))],Kr_66,Kr_67,[(b_30,.cells #[.slice ar_27 nr_27 cr_27,.slice ar_28 nr_28 cr_28,.slice ar_29 nr_29 cr_29,.int .u32 (x_24.Epoch.toNat : Int),.int .u32 (x_24.Count.toNat : Int)] 29 (0,0))],[(b_12,.cells #[.slice aa_2 na_2 ca_2,.slice aa_3 na_3 ca_3,.slice aa_4 na_4 ca_4,.int .u32 (p_1.Epoch.toNat : Int),.int .u32 (p_1.Count.toNat : Int)] 29 (0,0))]]) (rst:=[_]) ⟨rfl,rfl,rfl,rfl,rfl,trivial⟩ (ZO 0 rfl (ZO 0 rfl (ZO 0 rfl (ZO 0 rfl (ZO 1 rfl ZC))))) (JC.pubN 1 R_Write.mono rfl (hr_66.mono R_Write.mono (New.mono (hleH_76.trans (hleH_79.trans (hleH_80.trans (hleu_106.trans (hleH_110.trans (hleH_111.trans (hleH_112.trans (hleu_119.trans (hleu_125.trans (hleH_129.trans (hleH_130.trans (hleH_131.trans hleH_132)))))))))))))) (Nat.le_refl _) (fun H_137 hleH_137 hsH_137 => JC.forget 1 (JC.tidy (l':=[(4,.pointer (some ⟨b_12,0,none⟩)),(8,.bool false),(9,.pointer (some ⟨b_30,0,none⟩)),(10,.slice az_49 nz_49 cz_49),(18,.pointer (some ⟨b_68,0,none⟩))]) (own':=[[(b_68,.cells #[.slice az_65 nz_65 cz_65,.slice ar_66 nr_66 cr_66,.slice ar_67 nr_67 cr_67,.int .u32 (x_62.1.Epoch.toNat : Int),.int .u32 (x_62.1.Count.toNat : Int)] 29 (0,0))],Kr_67,[(b_30,.cells #[.slice ar_27 nr_27 cr_27,.slice ar_28 nr_28 cr_28,.slice ar_29 nr_29 cr_29,.int .u32 (x_24.Epoch.toNat : Int),.int .u32 (x_24.Count.toNat : Int)] 29 (0,0))],[(b_12,.cells #[.slice aa_2 na_2 ca_2,.slice aa_3 na_3 ca_3,.slice aa_4 na_4 ca_4,.int .u32 (p_1.Epoch.toNat : Int),.int .u32 (p_1.Count.toNat : Int)] 29 (0,0))]]) ⟨rfl,rfl,rfl,rfl,rfl,trivial⟩ rfl (JC.tidyP (l':=[(4,.pointer (some ⟨b_12,0,none⟩)),(8,.bool false),(9,.pointer (some ⟨b_30,0,none⟩)),(10,.slice az_49 nz_49 cz_49),(18,.pointer (some ⟨b_68,0,none⟩))]) (own':=[[(b_68,.cells #[.slice az_65 nz_65 cz_65,.slice ar_66 nr_66 cr_66,.slice ar_67 nr_67 cr_67,.int .u32 (x_62.1.Epoch.toNat : Int),.int .u32 (x_62.1.Count.toNat : Int)] 29 (0,0))],Kr_67,[(b_30,.cells #[.slice ar_27 nr_27 cr_27,.slice ar_28 nr_28 cr_28,.slice ar_29 nr_29 cr_29,.int .u32 (x_24.Epoch.toNat : Int),.int .u32 (x_24.Count.toNat : Int)] 29 (0,0))],[(b_12,.cells #[.slice aa_2 na_2 ca_2,.slice aa_3 na_3 ca_3,.slice aa_4 na_4 ca_4,.int .u32 (p_1.Epoch.toNat : Int),.int .u32 (p_1.Count.toNat : Int)] 29 (0,0))]]) (rst:=[]) ⟨rfl,rfl,rfl,rfl,rfl,trivial⟩ (ZO 0 rfl (ZO 0 rfl (ZO 0 rfl (ZO 0 rfl ZC)))) (JC.pubN 1 RU8.mono rfl (hr_67.mono RU8.mono (New.mono (hleH_76.trans (hleH_79.trans (hleH_80.trans (hleu_106.trans (hleH_110.trans (hleH_111.trans (hleH_112.trans (hleu_119.trans (hleu_125.trans (hleH_129.trans (hleH_130.trans (hleH_131.trans (hleH_132.trans hleH_137))))))))))))))) (Nat.le_refl _) (fun H_138 hleH_138 hsH_138 => JC.forget 1 (JC.tidy (l':=[(4,.pointer (some ⟨b_12,0,none⟩)),(8,.bool false),(9,.pointer (some ⟨b_30,0,none⟩)),(10,.slice az_49 nz_49 cz_49),(18,.pointer (some ⟨b_68,0,none⟩))]) (own':=[[(b_68,.cells #[.slice az_65 nz_65 cz_65,.slice ar_66 nr_66 cr_66,.slice ar_67 nr_67 cr_67,.int .u32 (x_62.1.Epoch.toNat : Int),.int .u32 (x_62.1.Count.toNat : Int)] 29 (0,0))],[(b_30,.cells #[.slice ar_27 nr_27 cr_27,.slice ar_28 nr_28 cr_28,.slice ar_29 nr_29 cr_29,.int .u32 (x_24.Epoch.toNat : Int),.int .u32 (x_24.Count.toNat : Int)] 29 (0,0))],[(b_12,.cells #[.slice aa_2 na_2 ca_2,.slice aa_3 na_3 ca_3,.slice aa_4 na_4 ca_4,.int .u32 (p_1.Epoch.toNat : Int),.int .u32 (p_1.Count.toNat : Int)] 29 (0,0))]]) ⟨rfl,rfl,rfl,rfl,rfl,trivial⟩ rfl (JC.tidyP (l':=[(4,.pointer (some ⟨b_12,0,none⟩)),(8,.bool false),(9,.pointer (some ⟨b_30,0,none⟩)),(10,.slice az_49 nz_49 cz_49),(18,.pointer (some ⟨b_68,0,none⟩))]) (own':=[[(b_68,.cells #[.slice az_65 nz_65 cz_65,.slice ar_66 nr_66 cr_66,.slice ar_67 nr_67 cr_67,.int .u32 (x_62.1.Epoch.toNat : Int),.int .u32 (x_62.1.Count.toNat : Int)] 29 (0,0))],[(b_30,.cells #[.slice ar_27 nr_27 cr_27,.slice ar_28 nr_28 cr_28,.slice ar_29 nr_29 cr_29,.int .u32 (x_24.Epoch.toNat : Int),.int .u32 (x_24.Count.toNat : Int)] 29 (0,0))],[(b_12,.cells #[.slice aa_2 na_2 ca_2,.slice aa_3 na_3 ca_3,.slice aa_4 na_4 ca_4,.int .u32 (p_1.Epoch.toNat : Int),.int .u32 (p_1.Count.toNat : Int)] 29 (0,0))]]) (rst:=[]) ⟨rfl,rfl,rfl,rfl,rfl,trivial⟩ (ZO 0 rfl (ZO 0 rfl (ZO 0 rfl ZC))) ?_))))))))))
              have hth_139:=(hz_49.mono RU8.mono (New.mono (hleu_56.trans (hleu_64.trans (hleH_76.trans (hleH_79.trans (hleH_80.trans (hleu_106.trans (hleH_110.trans (hleH_111.trans (hleH_112.trans (hleu_119.trans (hleu_125.trans (hleH_129.trans (hleH_130.trans (hleH_131.trans (hleH_132.trans (hleH_137.trans hleH_138))))))))))))))))))
              have hth_140:=(hz_65.mono (RSl.mono RU8.mono) (New.mono (hleH_76.trans (hleH_79.trans (hleH_80.trans (hleu_106.trans (hleH_110.trans (hleH_111.trans (hleH_112.trans (hleu_119.trans (hleu_125.trans (hleH_129.trans (hleH_130.trans (hleH_131.trans (hleH_132.trans (hleH_137.trans hleH_138))))))))))))))))
              have hth_141:=(hsH_137.mono R_Write.mono (New.mono hleH_138))
              have hth_142:=hsH_138
              refine JC.thaw low_45 (fun D_143 hTD_143 => Run.cl [1] 3 ZF rfl ?_)
              obtain ⟨x_144,hr_145,hx⟩:=ZD hx
              refine ZI (vs:=[_]) (args:=[_]) (K:=[_]) (rst:=[_,_,_]) E22 rfl rfl rfl (ZO 0 rfl ZC) (law13_spoil_ok x_62.1 _ hTD_143 hth_140 hth_141 hth_142 _ hr_145) rfl (fun u_146 Ku_146 Hu_146 hRu_146 hleu_146 hfu_146 => ?_)
              obtain ⟨D_147,rfl,rfl,rfl,hTD_147,-⟩:=hRu_146
              refine Run.ll_s [2] 5 ZF rfl ?_
              obtain ⟨x_148,hr_149,hx⟩:=ZD hx
              refine ZI (vs:=[_]) (args:=[_]) (K:=[]) (rst:=[_,_,_,_]) E19 rfl rfl rfl ZC (store_Twin_ok x_24 _ ho_41 ho_42 ho_43 _ hr_149) rfl (fun u_150 Ku_150 Hu_150 hRu_150 hleu_150 hfu_150 => ?_)
              obtain ⟨ar_151,nr_151,cr_151,Kr_151,ar_152,nr_152,cr_152,Kr_152,ar_153,nr_153,cr_153,Kr_153,rfl,rfl,hr_151,hnewr_151,hr_152,hnewr_152,hr_153,hnewr_153,-⟩:=hRu_150
              replace hr_151:=(Pcs.base hr_151 (fun p hp => (hfu_150 p (ZS 0 rfl hp)).resolve_left (hnewr_151 p hp)))
              replace hr_152:=(RowOf.base (RowOf.mono R_Write.mono (New.call (Hle.refl _)) hr_152) (fun p hp => (hfu_150 p (ZS 1 rfl hp)).resolve_left (hnewr_152 p hp)))
              replace hr_153:=(RowOf.base (ZP (H2:=New H_33 Hu_150) RU8.const hr_153) (fun p hp => (hfu_150 p (ZS 2 rfl hp)).resolve_left (hnewr_153 p hp)))
              refine JL.pubPcs 0  rfl hr_151 (Nat.le_refl _) (fun H_154 hleH_154 hsH_154 => JL.forget 0 (JL.pubN 0 R_Write.mono rfl (hr_152.mono R_Write.mono (New.mono hleH_154)) (Nat.le_refl _) (fun H_155 hleH_155 hsH_155 => JL.forget 0 (JL.pubN 0 RU8.mono rfl (hr_153.mono RU8.mono (New.mono (hleH_154.trans hleH_155))) (Nat.le_refl _) (fun H_156 hleH_156 hsH_156 => JL.forget 0 (JL.thaw2 0 rfl hTD_147 low_45 (fun D_157 N_158 hA_159 hB_160 hT_161 => ?_)))))))
              have hth_162:=(hth_139.mono RU8.mono hA_159)
              have hth_163:=(hth_140.mono (RSl.mono RU8.mono) hA_159)
              have hth_164:=(hth_141.mono R_Write.mono hA_159)
              have hth_165:=(hth_142.mono RU8.mono hA_159)
              have hth_166:=((hsH_154.mono (RSl.mono RU8.mono) (New.mono (hleH_155.trans hleH_156))).mono (RSl.mono RU8.mono) hB_160)
              have hth_167:=((hsH_155.mono R_Write.mono (New.mono hleH_156)).mono R_Write.mono hB_160)
              have hth_168:=(hsH_156.mono RU8.mono hB_160)
              obtain ⟨x_169,hr_170,hx⟩:=ZD hx
              refine ZI (vs:=[_]) (args:=[_]) (K:=[_]) (rst:=[_,_,_]) E22 rfl rfl rfl (ZO 0 rfl ZC) (law13_spoil_ok x_148 _ hT_161 hth_166 hth_167 hth_168 _ hr_170) rfl (fun u_171 Ku_171 Hu_171 hRu_171 hleu_171 hfu_171 => ?_)
              obtain ⟨D_172,rfl,rfl,rfl,hTD_172,-⟩:=hRu_171
              refine Run.lc_s [] 8 ZF rfl ?_
              obtain ⟨t_173,ht_175,hx⟩:=ZD hx
              refine JC.cut (fun l o g => ∃ D_181 : Own,l = [(4,.pointer (some ⟨b_12,0,none⟩)),(9,.pointer (some ⟨b_30,0,none⟩))] ∧ o = [[(b_12,.cells #[.slice aa_2 na_2 ca_2,.slice aa_3 na_3 ca_3,.slice aa_4 na_4 ca_4,.int .u32 (p_1.Epoch.toNat : Int),.int .u32 (p_1.Count.toNat : Int)] 29 (0,0))],[(b_30,.cells #[.slice ar_27 nr_27 cr_27,.slice ar_28 nr_28 cr_28,.slice ar_29 nr_29 cr_29,.int .u32 (x_24.Epoch.toNat : Int),.int .u32 (x_24.Count.toNat : Int)] 29 (0,0))],D_181] ∧ H_33 = g ∧ TH N_158 D_181) ?_ ?_
              ·
               rintro _ _ _ ⟨D_181,rfl,rfl,rfl,hT_182⟩
               refine Run.nl_s [1,0] 5 ZF rfl ?_
               obtain ⟨x_183,hr_184,hx⟩:=ZD hx
               refine ZI (vs:=[_,_]) (args:=[_,_]) (K:=[]) (rst:=[_,_,_]) E15 rfl rfl rfl ZC (ref13_Same_ok x_24 p_1 _ ho_41 ho_42 ho_43 ho_35 ho_36 ho_37 _ hr_184) rfl (fun u_185 Ku_185 Hu_185 hRu_185 hleu_185 hfu_185 => ?_)
               obtain ⟨rfl,rfl,rfl,-⟩:=hRu_185
               refine Run.lnz_s [] 4 ZF rfl (ZJ (vs:=[.bool x_183]) (K:=[]) (rst:=[_,_,_]) (.inl rfl) rfl rfl (ZG rfl rfl) ZC ?_)
               obtain rfl:=Option.some.inj hx
               exact ⟨rfl,rfl,trivial⟩
              ·
               have hxo_174:=hx; clear hx; have hx:=ht_175; clear ht_175
               refine JC.block (JC.forget 1 (Zc 1 rfl (Zc 2 rfl (Zf (fun n l o g => ∃ s_176 : Nat,∃ D_179 : Own,l = [(4,.pointer (some ⟨b_12,0,none⟩)),(9,.pointer (some ⟨b_30,0,none⟩)),(10,.slice az_49 nz_49 cz_49),(22,.int .i64 ((s_176 : Nat) : Int))] ∧ o = [[(b_12,.cells #[.slice aa_2 na_2 ca_2,.slice aa_3 na_3 ca_3,.slice aa_4 na_4 ca_4,.int .u32 (p_1.Epoch.toNat : Int),.int .u32 (p_1.Count.toNat : Int)] 29 (0,0))],[(b_30,.cells #[.slice ar_27 nr_27 cr_27,.slice ar_28 nr_28 cr_28,.slice ar_29 nr_29 cr_29,.int .u32 (x_24.Epoch.toNat : Int),.int .u32 (x_24.Count.toNat : Int)] 29 (0,0))],D_179] ∧ H_33 = g ∧ run (law13_StoreReads_l1 x_46) n s_176 = some t_173 ∧ TH N_158 D_179) FUEL ?_ ⟨0,D_172,rfl,rfl,rfl,hx,hTD_172⟩ ⟨rfl,rfl,rfl,rfl,trivial⟩ ?_))))
               ·
                rintro _ _ _ ⟨s_176,D_179,rfl,rfl,rfl,hn_177,hT_180⟩
                exact Ze hn_177
               ·
                rintro n_178 _ _ _ ⟨s_176,D_179,rfl,rfl,rfl,hn_177,hT_180⟩
                clear hx; obtain ⟨oo_182,hx,hd_181⟩:=Zd hn_177
                unfold law13_StoreReads_l1 at hx
                refine Run.cl [] 5 ZF rfl (ZA rfl rfl (ZV U26 rfl (IsSlice.long hth_162)) (Run.lcz_s [] 3 ZF rfl (ZM rfl (fun c_181 => ?_) (fun c_181 => ?_))))
                ·
                 replace hx:=ZK c_181 hx
                 refine Run.cl_s [] 9 ZF rfl ?_
                 obtain ⟨y_182,hN_183,hx⟩:=ZY hx
                 obtain ⟨b_184,o_185,cs_186,hE_187,hR_188,hl_189,hc_190⟩:=IsSlice.elem hth_162 hN_183
                 obtain rfl:=hR_188
                 refine ZA rfl rfl (Zu U26 S5 rfl rfl hE_187) ?_
                 obtain ⟨ua_195,cur_191,tt_192,hm_193,hcc_194⟩:=TH.u8 (y:=y_182) hT_180 (hc_190 0 _ rfl)
                 refine ZA rfl rfl (R.ldM 2 S5 rfl rfl hm_193 hcc_194) (ZA rfl rfl (R.add8 (a:=ua_195) (b:=(1 : UInt8)) rfl rfl) ?_)
                 obtain ⟨y_196,hN_197,hx⟩:=ZY hx
                 obtain ⟨b_198,o_199,cs_200,hE_201,hR_202,hl_203,hc_204⟩:=IsSlice.elem hth_162 hN_197
                 obtain rfl:=hR_202
                 refine ZA rfl rfl (Zu U26 S5 rfl rfl hE_201) (JL.stT 2 S5 rfl hT_180 (hc_204 0 _ rfl) rfl rfl ⟨_,_,rfl⟩ (Kin.u8 (y:=y_196) (a:=ua_195 + (1 : UInt8))) (fun D_205 hTD_205 => Run.llz_bs [] 5 ZF rfl (ZA rfl rfl (Zt rfl rfl (of_decide_eq_true c_181) (IsSlice.lenI hth_162)) (Run.lnz [] 2 ZF rfl ?_))))
                 replace hx:=ZX hd_181 hx
                 refine ZH 2 rfl (ZH 2 rfl (ZH 2 rfl ?_))
                 exact JN.cut ⟨s_176 + 1,D_205,rfl,rfl,rfl,hx,hTD_205⟩ ⟨rfl,rfl,rfl,rfl,trivial⟩ rfl rfl
                ·
                 replace hx:=ZL c_181 hx
                 refine Run.cnz_k [] 2 ZF rfl ?_
                 obtain rfl:=Za hd_181 hx
                 refine Run.nnz_kb [] 2 ZF rfl (ZH 2 rfl (ZH 2 rfl (ZH 2 rfl ?_)))
                 exact JN.cut ⟨D_179,rfl,rfl,rfl,hT_180⟩ ⟨rfl,rfl,trivial⟩ rfl rfl
end Go.Proofs.YtebhagohhbmgoaaGreat
