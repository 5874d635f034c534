import Derived.Test.YtdoebbgjjlicjaaT2
import Derived.Test.YtdoebbgjjlicjaaOwMd
import Derived.Test.YtdoebbgjjlicjaaOwSo
import Derived.Test.YtdoebbgjjlicjaaS4
/- walks: what the code computes, function by function. -/
namespace Go.Proofs.Ytdoebbgjjlicjaa
open Go.Ow Go.RowKit Go.Proofs
set_option linter.unusedVariables false
set_option linter.unusedSimpArgs false
set_option maxHeartbeats 8000000 in
theorem law16_at_ok (p_1 : Int) (p_2 : UInt32) (H : Heaplet) (r : Ptr) (hx : law16_at p_1 p_2 = some r) :
  Does Try.prog 30 #[.int .i64 p_1, .int .u32 (p_2.toNat : Int)] [] H (fun u K' H' => u = .agg #[.int .i64 r.At, .int .u32 (r.Birth.toNat : Int), .int .u32 (r.Iv.toNat : Int), .int .u32 (r.Tag.toNat : Int), .int .u32 (r.Sum.toNat : Int)] ∧ K' = [] ∧ H = H' ∧ True) := by
 refine Does.enterL (vs := [.int .i64 p_1, .int .u32 (p_2.toNat : Int)]) (l := [(0, .int .i64 p_1), (1, .int .u32 (p_2.toNat : Int))]) Try.func30 rfl rfl ⟨rfl, rfl, trivial⟩ (fun w hlt => ?_)
 unfold law16_at at hx
 refine ZG (ZB (JL.alloc Z28 rfl (fun b_3 hb_3 => ZD (ZC (ZG (ZB (ZA rfl rfl (ZF rfl) (ZA rfl rfl (ZF rfl) (ZA rfl rfl (R.bldP (vs := [(0, .int .i64 p_1), (1, .int .u32 (p_2.toNat : Int))]) (cs := [.int .i64 p_1, .int .u32 (p_2.toNat : Int), .int .u32 ((0 : UInt32).toNat : Int), .int .u32 ((0 : UInt32).toNat : Int), .int .u32 ((0 : UInt32).toNat : Int)]) Z28 B28 rfl rfl rfl) (ZN 0 S28 rfl rfl rfl rfl rfl (Nat.le_of_ble_eq_true rfl) (ZD ?_)))))))))))
 refine ZC (ZV (ZT (vs := [.agg #[.int .i64 p_1, .int .u32 (p_2.toNat : Int), .int .u32 ((0 : UInt32).toNat : Int), .int .u32 ((0 : UInt32).toNat : Int), .int .u32 ((0 : UInt32).toNat : Int)]]) (K := []) (rst := [_]) (.inl rfl) rfl rfl (Zf 0 rfl rfl S28 rfl) ZK ?_))
 obtain rfl := Option.some.inj hx
 exact ⟨rfl, rfl, rfl, trivial⟩

set_option maxHeartbeats 8000000 in
theorem ptr_Check_ok (p_1 : Ptr) (H : Heaplet) (r : Int) (hx : ptr_Check p_1 = some r) :
  Does Try.prog 49 #[.agg #[.int .i64 p_1.At, .int .u32 (p_1.Birth.toNat : Int), .int .u32 (p_1.Iv.toNat : Int), .int .u32 (p_1.Tag.toNat : Int), .int .u32 (p_1.Sum.toNat : Int)]] [] H (fun u K' H' => u = .int .i64 r ∧ K' = [] ∧ H = H' ∧ True) := by
 refine Does.enterL (vs := [.agg #[.int .i64 p_1.At, .int .u32 (p_1.Birth.toNat : Int), .int .u32 (p_1.Iv.toNat : Int), .int .u32 (p_1.Tag.toNat : Int), .int .u32 (p_1.Sum.toNat : Int)]]) (l := [(0, .agg #[.int .i64 p_1.At, .int .u32 (p_1.Birth.toNat : Int), .int .u32 (p_1.Iv.toNat : Int), .int .u32 (p_1.Tag.toNat : Int), .int .u32 (p_1.Sum.toNat : Int)])]) Try.func49 rfl rfl ⟨rfl, trivial⟩ (fun w hlt => ?_)
 unfold ptr_Check at hx
 refine ZG (ZB (JL.box rfl rfl (fun b_2 hb_2 => ZA rfl rfl (ZH rfl) (ZD (ZC (ZG (ZG (ZB (ZA rfl rfl (Z1 0 (vs := [.int .i64 p_1.At, .int .u32 (p_1.Birth.toNat : Int), .int .u32 (p_1.Iv.toNat : Int), .int .u32 (p_1.Tag.toNat : Int), .int .u32 (p_1.Sum.toNat : Int)]) S28 rfl rfl rfl rfl) (ZA rfl rfl (R.bldP (vs := []) (cs := [.int .i64 0, .int .u32 ((0 : UInt32).toNat : Int), .int .u32 ((0 : UInt32).toNat : Int), .int .u32 ((0 : UInt32).toNat : Int), .int .u32 ((0 : UInt32).toNat : Int)]) Z28 B28 rfl rfl rfl) (ZA rfl rfl (R.eqlAgg QU28 QP28 QG28 QF28 rfl rfl (EqF.i (by decide) S3 U3 rfl rfl (EqF.u32 (a := p_1.Birth) (b := (0 : UInt32)) (by decide) S26 U26 rfl rfl (EqF.u32 (a := p_1.Iv) (b := (0 : UInt32)) (by decide) S26 U26 rfl rfl (EqF.u32 (a := p_1.Tag) (b := (0 : UInt32)) (by decide) S26 U26 rfl rfl (EqF.u32 (a := p_1.Sum) (b := (0 : UInt32)) (by decide) S26 U26 rfl rfl EqF.nil)))))) ?_)))))))))))
 refine ZD (ZC (ZU rfl (fun c_3 => ?_) (fun c_3 => ?_)))
 ·
  replace hx := ZW c_3 hx
  refine ZG (ZB (ZA rfl rfl (ZH rfl) (ZD (ZC (ZV (ZR (ZT (vs := [.int .i64 0]) (K := []) (rst := [_]) (.inl rfl) rfl rfl (ZQ rfl rfl) ZK ?_)))))))
  obtain rfl := Option.some.inj hx
  exact ⟨rfl, rfl, rfl, trivial⟩
 ·
  replace hx := ZX c_3 hx
  refine JC.skip (ZC (ZG (ZG (ZB (ZA rfl rfl (R.fa F28_0 rfl) (ZA rfl rfl (Zi 0 S3 rfl rfl rfl) (ZA rfl rfl (Zr rfl rfl) (ZA rfl rfl (ZF rfl) (Zh (t := 9) rfl (fun c_4 => ?_) (fun c_4 => ?_))))))))))
  ·
   replace hx := ZW c_4 hx
   refine ZE rfl rfl rfl rfl rfl (ZE rfl rfl rfl rfl rfl (ZE rfl rfl rfl rfl rfl (ZA rfl rfl (Zj rfl rfl) (ZA rfl rfl (ZF rfl) (ZE rfl rfl rfl rfl rfl (ZE rfl rfl rfl rfl rfl (ZE rfl rfl rfl rfl rfl (ZA rfl rfl (Zj rfl rfl) (ZA rfl rfl (ZF rfl) (ZE rfl rfl rfl rfl rfl (ZE rfl rfl rfl rfl rfl ?_)))))))))))
   refine ZE rfl rfl rfl rfl rfl (ZA rfl rfl (Zj rfl rfl) (ZD (ZC (Z2 rfl (ZG (ZB (ZA rfl rfl (ZH rfl) (ZD (ZC (ZV (ZR ?_)))))))))))
   refine ZT (vs := [.int .i64 8]) (K := []) (rst := [_]) (.inl rfl) rfl rfl (ZQ rfl rfl) ZK ?_
   obtain rfl := Option.some.inj hx
   exact ⟨rfl, rfl, rfl, trivial⟩
  ·
   replace hx := ZX c_4 hx
   refine ZP rfl rfl rfl (ZA rfl rfl (R.fa F28_0 rfl) (ZP rfl rfl rfl (ZA rfl rfl (Zi 0 S3 rfl rfl rfl) (ZP rfl rfl rfl (ZA rfl rfl (R.geq_i rfl rfl) (ZA rfl rfl (ZL rfl rfl) (ZA rfl rfl (ZF rfl) (Zh (t := 14) rfl (fun c_5 => ?_) (fun c_5 => ?_)))))))))
   ·
    replace hx := ZW c_5 hx
    refine ZE rfl rfl rfl rfl rfl (ZE rfl rfl rfl rfl rfl (ZE rfl rfl rfl rfl rfl (ZA rfl rfl (Zj rfl rfl) (ZA rfl rfl (ZF rfl) (ZE rfl rfl rfl rfl rfl (ZE rfl rfl rfl rfl rfl (ZE rfl rfl rfl rfl rfl (ZA rfl rfl (Zj rfl rfl) (ZD (ZC (Z2 rfl ?_)))))))))))
    refine ZG (ZB (ZA rfl rfl (ZH rfl) (ZD (ZC (ZV (ZR (ZT (vs := [.int .i64 8]) (K := []) (rst := [_]) (.inl rfl) rfl rfl (ZQ rfl rfl) ZK ?_)))))))
    obtain rfl := Option.some.inj hx
    exact ⟨rfl, rfl, rfl, trivial⟩
   ·
    replace hx := ZX c_5 hx
    refine ZP rfl rfl rfl (ZA rfl rfl (R.fa F28_1 rfl) (ZP rfl rfl rfl (ZA rfl rfl (Zi 0 S26 rfl rfl rfl) (ZP rfl rfl rfl (ZA rfl rfl (R.lss32 (a := p_1.Birth) (b := (1 : UInt32)) rfl rfl) (ZA rfl rfl (ZL rfl rfl) (ZA rfl rfl (ZF rfl) (Zh (t := 19) rfl (fun c_6 => ?_) (fun c_6 => ?_)))))))))
    ·
     replace hx := ZW c_6 hx
     refine ZE rfl rfl rfl rfl rfl (ZE rfl rfl rfl rfl rfl (ZE rfl rfl rfl rfl rfl (ZA rfl rfl (Zj rfl rfl) (ZD (ZC (Z2 rfl (ZG (ZB (ZA rfl rfl (ZH rfl) (ZD (ZC ?_)))))))))))
     refine ZV (ZR (ZT (vs := [.int .i64 8]) (K := []) (rst := [_]) (.inl rfl) rfl rfl (ZQ rfl rfl) ZK ?_))
     obtain rfl := Option.some.inj hx
     exact ⟨rfl, rfl, rfl, trivial⟩
    ·
     replace hx := ZX c_6 hx
     refine ZP rfl rfl rfl (ZA rfl rfl (R.fa F28_1 rfl) (ZP rfl rfl rfl (ZA rfl rfl (Zi 0 S26 rfl rfl rfl) (ZP rfl rfl rfl (ZA rfl rfl (R.gtr32 (a := p_1.Birth) (b := (16777215 : UInt32)) rfl rfl) (ZA rfl rfl (ZL rfl rfl) (ZD (ZC (ZU rfl (fun c_7 => ?_) (fun c_7 => ?_))))))))))
     ·
      replace hx := ZW c_7 hx
      refine ZG (ZB (ZA rfl rfl (ZH rfl) (ZD (ZC (ZV (ZR (ZT (vs := [.int .i64 8]) (K := []) (rst := [_]) (.inl rfl) rfl rfl (ZQ rfl rfl) ZK ?_)))))))
      obtain rfl := Option.some.inj hx
      exact ⟨rfl, rfl, rfl, trivial⟩
     ·
      replace hx := ZX c_7 hx
      refine JC.skip (ZC (ZG (ZB (ZA rfl rfl (ZH rfl) (ZD (ZC (ZV (ZT (vs := [.int .i64 0]) (K := []) (rst := [_]) (.inl rfl) rfl rfl (ZQ rfl rfl) ZK ?_))))))))
      obtain rfl := Option.some.inj hx
      exact ⟨rfl, rfl, rfl, trivial⟩

set_option maxHeartbeats 8000000 in
theorem cmp_isNaN_int_ok (p_1 : Int) (H : Heaplet) (r : Bool) (hx : cmp_isNaN_int p_1 = some r) :
  Does Try.prog 145 #[.int .i64 p_1] [] H (fun u K' H' => u = .bool r ∧ K' = [] ∧ H = H' ∧ True) := by
 refine Does.enterL (vs := [.int .i64 p_1]) (l := [(0, .int .i64 p_1)]) Try.func145 rfl rfl ⟨rfl, trivial⟩ (fun w hlt => ?_)
 unfold cmp_isNaN_int at hx
 refine ZG (ZB (ZA rfl rfl (ZH rfl) (ZD (ZC (ZG (ZB (ZA rfl rfl (ZF rfl) (ZA rfl rfl (ZF rfl) (ZA rfl rfl (R.neq_i rfl rfl) (ZA rfl rfl (ZH rfl) (ZD ?_)))))))))))
 refine ZC (ZV (ZT (vs := [.bool (!decide (p_1 = p_1))]) (K := []) (rst := []) (.inl rfl) rfl rfl (ZQ rfl rfl) ZK ?_))
 obtain rfl := Option.some.inj hx
 exact ⟨rfl, rfl, rfl, trivial⟩

set_option maxHeartbeats 8000000 in
theorem cmp_Compare_int_ok (p_1 : Int) (p_2 : Int) (H : Heaplet) (r : Int) (hx : cmp_Compare_int p_1 p_2 = some r) :
  Does Try.prog 110 #[.int .i64 p_1, .int .i64 p_2] [] H (fun u K' H' => u = .int .i64 r ∧ K' = [] ∧ H = H' ∧ True) := by
 refine Does.enterL (vs := [.int .i64 p_1, .int .i64 p_2]) (l := [(0, .int .i64 p_1), (1, .int .i64 p_2)]) Try.func110 rfl rfl ⟨rfl, rfl, trivial⟩ (fun w hlt => ?_)
 unfold cmp_Compare_int at hx
 refine ZG (ZB (ZA rfl rfl (ZH rfl) (ZD (ZC (ZG (ZB (ZA rfl rfl (ZF rfl) ?_)))))))
 obtain ⟨x_3, hr_4, hx⟩ := ZM hx
 refine ZS (vs := [_]) (args := [_]) (K := []) (rst := []) E145 rfl rfl rfl ZK (cmp_isNaN_int_ok p_1 _ _ hr_4) rfl (fun u_5 Ku_5 Hu_5 hRu_5 hleu_5 hfu_5 => ?_)
 obtain ⟨rfl, rfl, rfl, -⟩ := hRu_5
 refine ZA rfl rfl (ZH rfl) (ZD (ZC (ZG (ZB (ZA rfl rfl (ZF rfl) ?_)))))
 obtain ⟨x_6, hr_7, hx⟩ := ZM hx
 refine ZS (vs := [_]) (args := [_]) (K := []) (rst := []) E145 rfl rfl rfl ZK (cmp_isNaN_int_ok p_2 _ _ hr_7) rfl (fun u_8 Ku_8 Hu_8 hRu_8 hleu_8 hfu_8 => ?_)
 obtain ⟨rfl, rfl, rfl, -⟩ := hRu_8
 refine ZA rfl rfl (ZH rfl) (ZD (ZC (ZG (ZG (ZB (ZA rfl rfl (ZF rfl) (ZD (ZC (ZU rfl (fun c_9 => ?_) (fun c_9 => ?_))))))))))
 ·
  replace hx := ZW c_9 hx
  refine ZG (ZG (ZB (ZA rfl rfl (ZF rfl) (ZD (ZC (ZU rfl (fun c_10 => ?_) (fun c_10 => ?_)))))))
  ·
   replace hx := ZW c_10 hx
   refine ZG (ZB (ZA rfl rfl (ZH rfl) (ZD (ZC (ZV (ZR (ZR (ZT (vs := [.int .i64 0]) (K := []) (rst := []) (.inl rfl) rfl rfl (ZQ rfl rfl) ZK ?_))))))))
   obtain rfl := Option.some.inj hx
   exact ⟨rfl, rfl, rfl, trivial⟩
  ·
   replace hx := ZX c_10 hx
   refine JC.skip (ZC (ZG (ZB (ZA rfl rfl (ZH rfl) (ZD (ZC (ZV (ZR (ZT (vs := [.int .i64 (-1)]) (K := []) (rst := []) (.inl rfl) rfl rfl (ZQ rfl rfl) ZK ?_)))))))))
   obtain rfl := Option.some.inj hx
   exact ⟨rfl, rfl, rfl, trivial⟩
 ·
  replace hx := ZX c_9 hx
  refine JC.skip (ZC (ZG (ZG (ZB (ZA rfl rfl (ZF rfl) (ZD (ZC (ZU rfl (fun c_11 => ?_) (fun c_11 => ?_)))))))))
  ·
   replace hx := ZW c_11 hx
   refine ZG (ZB (ZA rfl rfl (ZH rfl) (ZD (ZC (ZV (ZR (ZT (vs := [.int .i64 1]) (K := []) (rst := []) (.inl rfl) rfl rfl (ZQ rfl rfl) ZK ?_)))))))
   obtain rfl := Option.some.inj hx
   exact ⟨rfl, rfl, rfl, trivial⟩
  ·
   replace hx := ZX c_11 hx
   refine JC.skip (ZC (ZG (ZG (ZB (ZA rfl rfl (ZF rfl) (ZA rfl rfl (ZF rfl) (ZA rfl rfl (Zr rfl rfl) (ZD (ZC (ZU rfl (fun c_12 => ?_) (fun c_12 => ?_)))))))))))
   ·
    replace hx := ZW c_12 hx
    refine ZG (ZB (ZA rfl rfl (ZH rfl) (ZD (ZC (ZV (ZR (ZT (vs := [.int .i64 (-1)]) (K := []) (rst := []) (.inl rfl) rfl rfl (ZQ rfl rfl) ZK ?_)))))))
    obtain rfl := Option.some.inj hx
    exact ⟨rfl, rfl, rfl, trivial⟩
   ·
    replace hx := ZX c_12 hx
    refine JC.skip (ZC (ZG (ZG (ZB (ZA rfl rfl (ZF rfl) (ZA rfl rfl (ZF rfl) (ZA rfl rfl (R.gtr_i rfl rfl) (ZD (ZC (ZU rfl (fun c_13 => ?_) (fun c_13 => ?_)))))))))))
    ·
     replace hx := ZW c_13 hx
     refine ZG (ZB (ZA rfl rfl (ZH rfl) (ZD (ZC (ZV (ZR (ZT (vs := [.int .i64 1]) (K := []) (rst := []) (.inl rfl) rfl rfl (ZQ rfl rfl) ZK ?_)))))))
     obtain rfl := Option.some.inj hx
     exact ⟨rfl, rfl, rfl, trivial⟩
    ·
     replace hx := ZX c_13 hx
     refine JC.skip (ZC (ZG (ZB (ZA rfl rfl (ZH rfl) (ZD (ZC (ZV (ZT (vs := [.int .i64 0]) (K := []) (rst := []) (.inl rfl) rfl rfl (ZQ rfl rfl) ZK ?_))))))))
     obtain rfl := Option.some.inj hx
     exact ⟨rfl, rfl, rfl, trivial⟩

set_option maxHeartbeats 8000000 in
theorem dead_order_ok (p_1 : Ptr) (p_2 : Ptr) (H : Heaplet) (r : Int) (hx : dead_order p_1 p_2 = some r) :
  Does Try.prog 66 #[.agg #[.int .i64 p_1.At, .int .u32 (p_1.Birth.toNat : Int), .int .u32 (p_1.Iv.toNat : Int), .int .u32 (p_1.Tag.toNat : Int), .int .u32 (p_1.Sum.toNat : Int)], .agg #[.int .i64 p_2.At, .int .u32 (p_2.Birth.toNat : Int), .int .u32 (p_2.Iv.toNat : Int), .int .u32 (p_2.Tag.toNat : Int), .int .u32 (p_2.Sum.toNat : Int)]] [] H (fun u K' H' => u = .int .i64 r ∧ K' = [] ∧ H = H' ∧ True) := by
 refine Does.enterL (vs := [.agg #[.int .i64 p_1.At, .int .u32 (p_1.Birth.toNat : Int), .int .u32 (p_1.Iv.toNat : Int), .int .u32 (p_1.Tag.toNat : Int), .int .u32 (p_1.Sum.toNat : Int)], .agg #[.int .i64 p_2.At, .int .u32 (p_2.Birth.toNat : Int), .int .u32 (p_2.Iv.toNat : Int), .int .u32 (p_2.Tag.toNat : Int), .int .u32 (p_2.Sum.toNat : Int)]]) (l := [(0, .agg #[.int .i64 p_1.At, .int .u32 (p_1.Birth.toNat : Int), .int .u32 (p_1.Iv.toNat : Int), .int .u32 (p_1.Tag.toNat : Int), .int .u32 (p_1.Sum.toNat : Int)]), (1, .agg #[.int .i64 p_2.At, .int .u32 (p_2.Birth.toNat : Int), .int .u32 (p_2.Iv.toNat : Int), .int .u32 (p_2.Tag.toNat : Int), .int .u32 (p_2.Sum.toNat : Int)])]) Try.func66 rfl rfl ⟨rfl, rfl, trivial⟩ (fun w hlt => ?_)
 unfold dead_order at hx
 refine ZG (ZB (JL.box rfl rfl (fun b_3 hb_3 => JL.box rfl rfl (fun b_4 hb_4 => ZA rfl rfl (ZH rfl) (ZD (ZC (ZG (ZB (ZA rfl rfl (R.fa F28_0 rfl) (ZA rfl rfl (Zi 1 S3 rfl rfl rfl) (ZA rfl rfl (R.fa F28_0 rfl) ?_)))))))))))
 refine ZA rfl rfl (Zi 0 S3 rfl rfl rfl) ?_
 obtain ⟨x_5, hr_6, hx⟩ := ZM hx
 refine ZS (vs := [_, _]) (args := [_, _]) (K := []) (rst := [_, _]) E110 rfl rfl rfl ZK (cmp_Compare_int_ok p_1.At p_2.At _ _ hr_6) rfl (fun u_7 Ku_7 Hu_7 hRu_7 hleu_7 hfu_7 => ?_)
 obtain ⟨rfl, rfl, rfl, -⟩ := hRu_7
 refine ZA rfl rfl (ZH rfl) (ZD (ZC (ZV (ZT (vs := [.int .i64 x_5]) (K := []) (rst := [_, _]) (.inl rfl) rfl rfl (ZQ rfl rfl) ZK ?_))))
 obtain rfl := Option.some.inj hx
 exact ⟨rfl, rfl, rfl, trivial⟩

set_option maxHeartbeats 8000000 in
theorem dead_Check_ok (p_1 : List Ptr) (H : Heaplet) {aa_2 : Option Addr} {na_2 : Nat} {ca_2 : Nat} (ha_2 : IsSlice H R_Ptr 5 (.slice aa_2 na_2 ca_2) p_1) (r : Int) (hx : dead_Check p_1 = some r) :
  Does Try.prog 35 #[.slice aa_2 na_2 ca_2] [] H (fun u K' H' => u = .int .i64 r ∧ K' = [] ∧ H = H' ∧ True) := by
 refine Does.enterL (vs := [.slice aa_2 na_2 ca_2]) (l := [(0, .slice aa_2 na_2 ca_2)]) Try.func35 rfl rfl ⟨rfl, trivial⟩ (fun w hlt => ?_)
 unfold dead_Check at hx
 refine ZG (ZB (ZA rfl rfl (ZH rfl) (ZD (ZC (ZG (ZG (ZB (ZA rfl rfl (ZF rfl) (ZA rfl rfl (Zm U53 rfl (IsSlice.long ha_2)) (ZA rfl rfl (R.gtr_i rfl rfl) (ZD ?_)))))))))))
 refine ZC (ZU rfl (fun c_3 => ?_) (fun c_3 => ?_))
 ·
  replace hx := ZW c_3 hx
  refine ZG (ZB (ZA rfl rfl (ZH rfl) (ZD (ZC (ZV (ZR (ZT (vs := [.int .i64 8]) (K := []) (rst := []) (.inl rfl) rfl rfl (ZQ rfl rfl) ZK ?_)))))))
  obtain rfl := Option.some.inj hx
  exact ⟨rfl, rfl, rfl, trivial⟩
 ·
  replace hx := ZX c_3 hx
  refine JC.skip (ZC (ZG (ZG (ZB (ZA rfl rfl (ZF rfl) (ZA rfl rfl (Zm U53 rfl (IsSlice.long ha_2)) (ZA rfl rfl (ZF rfl) (ZD (ZC ?_)))))))))
  obtain ⟨t_4, ht_6, hx⟩ := ZM hx
  refine JC.cut (fun l o g => ∃ t_4a : Unit, l = [] ∧ o = [] ∧ H = g ∧ t_4 = .inl t_4a) ?_ ?_
  ·
   rintro _ _ _ ⟨t_4a, rfl, rfl, rfl, rfl⟩
   simp only [Sum.elim_inl] at hx
   refine ZC (ZG (ZB (ZA rfl rfl (ZH rfl) (ZD (ZC (ZV (ZT (vs := [.int .i64 0]) (K := []) (rst := []) (.inl rfl) rfl rfl (ZQ rfl rfl) ZK ?_)))))))
   obtain rfl := Option.some.inj hx
   exact ⟨rfl, rfl, rfl, trivial⟩
  ·
   have hxo_5 := hx; clear hx; have hx := ht_6; clear ht_6
   refine JC.block (JC.loopI (fun n l o g => ∃ s_7 : Nat, l = [(0, .slice aa_2 na_2 ca_2), (8, .slice aa_2 na_2 ca_2), (9, .int .i64 (p_1.length : Int)), (10, .int .i64 ((s_7 : Nat) : Int))] ∧ o = [] ∧ H = g ∧ run (dead_Check_l1 p_1) n s_7 = some t_4) FUEL ?_ ⟨0, rfl, rfl, rfl, hx⟩ ⟨rfl, rfl, rfl, rfl, trivial⟩ ?_)
   ·
    rintro _ _ _ ⟨s_7, rfl, rfl, rfl, hn_8⟩
    exact run_zero hn_8
   ·
    rintro n_9 _ _ _ ⟨s_7, rfl, rfl, rfl, hn_8⟩
    clear hx; obtain ⟨oo_11, hx, hd_10⟩ := Z0 hn_8
    unfold dead_Check_l1 at hx
    refine ZG (ZB (ZA rfl rfl (Zr rfl rfl) (ZD (ZC (ZG (ZU rfl (fun c_10 => ?_) (fun c_10 => ?_)))))))
    ·
     replace hx := ZW c_10 hx
     refine JC.skip (ZC (ZG (JC.block (ZG (ZB (ZA rfl rfl (ZF rfl) ?_))))))
     obtain ⟨y_11, hN_12, hx⟩ := Zs hx
     obtain ⟨b_13, o_14, cs_15, hE_16, hR_17, hl_18, hc_19⟩ := IsSlice.elem ha_2 hN_12
     obtain rfl := hR_17
     refine ZA rfl rfl (R.ix U53 S28 rfl rfl hE_16) (ZA rfl rfl (R.ldHE (cs := [.int .i64 y_11.At, .int .u32 (y_11.Birth.toNat : Int), .int .u32 (y_11.Iv.toNat : Int), .int .u32 (y_11.Tag.toNat : Int), .int .u32 (y_11.Sum.toNat : Int)]) (k := 0) (vs := [.int .i64 y_11.At, .int .u32 (y_11.Birth.toNat : Int), .int .u32 (y_11.Iv.toNat : Int), .int .u32 (y_11.Tag.toNat : Int), .int .u32 (y_11.Sum.toNat : Int)]) S28 rfl hc_19 rfl rfl) (JL.alloc Z28 rfl (fun b_20 hb_20 => ZA rfl rfl (ZH rfl) (ZN 0 S28 rfl rfl rfl rfl rfl (Nat.le_of_ble_eq_true rfl) (ZD (ZC (ZG (JC.draw (so := [_]) 22 rfl Mixed ⟨⟨0, rfl⟩, trivial⟩ (JA.val ⟨by kernel_rfl, by kernel_rfl⟩ (ZJ _) (i := 0) rfl ⟨by kernel_rfl, by kernel_rfl, rfl⟩ trivial (ZI (Hle.refl _) ⟨⟨0, rfl⟩, trivial⟩) (Z1 0 (vs := [.int .i64 y_11.At, .int .u32 (y_11.Birth.toNat : Int), .int .u32 (y_11.Iv.toNat : Int), .int .u32 (y_11.Tag.toNat : Int), .int .u32 (y_11.Sum.toNat : Int)]) S28 rfl rfl rfl rfl) rfl (JA.val ⟨by kernel_rfl, by kernel_rfl⟩ (ZJ _) (i := 1) rfl ⟨by kernel_rfl, by kernel_rfl, rfl⟩ trivial (ZI (Hle.refl _) ⟨⟨0, rfl⟩, trivial⟩) (R.bldP (vs := []) (cs := [.int .i64 0, .int .u32 ((0 : UInt32).toNat : Int), .int .u32 ((0 : UInt32).toNat : Int), .int .u32 ((0 : UInt32).toNat : Int), .int .u32 ((0 : UInt32).toNat : Int)]) Z28 B28 rfl rfl rfl) rfl (JA.val ⟨by kernel_rfl, by kernel_rfl⟩ (ZJ _) (i := 2) rfl ⟨by kernel_rfl, by kernel_rfl, rfl⟩ trivial (ZI (Hle.refl _) ⟨⟨0, rfl⟩, trivial⟩) (R.eqlAgg QU28 QP28 QG28 QF28 rfl rfl (EqF.i (by decide) S3 U3 rfl rfl (EqF.u32 (a := y_11.Birth) (b := (0 : UInt32)) (by decide) S26 U26 rfl rfl (EqF.u32 (a := y_11.Iv) (b := (0 : UInt32)) (by decide) S26 U26 rfl rfl (EqF.u32 (a := y_11.Tag) (b := (0 : UInt32)) (by decide) S26 U26 rfl rfl (EqF.u32 (a := y_11.Sum) (b := (0 : UInt32)) (by decide) S26 U26 rfl rfl EqF.nil)))))) rfl ?_)))))))))))
     refine JA.val ⟨by kernel_rfl, by kernel_rfl⟩ (ZJ _) (i := 3) rfl ⟨by kernel_rfl, by kernel_rfl, rfl⟩ trivial (ZI (Hle.refl _) ⟨⟨0, rfl⟩, trivial⟩) (ZF rfl) rfl (JA.gSplit (t := 18) rfl (fun c_21 => ?_) (fun c_21 => ?_))
     ·
      replace hx := ZW c_21 hx
      refine JA.no ⟨by kernel_rfl, by kernel_rfl⟩ (ZJ _) (i := 4) rfl ⟨by kernel_rfl, by kernel_rfl, rfl⟩ rfl rfl rfl rfl (ZI (Hle.refl _) ⟨⟨0, rfl⟩, trivial⟩) rfl (JA.no ⟨by kernel_rfl, by kernel_rfl⟩ (ZJ _) (i := 5) rfl ⟨by kernel_rfl, by kernel_rfl, rfl⟩ rfl rfl rfl rfl (ZI (Hle.refl _) ⟨⟨0, rfl⟩, trivial⟩) rfl (JA.no ⟨by kernel_rfl, by kernel_rfl⟩ (ZJ _) (i := 6) rfl ⟨by kernel_rfl, by kernel_rfl, rfl⟩ rfl rfl rfl rfl (ZI (Hle.refl _) ⟨⟨0, rfl⟩, trivial⟩) rfl (JA.val ⟨by kernel_rfl, by kernel_rfl⟩ (ZJ _) (i := 7) rfl ⟨by kernel_rfl, by kernel_rfl, rfl⟩ trivial (ZI (Hle.refl _) ⟨⟨0, rfl⟩, trivial⟩) (Zj rfl rfl) rfl (JA.val ⟨by kernel_rfl, by kernel_rfl⟩ (ZJ _) (i := 8) rfl ⟨by kernel_rfl, by kernel_rfl, rfl⟩ trivial (ZI (Hle.refl _) ⟨⟨0, rfl⟩, trivial⟩) (ZF rfl) rfl (JA.no ⟨by kernel_rfl, by kernel_rfl⟩ (ZJ _) (i := 9) rfl ⟨by kernel_rfl, by kernel_rfl, rfl⟩ rfl rfl rfl rfl (ZI (Hle.refl _) ⟨⟨0, rfl⟩, trivial⟩) rfl (JA.no ⟨by kernel_rfl, by kernel_rfl⟩ (ZJ _) (i := 10) rfl ⟨by kernel_rfl, by kernel_rfl, rfl⟩ rfl rfl rfl rfl (ZI (Hle.refl _) ⟨⟨0, rfl⟩, trivial⟩) rfl (JA.no ⟨by kernel_rfl, by kernel_rfl⟩ (ZJ _) (i := 11) rfl ⟨by kernel_rfl, by kernel_rfl, rfl⟩ rfl rfl rfl rfl (ZI (Hle.refl _) ⟨⟨0, rfl⟩, trivial⟩) rfl (JA.noU ⟨by kernel_rfl, by kernel_rfl⟩ (ZJ _) (i := 12) rfl ⟨by kernel_rfl, by kernel_rfl, rfl⟩ rfl rfl rfl (ZI (Hle.refl _) ⟨⟨0, rfl⟩, trivial⟩) rfl (JA.noU ⟨by kernel_rfl, by kernel_rfl⟩ (ZJ _) (i := 13) rfl ⟨by kernel_rfl, by kernel_rfl, rfl⟩ rfl rfl rfl (ZI (Hle.refl _) ⟨⟨0, rfl⟩, trivial⟩) rfl (JA.noU ⟨by kernel_rfl, by kernel_rfl⟩ (ZJ _) (i := 14) rfl ⟨by kernel_rfl, by kernel_rfl, rfl⟩ rfl rfl rfl (ZI (Hle.refl _) ⟨⟨0, rfl⟩, trivial⟩) rfl (JA.noU ⟨by kernel_rfl, by kernel_rfl⟩ (ZJ _) (i := 15) rfl ⟨by kernel_rfl, by kernel_rfl, rfl⟩ rfl rfl rfl (ZI (Hle.refl _) ⟨⟨0, rfl⟩, trivial⟩) rfl ?_)))))))))))
      refine JA.noU ⟨by kernel_rfl, by kernel_rfl⟩ (ZJ _) (i := 16) rfl ⟨by kernel_rfl, by kernel_rfl, rfl⟩ rfl rfl rfl (ZI (Hle.refl _) ⟨⟨0, rfl⟩, trivial⟩) rfl (JA.noU ⟨by kernel_rfl, by kernel_rfl⟩ (ZJ _) (i := 17) rfl ⟨by kernel_rfl, by kernel_rfl, rfl⟩ rfl rfl rfl (ZI (Hle.refl _) ⟨⟨0, rfl⟩, trivial⟩) rfl (JA.noU ⟨by kernel_rfl, by kernel_rfl⟩ (ZJ _) (i := 18) rfl ⟨by kernel_rfl, by kernel_rfl, rfl⟩ rfl rfl rfl (ZI (Hle.refl _) ⟨⟨0, rfl⟩, trivial⟩) rfl (JA.noU ⟨by kernel_rfl, by kernel_rfl⟩ (ZJ _) (i := 19) rfl ⟨by kernel_rfl, by kernel_rfl, rfl⟩ rfl rfl rfl (ZI (Hle.refl _) ⟨⟨0, rfl⟩, trivial⟩) rfl (JA.no ⟨by kernel_rfl, by kernel_rfl⟩ (ZJ _) (i := 20) rfl ⟨by kernel_rfl, by kernel_rfl, rfl⟩ rfl rfl rfl rfl (ZI (Hle.refl _) ⟨⟨0, rfl⟩, trivial⟩) rfl (JA.val ⟨by kernel_rfl, by kernel_rfl⟩ (ZJ _) (i := 21) rfl ⟨by kernel_rfl, by kernel_rfl, rfl⟩ trivial (ZI (Hle.refl _) ⟨⟨0, rfl⟩, trivial⟩) (Zj rfl rfl) rfl (Zt (by kernel_rfl) (ZC (Z2 rfl (ZG (ZB (ZA rfl rfl (ZH rfl) ?_)))))))))))
      refine ZD (ZC (ZV (Z4 (ZR ?_))))
      obtain rfl := Zu hd_10 hx
      refine ZR (Z4 ?_)
      clear hx; have hx := hxo_5
      simp only [Sum.elim_inl, Sum.elim_inr] at hx
      refine ZR (ZR (ZT (vs := [.int .i64 8]) (K := []) (rst := [_]) (.inl rfl) rfl rfl (ZQ rfl rfl) ZK ?_))
      obtain rfl := Option.some.inj hx
      exact ⟨rfl, rfl, rfl, trivial⟩
     ·
      replace hx := ZX c_21 hx
      refine JA.val ⟨by kernel_rfl, by kernel_rfl⟩ (ZJ _) (i := 4) rfl ⟨by kernel_rfl, by kernel_rfl, rfl⟩ ⟨_, _, rfl, rfl, rfl⟩ (ZI (Hle.refl _) ⟨⟨0, rfl⟩, trivial⟩) (Z1 0 (vs := [.int .i64 y_11.At, .int .u32 (y_11.Birth.toNat : Int), .int .u32 (y_11.Iv.toNat : Int), .int .u32 (y_11.Tag.toNat : Int), .int .u32 (y_11.Sum.toNat : Int)]) S28 rfl rfl rfl rfl) rfl (JA.one (i := 5) (by kernel_rfl) (ZZ rfl ⟨_, _, rfl, rfl, rfl⟩ rfl (fun K hK => ?_)))
      obtain ⟨x_22, hr_23, hx⟩ := ZM hx
      refine ZS (vs := [_]) (args := [_]) (K := []) (rst := [_]) E49 rfl rfl rfl ZK (ptr_Check_ok y_11 _ _ hr_23) rfl (fun u_24 Ku_24 Hu_24 hRu_24 hleu_24 hfu_24 => ?_)
      obtain ⟨rfl, rfl, rfl, -⟩ := hRu_24
      refine ZD (hK _ _ _ (ZI (Hle.refl _) ⟨⟨0, rfl⟩, trivial⟩) (JA.val ⟨by kernel_rfl, by kernel_rfl⟩ (ZJ _) (i := 6) rfl ⟨by kernel_rfl, by kernel_rfl, rfl⟩ ⟨_, _, rfl, rfl, rfl⟩ (ZI (Hle.refl _) ⟨⟨0, rfl⟩, trivial⟩) (R.neq_i rfl rfl) rfl (JA.val ⟨by kernel_rfl, by kernel_rfl⟩ (ZJ _) (i := 7) rfl ⟨by kernel_rfl, by kernel_rfl, rfl⟩ trivial (ZI (Hle.refl _) ⟨⟨0, rfl⟩, trivial⟩) (ZL rfl rfl) rfl (JA.val ⟨by kernel_rfl, by kernel_rfl⟩ (ZJ _) (i := 8) rfl ⟨by kernel_rfl, by kernel_rfl, rfl⟩ trivial (ZI (Hle.refl _) ⟨⟨0, rfl⟩, trivial⟩) (ZF rfl) rfl (JA.gSplit (t := 23) rfl (fun c_25 => ?_) (fun c_25 => ?_))))))
      ·
       replace hx := ZW c_25 hx
       refine JA.no ⟨by kernel_rfl, by kernel_rfl⟩ (ZJ _) (i := 9) rfl ⟨by kernel_rfl, by kernel_rfl, rfl⟩ rfl rfl rfl rfl (ZI (Hle.refl _) ⟨⟨0, rfl⟩, trivial⟩) rfl (JA.no ⟨by kernel_rfl, by kernel_rfl⟩ (ZJ _) (i := 10) rfl ⟨by kernel_rfl, by kernel_rfl, rfl⟩ rfl rfl rfl rfl (ZI (Hle.refl _) ⟨⟨0, rfl⟩, trivial⟩) rfl (JA.no ⟨by kernel_rfl, by kernel_rfl⟩ (ZJ _) (i := 11) rfl ⟨by kernel_rfl, by kernel_rfl, rfl⟩ rfl rfl rfl rfl (ZI (Hle.refl _) ⟨⟨0, rfl⟩, trivial⟩) rfl (JA.noU ⟨by kernel_rfl, by kernel_rfl⟩ (ZJ _) (i := 12) rfl ⟨by kernel_rfl, by kernel_rfl, rfl⟩ rfl rfl rfl (ZI (Hle.refl _) ⟨⟨0, rfl⟩, trivial⟩) rfl (JA.noU ⟨by kernel_rfl, by kernel_rfl⟩ (ZJ _) (i := 13) rfl ⟨by kernel_rfl, by kernel_rfl, rfl⟩ rfl rfl rfl (ZI (Hle.refl _) ⟨⟨0, rfl⟩, trivial⟩) rfl (JA.noU ⟨by kernel_rfl, by kernel_rfl⟩ (ZJ _) (i := 14) rfl ⟨by kernel_rfl, by kernel_rfl, rfl⟩ rfl rfl rfl (ZI (Hle.refl _) ⟨⟨0, rfl⟩, trivial⟩) rfl (JA.noU ⟨by kernel_rfl, by kernel_rfl⟩ (ZJ _) (i := 15) rfl ⟨by kernel_rfl, by kernel_rfl, rfl⟩ rfl rfl rfl (ZI (Hle.refl _) ⟨⟨0, rfl⟩, trivial⟩) rfl (JA.noU ⟨by kernel_rfl, by kernel_rfl⟩ (ZJ _) (i := 16) rfl ⟨by kernel_rfl, by kernel_rfl, rfl⟩ rfl rfl rfl (ZI (Hle.refl _) ⟨⟨0, rfl⟩, trivial⟩) rfl (JA.noU ⟨by kernel_rfl, by kernel_rfl⟩ (ZJ _) (i := 17) rfl ⟨by kernel_rfl, by kernel_rfl, rfl⟩ rfl rfl rfl (ZI (Hle.refl _) ⟨⟨0, rfl⟩, trivial⟩) rfl (JA.noU ⟨by kernel_rfl, by kernel_rfl⟩ (ZJ _) (i := 18) rfl ⟨by kernel_rfl, by kernel_rfl, rfl⟩ rfl rfl rfl (ZI (Hle.refl _) ⟨⟨0, rfl⟩, trivial⟩) rfl (JA.noU ⟨by kernel_rfl, by kernel_rfl⟩ (ZJ _) (i := 19) rfl ⟨by kernel_rfl, by kernel_rfl, rfl⟩ rfl rfl rfl (ZI (Hle.refl _) ⟨⟨0, rfl⟩, trivial⟩) rfl (JA.no ⟨by kernel_rfl, by kernel_rfl⟩ (ZJ _) (i := 20) rfl ⟨by kernel_rfl, by kernel_rfl, rfl⟩ rfl rfl rfl rfl (ZI (Hle.refl _) ⟨⟨0, rfl⟩, trivial⟩) rfl ?_)))))))))))
       refine JA.val ⟨by kernel_rfl, by kernel_rfl⟩ (ZJ _) (i := 21) rfl ⟨by kernel_rfl, by kernel_rfl, rfl⟩ trivial (ZI (Hle.refl _) ⟨⟨0, rfl⟩, trivial⟩) (Zj rfl rfl) rfl (Zt (by kernel_rfl) (ZC (Z2 rfl (ZG (ZB (ZA rfl rfl (ZH rfl) (ZD (ZC (ZV (Z4 (ZR ?_)))))))))))
       obtain rfl := Zu hd_10 hx
       refine ZR (Z4 ?_)
       clear hx; have hx := hxo_5
       simp only [Sum.elim_inl, Sum.elim_inr] at hx
       refine ZR (ZR (ZT (vs := [.int .i64 8]) (K := []) (rst := [_]) (.inl rfl) rfl rfl (ZQ rfl rfl) ZK ?_))
       obtain rfl := Option.some.inj hx
       exact ⟨rfl, rfl, rfl, trivial⟩
      ·
       replace hx := ZX c_25 hx
       refine JA.val ⟨by kernel_rfl, by kernel_rfl⟩ (ZJ _) (i := 9) rfl ⟨by kernel_rfl, by kernel_rfl, rfl⟩ ⟨_, _, rfl, rfl, rfl⟩ (ZI (Hle.refl _) ⟨⟨0, rfl⟩, trivial⟩) (ZF rfl) rfl (JA.val ⟨by kernel_rfl, by kernel_rfl⟩ (ZJ _) (i := 10) rfl ⟨by kernel_rfl, by kernel_rfl, rfl⟩ ⟨_, _, rfl, rfl, rfl⟩ (ZI (Hle.refl _) ⟨⟨0, rfl⟩, trivial⟩) (R.gtr_i rfl rfl) rfl (JA.val ⟨by kernel_rfl, by kernel_rfl⟩ (ZJ _) (i := 11) rfl ⟨by kernel_rfl, by kernel_rfl, rfl⟩ ⟨_, _, rfl, rfl, rfl⟩ (ZI (Hle.refl _) ⟨⟨0, rfl⟩, trivial⟩) (ZF rfl) rfl (JA.gSplit (t := 26) rfl (fun c_26 => ?_) (fun c_26 => ?_))))
       ·
        replace hx := ZW c_26 hx
        refine JA.val ⟨by kernel_rfl, by kernel_rfl⟩ (ZJ _) (i := 12) rfl ⟨by kernel_rfl, by kernel_rfl, rfl⟩ ⟨_, _, rfl, rfl, rfl⟩ (ZI (Hle.refl _) ⟨⟨0, rfl⟩, trivial⟩) (ZF rfl) rfl (JA.val ⟨by kernel_rfl, by kernel_rfl⟩ (ZJ _) (i := 13) rfl ⟨by kernel_rfl, by kernel_rfl, rfl⟩ ⟨_, _, rfl, rfl, rfl⟩ (ZI (Hle.refl _) ⟨⟨0, rfl⟩, trivial⟩) (ZF rfl) rfl (JA.val ⟨by kernel_rfl, by kernel_rfl⟩ (ZJ _) (i := 14) rfl ⟨by kernel_rfl, by kernel_rfl, rfl⟩ ⟨_, _, rfl, rfl, rfl⟩ (ZI (Hle.refl _) ⟨⟨0, rfl⟩, trivial⟩) (R.sub_i rfl rfl) rfl ?_))
        obtain ⟨y_27, hN_28, hx⟩ := Zs hx
        obtain ⟨b_29, o_30, cs_31, hE_32, hR_33, hl_34, hc_35⟩ := IsSlice.elem ha_2 hN_28
        obtain rfl := hR_33
        refine JA.val ⟨by kernel_rfl, by kernel_rfl⟩ (ZJ _) (i := 15) rfl ⟨by kernel_rfl, by kernel_rfl, rfl⟩ ⟨_, _, rfl, rfl, rfl⟩ (ZI (Hle.refl _) ⟨⟨0, rfl⟩, trivial⟩) (R.ix U53 S28 rfl rfl hE_32) rfl (JA.val ⟨by kernel_rfl, by kernel_rfl⟩ (ZJ _) (i := 16) rfl ⟨by kernel_rfl, by kernel_rfl, rfl⟩ ⟨_, _, rfl, rfl, rfl⟩ (ZI (Hle.refl _) ⟨⟨0, rfl⟩, trivial⟩) (R.ldHE (cs := [.int .i64 y_27.At, .int .u32 (y_27.Birth.toNat : Int), .int .u32 (y_27.Iv.toNat : Int), .int .u32 (y_27.Tag.toNat : Int), .int .u32 (y_27.Sum.toNat : Int)]) (k := 0) (vs := [.int .i64 y_27.At, .int .u32 (y_27.Birth.toNat : Int), .int .u32 (y_27.Iv.toNat : Int), .int .u32 (y_27.Tag.toNat : Int), .int .u32 (y_27.Sum.toNat : Int)]) S28 rfl hc_35 rfl rfl) rfl (JA.val ⟨by kernel_rfl, by kernel_rfl⟩ (ZJ _) (i := 17) rfl ⟨by kernel_rfl, by kernel_rfl, rfl⟩ ⟨_, _, rfl, rfl, rfl⟩ (ZI (Hle.refl _) ⟨⟨0, rfl⟩, trivial⟩) (Z1 0 (vs := [.int .i64 y_11.At, .int .u32 (y_11.Birth.toNat : Int), .int .u32 (y_11.Iv.toNat : Int), .int .u32 (y_11.Tag.toNat : Int), .int .u32 (y_11.Sum.toNat : Int)]) S28 rfl rfl rfl rfl) rfl (JA.one (i := 18) (by kernel_rfl) (ZZ rfl ⟨_, _, rfl, rfl, rfl⟩ rfl (fun K hK => ?_)))))
        obtain ⟨x_36, hr_37, hx⟩ := ZM hx
        refine ZS (vs := [_, _]) (args := [_, _]) (K := []) (rst := [_]) E66 rfl rfl rfl ZK (dead_order_ok y_27 y_11 _ _ hr_37) rfl (fun u_38 Ku_38 Hu_38 hRu_38 hleu_38 hfu_38 => ?_)
        obtain ⟨rfl, rfl, rfl, -⟩ := hRu_38
        refine ZD (hK _ _ _ (ZI (Hle.refl _) ⟨⟨0, rfl⟩, trivial⟩) (JA.val ⟨by kernel_rfl, by kernel_rfl⟩ (ZJ _) (i := 19) rfl ⟨by kernel_rfl, by kernel_rfl, rfl⟩ ⟨_, _, rfl, rfl, rfl⟩ (ZI (Hle.refl _) ⟨⟨0, rfl⟩, trivial⟩) (R.geq_i rfl rfl) rfl (JA.val ⟨by kernel_rfl, by kernel_rfl⟩ (ZJ _) (i := 20) rfl ⟨by kernel_rfl, by kernel_rfl, rfl⟩ ⟨_, _, rfl, rfl, rfl⟩ (ZI (Hle.refl _) ⟨⟨0, rfl⟩, trivial⟩) (Zj rfl rfl) rfl (JA.val ⟨by kernel_rfl, by kernel_rfl⟩ (ZJ _) (i := 21) rfl ⟨by kernel_rfl, by kernel_rfl, rfl⟩ trivial (ZI (Hle.refl _) ⟨⟨0, rfl⟩, trivial⟩) (ZL rfl rfl) rfl (Zt (by kernel_rfl) (ZC (ZU rfl (fun c_39 => ?_) (fun c_39 => ?_))))))))
        ·
         replace hx := ZW c_39 hx
         refine ZG (ZB (ZA rfl rfl (ZH rfl) (ZD (ZC (ZV (Z4 (ZR ?_)))))))
         obtain rfl := Zu hd_10 hx
         refine ZR (Z4 ?_)
         clear hx; have hx := hxo_5
         simp only [Sum.elim_inl, Sum.elim_inr] at hx
         refine ZR (ZR (ZT (vs := [.int .i64 8]) (K := []) (rst := [_]) (.inl rfl) rfl rfl (ZQ rfl rfl) ZK ?_))
         obtain rfl := Option.some.inj hx
         exact ⟨rfl, rfl, rfl, trivial⟩
        ·
         replace hx := ZX c_39 hx
         refine JC.skip (Zk (ZC (ZB (ZA rfl rfl (R.inc rfl rfl (of_decide_eq_true c_10) (IsSlice.lenI ha_2)) (ZA rfl rfl (ZF rfl) (ZD ?_))))))
         replace hx := Zo hd_10 hx
         refine JN.forget 0 ?_
         exact JN.cut ⟨s_7 + 1, rfl, rfl, rfl, hx⟩ ⟨rfl, rfl, rfl, rfl, trivial⟩ rfl rfl
       ·
        replace hx := ZX c_26 hx
        refine JA.no ⟨by kernel_rfl, by kernel_rfl⟩ (ZJ _) (i := 12) rfl ⟨by kernel_rfl, by kernel_rfl, rfl⟩ rfl rfl rfl rfl (ZI (Hle.refl _) ⟨⟨0, rfl⟩, trivial⟩) rfl (JA.no ⟨by kernel_rfl, by kernel_rfl⟩ (ZJ _) (i := 13) rfl ⟨by kernel_rfl, by kernel_rfl, rfl⟩ rfl rfl rfl rfl (ZI (Hle.refl _) ⟨⟨0, rfl⟩, trivial⟩) rfl (JA.no ⟨by kernel_rfl, by kernel_rfl⟩ (ZJ _) (i := 14) rfl ⟨by kernel_rfl, by kernel_rfl, rfl⟩ rfl rfl rfl rfl (ZI (Hle.refl _) ⟨⟨0, rfl⟩, trivial⟩) rfl (JA.no ⟨by kernel_rfl, by kernel_rfl⟩ (ZJ _) (i := 15) rfl ⟨by kernel_rfl, by kernel_rfl, rfl⟩ rfl rfl rfl rfl (ZI (Hle.refl _) ⟨⟨0, rfl⟩, trivial⟩) rfl (JA.no ⟨by kernel_rfl, by kernel_rfl⟩ (ZJ _) (i := 16) rfl ⟨by kernel_rfl, by kernel_rfl, rfl⟩ rfl rfl rfl rfl (ZI (Hle.refl _) ⟨⟨0, rfl⟩, trivial⟩) rfl (JA.no ⟨by kernel_rfl, by kernel_rfl⟩ (ZJ _) (i := 17) rfl ⟨by kernel_rfl, by kernel_rfl, rfl⟩ rfl rfl rfl rfl (ZI (Hle.refl _) ⟨⟨0, rfl⟩, trivial⟩) rfl (JA.no ⟨by kernel_rfl, by kernel_rfl⟩ (ZJ _) (i := 18) rfl ⟨by kernel_rfl, by kernel_rfl, rfl⟩ rfl rfl rfl rfl (ZI (Hle.refl _) ⟨⟨0, rfl⟩, trivial⟩) rfl (JA.no ⟨by kernel_rfl, by kernel_rfl⟩ (ZJ _) (i := 19) rfl ⟨by kernel_rfl, by kernel_rfl, rfl⟩ rfl rfl rfl rfl (ZI (Hle.refl _) ⟨⟨0, rfl⟩, trivial⟩) rfl (JA.val ⟨by kernel_rfl, by kernel_rfl⟩ (ZJ _) (i := 20) rfl ⟨by kernel_rfl, by kernel_rfl, rfl⟩ ⟨_, _, rfl, rfl, rfl⟩ (ZI (Hle.refl _) ⟨⟨0, rfl⟩, trivial⟩) (ZL rfl rfl) rfl (JA.val ⟨by kernel_rfl, by kernel_rfl⟩ (ZJ _) (i := 21) rfl ⟨by kernel_rfl, by kernel_rfl, rfl⟩ trivial (ZI (Hle.refl _) ⟨⟨0, rfl⟩, trivial⟩) (ZL rfl rfl) rfl (Zt (by kernel_rfl) (ZC ?_)))))))))))
        refine JC.condF rfl (JC.skip (Zk (ZC (ZB (ZA rfl rfl (R.inc rfl rfl (of_decide_eq_true c_10) (IsSlice.lenI ha_2)) (ZA rfl rfl (ZF rfl) (ZD ?_)))))))
        replace hx := Zo hd_10 hx
        refine JN.forget 0 ?_
        exact JN.cut ⟨s_7 + 1, rfl, rfl, rfl, hx⟩ ⟨rfl, rfl, rfl, rfl, trivial⟩ rfl rfl
    ·
     replace hx := ZX c_10 hx
     refine JC.exit (Ze ?_)
     obtain rfl := Zu hd_10 hx
     refine Ze (Zl ?_)
     exact JN.cut ⟨(), rfl, rfl, rfl, rfl⟩ trivial rfl rfl

set_option maxHeartbeats 8000000 in
theorem slices_Grow_Ptr_ok (p_1 : Int) (H : Heaplet) (r : List Ptr) (hx : slices_Grow_Ptr p_1 = some r) :
  Does Try.prog 141 #[.slice none 0 0, .int .i64 p_1] [] H (fun u K' H' => ∃ ao0 : Option Addr, ∃ n0 : Nat, ∃ cap0 : Nat, ∃ K0 : Own, u = .slice ao0 n0 cap0 ∧ K' = [K0] ∧ H = H' ∧ RowOf (New H H) R_Ptr 0 28 5 (.slice ao0 n0 cap0) r K0 ∧ (∀ p ∈ K0, p.1 ∉ ids (List.flatten [])) ∧ True) := by
 refine Does.enterL (vs := [.slice none 0 0, .int .i64 p_1]) (l := [(0, .slice none 0 0), (1, .int .i64 p_1)]) Try.func141 rfl rfl ⟨rfl, rfl, trivial⟩ (fun w hlt => ?_)
 unfold slices_Grow_Ptr at hx
 refine ZG (ZB (ZA rfl rfl (ZH rfl) (ZD (ZC (ZG (ZG (ZB (ZA rfl rfl (ZF rfl) (ZA rfl rfl (Zr rfl rfl) (ZD (ZC ?_)))))))))))
 refine ZU rfl (fun c_2 => ?_) (fun c_2 => ?_)
 ·
  replace hx := ZW c_2 hx
  refine ZB ?_
  cases hx
 ·
  replace hx := ZX c_2 hx
  refine JC.skip (ZC (ZG (ZG (ZB (ZA rfl rfl (ZF rfl) (ZA rfl rfl (ZF rfl) (ZA rfl rfl (R.capN ⟨_, U53⟩ rfl) (ZA rfl rfl (ZF rfl) (ZA rfl rfl (R.len U53 rfl) (ZA rfl rfl (R.sub_i rfl rfl) (ZA rfl rfl (R.sub_i rfl rfl) ?_)))))))))))
  refine ZA rfl rfl (ZH rfl) (ZD (ZC (ZG (ZB (ZA rfl rfl (ZF rfl) (ZA rfl rfl (R.gtr_i rfl rfl) (ZD (ZC ?_))))))))
  obtain ⟨t_3, ht_5, hx⟩ := ZM hx
  refine JC.cut (fun l o g => ∃ ar_16 : Option Addr, ∃ nr_16 : Nat, ∃ cr_16 : Nat, ∃ Kr_16 : Own, l = [(0, .slice ar_16 nr_16 cr_16)] ∧ o = [Kr_16] ∧ H = g ∧ RowOf (New H H) R_Ptr w.heap.size 28 5 (.slice ar_16 nr_16 cr_16) t_3 Kr_16) ?_ ?_
  ·
   rintro _ _ _ ⟨ar_16, nr_16, cr_16, Kr_16, rfl, rfl, rfl, hr_16⟩
   refine ZC (ZG (ZB (ZA rfl rfl (ZF rfl) (ZA rfl rfl (ZH rfl) (ZD (ZC (ZV (ZT (vs := [.slice ar_16 nr_16 cr_16]) (K := [_]) (rst := []) (.inl rfl) rfl rfl (ZQ rfl rfl) (Za 0 rfl ZK) ?_))))))))
   obtain rfl := Option.some.inj hx
   exact ⟨ar_16, nr_16, cr_16, Kr_16, rfl, rfl, rfl, (Zd (Nat.zero_le _) hr_16), (Zx hr_16 hlt), trivial⟩
  ·
   have hxo_4 := hx; clear hx; have hx := ht_5; clear ht_5
   refine ZU rfl (fun c_6 => ?_) (fun c_6 => ?_)
   ·
    replace hx := ZW c_6 hx
    refine ZB (ZA rfl rfl (ZF rfl) (ZA rfl rfl (ZF rfl) (ZA rfl rfl (R.capN ⟨_, U53⟩ rfl) (ZA rfl rfl (R.slcN U53 S28 rfl trivial ⟨_, rfl⟩ rfl) (ZA rfl rfl (ZF rfl) ?_)))))
    obtain ⟨q_9, hm_8, hc_7, hx⟩ := mks_some hx
    refine JL.appZ (HF := New H H) (R := R_Ptr) (y := Ptr.mk 0 (0 : UInt32) (0 : UInt32) (0 : UInt32) (0 : UInt32)) (n := w64 (p_1 - 0)) U53 U3 I28 rfl rfl (fun _ => rfl) R_Ptr.one hm_8 hc_7 rfl rfl (fun vr_10 Kr_10 hr_10 => ?_)
    obtain ⟨ar_10, cr_10, rfl⟩ := RowOf.val hr_10
    refine ZA rfl rfl (ZF rfl) (ZA rfl rfl (R.len U53 rfl) ?_)
    obtain ⟨m_13, hm_14, hb_12, hx⟩ := slc_some hx
    obtain ⟨vv_11, cv_11, h1v_11, h2v_11, h3v_11, hsv_11⟩ := RowOf.pre hr_10 hm_14 hb_12
    refine ZA rfl rfl (R.slc (cap := cv_11) (a := 0) (b := 0) (c := (cv_11 : Int)) (m := q_9) (R := R_Ptr) U53 S28 rfl rfl ⟨_, rfl⟩ (by obtain ⟨ao, n, e, _⟩ := h1v_11; exact ⟨ao, n, e, rfl⟩) ⟨hb_12.1, hb_12.2.1, h2v_11⟩ h3v_11 (.inl rfl)) ?_
    obtain ⟨av_11, cv_11', rfl⟩ := RowOf.val hsv_11
    refine ZA rfl rfl (ZH rfl) (ZD ?_)
    obtain rfl := Option.some.inj hx
    exact JN.cut ⟨av_11, m_13.length, cv_11', Kr_10, rfl, rfl, rfl, hsv_11⟩ ⟨rfl, trivial⟩ rfl rfl
   ·
    replace hx := ZX c_6 hx
    refine JC.skip ?_
    obtain rfl := Option.some.inj hx
    refine Zn ?_
    exact JN.cut ⟨none, 0, 0, [], rfl, rfl, rfl, (Zb _ _ _ _ _)⟩ ⟨rfl, trivial⟩ rfl rfl

set_option maxHeartbeats 8000000 in
theorem slices_Concat_Ptr_ok (p_1 : List (List Ptr)) (H : Heaplet) {aa_2 : Option Addr} {na_2 : Nat} {ca_2 : Nat} (ha_2 : IsSlice H (RSl R_Ptr 5) 1 (.slice aa_2 na_2 ca_2) p_1) (r : List Ptr) (hx : slices_Concat_Ptr p_1 = some r) :
  Does Try.prog 100 #[.slice aa_2 na_2 ca_2] [] H (fun u K' H' => ∃ ao0 : Option Addr, ∃ n0 : Nat, ∃ cap0 : Nat, ∃ K0 : Own, u = .slice ao0 n0 cap0 ∧ K' = [K0] ∧ H = H' ∧ RowOf (New H H) R_Ptr 0 28 5 (.slice ao0 n0 cap0) r K0 ∧ (∀ p ∈ K0, p.1 ∉ ids (List.flatten [])) ∧ True) := by
 refine Does.enterL (vs := [.slice aa_2 na_2 ca_2]) (l := [(0, .slice aa_2 na_2 ca_2)]) Try.func100 rfl rfl ⟨rfl, trivial⟩ (fun w hlt => ?_)
 unfold slices_Concat_Ptr at hx
 refine ZG (ZB (ZA rfl rfl (ZH rfl) (ZD (ZC (ZG (ZB (ZA rfl rfl (ZH rfl) (ZD (ZC (ZG (ZG ?_)))))))))))
 refine ZB (ZA rfl rfl (ZF rfl) (ZA rfl rfl (Zm U192 rfl (IsSlice.long ha_2)) (ZA rfl rfl (ZF rfl) (ZD (ZC ?_)))))
 obtain ⟨t_3, ht_5, hx⟩ := ZM hx
 refine JC.cut (fun l o g => l = [(0, .slice aa_2 na_2 ca_2), (3, .int .i64 t_3)] ∧ o = [] ∧ H = g) ?_ ?_
 ·
  rintro _ _ _ ⟨rfl, rfl, rfl⟩
  refine ZC (ZG (ZB (ZA rfl rfl (ZF rfl) ?_)))
  obtain ⟨x_9, hr_10, hx⟩ := ZM hx
  refine ZS (vs := [_, _]) (args := [_, _]) (K := []) (rst := []) E141 rfl rfl rfl ZK (slices_Grow_Ptr_ok t_3 _ _ hr_10) rfl (fun u_11 Ku_11 Hu_11 hRu_11 hleu_11 hfu_11 => ?_)
  obtain ⟨ar_12, nr_12, cr_12, Kr_12, rfl, rfl, rfl, hr_12, hnewr_12, -⟩ := hRu_11
  replace hr_12 := (RowOf.base (Zc (H2 := New H H) R_Ptr.const hr_12) (fun p hp => (hfu_11 p (Zg 0 rfl hp)).resolve_left (hnewr_12 p hp)))
  refine ZA rfl rfl (ZH rfl) (ZD (ZC (ZG (ZG (ZB (ZA rfl rfl (ZF rfl) (ZA rfl rfl (Zm U192 rfl (IsSlice.long ha_2)) (ZA rfl rfl (ZF rfl) (ZD (ZC ?_))))))))))
  obtain ⟨t_13, ht_15, hx⟩ := ZM hx
  refine JC.cut (fun l o g => ∃ ar_20 : Option Addr, ∃ nr_20 : Nat, ∃ cr_20 : Nat, ∃ Kr_20 : Own, l = [(6, .slice ar_20 nr_20 cr_20)] ∧ o = [Kr_20] ∧ H = g ∧ RowOf (New H H) R_Ptr w.heap.size 28 5 (.slice ar_20 nr_20 cr_20) t_13 Kr_20) ?_ ?_
  ·
   rintro _ _ _ ⟨ar_20, nr_20, cr_20, Kr_20, rfl, rfl, rfl, hr_20⟩
   refine ZC (ZG (ZB (ZA rfl rfl (ZF rfl) (ZA rfl rfl (ZH rfl) (ZD (ZC (ZV (ZT (vs := [.slice ar_20 nr_20 cr_20]) (K := [_]) (rst := []) (.inl rfl) rfl rfl (ZQ rfl rfl) (Za 0 rfl ZK) ?_))))))))
   obtain rfl := Option.some.inj hx
   exact ⟨ar_20, nr_20, cr_20, Kr_20, rfl, rfl, rfl, (Zd (Nat.zero_le _) hr_20), (Zx hr_20 hlt), trivial⟩
  ·
   have hxo_14 := hx; clear hx; have hx := ht_15; clear ht_15
   refine JC.block (JC.loopI (fun n l o g => ∃ s_16 : List Ptr × Nat, ∃ ar_19 : Option Addr, ∃ nr_19 : Nat, ∃ cr_19 : Nat, ∃ Kr_19 : Own, l = [(6, .slice ar_19 nr_19 cr_19), (25, .slice aa_2 na_2 ca_2), (26, .int .i64 (p_1.length : Int)), (27, .int .i64 ((s_16.2 : Nat) : Int))] ∧ o = [Kr_19] ∧ H = g ∧ run (slices_Concat_Ptr_l2 p_1) n s_16 = some t_13 ∧ RowOf (New H H) R_Ptr w.heap.size 28 5 (.slice ar_19 nr_19 cr_19) s_16.1 Kr_19) FUEL ?_ ⟨(x_9, 0), ar_12, nr_12, cr_12, Kr_12, rfl, rfl, rfl, hx, hr_12⟩ ⟨rfl, rfl, rfl, rfl, trivial⟩ ?_)
   ·
    rintro _ _ _ ⟨s_16, ar_19, nr_19, cr_19, Kr_19, rfl, rfl, rfl, hn_17, hr_19⟩
    exact run_zero hn_17
   ·
    rintro n_18 _ _ _ ⟨s_16, ar_19, nr_19, cr_19, Kr_19, rfl, rfl, rfl, hn_17, hr_19⟩
    clear hx; obtain ⟨oo_21, hx, hd_20⟩ := Z0 hn_17
    unfold slices_Concat_Ptr_l2 at hx
    refine ZG (ZB (ZA rfl rfl (Zr rfl rfl) (ZD (ZC (ZG (ZU rfl (fun c_20 => ?_) (fun c_20 => ?_)))))))
    ·
     replace hx := ZW c_20 hx
     refine JC.skip (ZC (ZG (JC.block (ZG (ZB ?_)))))
     obtain ⟨y_21, hN_22, hx⟩ := Zs hx
     obtain ⟨b_23, o_24, cs_25, hE_26, hR_27, hl_28, hc_29⟩ := IsSlice.elem ha_2 hN_22
     obtain ⟨v_30, rfl, hs_31⟩ := hR_27
     obtain ⟨av_30, cv_30, rfl⟩ := IsSlice.val hs_31
     refine ZA rfl rfl (R.ix U192 S53 rfl rfl hE_26) (ZA rfl rfl (R.ldH S53 rfl (hc_29 0 _ rfl)) (ZA rfl rfl (ZH rfl) (ZD (ZC (ZB (ZA rfl rfl (ZF rfl) (ZA rfl rfl (ZF rfl) ?_)))))))
     obtain ⟨q_32, hm_33, hl_34, hx⟩ := app_some hx
     refine JL.appF (HF := (New H H)) 0 U53 I28 rfl rfl hr_19 rfl (SrcF.sliceC R_Ptr.const R_Ptr.one U53 hs_31) hm_33 hl_34 rfl (Nat.le_refl _) rfl (fun vr_35 Kr_35 hr_35 => ?_)
     obtain ⟨ar_35, cr_35, rfl⟩ := RowOf.val hr_35
     refine ZA rfl rfl (ZH rfl) (ZD (Zk (ZC (ZB (ZA rfl rfl (R.inc rfl rfl (of_decide_eq_true c_20) (IsSlice.lenI ha_2)) (ZA rfl rfl (ZF rfl) (ZD ?_)))))))
     replace hx := Zo hd_20 hx
     exact JN.cut ⟨(q_32, s_16.2 + 1), ar_35, q_32.length, cr_35, Kr_35, rfl, rfl, rfl, hx, hr_35⟩ ⟨rfl, rfl, rfl, rfl, trivial⟩ rfl rfl
    ·
     replace hx := ZX c_20 hx
     refine JC.exit (Ze ?_)
     obtain rfl := Zu hd_20 hx
     refine Ze (Zl ?_)
     exact JN.cut ⟨ar_19, nr_19, cr_19, Kr_19, rfl, rfl, rfl, hr_19⟩ ⟨rfl, trivial⟩ rfl rfl
 ·
  have hxo_4 := hx; clear hx; have hx := ht_5; clear ht_5
  refine JC.block (JC.loopI (fun n l o g => ∃ s_6 : Int × Nat, l = [(0, .slice aa_2 na_2 ca_2), (3, .int .i64 s_6.1), (9, .slice aa_2 na_2 ca_2), (10, .int .i64 (p_1.length : Int)), (11, .int .i64 ((s_6.2 : Nat) : Int))] ∧ o = [] ∧ H = g ∧ run (slices_Concat_Ptr_l1 p_1) n s_6 = some t_3) FUEL ?_ ⟨(0, 0), rfl, rfl, rfl, hx⟩ ⟨rfl, rfl, rfl, rfl, rfl, trivial⟩ ?_)
  ·
   rintro _ _ _ ⟨s_6, rfl, rfl, rfl, hn_7⟩
   exact run_zero hn_7
  ·
   rintro n_8 _ _ _ ⟨s_6, rfl, rfl, rfl, hn_7⟩
   clear hx; obtain ⟨oo_10, hx, hd_9⟩ := Z0 hn_7
   unfold slices_Concat_Ptr_l1 at hx
   refine ZG (ZB (ZA rfl rfl (Zr rfl rfl) (ZD (ZC (ZG (ZU rfl (fun c_9 => ?_) (fun c_9 => ?_)))))))
   ·
    replace hx := ZW c_9 hx
    refine JC.skip (ZC (ZG (JC.block (ZG (ZB ?_)))))
    obtain ⟨y_10, hN_11, hx⟩ := Zs hx
    obtain ⟨b_12, o_13, cs_14, hE_15, hR_16, hl_17, hc_18⟩ := IsSlice.elem ha_2 hN_11
    obtain ⟨v_19, rfl, hs_20⟩ := hR_16
    obtain ⟨av_19, cv_19', rfl⟩ := IsSlice.val hs_20
    refine ZA rfl rfl (R.ix U192 S53 rfl rfl hE_15) (ZA rfl rfl (R.ldH S53 rfl (hc_18 0 _ rfl)) (ZA rfl rfl (ZH rfl) (ZD (ZC (ZG (ZB (ZA rfl rfl (ZF rfl) (ZA rfl rfl (ZF rfl) (ZA rfl rfl (Zm U53 rfl (IsSlice.long hs_20)) (ZA rfl rfl (R.add_i rfl rfl) (ZA rfl rfl (ZH rfl) ?_)))))))))))
    refine ZD (ZC (ZG (ZB (ZA rfl rfl (ZF rfl) (ZA rfl rfl (Zr rfl rfl) (ZD (ZC (ZU rfl (fun c_21 => ?_) (fun c_21 => ?_)))))))))
    ·
     replace hx := ZW c_21 hx
     refine ZB ?_
     cases hx
    ·
     replace hx := ZX c_21 hx
     refine JC.skip (Zk (ZC (ZB (ZA rfl rfl (R.inc rfl rfl (of_decide_eq_true c_9) (IsSlice.lenI ha_2)) (ZA rfl rfl (ZF rfl) (ZD ?_))))))
     replace hx := Zo hd_9 hx
     exact JN.cut ⟨(w64 (s_6.1 + (y_10.length : Int)), s_6.2 + 1), rfl, rfl, rfl, hx⟩ ⟨rfl, rfl, rfl, rfl, rfl, trivial⟩ rfl rfl
   ·
    replace hx := ZX c_9 hx
    refine JC.exit (Ze ?_)
    obtain rfl := Zu hd_9 hx
    refine Ze (Zl ?_)
    exact JN.cut ⟨rfl, rfl, rfl⟩ ⟨rfl, rfl, trivial⟩ rfl rfl

theorem slices_SortFunc_Ptr_dead_order_ok (p_1 : List Ptr) (H : Heaplet) {ao : Option Addr} {n cap : Nat} {K : Own} (hr : RowOf (New H H) R_Ptr 0 28 5 (.slice ao n cap) p_1 K) (r : List Ptr) (hx : slices_SortFunc_Ptr_dead_order p_1 = some r) :
  Does Try.prog 101 #[.slice ao n cap, .func (.func 66) #[] #[]] [K] H (fun u K' H' => ∃ K0 : Own, u = .tuple #[] ∧ K' = [K0] ∧ H = H' ∧ RowOf (New H H') R_Ptr 0 28 5 (.slice ao n cap) r K0 ∧ True) := by
 rw [slices_SortFunc_Ptr_dead_order.eq_1] at hx
 split at hx
 case isFalse => cases hx
 rename_i hlen
 obtain rfl := Option.some.inj hx
 have h := sort_does (enc := enc_Ptr) (R := R_Ptr) Try.sort101 (by decide) Try.isAgg28 Try.sizeOf28 (fun _ _ _ => Iff.rfl) (fun _ => rfl) enc_Ptr_one (fun x y => (dead_order x y).getD 0) dead_order_swo (g := 66)
  (ZY Try.func66 (by kernel_rfl) rfl)
  (fun x y => by
   obtain ⟨z, hz⟩ := dead_order_tot x y
   refine Does.mono (dead_order_ok x y (fun _ _ => none) z hz) (fun v K' H' hR => ?_)
   obtain ⟨rfl, -⟩ := hR
   simp [hz]) (H := H) hr hlen
 refine Does.mono h (fun v K' H' hR => ?_)
 obtain ⟨K1, rfl, rfl, rfl, h1, -⟩ := hR
 exact ⟨K1, rfl, rfl, rfl, h1, trivial⟩

theorem slices_Clone_Ptr_ok (p_1 : List Ptr) (H : Heaplet) {ao : Option Addr} {n cap : Nat} (hs : IsSlice H R_Ptr 5 (.slice ao n cap) p_1) (r : List Ptr) (hx : slices_Clone_Ptr p_1 = some r) :
  Does Try.prog 103 #[.slice ao n cap] [] H (fun u K' H' => ∃ ao0 : Option Addr, ∃ n0 : Nat, ∃ cap0 : Nat, ∃ K0 : Own, u = .slice ao0 n0 cap0 ∧ K' = [K0] ∧ H = H' ∧ RowOf (New H H') R_Ptr 0 28 5 (.slice ao0 n0 cap0) r K0 ∧ (∀ p ∈ K0, p.1 ∉ ids (List.flatten [])) ∧ True) := by
 rw [slices_Clone_Ptr.eq_1] at hx
 obtain ⟨q, hq, hl, hx⟩ := app_some hx
 obtain rfl := Option.some.inj hx
 refine Does.enter (vs := [.slice ao n cap]) (l := [(0, .slice ao n cap)]) Try.func103 rfl rfl ⟨rfl, trivial⟩ (fun w => ZG (ZB (ZA rfl rfl (ZH rfl) (ZD (ZC (ZG (ZG (ZB (ZA rfl rfl (ZF rfl) (ZA rfl rfl (R.eqlNil U53 rfl rfl) (ZD ?_)))))))))))
 refine ZC ?_
 cases ao with
 | none =>
  have hp := hs.none_nil
  subst hp
  simp only [List.append_nil] at hq
  subst hq
  refine Z2 rfl (ZG (ZB (ZA rfl rfl (ZH rfl) (ZD (ZC (ZV (ZR (Zn (ZT (vs := [.slice none 0 0]) (K := [_]) (rst := []) (.inl rfl) rfl rfl (ZQ rfl rfl) (Za 0 rfl ZK) ?_)))))))))
  exact ⟨none, 0, 0, [], rfl, rfl, rfl, Zb _ _ _ _ _, (fun p hp => by cases hp), trivial⟩
 | some a =>
  refine JC.condF rfl (JC.skip (ZC (ZG (ZB (Zz (HF := New H H) (R := R_Ptr) (ls := []) (vs := []) U53 I28 rfl rfl rfl R_Ptr.one rfl rfl rfl (by simp [maxLen]) rfl (fun v1 K1 h1 => ?_))))))
  obtain ⟨ao1, cap1, rfl⟩ := RowOf.val h1
  refine ZA rfl rfl (ZF rfl) (JL.appF (HF := New H H) 0 U53 I28 rfl rfl h1 rfl (SrcF.sliceC R_Ptr.const R_Ptr.one U53 hs) hq hl rfl (Nat.le_refl _) rfl (fun v2 K2 h2 => ?_))
  obtain ⟨ao2, cap2, rfl⟩ := RowOf.val h2
  refine ZA rfl rfl (ZH rfl) (ZD (ZC (ZV (ZT (vs := [.slice ao2 _ cap2]) (K := [_]) (rst := []) (.inl rfl) rfl rfl (ZQ rfl rfl) (Za 0 rfl ZK) ?_))))
  exact ⟨_, _, _, _, rfl, rfl, rfl, Zd (Nat.zero_le _) h2, (fun p hp hm => by cases hm), trivial⟩

set_option maxHeartbeats 8000000 in
theorem dead_Join_1_ok (p_1 : Ptr) (p_2 : Ptr) (H : Heaplet) (r : Bool) (hx : dead_Join_1 p_1 p_2 = some r) :
  Does Try.prog 104 #[.agg #[.int .i64 p_1.At, .int .u32 (p_1.Birth.toNat : Int), .int .u32 (p_1.Iv.toNat : Int), .int .u32 (p_1.Tag.toNat : Int), .int .u32 (p_1.Sum.toNat : Int)], .agg #[.int .i64 p_2.At, .int .u32 (p_2.Birth.toNat : Int), .int .u32 (p_2.Iv.toNat : Int), .int .u32 (p_2.Tag.toNat : Int), .int .u32 (p_2.Sum.toNat : Int)]] [] H (fun u K' H' => u = .bool r ∧ K' = [] ∧ H = H' ∧ True) := by
 refine Does.enterL (vs := [.agg #[.int .i64 p_1.At, .int .u32 (p_1.Birth.toNat : Int), .int .u32 (p_1.Iv.toNat : Int), .int .u32 (p_1.Tag.toNat : Int), .int .u32 (p_1.Sum.toNat : Int)], .agg #[.int .i64 p_2.At, .int .u32 (p_2.Birth.toNat : Int), .int .u32 (p_2.Iv.toNat : Int), .int .u32 (p_2.Tag.toNat : Int), .int .u32 (p_2.Sum.toNat : Int)]]) (l := [(0, .agg #[.int .i64 p_1.At, .int .u32 (p_1.Birth.toNat : Int), .int .u32 (p_1.Iv.toNat : Int), .int .u32 (p_1.Tag.toNat : Int), .int .u32 (p_1.Sum.toNat : Int)]), (1, .agg #[.int .i64 p_2.At, .int .u32 (p_2.Birth.toNat : Int), .int .u32 (p_2.Iv.toNat : Int), .int .u32 (p_2.Tag.toNat : Int), .int .u32 (p_2.Sum.toNat : Int)])]) Try.func104 rfl rfl ⟨rfl, rfl, trivial⟩ (fun w hlt => ?_)
 unfold dead_Join_1 at hx
 refine ZG (ZB (JL.box rfl rfl (fun b_3 hb_3 => JL.box rfl rfl (fun b_4 hb_4 => ZA rfl rfl (ZH rfl) (ZD (ZC (ZG (ZB (ZA rfl rfl (R.fa F28_0 rfl) (ZA rfl rfl (Zi 1 S3 rfl rfl rfl) (ZA rfl rfl (R.fa F28_0 rfl) ?_)))))))))))
 refine ZA rfl rfl (Zi 0 S3 rfl rfl rfl) (ZA rfl rfl (Zy rfl rfl) (ZA rfl rfl (ZH rfl) (ZD (ZC (ZV (ZT (vs := [.bool (decide (p_1.At = p_2.At))]) (K := []) (rst := [_, _]) (.inl rfl) rfl rfl (ZQ rfl rfl) ZK ?_))))))
 obtain rfl := Option.some.inj hx
 exact ⟨rfl, rfl, rfl, trivial⟩

set_option maxHeartbeats 8000000 in
theorem slices_CompactFunc_Ptr_ok (p_1 : List Ptr) (H : Heaplet) {ar_2 : Option Addr} {nr_2 : Nat} {cr_2 : Nat} {Kr_2 : Own} (hr_2 : RowOf H R_Ptr 0 28 5 (.slice ar_2 nr_2 cr_2) p_1 Kr_2) (r : List Ptr) (hx : slices_CompactFunc_Ptr p_1 = some r) :
  Does Try.prog 102 #[.slice ar_2 nr_2 cr_2, .func (.func 104) #[] #[]] [Kr_2] H (fun u K' H' => ∃ ao0 : Option Addr, ∃ n0 : Nat, ∃ cap0 : Nat, ∃ K0 : Own, u = .slice ao0 n0 cap0 ∧ K' = [K0] ∧ H = H' ∧ RowOf (New H H) R_Ptr 0 28 5 (.slice ao0 n0 cap0) r K0 ∧ True) := by
 refine Does.enterL (vs := [.slice ar_2 nr_2 cr_2, .func (.func 104) #[] #[]]) (l := [(0, .slice ar_2 nr_2 cr_2), (1, .func (.func 104) #[] #[])]) Try.func102 rfl rfl ⟨rfl, rfl, trivial⟩ (fun w hlt => ?_)
 replace hr_2 := Zc (H2 := New H H) R_Ptr.const hr_2
 unfold slices_CompactFunc_Ptr at hx
 refine ZG (ZB (ZA rfl rfl (ZH rfl) (ZD (ZC (ZG (ZG (ZB (ZA rfl rfl (ZF rfl) (ZA rfl rfl (Zm U53 rfl (RowOf.long hr_2)) (ZA rfl rfl (Zr rfl rfl) (ZD ?_)))))))))))
 refine ZC (ZU rfl (fun c_3 => ?_) (fun c_3 => ?_))
 ·
  replace hx := ZW c_3 hx
  refine ZG (ZB (ZA rfl rfl (ZF rfl) (ZA rfl rfl (ZH rfl) (ZD (ZC (ZV (ZR (ZT (vs := [.slice ar_2 nr_2 cr_2]) (K := [_]) (rst := []) (.inl rfl) rfl rfl (ZQ rfl rfl) (Za 0 rfl ZK) ?_))))))))
  obtain rfl := Option.some.inj hx
  exact ⟨ar_2, nr_2, cr_2, Kr_2, rfl, rfl, rfl, (Zd (Nat.zero_le _) hr_2), trivial⟩
 ·
  replace hx := ZX c_3 hx
  refine JC.skip (ZC (ZG (ZG (ZB (ZA rfl rfl (ZH rfl) (ZD (ZC ?_)))))))
  obtain ⟨t_4, ht_6, hx⟩ := ZM hx
  refine JC.cut (fun l o g => ∃ t_4a : Unit, l = [(0, .slice ar_2 nr_2 cr_2)] ∧ o = [Kr_2] ∧ H = g ∧ t_4 = .inl t_4a) ?_ ?_
  ·
   rintro _ _ _ ⟨t_4a, rfl, rfl, rfl, rfl⟩
   simp only [Sum.elim_inl] at hx
   refine ZC (ZG (ZB (ZA rfl rfl (ZF rfl) (ZA rfl rfl (ZH rfl) (ZD (ZC (ZV (ZT (vs := [.slice ar_2 nr_2 cr_2]) (K := [_]) (rst := []) (.inl rfl) rfl rfl (ZQ rfl rfl) (Za 0 rfl ZK) ?_))))))))
   obtain rfl := Option.some.inj hx
   exact ⟨ar_2, nr_2, cr_2, Kr_2, rfl, rfl, rfl, (Zd (Nat.zero_le _) hr_2), trivial⟩
  ·
   have hxo_5 := hx; clear hx; have hx := ht_6; clear ht_6
   refine JC.block (JC.loopI (fun n l o g => ∃ s_7 : Nat, l = [(0, .slice ar_2 nr_2 cr_2), (1, .func (.func 104) #[] #[]), (5, .int .i64 ((s_7 : Nat) : Int))] ∧ o = [Kr_2] ∧ H = g ∧ run (slices_CompactFunc_Ptr_l2 p_1) n s_7 = some t_4) FUEL ?_ ⟨1, rfl, rfl, rfl, hx⟩ ⟨rfl, rfl, rfl, trivial⟩ ?_)
   ·
    rintro _ _ _ ⟨s_7, rfl, rfl, rfl, hn_8⟩
    exact run_zero hn_8
   ·
    rintro n_9 _ _ _ ⟨s_7, rfl, rfl, rfl, hn_8⟩
    clear hx; obtain ⟨oo_11, hx, hd_10⟩ := Z0 hn_8
    unfold slices_CompactFunc_Ptr_l2 at hx
    refine ZG (ZG (ZB (ZA rfl rfl (ZF rfl) (ZA rfl rfl (ZF rfl) (ZA rfl rfl (Zm U53 rfl (RowOf.long hr_2)) (ZA rfl rfl (Zr rfl rfl) (ZD (ZC (ZU rfl (fun c_10 => ?_) (fun c_10 => ?_))))))))))
    ·
     replace hx := ZW c_10 hx
     refine JC.skip (ZC (ZG (JC.block (ZG (JC.draw (so := [_]) 11 rfl Mixed ⟨⟨0, rfl⟩, trivial⟩ (JA.val ⟨by kernel_rfl, by kernel_rfl⟩ (ZJ _) (i := 0) rfl ⟨by kernel_rfl, by kernel_rfl, rfl⟩ trivial (ZI (Hle.refl _) ⟨⟨0, rfl⟩, trivial⟩) (ZF rfl) rfl (JA.val ⟨by kernel_rfl, by kernel_rfl⟩ (ZJ _) (i := 1) rfl ⟨by kernel_rfl, by kernel_rfl, rfl⟩ trivial (ZI (Hle.refl _) ⟨⟨0, rfl⟩, trivial⟩) (ZF rfl) rfl (JA.val ⟨by kernel_rfl, by kernel_rfl⟩ (ZJ _) (i := 2) rfl ⟨by kernel_rfl, by kernel_rfl, rfl⟩ trivial (ZI (Hle.refl _) ⟨⟨0, rfl⟩, trivial⟩) (ZF rfl) rfl ?_))))))))
     obtain ⟨y_11, hN_12, hx⟩ := Zs hx
     obtain ⟨b_13, o_14, cs_15, cur_20, hK_21, hE_16, hR_17, hl_18, hc_19⟩ := RowOf.elem hr_2 hN_12
     subst hK_21
     obtain rfl := hR_17
     refine JA.val ⟨by kernel_rfl, by kernel_rfl⟩ (ZJ _) (i := 3) rfl ⟨by kernel_rfl, by kernel_rfl, rfl⟩ trivial (ZI (Hle.refl _) ⟨⟨0, rfl⟩, trivial⟩) (R.ix U53 S28 rfl rfl hE_16) rfl (JA.val ⟨by kernel_rfl, by kernel_rfl⟩ (ZJ _) (i := 4) rfl ⟨by kernel_rfl, by kernel_rfl, rfl⟩ trivial (ZI (Hle.refl _) ⟨⟨0, rfl⟩, trivial⟩) (R.ldoE 0 (cs := [.int .i64 y_11.At, .int .u32 (y_11.Birth.toNat : Int), .int .u32 (y_11.Iv.toNat : Int), .int .u32 (y_11.Tag.toNat : Int), .int .u32 (y_11.Sum.toNat : Int)]) (k := 0) (vs := [.int .i64 y_11.At, .int .u32 (y_11.Birth.toNat : Int), .int .u32 (y_11.Iv.toNat : Int), .int .u32 (y_11.Tag.toNat : Int), .int .u32 (y_11.Sum.toNat : Int)]) S28 rfl rfl hc_19 rfl rfl) rfl (JA.val ⟨by kernel_rfl, by kernel_rfl⟩ (ZJ _) (i := 5) rfl ⟨by kernel_rfl, by kernel_rfl, rfl⟩ trivial (ZI (Hle.refl _) ⟨⟨0, rfl⟩, trivial⟩) (ZF rfl) rfl (JA.val ⟨by kernel_rfl, by kernel_rfl⟩ (ZJ _) (i := 6) rfl ⟨by kernel_rfl, by kernel_rfl, rfl⟩ trivial (ZI (Hle.refl _) ⟨⟨0, rfl⟩, trivial⟩) (ZF rfl) rfl (JA.val ⟨by kernel_rfl, by kernel_rfl⟩ (ZJ _) (i := 7) rfl ⟨by kernel_rfl, by kernel_rfl, rfl⟩ trivial (ZI (Hle.refl _) ⟨⟨0, rfl⟩, trivial⟩) (R.sub_i rfl rfl) rfl ?_))))
     obtain ⟨y_22, hN_23, hx⟩ := Zs hx
     obtain ⟨b_24, o_25, cs_26, cur_31, hK_32, hE_27, hR_28, hl_29, hc_30⟩ := RowOf.elem hr_2 hN_23
     obtain ⟨rfl, rfl⟩ : b_13 = b_24 ∧ cur_20 = cur_31 := by simpa using hK_32
     obtain rfl := hR_28
     refine JA.val ⟨by kernel_rfl, by kernel_rfl⟩ (ZJ _) (i := 8) rfl ⟨by kernel_rfl, by kernel_rfl, rfl⟩ trivial (ZI (Hle.refl _) ⟨⟨0, rfl⟩, trivial⟩) (R.ix U53 S28 rfl rfl hE_27) rfl (JA.val ⟨by kernel_rfl, by kernel_rfl⟩ (ZJ _) (i := 9) rfl ⟨by kernel_rfl, by kernel_rfl, rfl⟩ trivial (ZI (Hle.refl _) ⟨⟨0, rfl⟩, trivial⟩) (R.ldoE 0 (cs := [.int .i64 y_22.At, .int .u32 (y_22.Birth.toNat : Int), .int .u32 (y_22.Iv.toNat : Int), .int .u32 (y_22.Tag.toNat : Int), .int .u32 (y_22.Sum.toNat : Int)]) (k := 0) (vs := [.int .i64 y_22.At, .int .u32 (y_22.Birth.toNat : Int), .int .u32 (y_22.Iv.toNat : Int), .int .u32 (y_22.Tag.toNat : Int), .int .u32 (y_22.Sum.toNat : Int)]) S28 rfl rfl hc_30 rfl rfl) rfl (JA.one (i := 10) (by kernel_rfl) (ZZ rfl trivial rfl (fun K hK => ?_))))
     obtain ⟨x_33, hr_34, hx⟩ := ZM hx
     refine ZS (vs := [_, _]) (args := [_, _]) (K := []) (rst := [_]) E104 rfl rfl rfl ZK (dead_Join_1_ok y_11 y_22 _ _ hr_34) rfl (fun u_35 Ku_35 Hu_35 hRu_35 hleu_35 hfu_35 => ?_)
     obtain ⟨rfl, rfl, rfl, -⟩ := hRu_35
     refine ZD (hK _ _ _ (ZI (Hle.refl _) ⟨⟨0, rfl⟩, trivial⟩) (Zt (by kernel_rfl) (ZC (ZU rfl (fun c_36 => ?_) (fun c_36 => ?_)))))
     ·
      replace hx := ZW c_36 hx
      refine ZG (ZB (ZA rfl rfl (ZF rfl) (ZA rfl rfl (ZF rfl) ?_)))
      obtain ⟨hb_38, hx⟩ := chk_some hx
      obtain ⟨vv_37, cv_37, h1v_37, h2v_37, h3v_37, hsv_37, hlv_37⟩ := RowOf.cutv hr_2 hb_38
      refine ZA rfl rfl (R.slc (cap := cv_37) (a := ((s_7 : Nat) : Int)) (b := (p_1.length : Int)) (c := (cv_37 : Int)) (m := p_1) (R := R_Ptr) U53 S28 rfl ⟨_, rfl⟩ rfl (by obtain ⟨ao, n, e, _⟩ := h1v_37; exact ⟨ao, n, e, rfl⟩) ⟨hb_38.1, hb_38.2.1, h2v_37⟩ h3v_37 (.inl rfl)) (ZA rfl rfl (ZH rfl) (ZD (ZC (ZG (ZG (ZB (ZA rfl rfl (ZH rfl) (ZD (ZC ?_)))))))))
      obtain ⟨t_39, ht_41, hx⟩ := ZM hx
      refine JC.cut (fun l o g => ∃ Kr_46 : Own, l = [(0, .slice ar_2 nr_2 cr_2), (5, .int .i64 t_39.2)] ∧ o = [Kr_46] ∧ H = g ∧ RowOf (New H H) R_Ptr 0 28 5 (.slice ar_2 nr_2 cr_2) t_39.1 Kr_46) ?_ ?_
      ·
       rintro _ _ _ ⟨Kr_46, rfl, rfl, rfl, hr_46⟩
       refine ZC (ZG (ZB (ZA rfl rfl (ZF rfl) (ZA rfl rfl (ZF rfl) ?_))))
       obtain ⟨hb_48, hx⟩ := chk_some hx
       obtain ⟨vv_47, cv_47, h1v_47, h2v_47, h3v_47, hsv_47, hlv_47⟩ := RowOf.cutv hr_46 hb_48
       refine ZA rfl rfl (R.slc (cap := cv_47) (a := t_39.2) (b := (t_39.1.length : Int)) (c := (cv_47 : Int)) (m := t_39.1) (R := R_Ptr) U53 S28 rfl ⟨_, rfl⟩ rfl (by obtain ⟨ao, n, e, _⟩ := h1v_47; exact ⟨ao, n, e, rfl⟩) ⟨hb_48.1, hb_48.2.1, h2v_47⟩ h3v_47 (.inl rfl)) ?_
       obtain ⟨m_49, hm_50, hx⟩ := clrO_some hx
       refine JL.clearR 0 (y := Ptr.mk 0 (0 : UInt32) (0 : UInt32) (0 : UInt32) (0 : UInt32)) U53 I28 rfl hr_46 rfl hsv_47 (fun _ => rfl) R_Ptr.one hm_50 (fun Kr_51 hr_51 hlr_51 => ZD (ZC (ZG (ZB (ZA rfl rfl (ZF rfl) (ZA rfl rfl (ZF rfl) ?_))))))
       obtain ⟨m_54, hm_55, hb_53, hx⟩ := slc_some hx
       obtain ⟨vv_52, cv_52, h1v_52, h2v_52, h3v_52, hsv_52⟩ := RowOf.pre hr_51 hm_55 hb_53
       refine ZA rfl rfl (R.slc (cap := cv_52) (a := 0) (b := t_39.2) (c := (cv_52 : Int)) (m := m_49) (R := R_Ptr) U53 S28 rfl rfl ⟨_, rfl⟩ (by obtain ⟨ao, n, e, _⟩ := h1v_52; exact ⟨ao, n, e, rfl⟩) ⟨hb_53.1, hb_53.2.1, h2v_52⟩ h3v_52 (.inl rfl)) ?_
       obtain ⟨av_52, cv_52', rfl⟩ := RowOf.val hsv_52
       refine ZA rfl rfl (ZH rfl) (ZD (ZC (ZV (Z4 (ZR ?_)))))
       obtain rfl := Zu hd_10 hx
       refine ZR (Z4 ?_)
       clear hx; have hx := hxo_5
       simp only [Sum.elim_inl, Sum.elim_inr] at hx
       refine ZR (ZR (ZT (vs := [.slice av_52 m_54.length cv_52']) (K := [_]) (rst := []) (.inl rfl) rfl rfl (ZQ rfl rfl) (Za 0 rfl ZK) ?_))
       obtain rfl := Option.some.inj hx
       exact ⟨av_52, m_54.length, cv_52', Kr_51, rfl, rfl, rfl, (Zd (Nat.zero_le _) hsv_52), trivial⟩
      ·
       have hxo_40 := hx; clear hx; have hx := ht_41; clear ht_41
       refine JC.block (JC.loopI (fun n l o g => ∃ s_42 : List Ptr × Int × Int, ∃ Kr_45 : Own, l = [(0, .slice ar_2 nr_2 cr_2), (1, .func (.func 104) #[] #[]), (5, .int .i64 s_42.2.1), (6, vv_37), (7, .int .i64 s_42.2.2)] ∧ o = [Kr_45] ∧ H = g ∧ run (slices_CompactFunc_Ptr_l1 p_1 s_7) n s_42 = some t_39 ∧ RowOf (New H H) R_Ptr 0 28 5 (.slice ar_2 nr_2 cr_2) s_42.1 Kr_45) FUEL ?_ ⟨(p_1, ((s_7 : Nat) : Int), 1), [(b_13, .cells cur_20 28 (0, 0))], rfl, rfl, rfl, hx, hr_2⟩ ⟨rfl, rfl, rfl, rfl, rfl, trivial⟩ ?_)
       ·
        rintro _ _ _ ⟨s_42, Kr_45, rfl, rfl, rfl, hn_43, hr_45⟩
        exact run_zero hn_43
       ·
        rintro n_44 _ _ _ ⟨s_42, Kr_45, rfl, rfl, rfl, hn_43, hr_45⟩
        clear hx; obtain ⟨oo_47, hx, hd_46⟩ := Z0 hn_43
        unfold slices_CompactFunc_Ptr_l1 at hx
        refine ZG (ZG (ZB (ZA rfl rfl (ZF rfl) (ZA rfl rfl (ZF rfl) (ZA rfl rfl (R.lenE U53 rfl hlv_37) (ZA rfl rfl (Zr rfl rfl) (ZD (ZC (ZU rfl (fun c_46 => ?_) (fun c_46 => ?_))))))))))
        ·
         replace hx := ZW c_46 hx
         refine JC.skip (ZC (ZG (JC.block (ZG (JC.draw (so := [_]) 12 rfl Mixed ⟨⟨0, rfl⟩, trivial⟩ (JA.val ⟨by kernel_rfl, by kernel_rfl⟩ (ZJ _) (i := 0) rfl ⟨by kernel_rfl, by kernel_rfl, rfl⟩ trivial (ZI (Hle.refl _) ⟨⟨0, rfl⟩, trivial⟩) (ZF rfl) rfl (JA.val ⟨by kernel_rfl, by kernel_rfl⟩ (ZJ _) (i := 1) rfl ⟨by kernel_rfl, by kernel_rfl, rfl⟩ trivial (ZI (Hle.refl _) ⟨⟨0, rfl⟩, trivial⟩) (ZF rfl) rfl (JA.val ⟨by kernel_rfl, by kernel_rfl⟩ (ZJ _) (i := 2) rfl ⟨by kernel_rfl, by kernel_rfl, rfl⟩ trivial (ZI (Hle.refl _) ⟨⟨0, rfl⟩, trivial⟩) (ZF rfl) rfl ?_))))))))
         obtain ⟨hp_47, hx⟩ := chk_some hx
         obtain ⟨y_48, hN_49, hx⟩ := Zs hx
         obtain ⟨b_50, o_51, cs_52, cur_57, hK_58, hE_53, hR_54, hl_55, hc_56⟩ := RowOf.elem hr_45 hN_49
         subst hK_58
         obtain rfl := hR_54
         refine JA.val ⟨by kernel_rfl, by kernel_rfl⟩ (ZJ _) (i := 3) rfl ⟨by kernel_rfl, by kernel_rfl, rfl⟩ trivial (ZI (Hle.refl _) ⟨⟨0, rfl⟩, trivial⟩) (R.ix U53 S28 rfl rfl (ElemAt.sub hsv_37 hE_53 (i := s_42.2.2) (by have := hb_38; have := hp_47; omega) (by have := hb_38; have := hp_47; omega))) rfl (JA.val ⟨by kernel_rfl, by kernel_rfl⟩ (ZJ _) (i := 4) rfl ⟨by kernel_rfl, by kernel_rfl, rfl⟩ trivial (ZI (Hle.refl _) ⟨⟨0, rfl⟩, trivial⟩) (R.ldoE 0 (cs := [.int .i64 y_48.At, .int .u32 (y_48.Birth.toNat : Int), .int .u32 (y_48.Iv.toNat : Int), .int .u32 (y_48.Tag.toNat : Int), .int .u32 (y_48.Sum.toNat : Int)]) (k := 0) (vs := [.int .i64 y_48.At, .int .u32 (y_48.Birth.toNat : Int), .int .u32 (y_48.Iv.toNat : Int), .int .u32 (y_48.Tag.toNat : Int), .int .u32 (y_48.Sum.toNat : Int)]) S28 rfl rfl hc_56 rfl rfl) rfl (JA.val ⟨by kernel_rfl, by kernel_rfl⟩ (ZJ _) (i := 5) rfl ⟨by kernel_rfl, by kernel_rfl, rfl⟩ trivial (ZI (Hle.refl _) ⟨⟨0, rfl⟩, trivial⟩) (ZF rfl) rfl (JA.val ⟨by kernel_rfl, by kernel_rfl⟩ (ZJ _) (i := 6) rfl ⟨by kernel_rfl, by kernel_rfl, rfl⟩ trivial (ZI (Hle.refl _) ⟨⟨0, rfl⟩, trivial⟩) (ZF rfl) rfl (JA.val ⟨by kernel_rfl, by kernel_rfl⟩ (ZJ _) (i := 7) rfl ⟨by kernel_rfl, by kernel_rfl, rfl⟩ trivial (ZI (Hle.refl _) ⟨⟨0, rfl⟩, trivial⟩) (R.sub_i rfl rfl) rfl ?_))))
         obtain ⟨hp_59, hx⟩ := chk_some hx
         obtain ⟨y_60, hN_61, hx⟩ := Zs hx
         obtain ⟨b_62, o_63, cs_64, cur_69, hK_70, hE_65, hR_66, hl_67, hc_68⟩ := RowOf.elem hr_45 hN_61
         obtain ⟨rfl, rfl⟩ : b_50 = b_62 ∧ cur_57 = cur_69 := by simpa using hK_70
         obtain rfl := hR_66
         refine JA.val ⟨by kernel_rfl, by kernel_rfl⟩ (ZJ _) (i := 8) rfl ⟨by kernel_rfl, by kernel_rfl, rfl⟩ trivial (ZI (Hle.refl _) ⟨⟨0, rfl⟩, trivial⟩) (R.ix U53 S28 rfl rfl (ElemAt.sub hsv_37 hE_65 (i := w64 (s_42.2.2 - 1)) (by have := hb_38; have := hp_59; omega) (by have := hb_38; have := hp_59; omega))) rfl (JA.val ⟨by kernel_rfl, by kernel_rfl⟩ (ZJ _) (i := 9) rfl ⟨by kernel_rfl, by kernel_rfl, rfl⟩ trivial (ZI (Hle.refl _) ⟨⟨0, rfl⟩, trivial⟩) (R.ldoE 0 (cs := [.int .i64 y_60.At, .int .u32 (y_60.Birth.toNat : Int), .int .u32 (y_60.Iv.toNat : Int), .int .u32 (y_60.Tag.toNat : Int), .int .u32 (y_60.Sum.toNat : Int)]) (k := 0) (vs := [.int .i64 y_60.At, .int .u32 (y_60.Birth.toNat : Int), .int .u32 (y_60.Iv.toNat : Int), .int .u32 (y_60.Tag.toNat : Int), .int .u32 (y_60.Sum.toNat : Int)]) S28 rfl rfl hc_68 rfl rfl) rfl (JA.one (i := 10) (by kernel_rfl) (ZZ rfl trivial rfl (fun K hK => ?_))))
         obtain ⟨x_71, hr_72, hx⟩ := ZM hx
         refine ZS (vs := [_, _]) (args := [_, _]) (K := []) (rst := [_]) E104 rfl rfl rfl ZK (dead_Join_1_ok y_48 y_60 _ _ hr_72) rfl (fun u_73 Ku_73 Hu_73 hRu_73 hleu_73 hfu_73 => ?_)
         obtain ⟨rfl, rfl, rfl, -⟩ := hRu_73
         refine ZD (hK _ _ _ (ZI (Hle.refl _) ⟨⟨0, rfl⟩, trivial⟩) (JA.val ⟨by kernel_rfl, by kernel_rfl⟩ (ZJ _) (i := 11) rfl ⟨by kernel_rfl, by kernel_rfl, rfl⟩ trivial (ZI (Hle.refl _) ⟨⟨0, rfl⟩, trivial⟩) (R.not rfl) rfl (Zt (by kernel_rfl) (ZC (ZU rfl (fun c_74 => ?_) (fun c_74 => ?_))))))
         ·
          replace hx := ZW c_74 hx
          refine ZG (ZB (ZA rfl rfl (ZF rfl) (ZA rfl rfl (ZF rfl) (ZA rfl rfl (ZF rfl) (ZA rfl rfl (ZF rfl) ?_)))))
          obtain ⟨hp_75, hx⟩ := chk_some hx
          obtain ⟨y_76, hN_77, hx⟩ := Zs hx
          obtain ⟨b_78, o_79, cs_80, cur_85, hK_86, hE_81, hR_82, hl_83, hc_84⟩ := RowOf.elem hr_45 hN_77
          obtain ⟨rfl, rfl⟩ : b_50 = b_78 ∧ cur_57 = cur_85 := by simpa using hK_86
          obtain rfl := hR_82
          refine ZA rfl rfl (R.ix U53 S28 rfl rfl (ElemAt.sub hsv_37 hE_81 (i := s_42.2.2) (by have := hb_38; have := hp_75; omega) (by have := hb_38; have := hp_75; omega))) (ZA rfl rfl (R.ldoE 0 (cs := [.int .i64 y_76.At, .int .u32 (y_76.Birth.toNat : Int), .int .u32 (y_76.Iv.toNat : Int), .int .u32 (y_76.Tag.toNat : Int), .int .u32 (y_76.Sum.toNat : Int)]) (k := 0) (vs := [.int .i64 y_76.At, .int .u32 (y_76.Birth.toNat : Int), .int .u32 (y_76.Iv.toNat : Int), .int .u32 (y_76.Tag.toNat : Int), .int .u32 (y_76.Sum.toNat : Int)]) S28 rfl rfl hc_84 rfl rfl) ?_)
          obtain ⟨hp_87, hx⟩ := chk_some hx
          obtain ⟨b_88, o_89, hE_90⟩ := RowOf.place hr_45 hp_87
          refine ZA rfl rfl (R.ix U53 S28 rfl rfl hE_90) ?_
          obtain ⟨m_91, hm_92, hi_93, hx⟩ := setI_some hx
          refine JL.stE 0 (k := s_42.2.1) (y := y_76) S28 rfl hr_45 rfl hE_90 rfl rfl (rfl) R_Ptr.one hm_92 (fun Kr_94 hr_94 hlr_94 => ZD (ZC (ZB (ZA rfl rfl (ZF rfl) (ZA rfl rfl (R.add_i rfl rfl) (ZA rfl rfl (ZH rfl) (ZD (Zk (ZC (ZB (ZA rfl rfl (ZF rfl) ?_)))))))))))
          refine ZA rfl rfl (R.add_i rfl rfl) (ZA rfl rfl (ZH rfl) (ZD ?_))
          replace hx := Zo hd_46 hx
          exact JN.cut ⟨(m_91, w64 (s_42.2.1 + 1), w64 (s_42.2.2 + 1)), Kr_94, rfl, rfl, rfl, hx, hr_94⟩ ⟨rfl, rfl, rfl, rfl, rfl, trivial⟩ rfl rfl
         ·
          replace hx := ZX c_74 hx
          refine JC.skip (Zk (ZC (ZB (ZA rfl rfl (ZF rfl) (ZA rfl rfl (R.add_i rfl rfl) (ZA rfl rfl (ZH rfl) (ZD ?_)))))))
          replace hx := Zo hd_46 hx
          exact JN.cut ⟨(s_42.1, s_42.2.1, w64 (s_42.2.2 + 1)), [(b_50, .cells cur_57 28 (0, 0))], rfl, rfl, rfl, hx, hr_45⟩ ⟨rfl, rfl, rfl, rfl, rfl, trivial⟩ rfl rfl
        ·
         replace hx := ZX c_46 hx
         refine JC.exit (Ze ?_)
         obtain rfl := Zu hd_46 hx
         refine Ze (Zl ?_)
         exact JN.cut ⟨Kr_45, rfl, rfl, rfl, hr_45⟩ ⟨rfl, rfl, trivial⟩ rfl rfl
     ·
      replace hx := ZX c_36 hx
      refine JC.skip (Zk (ZC (ZB (ZA rfl rfl (ZF rfl) (ZA rfl rfl (R.inc rfl rfl (of_decide_eq_true c_10) (RowOf.lenI hr_2)) (ZA rfl rfl (ZH rfl) (ZD ?_)))))))
      replace hx := Zo hd_10 hx
      exact JN.cut ⟨s_7 + 1, rfl, rfl, rfl, hx⟩ ⟨rfl, rfl, rfl, trivial⟩ rfl rfl
    ·
     replace hx := ZX c_10 hx
     refine JC.exit (Ze ?_)
     obtain rfl := Zu hd_10 hx
     refine Ze (Zl ?_)
     exact JN.cut ⟨(), rfl, rfl, rfl, rfl⟩ ⟨rfl, trivial⟩ rfl rfl

set_option maxHeartbeats 8000000 in
theorem dead_Join_ok (p_1 : List Ptr) (p_3 : List Ptr) (H : Heaplet) {aa_2 : Option Addr} {na_2 : Nat} {ca_2 : Nat} {aa_4 : Option Addr} {na_4 : Nat} {ca_4 : Nat} (ha_2 : IsSlice H R_Ptr 5 (.slice aa_2 na_2 ca_2) p_1) (ha_4 : IsSlice H R_Ptr 5 (.slice aa_4 na_4 ca_4) p_3) (r : List Ptr × Int) (hx : dead_Join p_1 p_3 = some r) :
  Does Try.prog 60 #[.slice aa_2 na_2 ca_2, .slice aa_4 na_4 ca_4] [] H (fun u K' H' => ∃ ao0 : Option Addr, ∃ n0 : Nat, ∃ cap0 : Nat, ∃ K0 : Own, u = .tuple #[.slice ao0 n0 cap0, .int .i64 r.2] ∧ K' = [K0] ∧ H = H' ∧ RowOf (New H H) R_Ptr 0 28 5 (.slice ao0 n0 cap0) r.1 K0 ∧ (∀ p ∈ K0, p.1 ∉ ids (List.flatten [])) ∧ True) := by
 refine Does.enterL (vs := [.slice aa_2 na_2 ca_2, .slice aa_4 na_4 ca_4]) (l := [(0, .slice aa_2 na_2 ca_2), (1, .slice aa_4 na_4 ca_4)]) Try.func60 rfl rfl ⟨rfl, rfl, trivial⟩ (fun w hlt => ?_)
 unfold dead_Join at hx
 refine ZG (ZB (ZA rfl rfl (ZH rfl) (ZA rfl rfl (ZH rfl) (ZD (ZC (ZG (ZG (ZB (ZA rfl rfl (ZF rfl) ?_)))))))))
 obtain ⟨x_5, hr_6, hx⟩ := ZM hx
 refine ZS (vs := [_]) (args := [_]) (K := []) (rst := []) E35 rfl rfl rfl ZK (dead_Check_ok p_1 _ ha_2 _ hr_6) rfl (fun u_7 Ku_7 Hu_7 hRu_7 hleu_7 hfu_7 => ?_)
 obtain ⟨rfl, rfl, rfl, -⟩ := hRu_7
 refine ZA rfl rfl (R.neq_i rfl rfl) (ZA rfl rfl (ZF rfl) (Zh (t := 10) rfl (fun c_8 => ?_) (fun c_8 => ?_)))
 ·
  replace hx := ZW c_8 hx
  refine ZE rfl rfl rfl rfl rfl (ZE rfl rfl rfl rfl rfl (ZE rfl rfl rfl rfl rfl (ZA rfl rfl (Zj rfl rfl) (ZD (ZC (Z2 rfl (ZG (ZB (ZA rfl rfl (ZH rfl) (ZA rfl rfl (ZH rfl) (ZD ?_)))))))))))
  refine ZC (ZV (ZR (Zn (ZT (vs := [.slice none 0 0, .int .i64 8]) (K := [_]) (rst := []) (.inl rfl) rfl rfl (ZQ rfl (ZQ rfl rfl)) (Za 0 rfl ZK) ?_))))
  obtain rfl := Option.some.inj hx
  exact ⟨none, 0, 0, [], rfl, rfl, rfl, (Zb _ _ _ _ _), (fun p hp => by cases hp), trivial⟩
 ·
  replace hx := ZX c_8 hx
  refine ZP rfl rfl rfl (ZA rfl rfl (ZF rfl) (ZP rfl rfl rfl ?_))
  obtain ⟨x_9, hr_10, hx⟩ := ZM hx
  refine ZS (vs := [_]) (args := [_]) (K := []) (rst := []) E35 rfl rfl rfl ZK (dead_Check_ok p_3 _ ha_4 _ hr_10) rfl (fun u_11 Ku_11 Hu_11 hRu_11 hleu_11 hfu_11 => ?_)
  obtain ⟨rfl, rfl, rfl, -⟩ := hRu_11
  refine ZP rfl rfl rfl (ZA rfl rfl (R.neq_i rfl rfl) (ZA rfl rfl (ZL rfl rfl) (ZD (ZC (ZU rfl (fun c_12 => ?_) (fun c_12 => ?_))))))
  ·
   replace hx := ZW c_12 hx
   refine ZG (ZB (ZA rfl rfl (ZH rfl) (ZA rfl rfl (ZH rfl) (ZD (ZC (ZV (ZR (Zn (ZT (vs := [.slice none 0 0, .int .i64 8]) (K := [_]) (rst := []) (.inl rfl) rfl rfl (ZQ rfl (ZQ rfl rfl)) (Za 0 rfl ZK) ?_)))))))))
   obtain rfl := Option.some.inj hx
   exact ⟨none, 0, 0, [], rfl, rfl, rfl, (Zb _ _ _ _ _), (fun p hp => by cases hp), trivial⟩
  ·
   replace hx := ZX c_12 hx
   refine JC.skip (ZC (ZG (ZB (ZA rfl rfl (ZF rfl) (ZA rfl rfl (ZF rfl) (Zz (HF := H) (R := (RSl R_Ptr 5)) (ls := [p_1, p_3]) (vs := [.slice aa_2 na_2 ca_2, .slice aa_4 na_4 ca_4]) U192 I53 rfl rfl (⟨_, _, rfl, rfl, ⟨_, rfl, ha_2⟩, ⟨_, _, rfl, rfl, ⟨_, rfl, ha_4⟩, rfl⟩⟩) RSl.one rfl rfl rfl (by simp [maxLen]) rfl (fun vr_13 Kr_13 hr_13 => ?_)))))))
   obtain ⟨ar_13, cr_13, rfl⟩ := RowOf.val hr_13
   obtain ⟨x_17, hr_18, hx⟩ := ZM hx
   refine JL.callL3 (vs := [_]) E100 rfl rfl (fun H_16 hle_15 hl_14 => slices_Concat_Ptr_ok ([p_1, p_3]) _ (Lent.row' 0 hl_14 (RSl.mono R_Ptr.mono) hle_15 rfl hr_13) _ hr_18) rfl (fun _ _ _ _ hR_20 hf_21 => ?_)
   obtain ⟨ar_19, nr_19, cr_19, Kr_19, rfl, rfl, rfl, hr_19, -, -⟩ := hR_20
   replace hr_19 := RowOf.base (Zc (H2 := New H H) R_Ptr.const hr_19) (fun p hp => hf_21 p (Zg 0 rfl hp))
   refine ZA rfl rfl (ZH rfl) (ZD (ZC (ZG (ZB (ZA rfl rfl (ZF rfl) ?_)))))
   obtain ⟨x_22, hr_23, hx⟩ := ZM hx
   refine ZS (vs := [_, _]) (args := [_, _]) (K := [_]) (rst := [_]) E101 rfl rfl rfl (Za 0 rfl ZK) (slices_SortFunc_Ptr_dead_order_ok x_17 _ (Zd (Nat.zero_le _) (Zc R_Ptr.const hr_19)) _ hr_23) rfl (fun u_24 Ku_24 Hu_24 hRu_24 hleu_24 hfu_24 => ?_)
   obtain ⟨Kr_25, rfl, rfl, rfl, hr_25, -⟩ := hRu_24
   replace hr_25 := (RowOf.up (Zc (H2 := New H H) R_Ptr.const hr_25) (fun p hp => hfu_24 p (Zg 0 rfl hp)) (ids_cons (RowOf.ge hr_19) ids_nil))
   refine ZD (ZC (ZG (ZG (ZB (ZA rfl rfl (ZF rfl) ?_)))))
   obtain ⟨x_29, hr_30, hx⟩ := ZM hx
   refine JL.callL3 (vs := [_]) E103 rfl rfl (fun H_28 hle_27 hl_26 => slices_Clone_Ptr_ok x_22 _ (Lent.row' 0 hl_26 R_Ptr.mono hle_27 rfl (hr_25.old R_Ptr.mono)) _ hr_30) rfl (fun _ _ _ _ hR_32 hf_33 => ?_)
   obtain ⟨ar_31, nr_31, cr_31, Kr_31, rfl, rfl, rfl, hr_31, -, -⟩ := hR_32
   replace hr_31 := RowOf.base (Zc (H2 := New H H) R_Ptr.const hr_31) (fun p hp => hf_33 p (Zg 0 rfl hp))
   obtain ⟨x_34, hr_35, hx⟩ := ZM hx
   refine ZS (vs := [_, _]) (args := [_, _]) (K := [_]) (rst := [_, _]) E102 rfl rfl rfl (Za 0 rfl ZK) (slices_CompactFunc_Ptr_ok x_29 _ (Zd (Nat.zero_le _) (Zc R_Ptr.const hr_31)) _ hr_35) rfl (fun u_36 Ku_36 Hu_36 hRu_36 hleu_36 hfu_36 => ?_)
   obtain ⟨ar_37, nr_37, cr_37, Kr_37, rfl, rfl, rfl, hr_37, -⟩ := hRu_36
   replace hr_37 := (RowOf.up (Zc (H2 := New H H) R_Ptr.const hr_37) (fun p hp => hfu_36 p (Zg 0 rfl hp)) (ids_cons (RowOf.ge hr_31) ids_nil))
   refine ZA rfl rfl (Zm U53 rfl (RowOf.long hr_37)) (ZA rfl rfl (ZF rfl) (ZA rfl rfl (Zm U53 rfl (RowOf.long hr_25)) (ZA rfl rfl (Zr rfl rfl) (ZD (ZC (ZU rfl (fun c_38 => ?_) (fun c_38 => ?_)))))))
   ·
    replace hx := ZW c_38 hx
    refine ZG (ZB (ZA rfl rfl (ZH rfl) (ZA rfl rfl (ZH rfl) (ZD (ZC (ZV (ZR (Zn (ZT (vs := [.slice none 0 0, .int .i64 2]) (K := [_]) (rst := [_, _, _]) (.inl rfl) rfl rfl (ZQ rfl (ZQ rfl rfl)) (Za 0 rfl ZK) ?_)))))))))
    obtain rfl := Option.some.inj hx
    exact ⟨none, 0, 0, [], rfl, rfl, rfl, (Zb _ _ _ _ _), (fun p hp => by cases hp), trivial⟩
   ·
    replace hx := ZX c_38 hx
    refine JC.skip (ZC (ZG (ZG (ZB (ZA rfl rfl (ZF rfl) (ZA rfl rfl (Zm U53 rfl (RowOf.long hr_25)) (ZA rfl rfl (R.gtr_i rfl rfl) (ZD (ZC (ZU rfl (fun c_39 => ?_) (fun c_39 => ?_)))))))))))
    ·
     replace hx := ZW c_39 hx
     refine ZG (ZB (ZA rfl rfl (ZH rfl) (ZA rfl rfl (ZH rfl) (ZD (ZC (ZV (ZR (Zn (ZT (vs := [.slice none 0 0, .int .i64 9]) (K := [_]) (rst := [_, _, _]) (.inl rfl) rfl rfl (ZQ rfl (ZQ rfl rfl)) (Za 0 rfl ZK) ?_)))))))))
     obtain rfl := Option.some.inj hx
     exact ⟨none, 0, 0, [], rfl, rfl, rfl, (Zb _ _ _ _ _), (fun p hp => by cases hp), trivial⟩
    ·
     replace hx := ZX c_39 hx
     refine JC.skip (ZC (ZG (ZB (ZA rfl rfl (ZF rfl) (ZA rfl rfl (ZH rfl) (ZA rfl rfl (ZH rfl) (ZD (ZC (ZV (ZT (vs := [.slice ar_19 nr_19 cr_19, .int .i64 0]) (K := [_]) (rst := [_, _]) (.inl rfl) rfl rfl (ZQ rfl (ZQ rfl rfl)) (Za 1 rfl ZK) ?_))))))))))
     obtain rfl := Option.some.inj hx
     exact ⟨ar_19, nr_19, cr_19, Kr_25, rfl, rfl, rfl, (Zd (Nat.zero_le _) hr_25), (Zx hr_25 hlt), trivial⟩

set_option maxHeartbeats 8000000 in
theorem dead_Add_ok (p_1 : List Ptr) (p_3 : Ptr) (H : Heaplet) {aa_2 : Option Addr} {na_2 : Nat} {ca_2 : Nat} (ha_2 : IsSlice H R_Ptr 5 (.slice aa_2 na_2 ca_2) p_1) (r : List Ptr × Int) (hx : dead_Add p_1 p_3 = some r) :
  Does Try.prog 29 #[.slice aa_2 na_2 ca_2, .agg #[.int .i64 p_3.At, .int .u32 (p_3.Birth.toNat : Int), .int .u32 (p_3.Iv.toNat : Int), .int .u32 (p_3.Tag.toNat : Int), .int .u32 (p_3.Sum.toNat : Int)]] [] H (fun u K' H' => ∃ ao0 : Option Addr, ∃ n0 : Nat, ∃ cap0 : Nat, ∃ K0 : Own, u = .tuple #[.slice ao0 n0 cap0, .int .i64 r.2] ∧ K' = [K0] ∧ H = H' ∧ RowOf (New H H) R_Ptr 0 28 5 (.slice ao0 n0 cap0) r.1 K0 ∧ (∀ p ∈ K0, p.1 ∉ ids (List.flatten [])) ∧ True) := by
 refine Does.enterL (vs := [.slice aa_2 na_2 ca_2, .agg #[.int .i64 p_3.At, .int .u32 (p_3.Birth.toNat : Int), .int .u32 (p_3.Iv.toNat : Int), .int .u32 (p_3.Tag.toNat : Int), .int .u32 (p_3.Sum.toNat : Int)]]) (l := [(0, .slice aa_2 na_2 ca_2), (1, .agg #[.int .i64 p_3.At, .int .u32 (p_3.Birth.toNat : Int), .int .u32 (p_3.Iv.toNat : Int), .int .u32 (p_3.Tag.toNat : Int), .int .u32 (p_3.Sum.toNat : Int)])]) Try.func29 rfl rfl ⟨rfl, rfl, trivial⟩ (fun w hlt => ?_)
 unfold dead_Add at hx
 refine ZG (ZB (JL.box rfl rfl (fun b_4 hb_4 => ZA rfl rfl (ZH rfl) (ZA rfl rfl (ZH rfl) (ZD (ZC (ZG (ZG (ZB (ZA rfl rfl (Z1 0 (vs := [.int .i64 p_3.At, .int .u32 (p_3.Birth.toNat : Int), .int .u32 (p_3.Iv.toNat : Int), .int .u32 (p_3.Tag.toNat : Int), .int .u32 (p_3.Sum.toNat : Int)]) S28 rfl rfl rfl rfl) (Zz (HF := (New H H)) (R := R_Ptr) (ls := [p_3]) (vs := [.agg #[.int .i64 p_3.At, .int .u32 (p_3.Birth.toNat : Int), .int .u32 (p_3.Iv.toNat : Int), .int .u32 (p_3.Tag.toNat : Int), .int .u32 (p_3.Sum.toNat : Int)]]) U53 I28 rfl rfl (⟨_, _, rfl, rfl, rfl, rfl⟩) R_Ptr.one rfl rfl rfl (by simp [maxLen]) rfl (fun vr_5 Kr_5 hr_5 => ?_))))))))))))
 obtain ⟨ar_5, cr_5, rfl⟩ := RowOf.val hr_5
 obtain ⟨x_9, hr_10, hx⟩ := ZM hx
 refine JL.callL2 (vs := [_]) (v := .int .i64 x_9) E35 rfl rfl (fun H_8 hle_7 hl_6 => Does.mono (dead_Check_ok ([p_3]) _ (Lent.row' 0 hl_6 R_Ptr.mono hle_7 rfl (hr_5.old R_Ptr.mono)) _ hr_10) (fun _ _ _ h => h.1)) rfl (ZA rfl rfl (R.neq_i rfl rfl) (ZD (ZC (ZU rfl (fun c_11 => ?_) (fun c_11 => ?_)))))
 ·
  replace hx := ZW c_11 hx
  refine ZG (ZB (ZA rfl rfl (ZH rfl) (ZA rfl rfl (ZH rfl) (ZD (ZC (ZV (ZR (Zn (ZT (vs := [.slice none 0 0, .int .i64 8]) (K := [_]) (rst := [_, _]) (.inl rfl) rfl rfl (ZQ rfl (ZQ rfl rfl)) (Za 0 rfl ZK) ?_)))))))))
  obtain rfl := Option.some.inj hx
  exact ⟨none, 0, 0, [], rfl, rfl, rfl, (Zb _ _ _ _ _), (fun p hp => by cases hp), trivial⟩
 ·
  replace hx := ZX c_11 hx
  refine JC.skip (ZC (ZG (ZB (ZA rfl rfl (ZF rfl) (ZA rfl rfl (Z1 1 (vs := [.int .i64 p_3.At, .int .u32 (p_3.Birth.toNat : Int), .int .u32 (p_3.Iv.toNat : Int), .int .u32 (p_3.Tag.toNat : Int), .int .u32 (p_3.Sum.toNat : Int)]) S28 rfl rfl rfl rfl) (Zz (HF := (New H H)) (R := R_Ptr) (ls := [p_3]) (vs := [.agg #[.int .i64 p_3.At, .int .u32 (p_3.Birth.toNat : Int), .int .u32 (p_3.Iv.toNat : Int), .int .u32 (p_3.Tag.toNat : Int), .int .u32 (p_3.Sum.toNat : Int)]]) U53 I28 rfl rfl (⟨_, _, rfl, rfl, rfl, rfl⟩) R_Ptr.one rfl rfl rfl (by simp [maxLen]) rfl (fun vr_12 Kr_12 hr_12 => ?_)))))))
  obtain ⟨ar_12, cr_12, rfl⟩ := RowOf.val hr_12
  obtain ⟨x_16, hr_17, hx⟩ := ZM hx
  refine JL.callL3 (vs := [_, _]) E60 rfl rfl (fun H_15 hle_14 hl_13 => dead_Join_ok p_1 ([p_3]) _ (IsSlice.mono R_Ptr.mono hle_14 ha_2) (Lent.row' 0 hl_13 R_Ptr.mono hle_14 rfl (hr_12.old R_Ptr.mono)) _ hr_17) rfl (fun _ _ _ _ hR_19 hf_20 => ?_)
  obtain ⟨ar_18, nr_18, cr_18, Kr_18, rfl, rfl, rfl, hr_18, -, -⟩ := hR_19
  replace hr_18 := RowOf.base (Zc (H2 := New H H) R_Ptr.const hr_18) (fun p hp => hf_20 p (Zg 0 rfl hp))
  refine ZA rfl rfl (R.extract rfl rfl) (ZA rfl rfl (R.extract rfl rfl) (ZA rfl rfl (ZH rfl) (ZA rfl rfl (ZH rfl) (ZD (ZC (ZV (ZT (vs := [.slice ar_18 nr_18 cr_18, .int .i64 x_16.2]) (K := [_]) (rst := [_, _, _]) (.inl rfl) rfl rfl (ZQ rfl (ZQ rfl rfl)) (Za 0 rfl ZK) ?_)))))))
  obtain rfl := Option.some.inj hx
  exact ⟨ar_18, nr_18, cr_18, Kr_18, rfl, rfl, rfl, (Zd (Nat.zero_le _) hr_18), (Zx hr_18 hlt), trivial⟩

set_option maxHeartbeats 8000000 in
theorem dead_Split_ok (p_1 : List Ptr) (p_3 : UInt32) (H : Heaplet) {aa_2 : Option Addr} {na_2 : Nat} {ca_2 : Nat} (ha_2 : IsSlice H R_Ptr 5 (.slice aa_2 na_2 ca_2) p_1) (r : List Ptr × List Ptr × Int) (hx : dead_Split p_1 p_3 = some r) :
  Does Try.prog 31 #[.slice aa_2 na_2 ca_2, .int .u32 (p_3.toNat : Int)] [] H (fun u K' H' => ∃ ao0 : Option Addr, ∃ n0 : Nat, ∃ cap0 : Nat, ∃ K0 : Own, ∃ ao1 : Option Addr, ∃ n1 : Nat, ∃ cap1 : Nat, ∃ K1 : Own, u = .tuple #[.slice ao0 n0 cap0, .slice ao1 n1 cap1, .int .i64 r.2.2] ∧ K' = [K0, K1] ∧ H = H' ∧ RowOf (New H H) R_Ptr 0 28 5 (.slice ao0 n0 cap0) r.1 K0 ∧ (∀ p ∈ K0, p.1 ∉ ids (List.flatten [])) ∧ RowOf (New H H) R_Ptr 0 28 5 (.slice ao1 n1 cap1) r.2.1 K1 ∧ (∀ p ∈ K1, p.1 ∉ ids (List.flatten [])) ∧ True) := by
 refine Does.enterL (vs := [.slice aa_2 na_2 ca_2, .int .u32 (p_3.toNat : Int)]) (l := [(0, .slice aa_2 na_2 ca_2), (1, .int .u32 (p_3.toNat : Int))]) Try.func31 rfl rfl ⟨rfl, rfl, trivial⟩ (fun w hlt => ?_)
 unfold dead_Split at hx
 refine ZG (ZB (JL.alloc Z53 rfl (fun b_4 hb_4 => JL.alloc Z53 rfl (fun b_5 hb_5 => ZA rfl rfl (ZH rfl) (ZD (ZC (ZG (ZG (ZB (ZA rfl rfl (ZF rfl) ?_))))))))))
 obtain ⟨x_6, hr_7, hx⟩ := ZM hx
 refine ZS (vs := [_]) (args := [_]) (K := []) (rst := [_, _]) E35 rfl rfl rfl ZK (dead_Check_ok p_1 _ ha_2 _ hr_7) rfl (fun u_8 Ku_8 Hu_8 hRu_8 hleu_8 hfu_8 => ?_)
 obtain ⟨rfl, rfl, rfl, -⟩ := hRu_8
 refine ZA rfl rfl (ZH rfl) (ZD (ZC (ZG (ZB (ZA rfl rfl (ZF rfl) (ZA rfl rfl (R.neq_i rfl rfl) (ZD (ZC (ZU rfl (fun c_9 => ?_) (fun c_9 => ?_))))))))))
 ·
  replace hx := ZW c_9 hx
  refine ZG (ZB (ZA rfl rfl (ZF rfl) (ZN 1 S53 rfl rfl rfl rfl rfl (Nat.le_of_ble_eq_true rfl) (ZN 0 S53 rfl rfl rfl rfl rfl (Nat.le_of_ble_eq_true rfl) (ZA rfl rfl (ZH rfl) (ZD (ZC (ZV (ZR (Zn (Zn ?_)))))))))))
  refine ZT (vs := [.slice none 0 0, .slice none 0 0, .int .i64 x_6]) (K := [_, _]) (rst := [_, _]) (.inl rfl) rfl rfl (Res.cell1 3 rfl rfl S53 rfl (Res.cell1 2 rfl rfl S53 rfl (ZQ rfl rfl))) (Za 0 rfl (Za 0 rfl ZK)) ?_
  obtain rfl := Option.some.inj hx
  exact ⟨none, 0, 0, [], none, 0, 0, [], rfl, rfl, rfl, (Zb _ _ _ _ _), (fun p hp => by cases hp), (Zb _ _ _ _ _), (fun p hp => by cases hp), trivial⟩
 ·
  replace hx := ZX c_9 hx
  refine JC.skip (ZC (ZG (ZG (ZB (ZA rfl rfl (ZF rfl) (ZA rfl rfl (Zm U53 rfl (IsSlice.long ha_2)) (ZA rfl rfl (ZF rfl) (ZD (ZC ?_)))))))))
  obtain ⟨t_10, ht_12, hx⟩ := ZM hx
  refine JC.cut (fun l o g => ∃ ar_18 : Option Addr, ∃ nr_18 : Nat, ∃ cr_18 : Nat, ∃ Kr_18 : Own, ∃ ar_19 : Option Addr, ∃ nr_19 : Nat, ∃ cr_19 : Nat, ∃ Kr_19 : Own, l = [(4, .pointer (some ⟨b_4, 0, none⟩)), (5, .pointer (some ⟨b_5, 0, none⟩))] ∧ o = [[(b_4, .cells #[.slice ar_18 nr_18 cr_18] 53 (0, 0))], Kr_18, [(b_5, .cells #[.slice ar_19 nr_19 cr_19] 53 (0, 0))], Kr_19] ∧ H = g ∧ RowOf (New H H) R_Ptr w.heap.size 28 5 (.slice ar_18 nr_18 cr_18) t_10.1 Kr_18 ∧ RowOf (New H H) R_Ptr w.heap.size 28 5 (.slice ar_19 nr_19 cr_19) t_10.2 Kr_19) ?_ ?_
  ·
   rintro _ _ _ ⟨ar_18, nr_18, cr_18, Kr_18, ar_19, nr_19, cr_19, Kr_19, rfl, rfl, rfl, hr_18, hr_19⟩
   refine ZC (ZG (ZB (ZA rfl rfl (Zi 0 S53 rfl rfl rfl) (ZA rfl rfl (Zi 2 S53 rfl rfl rfl) (ZN 0 S53 rfl rfl rfl rfl rfl (Nat.le_of_ble_eq_true rfl) (ZN 2 S53 rfl rfl rfl rfl rfl (Nat.le_of_ble_eq_true rfl) (ZA rfl rfl (ZH rfl) (ZD (ZC (ZV (ZT (vs := [.slice ar_18 nr_18 cr_18, .slice ar_19 nr_19 cr_19, .int .i64 0]) (K := [_, _]) (rst := [_, _]) (.inl rfl) rfl rfl (Res.cell1 0 rfl rfl S53 rfl (Res.cell1 2 rfl rfl S53 rfl (ZQ rfl rfl))) (Za 1 rfl (Za 2 rfl ZK)) ?_)))))))))))
   obtain rfl := Option.some.inj hx
   exact ⟨ar_18, nr_18, cr_18, Kr_18, ar_19, nr_19, cr_19, Kr_19, rfl, rfl, rfl, (Zd (Nat.zero_le _) hr_18), (Zx hr_18 hlt), (Zd (Nat.zero_le _) hr_19), (Zx hr_19 hlt), trivial⟩
  ·
   have hxo_11 := hx; clear hx; have hx := ht_12; clear ht_12
   refine JC.block (JC.seg0 (JC.seg0 (Zv 2 rfl (Zv 2 rfl (Zv 3 rfl (JC.loopI (fun n l o g => ∃ s_13 : List Ptr × List Ptr × Nat, ∃ ar_16 : Option Addr, ∃ nr_16 : Nat, ∃ cr_16 : Nat, ∃ Kr_16 : Own, ∃ ar_17 : Option Addr, ∃ nr_17 : Nat, ∃ cr_17 : Nat, ∃ Kr_17 : Own, l = [(1, .int .u32 (p_3.toNat : Int)), (4, .pointer (some ⟨b_4, 0, none⟩)), (5, .pointer (some ⟨b_5, 0, none⟩)), (16, .slice aa_2 na_2 ca_2), (17, .int .i64 (p_1.length : Int)), (18, .int .i64 ((s_13.2.2 : Nat) : Int))] ∧ o = [[(b_4, .cells #[.slice ar_16 nr_16 cr_16] 53 (0, 0))], Kr_16, [(b_5, .cells #[.slice ar_17 nr_17 cr_17] 53 (0, 0))], Kr_17] ∧ H = g ∧ run (dead_Split_l1 p_1 p_3) n s_13 = some t_10 ∧ RowOf (New H H) R_Ptr w.heap.size 28 5 (.slice ar_16 nr_16 cr_16) s_13.1 Kr_16 ∧ RowOf (New H H) R_Ptr w.heap.size 28 5 (.slice ar_17 nr_17 cr_17) s_13.2.1 Kr_17) FUEL ?_ ⟨(([] : List Ptr), ([] : List Ptr), 0), none, 0, 0, [], none, 0, 0, [], rfl, rfl, rfl, hx, (Zb _ _ _ _ _), (Zb _ _ _ _ _)⟩ ⟨rfl, rfl, rfl, rfl, rfl, rfl, trivial⟩ ?_))))))
   ·
    rintro _ _ _ ⟨s_13, ar_16, nr_16, cr_16, Kr_16, ar_17, nr_17, cr_17, Kr_17, rfl, rfl, rfl, hn_14, hr_16, hr_17⟩
    exact run_zero hn_14
   ·
    rintro n_15 _ _ _ ⟨s_13, ar_16, nr_16, cr_16, Kr_16, ar_17, nr_17, cr_17, Kr_17, rfl, rfl, rfl, hn_14, hr_16, hr_17⟩
    clear hx; obtain ⟨oo_19, hx, hd_18⟩ := Z0 hn_14
    unfold dead_Split_l1 at hx
    refine ZG (ZB (ZA rfl rfl (Zr rfl rfl) (ZD (ZC (ZG (ZU rfl (fun c_18 => ?_) (fun c_18 => ?_)))))))
    ·
     replace hx := ZW c_18 hx
     refine JC.skip (ZC (ZG (JC.block (ZG (ZB ?_)))))
     obtain ⟨y_19, hN_20, hx⟩ := Zs hx
     obtain ⟨b_21, o_22, cs_23, hE_24, hR_25, hl_26, hc_27⟩ := IsSlice.elem ha_2 hN_20
     obtain rfl := hR_25
     refine ZA rfl rfl (R.ix U53 S28 rfl rfl hE_24) (ZA rfl rfl (R.ldHE (cs := [.int .i64 y_19.At, .int .u32 (y_19.Birth.toNat : Int), .int .u32 (y_19.Iv.toNat : Int), .int .u32 (y_19.Tag.toNat : Int), .int .u32 (y_19.Sum.toNat : Int)]) (k := 0) (vs := [.int .i64 y_19.At, .int .u32 (y_19.Birth.toNat : Int), .int .u32 (y_19.Iv.toNat : Int), .int .u32 (y_19.Tag.toNat : Int), .int .u32 (y_19.Sum.toNat : Int)]) S28 rfl hc_27 rfl rfl) (JL.alloc Z28 rfl (fun b_28 hb_28 => ZN 0 S28 rfl rfl rfl rfl rfl (Nat.le_of_ble_eq_true rfl) (ZD (ZC (ZG (ZB (ZA rfl rfl (ZH rfl) (ZD (ZC (ZG ?_)))))))))))
     refine ZG (ZB (ZA rfl rfl (R.fa F28_1 rfl) (ZA rfl rfl (Zi 0 S26 rfl rfl rfl) (ZA rfl rfl (ZF rfl) (ZA rfl rfl (R.gtr32 (a := y_19.Birth) (b := p_3) rfl rfl) (ZD (ZC (ZU rfl (fun c_29 => ?_) (fun c_29 => ?_)))))))))
     ·
      replace hx := ZW c_29 hx
      refine ZB (ZA rfl rfl (ZH rfl) (ZD (ZC (JC.draw (so := [_, _, _]) 9 rfl Mixed ⟨⟨0, rfl⟩, ⟨1, rfl⟩, ⟨2, rfl⟩, trivial⟩ (JA.val ⟨by kernel_rfl, by kernel_rfl⟩ (ZJ _) (i := 0) rfl ⟨by kernel_rfl, by kernel_rfl, rfl⟩ trivial (ZI (Hle.refl _) ⟨⟨0, rfl⟩, ⟨1, rfl⟩, ⟨2, rfl⟩, trivial⟩) (ZF rfl) rfl (JA.val ⟨by kernel_rfl, by kernel_rfl⟩ (ZJ _) (i := 1) rfl ⟨by kernel_rfl, by kernel_rfl, rfl⟩ trivial (ZI (Hle.refl _) ⟨⟨0, rfl⟩, ⟨1, rfl⟩, ⟨2, rfl⟩, trivial⟩) (ZF rfl) rfl (JA.val ⟨by kernel_rfl, by kernel_rfl⟩ (ZJ _) (i := 2) rfl ⟨by kernel_rfl, by kernel_rfl, rfl⟩ trivial (ZI (Hle.refl _) ⟨⟨0, rfl⟩, ⟨1, rfl⟩, ⟨2, rfl⟩, trivial⟩) (R.nilCheck rfl) rfl (JA.val ⟨by kernel_rfl, by kernel_rfl⟩ (ZJ _) (i := 4) rfl ⟨by kernel_rfl, by kernel_rfl, rfl⟩ trivial (ZI (Hle.refl _) ⟨⟨0, rfl⟩, ⟨1, rfl⟩, ⟨2, rfl⟩, trivial⟩) (Z1 0 (vs := [.int .i64 y_19.At, .int .u32 (y_19.Birth.toNat : Int), .int .u32 (y_19.Iv.toNat : Int), .int .u32 (y_19.Tag.toNat : Int), .int .u32 (y_19.Sum.toNat : Int)]) S28 rfl rfl rfl rfl) rfl (JA.two (i := 3) (j := 5) (by kernel_rfl) ?_ ?_)))))))))
      ·
       refine ZZ rfl trivial rfl (fun K hK => ZA rfl rfl (Zi 3 S53 rfl rfl rfl) (ZD (hK _ _ _ (ZI (Hle.refl _) ⟨⟨0, rfl⟩, ⟨1, rfl⟩, ⟨2, rfl⟩, trivial⟩) (JA.one (i := 5) (by kernel_rfl) (ZZ rfl trivial rfl (fun K hK => Zz (HF := (New H H)) (R := R_Ptr) (ls := [y_19]) (vs := [.agg #[.int .i64 y_19.At, .int .u32 (y_19.Birth.toNat : Int), .int .u32 (y_19.Iv.toNat : Int), .int .u32 (y_19.Tag.toNat : Int), .int .u32 (y_19.Sum.toNat : Int)]]) U53 I28 rfl rfl (⟨_, _, rfl, rfl, rfl, rfl⟩) R_Ptr.one rfl rfl rfl (by simp [maxLen]) rfl (fun vr_30 Kr_30 hr_30 => ?_)))))))
       obtain ⟨ar_30, cr_30, rfl⟩ := RowOf.val hr_30
       refine ZD (hK _ _ _ (ZI (Hle.refl _) ⟨⟨1, rfl⟩, ⟨2, rfl⟩, ⟨3, rfl⟩, trivial⟩) (JA.one (i := 6) (by kernel_rfl) (ZZ rfl trivial rfl (fun K hK => ?_))))
       obtain ⟨q_31, hm_32, hl_33, hx⟩ := app_some hx
       refine JL.appF (HF := (New H H)) 5 U53 I28 rfl rfl hr_17 rfl (SrcF.row 0 U53 rfl hr_30) hm_32 hl_33 rfl (Nat.le_refl _) rfl (fun vr_34 Kr_34 hr_34 => ?_)
       obtain ⟨ar_34, cr_34, rfl⟩ := RowOf.val hr_34
       refine ZD (hK _ _ _ (ZI (Hle.refl _) ⟨⟨1, rfl⟩, ⟨2, rfl⟩, ⟨3, rfl⟩, trivial⟩) (JA.val ⟨by kernel_rfl, by kernel_rfl⟩ (ZJ _) (i := 7) rfl ⟨by kernel_rfl, by kernel_rfl, rfl⟩ trivial (ZI (Hle.refl _) ⟨⟨1, rfl⟩, ⟨2, rfl⟩, ⟨3, rfl⟩, trivial⟩) (R.nilCheck rfl) rfl (JA.one (i := 8) (by kernel_rfl) (ZZ rfl trivial rfl (fun K hK => ZN 4 S53 rfl rfl rfl rfl rfl (Nat.le_of_ble_eq_true rfl) (ZD (hK _ _ _ (ZI (Hle.refl _) ⟨⟨1, rfl⟩, ⟨2, rfl⟩, ⟨3, rfl⟩, trivial⟩) (Zt (by kernel_rfl) (Zk (ZC (ZB ?_)))))))))))
       refine ZA rfl rfl (R.inc rfl rfl (of_decide_eq_true c_18) (IsSlice.lenI ha_2)) (ZA rfl rfl (ZF rfl) (ZD ?_))
       replace hx := Zo hd_18 hx
       refine JN.forget 1 (JN.forget 0 (ZO 3 rfl (ZO 3 rfl (ZO 3 rfl (ZO 3 rfl ?_)))))
       exact JN.cut ⟨(s_13.1, q_31, s_13.2.2 + 1), ar_16, nr_16, cr_16, Kr_16, ar_34, q_31.length, cr_34, Kr_34, rfl, rfl, rfl, hx, hr_16, hr_34⟩ ⟨rfl, rfl, rfl, rfl, rfl, rfl, trivial⟩ rfl rfl
      ·
       refine ZZ rfl trivial rfl (fun K hK => Zz (HF := (New H H)) (R := R_Ptr) (ls := [y_19]) (vs := [.agg #[.int .i64 y_19.At, .int .u32 (y_19.Birth.toNat : Int), .int .u32 (y_19.Iv.toNat : Int), .int .u32 (y_19.Tag.toNat : Int), .int .u32 (y_19.Sum.toNat : Int)]]) U53 I28 rfl rfl (⟨_, _, rfl, rfl, rfl, rfl⟩) R_Ptr.one rfl rfl rfl (by simp [maxLen]) rfl (fun vr_35 Kr_35 hr_35 => ?_))
       obtain ⟨ar_35, cr_35, rfl⟩ := RowOf.val hr_35
       refine ZD (hK _ _ _ (ZI (Hle.refl _) ⟨⟨1, rfl⟩, ⟨2, rfl⟩, ⟨3, rfl⟩, trivial⟩) (JA.one (i := 3) (by kernel_rfl) (ZZ rfl trivial rfl (fun K hK => ZA rfl rfl (Zi 4 S53 rfl rfl rfl) (ZD (hK _ _ _ (ZI (Hle.refl _) ⟨⟨1, rfl⟩, ⟨2, rfl⟩, ⟨3, rfl⟩, trivial⟩) (JA.one (i := 6) (by kernel_rfl) (ZZ rfl trivial rfl (fun K hK => ?_)))))))))
       obtain ⟨q_36, hm_37, hl_38, hx⟩ := app_some hx
       refine JL.appF (HF := (New H H)) 5 U53 I28 rfl rfl hr_17 rfl (SrcF.row 0 U53 rfl hr_35) hm_37 hl_38 rfl (Nat.le_refl _) rfl (fun vr_39 Kr_39 hr_39 => ?_)
       obtain ⟨ar_39, cr_39, rfl⟩ := RowOf.val hr_39
       refine ZD (hK _ _ _ (ZI (Hle.refl _) ⟨⟨1, rfl⟩, ⟨2, rfl⟩, ⟨3, rfl⟩, trivial⟩) (JA.val ⟨by kernel_rfl, by kernel_rfl⟩ (ZJ _) (i := 7) rfl ⟨by kernel_rfl, by kernel_rfl, rfl⟩ trivial (ZI (Hle.refl _) ⟨⟨1, rfl⟩, ⟨2, rfl⟩, ⟨3, rfl⟩, trivial⟩) (R.nilCheck rfl) rfl (JA.one (i := 8) (by kernel_rfl) (ZZ rfl trivial rfl (fun K hK => ZN 4 S53 rfl rfl rfl rfl rfl (Nat.le_of_ble_eq_true rfl) (ZD (hK _ _ _ (ZI (Hle.refl _) ⟨⟨1, rfl⟩, ⟨2, rfl⟩, ⟨3, rfl⟩, trivial⟩) (Zt (by kernel_rfl) (Zk (ZC (ZB ?_)))))))))))
       refine ZA rfl rfl (R.inc rfl rfl (of_decide_eq_true c_18) (IsSlice.lenI ha_2)) (ZA rfl rfl (ZF rfl) (ZD ?_))
       replace hx := Zo hd_18 hx
       refine JN.forget 1 (JN.forget 0 (ZO 3 rfl (ZO 3 rfl (ZO 3 rfl (ZO 3 rfl ?_)))))
       exact JN.cut ⟨(s_13.1, q_36, s_13.2.2 + 1), ar_16, nr_16, cr_16, Kr_16, ar_39, q_36.length, cr_39, Kr_39, rfl, rfl, rfl, hx, hr_16, hr_39⟩ ⟨rfl, rfl, rfl, rfl, rfl, rfl, trivial⟩ rfl rfl
     ·
      replace hx := ZX c_29 hx
      refine JC.skip (ZC (JC.draw (so := [_, _, _]) 9 rfl Mixed ⟨⟨0, rfl⟩, ⟨3, rfl⟩, ⟨4, rfl⟩, trivial⟩ (JA.val ⟨by kernel_rfl, by kernel_rfl⟩ (ZJ _) (i := 0) rfl ⟨by kernel_rfl, by kernel_rfl, rfl⟩ trivial (ZI (Hle.refl _) ⟨⟨0, rfl⟩, ⟨3, rfl⟩, ⟨4, rfl⟩, trivial⟩) (ZF rfl) rfl (JA.val ⟨by kernel_rfl, by kernel_rfl⟩ (ZJ _) (i := 1) rfl ⟨by kernel_rfl, by kernel_rfl, rfl⟩ trivial (ZI (Hle.refl _) ⟨⟨0, rfl⟩, ⟨3, rfl⟩, ⟨4, rfl⟩, trivial⟩) (ZF rfl) rfl (JA.val ⟨by kernel_rfl, by kernel_rfl⟩ (ZJ _) (i := 2) rfl ⟨by kernel_rfl, by kernel_rfl, rfl⟩ trivial (ZI (Hle.refl _) ⟨⟨0, rfl⟩, ⟨3, rfl⟩, ⟨4, rfl⟩, trivial⟩) (R.nilCheck rfl) rfl (JA.val ⟨by kernel_rfl, by kernel_rfl⟩ (ZJ _) (i := 4) rfl ⟨by kernel_rfl, by kernel_rfl, rfl⟩ trivial (ZI (Hle.refl _) ⟨⟨0, rfl⟩, ⟨3, rfl⟩, ⟨4, rfl⟩, trivial⟩) (Z1 0 (vs := [.int .i64 y_19.At, .int .u32 (y_19.Birth.toNat : Int), .int .u32 (y_19.Iv.toNat : Int), .int .u32 (y_19.Tag.toNat : Int), .int .u32 (y_19.Sum.toNat : Int)]) S28 rfl rfl rfl rfl) rfl (JA.two (i := 3) (j := 5) (by kernel_rfl) ?_ ?_)))))))
      ·
       refine ZZ rfl trivial rfl (fun K hK => ZA rfl rfl (Zi 1 S53 rfl rfl rfl) (ZD (hK _ _ _ (ZI (Hle.refl _) ⟨⟨0, rfl⟩, ⟨3, rfl⟩, ⟨4, rfl⟩, trivial⟩) (JA.one (i := 5) (by kernel_rfl) (ZZ rfl trivial rfl (fun K hK => Zz (HF := (New H H)) (R := R_Ptr) (ls := [y_19]) (vs := [.agg #[.int .i64 y_19.At, .int .u32 (y_19.Birth.toNat : Int), .int .u32 (y_19.Iv.toNat : Int), .int .u32 (y_19.Tag.toNat : Int), .int .u32 (y_19.Sum.toNat : Int)]]) U53 I28 rfl rfl (⟨_, _, rfl, rfl, rfl, rfl⟩) R_Ptr.one rfl rfl rfl (by simp [maxLen]) rfl (fun vr_40 Kr_40 hr_40 => ?_)))))))
       obtain ⟨ar_40, cr_40, rfl⟩ := RowOf.val hr_40
       refine ZD (hK _ _ _ (ZI (Hle.refl _) ⟨⟨1, rfl⟩, ⟨4, rfl⟩, ⟨5, rfl⟩, trivial⟩) (JA.one (i := 6) (by kernel_rfl) (ZZ rfl trivial rfl (fun K hK => ?_))))
       obtain ⟨q_41, hm_42, hl_43, hx⟩ := app_some hx
       refine JL.appF (HF := (New H H)) 3 U53 I28 rfl rfl hr_16 rfl (SrcF.row 0 U53 rfl hr_40) hm_42 hl_43 rfl (Nat.le_refl _) rfl (fun vr_44 Kr_44 hr_44 => ?_)
       obtain ⟨ar_44, cr_44, rfl⟩ := RowOf.val hr_44
       refine ZD (hK _ _ _ (ZI (Hle.refl _) ⟨⟨1, rfl⟩, ⟨4, rfl⟩, ⟨5, rfl⟩, trivial⟩) (JA.val ⟨by kernel_rfl, by kernel_rfl⟩ (ZJ _) (i := 7) rfl ⟨by kernel_rfl, by kernel_rfl, rfl⟩ trivial (ZI (Hle.refl _) ⟨⟨1, rfl⟩, ⟨4, rfl⟩, ⟨5, rfl⟩, trivial⟩) (R.nilCheck rfl) rfl (JA.one (i := 8) (by kernel_rfl) (ZZ rfl trivial rfl (fun K hK => ZN 2 S53 rfl rfl rfl rfl rfl (Nat.le_of_ble_eq_true rfl) (ZD (hK _ _ _ (ZI (Hle.refl _) ⟨⟨1, rfl⟩, ⟨4, rfl⟩, ⟨5, rfl⟩, trivial⟩) (Zt (by kernel_rfl) (Zk (ZC (ZB ?_)))))))))))
       refine ZA rfl rfl (R.inc rfl rfl (of_decide_eq_true c_18) (IsSlice.lenI ha_2)) (ZA rfl rfl (ZF rfl) (ZD ?_))
       replace hx := Zo hd_18 hx
       refine JN.forget 1 (JN.forget 0 (ZO 3 rfl (ZO 3 rfl (ZO 3 rfl (ZO 3 rfl ?_)))))
       exact JN.cut ⟨(q_41, s_13.2.1, s_13.2.2 + 1), ar_44, q_41.length, cr_44, Kr_44, ar_17, nr_17, cr_17, Kr_17, rfl, rfl, rfl, hx, hr_44, hr_17⟩ ⟨rfl, rfl, rfl, rfl, rfl, rfl, trivial⟩ rfl rfl
      ·
       refine ZZ rfl trivial rfl (fun K hK => Zz (HF := (New H H)) (R := R_Ptr) (ls := [y_19]) (vs := [.agg #[.int .i64 y_19.At, .int .u32 (y_19.Birth.toNat : Int), .int .u32 (y_19.Iv.toNat : Int), .int .u32 (y_19.Tag.toNat : Int), .int .u32 (y_19.Sum.toNat : Int)]]) U53 I28 rfl rfl (⟨_, _, rfl, rfl, rfl, rfl⟩) R_Ptr.one rfl rfl rfl (by simp [maxLen]) rfl (fun vr_45 Kr_45 hr_45 => ?_))
       obtain ⟨ar_45, cr_45, rfl⟩ := RowOf.val hr_45
       refine ZD (hK _ _ _ (ZI (Hle.refl _) ⟨⟨1, rfl⟩, ⟨4, rfl⟩, ⟨5, rfl⟩, trivial⟩) (JA.one (i := 3) (by kernel_rfl) (ZZ rfl trivial rfl (fun K hK => ZA rfl rfl (Zi 2 S53 rfl rfl rfl) (ZD (hK _ _ _ (ZI (Hle.refl _) ⟨⟨1, rfl⟩, ⟨4, rfl⟩, ⟨5, rfl⟩, trivial⟩) (JA.one (i := 6) (by kernel_rfl) (ZZ rfl trivial rfl (fun K hK => ?_)))))))))
       obtain ⟨q_46, hm_47, hl_48, hx⟩ := app_some hx
       refine JL.appF (HF := (New H H)) 3 U53 I28 rfl rfl hr_16 rfl (SrcF.row 0 U53 rfl hr_45) hm_47 hl_48 rfl (Nat.le_refl _) rfl (fun vr_49 Kr_49 hr_49 => ?_)
       obtain ⟨ar_49, cr_49, rfl⟩ := RowOf.val hr_49
       refine ZD (hK _ _ _ (ZI (Hle.refl _) ⟨⟨1, rfl⟩, ⟨4, rfl⟩, ⟨5, rfl⟩, trivial⟩) (JA.val ⟨by kernel_rfl, by kernel_rfl⟩ (ZJ _) (i := 7) rfl ⟨by kernel_rfl, by kernel_rfl, rfl⟩ trivial (ZI (Hle.refl _) ⟨⟨1, rfl⟩, ⟨4, rfl⟩, ⟨5, rfl⟩, trivial⟩) (R.nilCheck rfl) rfl (JA.one (i := 8) (by kernel_rfl) (ZZ rfl trivial rfl (fun K hK => ZN 2 S53 rfl rfl rfl rfl rfl (Nat.le_of_ble_eq_true rfl) (ZD (hK _ _ _ (ZI (Hle.refl _) ⟨⟨1, rfl⟩, ⟨4, rfl⟩, ⟨5, rfl⟩, trivial⟩) (Zt (by kernel_rfl) (Zk (ZC (ZB ?_)))))))))))
       refine ZA rfl rfl (R.inc rfl rfl (of_decide_eq_true c_18) (IsSlice.lenI ha_2)) (ZA rfl rfl (ZF rfl) (ZD ?_))
       replace hx := Zo hd_18 hx
       refine JN.forget 1 (JN.forget 0 (ZO 3 rfl (ZO 3 rfl (ZO 3 rfl (ZO 3 rfl ?_)))))
       exact JN.cut ⟨(q_46, s_13.2.1, s_13.2.2 + 1), ar_49, q_46.length, cr_49, Kr_49, ar_17, nr_17, cr_17, Kr_17, rfl, rfl, rfl, hx, hr_49, hr_17⟩ ⟨rfl, rfl, rfl, rfl, rfl, rfl, trivial⟩ rfl rfl
    ·
     replace hx := ZX c_18 hx
     refine JC.exit (Ze ?_)
     obtain rfl := Zu hd_18 hx
     refine Ze (Zl (ZO 3 rfl (ZO 3 rfl (ZO 3 rfl (ZO 3 rfl ?_)))))
     exact JN.cut ⟨ar_16, nr_16, cr_16, Kr_16, ar_17, nr_17, cr_17, Kr_17, rfl, rfl, rfl, hr_16, hr_17⟩ ⟨rfl, rfl, trivial⟩ rfl rfl

set_option maxHeartbeats 8000000 in
theorem math_bits_Mul64_ok (p_1 : UInt64) (p_2 : UInt64) (H : Heaplet) (r : UInt64 × UInt64) (hx : math_bits_Mul64 p_1 p_2 = some r) :
  Does Try.prog 174 #[.int .u64 (p_1.toNat : Int), .int .u64 (p_2.toNat : Int)] [] H (fun u K' H' => u = .tuple #[.int .u64 (r.1.toNat : Int), .int .u64 (r.2.toNat : Int)] ∧ K' = [] ∧ H = H' ∧ True) := by
 refine Does.enterL (vs := [.int .u64 (p_1.toNat : Int), .int .u64 (p_2.toNat : Int)]) (l := [(0, .int .u64 (p_1.toNat : Int)), (1, .int .u64 (p_2.toNat : Int))]) Try.func174 rfl rfl ⟨rfl, rfl, trivial⟩ (fun w hlt => ?_)
 unfold math_bits_Mul64 at hx
 refine ZG (ZB (ZA rfl rfl (ZH rfl) (ZA rfl rfl (ZH rfl) (ZD (ZC (ZG (ZB (ZA rfl rfl (ZF rfl) (ZA rfl rfl (R.and64 (a := p_1) (b := (4294967295 : UInt64)) rfl rfl) (ZA rfl rfl (ZH rfl) (ZD ?_)))))))))))
 refine ZC (ZG (ZB (ZA rfl rfl (ZF rfl) (ZA rfl rfl (R.shr64 (n := ((32 : UInt64).toNat : Int)) (a := p_1) rfl rfl (by decide)) (ZA rfl rfl (ZH rfl) (ZD (ZC (ZG (ZB (ZA rfl rfl (ZF rfl) (ZA rfl rfl (R.and64 (a := p_2) (b := (4294967295 : UInt64)) rfl rfl) ?_)))))))))))
 refine ZA rfl rfl (ZH rfl) (ZD (ZC (ZG (ZB (ZA rfl rfl (ZF rfl) (ZA rfl rfl (R.shr64 (n := ((32 : UInt64).toNat : Int)) (a := p_2) rfl rfl (by decide)) (ZA rfl rfl (ZH rfl) (ZD (ZC (ZG (ZB ?_)))))))))))
 refine ZA rfl rfl (ZF rfl) (ZA rfl rfl (ZF rfl) (ZA rfl rfl (R.mul64 (a := p_1 &&& (4294967295 : UInt64)) (b := p_2 &&& (4294967295 : UInt64)) rfl rfl) (ZA rfl rfl (ZH rfl) (ZD (ZC (ZG (ZB (ZA rfl rfl (ZF rfl) (ZA rfl rfl (ZF rfl) (ZA rfl rfl (R.mul64 (a := sr64 p_1 (((32 : UInt64).toNat : Int)).toNat) (b := p_2 &&& (4294967295 : UInt64)) rfl rfl) (ZA rfl rfl (ZF rfl) ?_)))))))))))
 refine ZA rfl rfl (R.shr64 (n := ((32 : UInt64).toNat : Int)) (a := (p_1 &&& (4294967295 : UInt64)) * (p_2 &&& (4294967295 : UInt64))) rfl rfl (by decide)) (ZA rfl rfl (R.add64 (a := (sr64 p_1 (((32 : UInt64).toNat : Int)).toNat) * (p_2 &&& (4294967295 : UInt64))) (b := sr64 ((p_1 &&& (4294967295 : UInt64)) * (p_2 &&& (4294967295 : UInt64))) (((32 : UInt64).toNat : Int)).toNat) rfl rfl) (ZA rfl rfl (ZH rfl) (ZD (ZC (ZG (ZB (ZA rfl rfl (ZF rfl) (ZA rfl rfl (R.and64 (a := ((sr64 p_1 (((32 : UInt64).toNat : Int)).toNat) * (p_2 &&& (4294967295 : UInt64))) + (sr64 ((p_1 &&& (4294967295 : UInt64)) * (p_2 &&& (4294967295 : UInt64))) (((32 : UInt64).toNat : Int)).toNat)) (b := (4294967295 : UInt64)) rfl rfl) (ZA rfl rfl (ZH rfl) (ZD (ZC ?_)))))))))))
 refine ZG (ZB (ZA rfl rfl (ZF rfl) (ZA rfl rfl (R.shr64 (n := ((32 : UInt64).toNat : Int)) (a := ((sr64 p_1 (((32 : UInt64).toNat : Int)).toNat) * (p_2 &&& (4294967295 : UInt64))) + (sr64 ((p_1 &&& (4294967295 : UInt64)) * (p_2 &&& (4294967295 : UInt64))) (((32 : UInt64).toNat : Int)).toNat)) rfl rfl (by decide)) (ZA rfl rfl (ZH rfl) (ZD (ZC (ZG (ZB (ZA rfl rfl (ZF rfl) (ZA rfl rfl (ZF rfl) (ZA rfl rfl (ZF rfl) ?_)))))))))))
 refine ZA rfl rfl (R.mul64 (a := p_1 &&& (4294967295 : UInt64)) (b := sr64 p_2 (((32 : UInt64).toNat : Int)).toNat) rfl rfl) (ZA rfl rfl (R.add64 (a := (((sr64 p_1 (((32 : UInt64).toNat : Int)).toNat) * (p_2 &&& (4294967295 : UInt64))) + (sr64 ((p_1 &&& (4294967295 : UInt64)) * (p_2 &&& (4294967295 : UInt64))) (((32 : UInt64).toNat : Int)).toNat)) &&& (4294967295 : UInt64)) (b := (p_1 &&& (4294967295 : UInt64)) * (sr64 p_2 (((32 : UInt64).toNat : Int)).toNat)) rfl rfl) (ZA rfl rfl (ZH rfl) (ZD (ZC (ZG (ZB (ZA rfl rfl (ZF rfl) (ZA rfl rfl (ZF rfl) (ZA rfl rfl (R.mul64 (a := sr64 p_1 (((32 : UInt64).toNat : Int)).toNat) (b := sr64 p_2 (((32 : UInt64).toNat : Int)).toNat) rfl rfl) (ZA rfl rfl (ZF rfl) (ZA rfl rfl (R.add64 (a := (sr64 p_1 (((32 : UInt64).toNat : Int)).toNat) * (sr64 p_2 (((32 : UInt64).toNat : Int)).toNat)) (b := sr64 (((sr64 p_1 (((32 : UInt64).toNat : Int)).toNat) * (p_2 &&& (4294967295 : UInt64))) + (sr64 ((p_1 &&& (4294967295 : UInt64)) * (p_2 &&& (4294967295 : UInt64))) (((32 : UInt64).toNat : Int)).toNat)) (((32 : UInt64).toNat : Int)).toNat) rfl rfl) ?_)))))))))))
 refine ZA rfl rfl (ZF rfl) (ZA rfl rfl (R.shr64 (n := ((32 : UInt64).toNat : Int)) (a := ((((sr64 p_1 (((32 : UInt64).toNat : Int)).toNat) * (p_2 &&& (4294967295 : UInt64))) + (sr64 ((p_1 &&& (4294967295 : UInt64)) * (p_2 &&& (4294967295 : UInt64))) (((32 : UInt64).toNat : Int)).toNat)) &&& (4294967295 : UInt64)) + ((p_1 &&& (4294967295 : UInt64)) * (sr64 p_2 (((32 : UInt64).toNat : Int)).toNat))) rfl rfl (by decide)) (ZA rfl rfl (R.add64 (a := ((sr64 p_1 (((32 : UInt64).toNat : Int)).toNat) * (sr64 p_2 (((32 : UInt64).toNat : Int)).toNat)) + (sr64 (((sr64 p_1 (((32 : UInt64).toNat : Int)).toNat) * (p_2 &&& (4294967295 : UInt64))) + (sr64 ((p_1 &&& (4294967295 : UInt64)) * (p_2 &&& (4294967295 : UInt64))) (((32 : UInt64).toNat : Int)).toNat)) (((32 : UInt64).toNat : Int)).toNat)) (b := sr64 (((((sr64 p_1 (((32 : UInt64).toNat : Int)).toNat) * (p_2 &&& (4294967295 : UInt64))) + (sr64 ((p_1 &&& (4294967295 : UInt64)) * (p_2 &&& (4294967295 : UInt64))) (((32 : UInt64).toNat : Int)).toNat)) &&& (4294967295 : UInt64)) + ((p_1 &&& (4294967295 : UInt64)) * (sr64 p_2 (((32 : UInt64).toNat : Int)).toNat))) (((32 : UInt64).toNat : Int)).toNat) rfl rfl) (ZA rfl rfl (ZH rfl) (ZD (ZC (JC.tidyP (l' := [(0, .int .u64 (p_1.toNat : Int)), (1, .int .u64 (p_2.toNat : Int)), (4, .int .u64 (((((sr64 p_1 (((32 : UInt64).toNat : Int)).toNat) * (sr64 p_2 (((32 : UInt64).toNat : Int)).toNat)) + (sr64 (((sr64 p_1 (((32 : UInt64).toNat : Int)).toNat) * (p_2 &&& (4294967295 : UInt64))) + (sr64 ((p_1 &&& (4294967295 : UInt64)) * (p_2 &&& (4294967295 : UInt64))) (((32 : UInt64).toNat : Int)).toNat)) (((32 : UInt64).toNat : Int)).toNat)) + (sr64 (((((sr64 p_1 (((32 : UInt64).toNat : Int)).toNat) * (p_2 &&& (4294967295 : UInt64))) + (sr64 ((p_1 &&& (4294967295 : UInt64)) * (p_2 &&& (4294967295 : UInt64))) (((32 : UInt64).toNat : Int)).toNat)) &&& (4294967295 : UInt64)) + ((p_1 &&& (4294967295 : UInt64)) * (sr64 p_2 (((32 : UInt64).toNat : Int)).toNat))) (((32 : UInt64).toNat : Int)).toNat)).toNat : Int)), (5, .int .u64 ((0 : UInt64).toNat : Int))]) (own' := []) (rst := []) ⟨rfl, rfl, rfl, rfl, trivial⟩ ZK (ZG (ZB (ZA rfl rfl (ZF rfl) (ZA rfl rfl (ZF rfl) (ZA rfl rfl (R.mul64 (a := p_1) (b := p_2) rfl rfl) ?_)))))))))))
 refine ZA rfl rfl (ZH rfl) (ZD (ZC (ZV (ZT (vs := [.int .u64 (((((sr64 p_1 (((32 : UInt64).toNat : Int)).toNat) * (sr64 p_2 (((32 : UInt64).toNat : Int)).toNat)) + (sr64 (((sr64 p_1 (((32 : UInt64).toNat : Int)).toNat) * (p_2 &&& (4294967295 : UInt64))) + (sr64 ((p_1 &&& (4294967295 : UInt64)) * (p_2 &&& (4294967295 : UInt64))) (((32 : UInt64).toNat : Int)).toNat)) (((32 : UInt64).toNat : Int)).toNat)) + (sr64 (((((sr64 p_1 (((32 : UInt64).toNat : Int)).toNat) * (p_2 &&& (4294967295 : UInt64))) + (sr64 ((p_1 &&& (4294967295 : UInt64)) * (p_2 &&& (4294967295 : UInt64))) (((32 : UInt64).toNat : Int)).toNat)) &&& (4294967295 : UInt64)) + ((p_1 &&& (4294967295 : UInt64)) * (sr64 p_2 (((32 : UInt64).toNat : Int)).toNat))) (((32 : UInt64).toNat : Int)).toNat)).toNat : Int), .int .u64 ((p_1 * p_2).toNat : Int)]) (K := []) (rst := []) (.inl rfl) rfl rfl (ZQ rfl (ZQ rfl rfl)) ZK ?_))))
 obtain rfl := Option.some.inj hx
 exact ⟨rfl, rfl, rfl, trivial⟩

set_option maxHeartbeats 8000000 in
theorem math_bits_Mul_ok (p_1 : UInt64) (p_2 : UInt64) (H : Heaplet) (r : UInt64 × UInt64) (hx : math_bits_Mul p_1 p_2 = some r) :
  Does Try.prog 143 #[.int .u64 (p_1.toNat : Int), .int .u64 (p_2.toNat : Int)] [] H (fun u K' H' => u = .tuple #[.int .u64 (r.1.toNat : Int), .int .u64 (r.2.toNat : Int)] ∧ K' = [] ∧ H = H' ∧ True) := by
 refine Does.enterL (vs := [.int .u64 (p_1.toNat : Int), .int .u64 (p_2.toNat : Int)]) (l := [(0, .int .u64 (p_1.toNat : Int)), (1, .int .u64 (p_2.toNat : Int))]) Try.func143 rfl rfl ⟨rfl, rfl, trivial⟩ (fun w hlt => ?_)
 unfold math_bits_Mul at hx
 refine ZG (ZB (ZA rfl rfl (ZH rfl) (ZA rfl rfl (ZH rfl) (ZD (ZC (ZG (JC.condF rfl (JC.skip (ZC (ZG (ZB ?_)))))))))))
 refine ZA rfl rfl (ZF rfl) (ZA rfl rfl (ZF rfl) ?_)
 obtain ⟨x_3, hr_4, hx⟩ := ZM hx
 refine ZS (vs := [_, _]) (args := [_, _]) (K := []) (rst := []) E174 rfl rfl rfl ZK (math_bits_Mul64_ok p_1 p_2 _ _ hr_4) rfl (fun u_5 Ku_5 Hu_5 hRu_5 hleu_5 hfu_5 => ?_)
 obtain ⟨rfl, rfl, rfl, -⟩ := hRu_5
 refine ZA rfl rfl (ZF rfl) (ZA rfl rfl (R.extract rfl rfl) (ZA rfl rfl (R.extract rfl rfl) (ZA rfl rfl (ZH rfl) (ZA rfl rfl (ZH rfl) (ZD (ZC (ZG (ZB (ZA rfl rfl (ZF rfl) (ZA rfl rfl (ZF rfl) (ZA rfl rfl (ZH rfl) ?_)))))))))))
 refine ZA rfl rfl (ZH rfl) (ZD (ZC (ZV (ZT (vs := [.int .u64 (x_3.1.toNat : Int), .int .u64 (x_3.2.toNat : Int)]) (K := []) (rst := []) (.inl rfl) rfl rfl (ZQ rfl (ZQ rfl rfl)) ZK ?_))))
 obtain rfl := Option.some.inj hx
 exact ⟨rfl, rfl, rfl, trivial⟩

set_option maxHeartbeats 8000000 in
theorem slices_Repeat_int_ok (p_1 : List Int) (p_3 : Int) (H : Heaplet) {aa_2 : Option Addr} {na_2 : Nat} {ca_2 : Nat} (ha_2 : IsSlice H RInt 1 (.slice aa_2 na_2 ca_2) p_1) (r : List Int) (hx : slices_Repeat_int p_1 p_3 = some r) :
  Does Try.prog 108 #[.slice aa_2 na_2 ca_2, .int .i64 p_3] [] H (fun u K' H' => ∃ ao0 : Option Addr, ∃ n0 : Nat, ∃ cap0 : Nat, ∃ K0 : Own, u = .slice ao0 n0 cap0 ∧ K' = [K0] ∧ H = H' ∧ RowOf (New H H) RInt 0 3 1 (.slice ao0 n0 cap0) r K0 ∧ (∀ p ∈ K0, p.1 ∉ ids (List.flatten [])) ∧ True) := by
 refine Does.enterL (vs := [.slice aa_2 na_2 ca_2, .int .i64 p_3]) (l := [(0, .slice aa_2 na_2 ca_2), (1, .int .i64 p_3)]) Try.func108 rfl rfl ⟨rfl, rfl, trivial⟩ (fun w hlt => ?_)
 unfold slices_Repeat_int at hx
 refine ZG (ZB (ZA rfl rfl (ZH rfl) (ZD (ZC (ZG (ZG (ZB (ZA rfl rfl (ZF rfl) (ZA rfl rfl (Zr rfl rfl) (ZD (ZC ?_)))))))))))
 refine ZU rfl (fun c_4 => ?_) (fun c_4 => ?_)
 ·
  replace hx := ZW c_4 hx
  refine ZB ?_
  cases hx
 ·
  replace hx := ZX c_4 hx
  refine JC.skip (ZC (ZG (ZB (ZA rfl rfl (ZF rfl) (ZA rfl rfl (Zm U75 rfl (IsSlice.long ha_2)) (ZA rfl rfl (R.cv_i64_u64 U3 U133 rfl) (ZA rfl rfl (ZF rfl) (ZA rfl rfl (R.cv_i64_u64 U3 U133 rfl) ?_))))))))
  obtain ⟨x_5, hr_6, hx⟩ := ZM hx
  refine ZS (vs := [_, _]) (args := [_, _]) (K := []) (rst := []) E143 rfl rfl rfl ZK (math_bits_Mul_ok (u64i (p_1.length : Int)) (u64i p_3) _ _ hr_6) rfl (fun u_7 Ku_7 Hu_7 hRu_7 hleu_7 hfu_7 => ?_)
  obtain ⟨rfl, rfl, rfl, -⟩ := hRu_7
  refine ZA rfl rfl (ZF rfl) (ZA rfl rfl (R.extract rfl rfl) (ZA rfl rfl (R.extract rfl rfl) (ZA rfl rfl (ZH rfl) (ZA rfl rfl (ZH rfl) (ZD (ZC (ZG (ZG (ZB (ZA rfl rfl (ZF rfl) (ZA rfl rfl (R.gtr64 (a := x_5.1) (b := (0 : UInt64)) rfl rfl) ?_)))))))))))
  refine ZA rfl rfl (ZF rfl) (Zh (t := 23) rfl (fun c_8 => ?_) (fun c_8 => ?_))
  ·
   replace hx := ZW c_8 hx
   refine ZE rfl rfl rfl rfl rfl (ZE rfl rfl rfl rfl rfl (ZA rfl rfl (Zj rfl rfl) (ZD (ZC (Z2 rfl (ZB ?_))))))
   cases hx
  ·
   replace hx := ZX c_8 hx
   refine ZP rfl rfl rfl (ZA rfl rfl (ZF rfl) (ZP rfl rfl rfl (ZA rfl rfl (R.gtr64 (a := x_5.2) (b := (9223372036854775807 : UInt64)) rfl rfl) (ZA rfl rfl (ZL rfl rfl) (ZD (ZC (ZU rfl (fun c_9 => ?_) (fun c_9 => ?_))))))))
   ·
    replace hx := ZW c_9 hx
    refine ZB ?_
    cases hx
   ·
    replace hx := ZX c_9 hx
    refine JC.skip (ZC (ZG (ZB (ZA rfl rfl (ZF rfl) (ZA rfl rfl (R.cv_u64_i64 (a := x_5.2) U133 U3 rfl) ?_)))))
    obtain ⟨x_12, hm_11, hc_10, hx⟩ := mks_some hx
    refine JL.mkF (HF := New H H) (R := RInt) (y := 0) (n := w64 (x_5.2.toNat : Int)) U75 I3 rfl rfl (fun _ => rfl) RInt.one hm_11 hc_10 rfl rfl (fun vr_13 Kr_13 hr_13 => ?_)
    obtain ⟨ar_13, cr_13, rfl⟩ := RowOf.val hr_13
    refine ZA rfl rfl (ZH rfl) (ZD (ZC (ZG (ZB (ZA rfl rfl (ZF rfl) (ZA rfl rfl (ZF rfl) ?_))))))
    obtain ⟨m_14, hm_15, hb_16, hx⟩ := cpyO_some hx
    refine JL.copyR (HF := (New H H)) (lo := 0) (hi := (x_12.length : Int)) 0 U75 S3 rfl hr_13 rfl (RowOf.whole hr_13) rfl (CSrc.slice RInt.one (Hle.refl _) ha_2 (fun _ _ h => RInt.const _ _ _ _ h)) hb_16 hm_15 rfl (fun Kr_17 hr_17 => ZA rfl rfl (ZH rfl) (ZD (ZC (ZG ?_))))
    obtain ⟨t_18, ht_20, hx⟩ := ZM hx
    refine JC.cut (fun l o g => ∃ Kr_25 : Own, l = [(7, .slice ar_13 x_12.length cr_13)] ∧ o = [Kr_25] ∧ H = g ∧ RowOf (New H H) RInt w.heap.size 3 1 (.slice ar_13 x_12.length cr_13) t_18 Kr_25) ?_ ?_
    ·
     rintro _ _ _ ⟨Kr_25, rfl, rfl, rfl, hr_25⟩
     refine ZC (ZG (ZB (ZA rfl rfl (ZF rfl) (ZA rfl rfl (ZH rfl) (ZD (ZC (ZV (ZT (vs := [.slice ar_13 x_12.length cr_13]) (K := [_]) (rst := []) (.inl rfl) rfl rfl (ZQ rfl rfl) (Za 0 rfl ZK) ?_))))))))
     obtain rfl := Option.some.inj hx
     exact ⟨ar_13, x_12.length, cr_13, Kr_25, rfl, rfl, rfl, (Zd (Nat.zero_le _) hr_25), (Zx hr_25 hlt), trivial⟩
    ·
     have hxo_19 := hx; clear hx; have hx := ht_20; clear ht_20
     refine JC.block (JC.loopI (fun n l o g => ∃ s_21 : List Int × Int, ∃ Kr_24 : Own, l = [(7, .slice ar_13 x_12.length cr_13), (8, .int .i64 s_21.2)] ∧ o = [Kr_24] ∧ H = g ∧ run slices_Repeat_int_l1 n s_21 = some t_18 ∧ RowOf (New H H) RInt w.heap.size 3 1 (.slice ar_13 x_12.length cr_13) s_21.1 Kr_24) FUEL ?_ ⟨(m_14, min (p_1.length : Int) ((x_12.length : Int) - 0)), Kr_17, rfl, rfl, rfl, hx, hr_17⟩ ⟨rfl, rfl, trivial⟩ ?_)
     ·
      rintro _ _ _ ⟨s_21, Kr_24, rfl, rfl, rfl, hn_22, hr_24⟩
      exact run_zero hn_22
     ·
      rintro n_23 _ _ _ ⟨s_21, Kr_24, rfl, rfl, rfl, hn_22, hr_24⟩
      clear hx; obtain ⟨oo_26, hx, hd_25⟩ := Z0 hn_22
      unfold slices_Repeat_int_l1 at hx
      refine ZG (ZG (ZB (ZA rfl rfl (ZF rfl) (ZA rfl rfl (ZF rfl) (ZA rfl rfl (Zm U75 rfl (RowOf.long hr_24)) (ZA rfl rfl (Zr rfl rfl) (ZD (ZC (ZU rfl (fun c_25 => ?_) (fun c_25 => ?_))))))))))
      ·
       replace hx := ZW c_25 hx
       refine JC.skip (ZC (JC.block (JC.draw (so := []) 10 rfl Mixed trivial (JA.val ⟨by kernel_rfl, by kernel_rfl⟩ (ZJ _) (i := 0) rfl ⟨by kernel_rfl, by kernel_rfl, rfl⟩ trivial (ZI (Hle.refl _) trivial) (ZF rfl) rfl (JA.val ⟨by kernel_rfl, by kernel_rfl⟩ (ZJ _) (i := 1) rfl ⟨by kernel_rfl, by kernel_rfl, rfl⟩ trivial (ZI (Hle.refl _) trivial) (ZF rfl) rfl (JA.val ⟨by kernel_rfl, by kernel_rfl⟩ (ZJ _) (i := 2) rfl ⟨by kernel_rfl, by kernel_rfl, rfl⟩ trivial (ZI (Hle.refl _) trivial) (ZF rfl) rfl (JA.val ⟨by kernel_rfl, by kernel_rfl⟩ (ZJ _) (i := 4) rfl ⟨by kernel_rfl, by kernel_rfl, rfl⟩ trivial (ZI (Hle.refl _) trivial) (ZF rfl) rfl (JA.val ⟨by kernel_rfl, by kernel_rfl⟩ (ZJ _) (i := 5) rfl ⟨by kernel_rfl, by kernel_rfl, rfl⟩ trivial (ZI (Hle.refl _) trivial) (ZF rfl) rfl ?_))))))))
       obtain ⟨hb_27, hx⟩ := chk_some hx
       obtain ⟨hb_29, hx⟩ := chk_some hx
       obtain ⟨m_30, hm_31, hb_32, hx⟩ := cpyO_some hx
       refine JA.two (i := 3) (j := 6) (by kernel_rfl) ?_ ?_
       ·
        refine ZZ rfl trivial rfl (fun K hK => ?_)
        obtain ⟨vv_26, cv_26, h1v_26, h2v_26, h3v_26, hsv_26, hlv_26⟩ := RowOf.cutv hr_24 hb_27
        refine ZA rfl rfl (R.slc (cap := cv_26) (a := s_21.2) (b := (s_21.1.length : Int)) (c := (cv_26 : Int)) (m := s_21.1) (R := RInt) U75 S3 rfl ⟨_, rfl⟩ rfl (by obtain ⟨ao, n, e, _⟩ := h1v_26; exact ⟨ao, n, e, rfl⟩) ⟨hb_27.1, hb_27.2.1, h2v_26⟩ h3v_26 (.inl rfl)) (ZD (hK _ _ _ (ZI (Hle.refl _) trivial) (JA.one (i := 6) (by kernel_rfl) (ZZ rfl trivial rfl (fun K hK => ?_)))))
        obtain ⟨vv_28, cv_28, h1v_28, h2v_28, h3v_28, hsv_28, hlv_28⟩ := RowOf.cutv hr_24 hb_29
        refine ZA rfl rfl (R.slc (cap := cv_28) (a := (0 : Int)) (b := s_21.2) (c := (cv_28 : Int)) (m := s_21.1) (R := RInt) U75 S3 rfl rfl ⟨_, rfl⟩ (by obtain ⟨ao, n, e, _⟩ := h1v_28; exact ⟨ao, n, e, rfl⟩) ⟨hb_29.1, hb_29.2.1, h2v_28⟩ h3v_28 (.inl rfl)) (ZD (hK _ _ _ (ZI (Hle.refl _) trivial) (JA.one (i := 7) (by kernel_rfl) (ZZ rfl trivial rfl (fun K hK => JL.copyR (HF := (New H H)) (lo := s_21.2) (hi := (s_21.1.length : Int)) 0 U75 S3 rfl hr_24 rfl hsv_26 rfl (CSrc.part 0 rfl hr_24 hsv_28 hb_29 rfl) hb_32 hm_31 rfl (fun Kr_33 hr_33 => ZD (hK _ _ _ (ZI (Hle.refl _) trivial) (JA.val ⟨by kernel_rfl, by kernel_rfl⟩ (ZJ _) (i := 8) rfl ⟨by kernel_rfl, by kernel_rfl, rfl⟩ trivial (ZI (Hle.refl _) trivial) (R.add_i rfl rfl) rfl (JA.val ⟨by kernel_rfl, by kernel_rfl⟩ (ZJ _) (i := 9) rfl ⟨by kernel_rfl, by kernel_rfl, rfl⟩ trivial (ZI (Hle.refl _) trivial) (ZH rfl) rfl (Zt (by kernel_rfl) (Zk ?_)))))))))))
        replace hx := Zo hd_25 hx
        exact JN.cut ⟨(m_30, w64 (s_21.2 + (min ((cut s_21.1 (0 : Int) s_21.2).length : Int) ((s_21.1.length : Int) - s_21.2)))), Kr_33, rfl, rfl, rfl, hx, hr_33⟩ ⟨rfl, rfl, trivial⟩ rfl rfl
       ·
        refine ZZ rfl trivial rfl (fun K hK => ?_)
        obtain ⟨vv_28, cv_28, h1v_28, h2v_28, h3v_28, hsv_28, hlv_28⟩ := RowOf.cutv hr_24 hb_29
        refine ZA rfl rfl (R.slc (cap := cv_28) (a := (0 : Int)) (b := s_21.2) (c := (cv_28 : Int)) (m := s_21.1) (R := RInt) U75 S3 rfl rfl ⟨_, rfl⟩ (by obtain ⟨ao, n, e, _⟩ := h1v_28; exact ⟨ao, n, e, rfl⟩) ⟨hb_29.1, hb_29.2.1, h2v_28⟩ h3v_28 (.inl rfl)) (ZD (hK _ _ _ (ZI (Hle.refl _) trivial) (JA.one (i := 3) (by kernel_rfl) (ZZ rfl trivial rfl (fun K hK => ?_)))))
        obtain ⟨vv_26, cv_26, h1v_26, h2v_26, h3v_26, hsv_26, hlv_26⟩ := RowOf.cutv hr_24 hb_27
        refine ZA rfl rfl (R.slc (cap := cv_26) (a := s_21.2) (b := (s_21.1.length : Int)) (c := (cv_26 : Int)) (m := s_21.1) (R := RInt) U75 S3 rfl ⟨_, rfl⟩ rfl (by obtain ⟨ao, n, e, _⟩ := h1v_26; exact ⟨ao, n, e, rfl⟩) ⟨hb_27.1, hb_27.2.1, h2v_26⟩ h3v_26 (.inl rfl)) (ZD (hK _ _ _ (ZI (Hle.refl _) trivial) (JA.one (i := 7) (by kernel_rfl) (ZZ rfl trivial rfl (fun K hK => JL.copyR (HF := (New H H)) (lo := s_21.2) (hi := (s_21.1.length : Int)) 0 U75 S3 rfl hr_24 rfl hsv_26 rfl (CSrc.part 0 rfl hr_24 hsv_28 hb_29 rfl) hb_32 hm_31 rfl (fun Kr_33 hr_33 => ZD (hK _ _ _ (ZI (Hle.refl _) trivial) (JA.val ⟨by kernel_rfl, by kernel_rfl⟩ (ZJ _) (i := 8) rfl ⟨by kernel_rfl, by kernel_rfl, rfl⟩ trivial (ZI (Hle.refl _) trivial) (R.add_i rfl rfl) rfl (JA.val ⟨by kernel_rfl, by kernel_rfl⟩ (ZJ _) (i := 9) rfl ⟨by kernel_rfl, by kernel_rfl, rfl⟩ trivial (ZI (Hle.refl _) trivial) (ZH rfl) rfl (Zt (by kernel_rfl) (Zk ?_)))))))))))
        replace hx := Zo hd_25 hx
        exact JN.cut ⟨(m_30, w64 (s_21.2 + (min ((cut s_21.1 (0 : Int) s_21.2).length : Int) ((s_21.1.length : Int) - s_21.2)))), Kr_33, rfl, rfl, rfl, hx, hr_33⟩ ⟨rfl, rfl, trivial⟩ rfl rfl
      ·
       replace hx := ZX c_25 hx
       refine JC.exit (Ze ?_)
       obtain rfl := Zu hd_25 hx
       refine Ze (Zl ?_)
       exact JN.cut ⟨Kr_24, rfl, rfl, rfl, hr_24⟩ ⟨rfl, trivial⟩ rfl rfl

set_option maxHeartbeats 8000000 in
theorem dev_cut_ok (p_1 : List Int) (H : Heaplet) {ao : Option Addr} {n cap : Nat} (hs : IsSlice H RInt 1 (.slice ao n cap) p_1) (r : List (List UInt8)) (hx : dev_cut p_1 = some r) :
  Does Try.prog 107 #[.slice ao n cap] [] H (fun u K' H' => ∃ ao0 : Option Addr, ∃ n0 : Nat, ∃ cap0 : Nat, ∃ K0 : Own, u = .slice ao0 n0 cap0 ∧ K' = [K0] ∧ H = H' ∧ Pcs 0 5 45 (.slice ao0 n0 cap0) r K0 ∧ (∀ p ∈ K0, p.1 ∉ ids (List.flatten [])) ∧ True) := by
 unfold dev_cut at hx
 split at hx
 case isFalse => cases hx
 rename_i hp
 obtain rfl := Option.some.inj hx
 obtain ⟨ns, hns⟩ : ∃ ns, ns = p_1.map Int.toNat := ⟨_, rfl⟩
 have hpn : p_1 = ns.map (fun n : Nat => (n : Int)) := by
  rw [hns, List.map_map]
  have : ∀ (q : List Int), (∀ n ∈ q, 0 ≤ n) → q = q.map ((fun n : Nat => (n : Int)) ∘ Int.toNat) := by
   intro q
   induction q with
   | nil => intro _; rfl
   | cons y q ih => intro h; rw [List.map_cons, ← ih (fun n hn => h n (by simp [hn]))]; congr 1; have := h y (by simp); simp only [Function.comp]; omega
  exact this _ hp.1
 have hsum : ns.sum ≤ LIM := by rw [hns]; exact hp.2.1
 have hlen : ns.length ≤ LIM := by rw [hns, List.length_map]; exact hp.2.2
 have hpl : p_1.length = ns.length := by rw [hns, List.length_map]
 have hat : ∀ i, i < ns.length → ∃ y : Nat, ns[i]? = some y ∧ Nth p_1 (i : Int) (y : Int) := fun i hi => by
  refine ⟨ns[i], List.getElem?_eq_getElem hi, Int.natCast_nonneg i, ?_⟩
  rw [hpn]; simp [hi]
 have htk : ∀ i, (ns.take i).sum ≤ ns.sum := fun i => by
  have := congrArg List.sum (List.take_append_drop i ns)
  rw [List.sum_append] at this; omega
 have hstep : ∀ i y, ns[i]? = some y → ns.take (i + 1) = ns.take i ++ [y] := fun i y h => by rw [List.take_add_one, h]; rfl
 have hL : LIM = 1099511627776 := rfl
 have hr : (p_1.map fun n => List.replicate n.toNat (0 : UInt8)) = ns.map fun n => List.replicate n 0 := by rw [hpn, List.map_map]; rfl
 rw [hr]
 clear hr
 obtain ⟨ao, cap, e0⟩ := hs.val
 rw [e0] at hs
 simp only [e0]
 rw [hpl] at hs ⊢
 refine Does.enterL (vs := [.slice ao ns.length cap]) (l := [(0, .slice ao ns.length cap)]) Try.func107 rfl rfl ⟨rfl, trivial⟩ (fun w hlt => ZG (ZB (ZA rfl rfl (ZH rfl) (ZD (ZC (ZG (ZB (ZA rfl rfl (ZH rfl) (ZD (ZC (ZG ?_)))))))))))
 -- how many in all
 refine JC.cut (fun l o g => l = [(0, .slice ao ns.length cap), (2, .slice none 0 0), (3, .int .i64 ((ns.sum : Nat) : Int))] ∧ o = [] ∧ H = g) ?_ ?_
 rotate_left
 ·
  refine ZG (ZB (ZA rfl rfl (ZF rfl) (ZA rfl rfl (Zm U75 rfl ⟨_, _, rfl⟩) (ZA rfl rfl (ZF rfl) (ZD (ZC (JC.block (JC.loop (ι := Nat) (fun i => [(0, .slice ao ns.length cap), (2, .slice none 0 0), (9, .slice ao ns.length cap), (10, .int .i64 (ns.length : Int)), (3, .int .i64 (((ns.take i).sum : Nat) : Int)), (11, .int .i64 ((i : Nat) : Int))]) (fun _ => []) (fun _ => H) (fun i => i ≤ ns.length) (fun i => ns.length - i) 0 (Nat.zero_le _) ⟨rfl, rfl, rfl, rfl, rfl, rfl, trivial⟩ rfl rfl ?_))))))))
  intro i hi
  refine ZG (ZB (ZA rfl rfl (Zr rfl rfl) (ZD (ZC (ZG (ZU rfl (fun c => ?_) (fun c => ?_)))))))
  ·
   have hlt' : i < ns.length := by have := of_decide_eq_true c; omega
   obtain ⟨y, hy, hN⟩ := hat i hlt'
   obtain ⟨b1, q1, cs1, hE1, hR1, hl1, hc1⟩ := IsSlice.elem hs hN
   obtain rfl : cs1 = [.int .i64 (y : Int)] := hR1
   have hsy := hstep i y hy
   have hw : w64 ((((ns.take i).sum : Nat) : Int) + (y : Int)) = (((ns.take (i + 1)).sum : Nat) : Int) := by
    have h1 := htk (i + 1)
    rw [hsy, List.sum_append] at h1 ⊢
    simp only [List.sum_cons, List.sum_nil, Nat.add_zero] at h1 ⊢
    rw [w64_of (by omega) (by omega)]; omega
   refine JC.skip (ZC (ZG (JC.block (ZG (ZB (ZA rfl rfl (R.ix U75 S3 rfl rfl hE1) (ZA rfl rfl (R.ldH S3 rfl (hc1 0 _ rfl)) (ZA rfl rfl (ZH rfl) (ZD (ZC (ZB ?_)))))))))))
   refine ZA rfl rfl (ZF rfl) (ZA rfl rfl (ZF rfl) (ZA rfl rfl (R.add_i rfl rfl) ?_))
   rw [hw]
   refine ZA rfl rfl (ZH rfl) (ZD (Zk (ZC (ZB (ZA rfl rfl (R.inc rfl rfl (of_decide_eq_true c) (by omega)) (ZA rfl rfl (ZF rfl) (ZD (JN.again (i := i) (i + 1) hlt' (by omega) ⟨rfl, rfl, rfl, rfl, rfl, rfl, trivial⟩ rfl rfl))))))))
  ·
   have hge : i = ns.length := by have := of_decide_eq_false c; omega
   subst hge
   refine JC.exit (Ze (Ze (Zl ?_)))
   rw [List.take_length]
   exact JN.cut ⟨rfl, rfl, rfl⟩ ⟨rfl, rfl, rfl, trivial⟩ rfl rfl
 rintro _ _ _ ⟨rfl, rfl, rfl⟩
 refine ZC (ZG (ZB (ZA rfl rfl (ZF rfl) (JL.mkB U45 I5 rfl rfl hsum rfl rfl (fun hb hhb => ZA rfl rfl (ZH rfl) (ZD (ZC (ZG (JC.cut (fun l o g => ∃ (ao2 : Option Addr) (n2 cap2 : Nat) (Ko : Own), l = [(2, .slice ao2 n2 cap2)] ∧ o = [Ko, [(hb, .cells (bvs (List.replicate ns.sum 0)).toArray 5 (0, 0))]] ∧ H = g ∧ RowOf (fun _ _ => none) (RPc hb) w.heap.size 45 1 (.slice ao2 n2 cap2) (offs 0 ns) Ko) ?_ ?_)))))))))
 rotate_left
 ·
  refine ZG (ZB (ZA rfl rfl (ZF rfl) (ZA rfl rfl (Zm U75 rfl ⟨_, _, rfl⟩) (ZA rfl rfl (ZF rfl) (JL.seg0 (ZD (ZC (JC.block ?_))))))))
  refine JC.loop (ι := Nat × Nat × Option Addr × Nat × Nat × Own) (fun i => [(21, .slice ao ns.length cap), (22, .int .i64 (ns.length : Int)), (2, .slice i.2.2.1 i.2.2.2.1 i.2.2.2.2.1), (6, .slice (some ⟨hb, i.2.1, none⟩) (ns.sum - (ns.take i.1).sum) (ns.sum - (ns.take i.1).sum)), (23, .int .i64 ((i.1 : Nat) : Int))])
   (fun i => [i.2.2.2.2.2, [(hb, .cells (bvs (List.replicate ns.sum 0)).toArray 5 (0, 0))]]) (fun _ => H)
   (fun i => i.1 ≤ ns.length ∧ (ns.sum - (ns.take i.1).sum = 0 ∨ i.2.1 = (ns.take i.1).sum) ∧ RowOf (fun _ _ => none) (RPc hb) w.heap.size 45 1 (.slice i.2.2.1 i.2.2.2.1 i.2.2.2.2.1) (offs 0 (ns.take i.1)) i.2.2.2.2.2) (fun i => ns.length - i.1) (0, 0, none, 0, 0, [])
   ⟨Nat.zero_le _, .inr rfl, Zb _ _ _ _ _⟩ ⟨rfl, rfl, rfl, rfl, rfl, trivial⟩ rfl rfl ?_
  rintro ⟨i, s, ao2, n2, cap2, Ko⟩ ⟨hi, hsi, hout⟩
  dsimp only at hi hsi hout ⊢
  refine ZG (ZB (ZA rfl rfl (Zr rfl rfl) (ZD (ZC (ZG (ZU rfl (fun c => ?_) (fun c => ?_)))))))
  ·
   have hlt' : i < ns.length := by have := of_decide_eq_true c; omega
   obtain ⟨y, hy, hN⟩ := hat i hlt'
   obtain ⟨b1, q1, cs1, hE1, hR1, hl1, hc1⟩ := IsSlice.elem hs hN
   obtain rfl : cs1 = [.int .i64 (y : Int)] := hR1
   have hsy := hstep i y hy
   have htot := htk (i + 1)
   have hsm : (ns.take (i + 1)).sum = (ns.take i).sum + y := by rw [hsy, List.sum_append]; simp
   obtain ⟨rem, hrem⟩ : ∃ rem, rem = ns.sum - (ns.take i).sum := ⟨_, rfl⟩
   rw [← hrem] at hsi ⊢
   have hyr : y ≤ rem := by omega
   have hcy : y = 0 ∨ s = (ns.take i).sum := by
    rcases hsi with h | h
    ·
     left; omega
    ·
     exact .inr h
   have hrem2 : ns.sum - (ns.take (i + 1)).sum = rem - y := by omega
   have e31 : Value.slice (some ⟨hb, s, none⟩) y y = sliced (some ⟨hb, s, none⟩) (0 : Int).toNat (y : Int).toNat (y : Int).toNat 1 := by
    unfold sliced
    simp only [Int.toNat_natCast, Int.toNat_zero, Nat.sub_zero, Option.map_some, Nat.zero_mul, add_lit, Nat.add_zero]
    split <;> rfl
   obtain ⟨s2, hs2, e36⟩ : ∃ s2, (rem - y = 0 ∨ s2 = (ns.take (i + 1)).sum) ∧ Value.slice (some ⟨hb, s2, none⟩) (rem - y) (rem - y) = sliced (some ⟨hb, s, none⟩) (y : Int).toNat (rem : Int).toNat (rem : Int).toNat 1 := by
    unfold sliced
    simp only [Int.toNat_natCast, Option.map_some, add_lit, Nat.mul_one]
    by_cases h : rem = y
    ·
     exact ⟨s, .inl (by omega), by rw [if_pos h]⟩
    ·
     refine ⟨s + y, .inr ?_, by rw [if_neg h]⟩
     rcases hsi with h' | h' <;> omega
   have hq : offs 0 (ns.take (i + 1)) = offs 0 (ns.take i) ++ [((ns.take i).sum, y)] := by rw [hsy, offs_append]; simp [offs]
   have hll : (offs 0 (ns.take i)).length + [((ns.take i).sum, y)].length ≤ LIM := by rw [offs_length, List.length_take]; simp only [List.length_cons, List.length_nil]; omega
   refine JC.skip (ZC (ZG (JC.block (ZG (ZB (ZA rfl rfl (R.ix U75 S3 rfl rfl hE1) (ZA rfl rfl (R.ldH S3 rfl (hc1 0 _ rfl)) (ZA rfl rfl (ZH rfl) (ZD (ZC (ZG ?_)))))))))))
   refine ZB (ZA rfl rfl (ZF rfl) (ZA rfl rfl (ZF rfl) (ZA rfl rfl (ZF rfl) (ZA rfl rfl (ZF rfl) (ZA rfl rfl (R.slc (cap := rem) (a := 0) (b := (y : Int)) (c := (y : Int)) (m := List.replicate rem (0 : UInt8)) (R := RU8) (v' := .slice (some ⟨hb, s, none⟩) y y) U45 S5 rfl rfl ⟨_, rfl⟩ ⟨_, rfl⟩ ⟨Int.le_refl _, by omega, Int.le_refl _⟩ ⟨some ⟨hb, s, none⟩, by rw [List.length_replicate], by omega, e31⟩ (.inr (fun h => by cases h))) (Zz (HF := fun _ _ => none) (R := RPc hb) (ls := [((ns.take i).sum, y)]) (vs := [.slice (some ⟨hb, s, none⟩) y y]) U22 I45 rfl rfl (⟨_, _, rfl, rfl, ⟨s, rfl, hcy⟩, rfl⟩) (RPc.one hb) rfl rfl rfl (by simp [maxLen]) rfl (fun v3 K3 h3 => ?_)))))))
   obtain ⟨ao3, cap3, rfl⟩ := RowOf.val h3
   refine JL.appF (HF := fun _ _ => none) 1 U22 I45 rfl rfl hout rfl (SrcF.row 0 U22 rfl h3) hq hll rfl (Nat.le_refl _) rfl (fun v4 K4 h4 => ?_)
   obtain ⟨ao4, cap4, rfl⟩ := RowOf.val h4
   refine ZA rfl rfl (ZH rfl) (ZD (ZC (ZB (ZA rfl rfl (ZF rfl) (ZA rfl rfl (ZF rfl) (ZA rfl rfl (R.slc (cap := rem) (a := (y : Int)) (b := (rem : Int)) (c := (rem : Int)) (m := List.replicate rem (0 : UInt8)) (R := RU8) (v' := .slice (some ⟨hb, s2, none⟩) (rem - y) (rem - y)) U45 S5 rfl ⟨_, rfl⟩ (by simp) ⟨some ⟨hb, s, none⟩, rem, rfl, rfl⟩ ⟨by omega, by omega, Int.le_refl _⟩ ⟨some ⟨hb, s, none⟩, by rw [List.length_replicate], by omega, e36⟩ (.inl rfl)) (ZA rfl rfl (ZH rfl) (ZD (Zk (ZC (ZB ?_)))))))))))
   refine ZA rfl rfl (R.inc rfl rfl (of_decide_eq_true c) (by omega)) (ZA rfl rfl (ZF rfl) (ZD (JN.forget 0 (JN.again (i := (i, s, ao2, n2, cap2, Ko)) (i + 1, s2, ao4, _, cap4, K4) ⟨hlt', by dsimp only; rw [hrem2]; exact hs2, h4⟩ (by dsimp only; omega) ⟨rfl, rfl, rfl, by dsimp only; rw [hrem2]; rfl, rfl, trivial⟩ rfl rfl))))
  ·
   have hge : i = ns.length := by have := of_decide_eq_false c; omega
   subst hge
   refine JC.exit (Ze (Ze (Zl ?_)))
   rw [List.take_length] at hout
   exact JN.cut ⟨_, _, _, _, rfl, rfl, rfl, hout⟩ ⟨rfl, trivial⟩ rfl rfl
 rintro _ _ _ ⟨ao2, n2, cap2, Ko, rfl, rfl, rfl, hout⟩
 refine ZC (ZV (ZT (vs := [.slice ao2 n2 cap2]) (K := [Ko ++ [(hb, .cells (bvs (List.replicate ns.sum 0)).toArray 5 (0, 0))]]) (rst := []) (.inl rfl) rfl rfl (ZQ rfl rfl) (by simp) ?_))
 have hflat : (ns.map fun n => List.replicate n (0 : UInt8)).flatten = List.replicate ns.sum 0 := by
  clear hat hstep htk hs hout hpn hns hpl hsum hlen
  induction ns with
  | nil => rfl
  | cons y r ih => rw [List.map_cons, List.flatten_cons, ih, List.sum_cons, List.replicate_append_replicate]
 have hlens : lens (ns.map fun n => List.replicate n (0 : UInt8)) = ns := by unfold lens; rw [List.map_map]; simp [Function.comp_def]
 refine ⟨ao2, n2, cap2, _, rfl, rfl, rfl, ⟨hb, Ko, ?_, Nat.zero_le _, ?_, ?_⟩, (fun p hp hm => by cases hm), trivial⟩
 ·
  rw [hflat]
 ·
  rw [hflat, List.length_replicate]; exact lim_max hsum
 ·
  rw [hlens]; exact Zd (Nat.zero_le _) hout

set_option maxHeartbeats 8000000 in
theorem dev_New_ok (H : Heaplet) (r : Disk) (hx : dev_New = some r) :
  Does Try.prog 64 #[] [] H (fun u K' H' => ∃ ao0 : Option Addr, ∃ n0 : Nat, ∃ cap0 : Nat, ∃ K0 : Own, ∃ ao1 : Option Addr, ∃ n1 : Nat, u = .agg #[.slice ao0 n0 cap0, .slice ao1 n1 n1] ∧ K' = [K0] ∧ Pcs 0 5 45 (.slice ao0 n0 cap0) r.Blocks K0 ∧ (∀ p ∈ K0, p.1 ∉ ids (List.flatten [])) ∧ IsSlice (New H H') R_Write 2 (.slice ao1 n1 n1) r.Waits ∧ True) := by
 refine Does.enterL (vs := []) (l := []) Try.func64 rfl rfl trivial (fun w hlt => ?_)
 unfold dev_New at hx
 refine ZG (ZB (JL.alloc Z25 rfl (fun b_1 hb_1 => ZD (ZC (ZG (ZB (Zz (HF := (New H H)) (R := RInt) (ls := [256]) (vs := [.int .i64 256]) U75 I3 rfl rfl (⟨_, _, rfl, rfl, rfl, rfl⟩) RInt.one rfl rfl rfl (by simp [maxLen]) rfl (fun vr_2 Kr_2 hr_2 => ?_))))))))
 obtain ⟨ar_2, cr_2, rfl⟩ := RowOf.val hr_2
 obtain ⟨x_6, hr_7, hx⟩ := ZM hx
 refine JL.callL3 (vs := [_, _]) E108 rfl rfl (fun H_5 hle_4 hl_3 => slices_Repeat_int_ok ([256]) 256 _ (Lent.row' 0 hl_3 RInt.mono hle_4 rfl (hr_2.old RInt.mono)) _ hr_7) rfl (fun _ _ _ _ hR_9 hf_10 => ?_)
 obtain ⟨ar_8, nr_8, cr_8, Kr_8, rfl, rfl, rfl, hr_8, -, -⟩ := hR_9
 replace hr_8 := RowOf.base (Zc (H2 := New H H) RInt.const hr_8) (fun p hp => hf_10 p (Zg 0 rfl hp))
 refine JL.pubN 0 RInt.mono rfl hr_8 (Nat.le_refl _) (fun H_11 hleH_11 hsH_11 => JL.forget 0 ?_)
 obtain ⟨x_12, hr_13, hx⟩ := ZM hx
 refine ZS (vs := [_]) (args := [_]) (K := []) (rst := [_, _]) E107 rfl rfl rfl ZK (dev_cut_ok x_6 _ (hsH_11.old RInt.mono) _ hr_13) rfl (fun u_14 Ku_14 Hu_14 hRu_14 hleu_14 hfu_14 => ?_)
 obtain ⟨ar_15, nr_15, cr_15, Kr_15, rfl, rfl, rfl, hr_15, hnewr_15, -⟩ := hRu_14
 replace hr_15 := (Pcs.base hr_15 (fun p hp => (hfu_14 p (Zg 0 rfl hp)).resolve_left (hnewr_15 p hp)))
 refine ZA rfl rfl (R.bldP (vs := [(0, .slice ar_15 nr_15 cr_15)]) (cs := [.slice ar_15 nr_15 cr_15, .slice none 0 0]) Z25 B25 rfl rfl rfl) (ZN 2 S25 rfl rfl rfl rfl rfl (Nat.le_of_ble_eq_true rfl) (ZD (ZC (ZV (ZT (vs := [.agg #[.slice ar_15 nr_15 cr_15, .slice none 0 0]]) (K := [_]) (rst := [_, _]) (.inl rfl) rfl rfl (Zf 2 rfl rfl S25 rfl) (Za 0 rfl ZK) ?_)))))
 obtain rfl := Option.some.inj hx
 exact ⟨ar_15, nr_15, cr_15, Kr_15, none, 0, rfl, rfl, (Pcs.weak (Nat.zero_le _) hr_15), (newP_ids hr_15 hlt), (IsSlice.nil _ _ _), trivial⟩

set_option maxHeartbeats 8000000 in
theorem bytes_Repeat_ok (p_1 : List UInt8) (p_3 : Int) (H : Heaplet) {aa_2 : Option Addr} {na_2 : Nat} {ca_2 : Nat} (ha_2 : IsSlice H RU8 1 (.slice aa_2 na_2 ca_2) p_1) (r : List UInt8) (hx : bytes_Repeat p_1 p_3 = some r) :
  Does Try.prog 109 #[.slice aa_2 na_2 ca_2, .int .i64 p_3] [] H (fun u K' H' => ∃ ao0 : Option Addr, ∃ n0 : Nat, ∃ cap0 : Nat, ∃ K0 : Own, u = .slice ao0 n0 cap0 ∧ K' = [K0] ∧ H = H' ∧ RowOf (New H H) RU8 0 5 1 (.slice ao0 n0 cap0) r K0 ∧ (∀ p ∈ K0, p.1 ∉ ids (List.flatten [])) ∧ True) := by
 refine Does.enterL (vs := [.slice aa_2 na_2 ca_2, .int .i64 p_3]) (l := [(0, .slice aa_2 na_2 ca_2), (1, .int .i64 p_3)]) Try.func109 rfl rfl ⟨rfl, rfl, trivial⟩ (fun w hlt => ?_)
 unfold bytes_Repeat at hx
 refine ZG (ZB (ZA rfl rfl (ZH rfl) (ZD (ZC (ZG (ZG (ZB (ZA rfl rfl (ZF rfl) (ZA rfl rfl (Zy rfl rfl) (ZD (ZC ?_)))))))))))
 refine ZU rfl (fun c_4 => ?_) (fun c_4 => ?_)
 ·
  replace hx := ZW c_4 hx
  refine ZG (ZB (Zz (HF := (New H H)) (R := RU8) (ls := ([] : List UInt8)) (vs := []) U45 I5 rfl rfl (rfl) RU8.one rfl rfl rfl (by simp [maxLen]) rfl (fun vr_5 Kr_5 hr_5 => ?_)))
  obtain ⟨ar_5, cr_5, rfl⟩ := RowOf.val hr_5
  refine ZA rfl rfl (ZH rfl) (ZD (ZC (ZV (ZR (ZT (vs := [.slice ar_5 (([] : List UInt8).length) cr_5]) (K := [_]) (rst := []) (.inl rfl) rfl rfl (ZQ rfl rfl) (Za 0 rfl ZK) ?_)))))
  obtain rfl := Option.some.inj hx
  exact ⟨ar_5, ([] : List UInt8).length, cr_5, Kr_5, rfl, rfl, rfl, (Zd (Nat.zero_le _) hr_5), (Zx hr_5 hlt), trivial⟩
 ·
  replace hx := ZX c_4 hx
  refine JC.skip (ZC (ZG (ZG (ZB (ZA rfl rfl (ZF rfl) (ZA rfl rfl (Zr rfl rfl) (ZD (ZC (ZU rfl (fun c_6 => ?_) (fun c_6 => ?_))))))))))
  ·
   replace hx := ZW c_6 hx
   refine ZB ?_
   cases hx
  ·
   replace hx := ZX c_6 hx
   refine JC.skip (ZC (ZG (ZB (ZA rfl rfl (ZF rfl) (ZA rfl rfl (Zm U45 rfl (IsSlice.long ha_2)) (ZA rfl rfl (R.cv_i64_u64 U3 U133 rfl) (ZA rfl rfl (ZF rfl) (ZA rfl rfl (R.cv_i64_u64 U3 U133 rfl) ?_))))))))
   obtain ⟨x_7, hr_8, hx⟩ := ZM hx
   refine ZS (vs := [_, _]) (args := [_, _]) (K := []) (rst := []) E143 rfl rfl rfl ZK (math_bits_Mul_ok (u64i (p_1.length : Int)) (u64i p_3) _ _ hr_8) rfl (fun u_9 Ku_9 Hu_9 hRu_9 hleu_9 hfu_9 => ?_)
   obtain ⟨rfl, rfl, rfl, -⟩ := hRu_9
   refine ZA rfl rfl (ZF rfl) (ZA rfl rfl (R.extract rfl rfl) (ZA rfl rfl (R.extract rfl rfl) (ZA rfl rfl (ZH rfl) (ZA rfl rfl (ZH rfl) (ZD (ZC (ZG (ZG (ZB (ZA rfl rfl (ZF rfl) (ZA rfl rfl (R.gtr64 (a := x_7.1) (b := (0 : UInt64)) rfl rfl) ?_)))))))))))
   refine ZA rfl rfl (ZF rfl) (Zh (t := 29) rfl (fun c_10 => ?_) (fun c_10 => ?_))
   ·
    replace hx := ZW c_10 hx
    refine ZE rfl rfl rfl rfl rfl (ZE rfl rfl rfl rfl rfl (ZA rfl rfl (Zj rfl rfl) (ZD (ZC (Z2 rfl (ZB ?_))))))
    cases hx
   ·
    replace hx := ZX c_10 hx
    refine ZP rfl rfl rfl (ZA rfl rfl (ZF rfl) (ZP rfl rfl rfl (ZA rfl rfl (R.gtr64 (a := x_7.2) (b := (9223372036854775807 : UInt64)) rfl rfl) (ZA rfl rfl (ZL rfl rfl) (ZD (ZC (ZU rfl (fun c_11 => ?_) (fun c_11 => ?_))))))))
    ·
     replace hx := ZW c_11 hx
     refine ZB ?_
     cases hx
    ·
     replace hx := ZX c_11 hx
     refine JC.skip (ZC (ZG (ZB (ZA rfl rfl (ZF rfl) (ZA rfl rfl (R.cv_u64_i64 (a := x_7.2) U133 U3 rfl) (ZA rfl rfl (ZH rfl) (ZD (ZC (ZG (ZG (ZB ?_)))))))))))
     refine ZA rfl rfl (ZF rfl) (ZA rfl rfl (Zm U45 rfl (IsSlice.long ha_2)) (ZA rfl rfl (Zy rfl rfl) (ZD (ZC (ZU rfl (fun c_12 => ?_) (fun c_12 => ?_))))))
     ·
      replace hx := ZW c_12 hx
      refine ZG (ZB (Zz (HF := (New H H)) (R := RU8) (ls := ([] : List UInt8)) (vs := []) U45 I5 rfl rfl (rfl) RU8.one rfl rfl rfl (by simp [maxLen]) rfl (fun vr_13 Kr_13 hr_13 => ?_)))
      obtain ⟨ar_13, cr_13, rfl⟩ := RowOf.val hr_13
      refine ZA rfl rfl (ZH rfl) (ZD (ZC (ZV (ZR (ZT (vs := [.slice ar_13 (([] : List UInt8).length) cr_13]) (K := [_]) (rst := []) (.inl rfl) rfl rfl (ZQ rfl rfl) (Za 0 rfl ZK) ?_)))))
      obtain rfl := Option.some.inj hx
      exact ⟨ar_13, ([] : List UInt8).length, cr_13, Kr_13, rfl, rfl, rfl, (Zd (Nat.zero_le _) hr_13), (Zx hr_13 hlt), trivial⟩
     ·
      replace hx := ZX c_12 hx
      refine JC.skip (ZC (ZG (ZB (ZA rfl rfl (ZF rfl) (ZA rfl rfl (ZH rfl) (ZD (ZC (ZG (ZG (ZB (ZA rfl rfl (ZF rfl) ?_)))))))))))
      refine ZA rfl rfl (R.gtr_i rfl rfl) (ZD (ZC ?_))
      obtain ⟨t_14, ht_16, hx⟩ := ZM hx
      refine JC.cut (fun l o g => l = [(0, .slice aa_2 na_2 ca_2), (7, .int .i64 (w64 (x_7.2.toNat : Int))), (8, .int .i64 t_14)] ∧ o = [] ∧ H = g) ?_ ?_
      ·
       rintro _ _ _ ⟨rfl, rfl, rfl⟩
       refine ZC (ZG (ZB (ZA rfl rfl (ZF rfl) ?_)))
       obtain ⟨nz_200, hm_21, hc_22, hx⟩ := mks_some hx
       obtain ⟨nn_25, hnn_26⟩ := Int.eq_ofNat_of_zero_le hc_22.1
       refine JL.mkNZ (HF := New H H) (N := nn_25) Try.func144 (by kernel_rfl) rfl (by kernel_rfl) U45 (by kernel_rfl) (congrArg (fun q => some (Value.int .i64 q)) hnn_26) (by simpa [hnn_26] using hc_22.2) rfl (fun ar_24 cr_24 nz_20 Kr_24 hL_23 hr_24 => ?_)
       replace hx := bytes_Repeat_any hm_21 hnn_26 hL_23 hx (by have := hc_22.2; omega)
       refine ZA rfl rfl (ZF rfl) (ZA rfl rfl (ZF rfl) ?_)
       obtain ⟨m_29, hm_30, hb_28, hx⟩ := slc_some hx
       obtain ⟨vv_27, cv_27, av_27, h1v_27, h2v_27, hsv_27⟩ := RowOf.cutc hr_24 hm_30 hb_28
       refine ZA rfl rfl (R.slc (cap := cv_27) (a := 0) (b := w64 (x_7.2.toNat : Int)) (c := w64 (x_7.2.toNat : Int)) (m := nz_20) (R := RU8) U45 S5 rfl rfl ⟨_, rfl⟩ ⟨_, rfl⟩ ⟨hb_28.1, hb_28.2.1, Int.le_refl _⟩ h1v_27 (.inr (fun h => by cases h))) ?_
       subst h2v_27
       refine ZA rfl rfl (ZH rfl) (ZD (ZC (ZG (ZB (ZA rfl rfl (ZF rfl) (ZA rfl rfl (ZF rfl) ?_))))))
       obtain ⟨m_32, hm_33, hb_34, hx⟩ := cpyO_some hx
       refine JL.copyR (HF := (New H H)) (lo := 0) (hi := (m_29.length : Int)) 0 U45 S5 rfl hsv_27 rfl (RowOf.whole hsv_27) rfl (CSrc.slice RU8.one (Hle.refl _) ha_2 (fun _ _ h => RU8.const _ _ _ _ h)) hb_34 hm_33 rfl (fun Kr_35 hr_35 => ZA rfl rfl (ZH rfl) (ZD (ZC (ZG ?_))))
       obtain ⟨t_36, ht_38, hx⟩ := ZM hx
       refine JC.cut (fun l o g => ∃ Kr_43 : Own, l = [(9, .slice av_27 m_29.length m_29.length)] ∧ o = [Kr_43] ∧ H = g ∧ RowOf (New H H) RU8 w.heap.size 5 1 (.slice av_27 m_29.length m_29.length) t_36 Kr_43) ?_ ?_
       ·
        rintro _ _ _ ⟨Kr_43, rfl, rfl, rfl, hr_43⟩
        refine ZC (ZG (ZB (ZA rfl rfl (ZF rfl) (ZA rfl rfl (ZH rfl) (ZD (ZC (ZV (ZT (vs := [.slice av_27 m_29.length m_29.length]) (K := [_]) (rst := []) (.inl rfl) rfl rfl (ZQ rfl rfl) (Za 0 rfl ZK) ?_))))))))
        obtain rfl := Option.some.inj hx
        exact ⟨av_27, m_29.length, m_29.length, Kr_43, rfl, rfl, rfl, (Zd (Nat.zero_le _) hr_43), (Zx hr_43 hlt), trivial⟩
       ·
        have hxo_37 := hx; clear hx; have hx := ht_38; clear ht_38
        refine JC.block (JC.loopI (fun n l o g => ∃ s_39 : List UInt8 × Int, ∃ Kr_42 : Own, l = [(7, .int .i64 (w64 (x_7.2.toNat : Int))), (8, .int .i64 t_14), (9, .slice av_27 m_29.length m_29.length), (10, .int .i64 s_39.2)] ∧ o = [Kr_42] ∧ H = g ∧ run (bytes_Repeat_l1 x_7 t_14) n s_39 = some t_36 ∧ RowOf (New H H) RU8 w.heap.size 5 1 (.slice av_27 m_29.length m_29.length) s_39.1 Kr_42) FUEL ?_ ⟨(m_32, min (p_1.length : Int) ((m_29.length : Int) - 0)), Kr_35, rfl, rfl, rfl, hx, hr_35⟩ ⟨rfl, rfl, rfl, rfl, trivial⟩ ?_)
        ·
         rintro _ _ _ ⟨s_39, Kr_42, rfl, rfl, rfl, hn_40, hr_42⟩
         exact run_zero hn_40
        ·
         rintro n_41 _ _ _ ⟨s_39, Kr_42, rfl, rfl, rfl, hn_40, hr_42⟩
         clear hx; obtain ⟨oo_44, hx, hd_43⟩ := Z0 hn_40
         unfold bytes_Repeat_l1 at hx
         refine ZG (ZG (ZB (ZA rfl rfl (ZF rfl) (ZA rfl rfl (ZF rfl) (ZA rfl rfl (Zr rfl rfl) (ZD (ZC (ZU rfl (fun c_43 => ?_) (fun c_43 => ?_)))))))))
         ·
          replace hx := ZW c_43 hx
          refine JC.skip (ZC (JC.block (ZG (ZB (ZA rfl rfl (ZF rfl) (ZA rfl rfl (ZF rfl) (ZA rfl rfl (R.min2 rfl rfl) (ZA rfl rfl (ZH rfl) (ZD (ZC (JC.draw (so := []) 10 rfl Mixed trivial ?_)))))))))))
          refine JA.val ⟨by kernel_rfl, by kernel_rfl⟩ (ZJ _) (i := 0) rfl ⟨by kernel_rfl, by kernel_rfl, rfl⟩ trivial (ZI (Hle.refl _) trivial) (ZF rfl) rfl (JA.val ⟨by kernel_rfl, by kernel_rfl⟩ (ZJ _) (i := 1) rfl ⟨by kernel_rfl, by kernel_rfl, rfl⟩ trivial (ZI (Hle.refl _) trivial) (ZF rfl) rfl (JA.val ⟨by kernel_rfl, by kernel_rfl⟩ (ZJ _) (i := 2) rfl ⟨by kernel_rfl, by kernel_rfl, rfl⟩ trivial (ZI (Hle.refl _) trivial) (ZF rfl) rfl (JA.val ⟨by kernel_rfl, by kernel_rfl⟩ (ZJ _) (i := 4) rfl ⟨by kernel_rfl, by kernel_rfl, rfl⟩ trivial (ZI (Hle.refl _) trivial) (ZF rfl) rfl (JA.val ⟨by kernel_rfl, by kernel_rfl⟩ (ZJ _) (i := 5) rfl ⟨by kernel_rfl, by kernel_rfl, rfl⟩ trivial (ZI (Hle.refl _) trivial) (ZF rfl) rfl ?_))))
          obtain ⟨hb_45, hx⟩ := chk_some hx
          obtain ⟨hb_47, hx⟩ := chk_some hx
          obtain ⟨m_48, hm_49, hb_50, hx⟩ := cpyO_some hx
          refine JA.two (i := 3) (j := 6) (by kernel_rfl) ?_ ?_
          ·
           refine ZZ rfl trivial rfl (fun K hK => ?_)
           obtain ⟨vv_44, cv_44, h1v_44, h2v_44, h3v_44, hsv_44, hlv_44⟩ := RowOf.cutv hr_42 hb_45
           refine ZA rfl rfl (R.slc (cap := cv_44) (a := s_39.2) (b := (s_39.1.length : Int)) (c := (cv_44 : Int)) (m := s_39.1) (R := RU8) U45 S5 rfl ⟨_, rfl⟩ rfl (by obtain ⟨ao, n, e, _⟩ := h1v_44; exact ⟨ao, n, e, rfl⟩) ⟨hb_45.1, hb_45.2.1, h2v_44⟩ h3v_44 (.inl rfl)) (ZD (hK _ _ _ (ZI (Hle.refl _) trivial) (JA.one (i := 6) (by kernel_rfl) (ZZ rfl trivial rfl (fun K hK => ?_)))))
           obtain ⟨vv_46, cv_46, h1v_46, h2v_46, h3v_46, hsv_46, hlv_46⟩ := RowOf.cutv hr_42 hb_47
           refine ZA rfl rfl (R.slc (cap := cv_46) (a := (0 : Int)) (b := min s_39.2 t_14) (c := (cv_46 : Int)) (m := s_39.1) (R := RU8) U45 S5 rfl rfl ⟨_, rfl⟩ (by obtain ⟨ao, n, e, _⟩ := h1v_46; exact ⟨ao, n, e, rfl⟩) ⟨hb_47.1, hb_47.2.1, h2v_46⟩ h3v_46 (.inl rfl)) (ZD (hK _ _ _ (ZI (Hle.refl _) trivial) (JA.one (i := 7) (by kernel_rfl) (ZZ rfl trivial rfl (fun K hK => JL.copyR (HF := (New H H)) (lo := s_39.2) (hi := (s_39.1.length : Int)) 0 U45 S5 rfl hr_42 rfl hsv_44 rfl (CSrc.part 0 rfl hr_42 hsv_46 hb_47 rfl) hb_50 hm_49 rfl (fun Kr_51 hr_51 => ZD (hK _ _ _ (ZI (Hle.refl _) trivial) (JA.val ⟨by kernel_rfl, by kernel_rfl⟩ (ZJ _) (i := 8) rfl ⟨by kernel_rfl, by kernel_rfl, rfl⟩ trivial (ZI (Hle.refl _) trivial) (R.add_i rfl rfl) rfl (JA.val ⟨by kernel_rfl, by kernel_rfl⟩ (ZJ _) (i := 9) rfl ⟨by kernel_rfl, by kernel_rfl, rfl⟩ trivial (ZI (Hle.refl _) trivial) (ZH rfl) rfl (Zt (by kernel_rfl) (Zk ?_)))))))))))
           replace hx := Zo hd_43 hx
           exact JN.cut ⟨(m_48, w64 (s_39.2 + (min ((cut s_39.1 (0 : Int) (min s_39.2 t_14)).length : Int) ((s_39.1.length : Int) - s_39.2)))), Kr_51, rfl, rfl, rfl, hx, hr_51⟩ ⟨rfl, rfl, rfl, rfl, trivial⟩ rfl rfl
          ·
           refine ZZ rfl trivial rfl (fun K hK => ?_)
           obtain ⟨vv_46, cv_46, h1v_46, h2v_46, h3v_46, hsv_46, hlv_46⟩ := RowOf.cutv hr_42 hb_47
           refine ZA rfl rfl (R.slc (cap := cv_46) (a := (0 : Int)) (b := min s_39.2 t_14) (c := (cv_46 : Int)) (m := s_39.1) (R := RU8) U45 S5 rfl rfl ⟨_, rfl⟩ (by obtain ⟨ao, n, e, _⟩ := h1v_46; exact ⟨ao, n, e, rfl⟩) ⟨hb_47.1, hb_47.2.1, h2v_46⟩ h3v_46 (.inl rfl)) (ZD (hK _ _ _ (ZI (Hle.refl _) trivial) (JA.one (i := 3) (by kernel_rfl) (ZZ rfl trivial rfl (fun K hK => ?_)))))
           obtain ⟨vv_44, cv_44, h1v_44, h2v_44, h3v_44, hsv_44, hlv_44⟩ := RowOf.cutv hr_42 hb_45
           refine ZA rfl rfl (R.slc (cap := cv_44) (a := s_39.2) (b := (s_39.1.length : Int)) (c := (cv_44 : Int)) (m := s_39.1) (R := RU8) U45 S5 rfl ⟨_, rfl⟩ rfl (by obtain ⟨ao, n, e, _⟩ := h1v_44; exact ⟨ao, n, e, rfl⟩) ⟨hb_45.1, hb_45.2.1, h2v_44⟩ h3v_44 (.inl rfl)) (ZD (hK _ _ _ (ZI (Hle.refl _) trivial) (JA.one (i := 7) (by kernel_rfl) (ZZ rfl trivial rfl (fun K hK => JL.copyR (HF := (New H H)) (lo := s_39.2) (hi := (s_39.1.length : Int)) 0 U45 S5 rfl hr_42 rfl hsv_44 rfl (CSrc.part 0 rfl hr_42 hsv_46 hb_47 rfl) hb_50 hm_49 rfl (fun Kr_51 hr_51 => ZD (hK _ _ _ (ZI (Hle.refl _) trivial) (JA.val ⟨by kernel_rfl, by kernel_rfl⟩ (ZJ _) (i := 8) rfl ⟨by kernel_rfl, by kernel_rfl, rfl⟩ trivial (ZI (Hle.refl _) trivial) (R.add_i rfl rfl) rfl (JA.val ⟨by kernel_rfl, by kernel_rfl⟩ (ZJ _) (i := 9) rfl ⟨by kernel_rfl, by kernel_rfl, rfl⟩ trivial (ZI (Hle.refl _) trivial) (ZH rfl) rfl (Zt (by kernel_rfl) (Zk ?_)))))))))))
           replace hx := Zo hd_43 hx
           exact JN.cut ⟨(m_48, w64 (s_39.2 + (min ((cut s_39.1 (0 : Int) (min s_39.2 t_14)).length : Int) ((s_39.1.length : Int) - s_39.2)))), Kr_51, rfl, rfl, rfl, hx, hr_51⟩ ⟨rfl, rfl, rfl, rfl, trivial⟩ rfl rfl
         ·
          replace hx := ZX c_43 hx
          refine JC.exit (Ze ?_)
          obtain rfl := Zu hd_43 hx
          refine Ze (Zl ?_)
          exact JN.cut ⟨Kr_42, rfl, rfl, rfl, hr_42⟩ ⟨rfl, trivial⟩ rfl rfl
      ·
       have hxo_15 := hx; clear hx; have hx := ht_16; clear ht_16
       refine ZU rfl (fun c_17 => ?_) (fun c_17 => ?_)
       ·
        replace hx := ZW c_17 hx
        refine ZG (ZB (ZA rfl rfl (ZF rfl) (ZA rfl rfl (Zm U45 rfl (IsSlice.long ha_2)) ?_)))
        obtain ⟨hz_18, hx⟩ := chk_some hx
        refine ZA rfl rfl (R.quo_i rfl rfl hz_18) (ZA rfl rfl (ZF rfl) (ZA rfl rfl (Zm U45 rfl (IsSlice.long ha_2)) (ZA rfl rfl (R.mul_i rfl rfl) (ZA rfl rfl (ZH rfl) (ZD (ZC (ZG (ZB (ZA rfl rfl (ZF rfl) (ZA rfl rfl (Zy rfl rfl) (ZD ?_)))))))))))
        refine ZC (ZU rfl (fun c_19 => ?_) (fun c_19 => ?_))
        ·
         replace hx := ZW c_19 hx
         refine ZB (ZA rfl rfl (ZF rfl) (ZA rfl rfl (Zm U45 rfl (IsSlice.long ha_2)) (ZA rfl rfl (ZH rfl) (ZD ?_))))
         obtain rfl := Option.some.inj hx
         exact JN.cut ⟨rfl, rfl, rfl⟩ ⟨rfl, rfl, rfl, trivial⟩ rfl rfl
        ·
         replace hx := ZX c_19 hx
         refine JC.skip ?_
         obtain rfl := Option.some.inj hx
         exact JN.cut ⟨rfl, rfl, rfl⟩ ⟨rfl, rfl, rfl, trivial⟩ rfl rfl
       ·
        replace hx := ZX c_17 hx
        refine JC.skip ?_
        obtain rfl := Option.some.inj hx
        exact JN.cut ⟨rfl, rfl, rfl⟩ ⟨rfl, rfl, rfl, trivial⟩ rfl rfl

set_option maxHeartbeats 8000000 in
theorem space_New_ok (H : Heaplet) (r : List UInt8) (hx : space_New = some r) :
  Does Try.prog 65 #[] [] H (fun u K' H' => ∃ ao0 : Option Addr, ∃ n0 : Nat, ∃ cap0 : Nat, ∃ K0 : Own, u = .slice ao0 n0 cap0 ∧ K' = [K0] ∧ H = H' ∧ RowOf (New H H) RU8 0 5 1 (.slice ao0 n0 cap0) r K0 ∧ (∀ p ∈ K0, p.1 ∉ ids (List.flatten [])) ∧ True) := by
 refine Does.enterL (vs := []) (l := []) Try.func65 rfl rfl trivial (fun w hlt => ?_)
 unfold space_New at hx
 refine ZG (ZB (ZA rfl rfl (ZH rfl) (ZD (ZC (ZG (ZB (Zz (HF := (New H H)) (R := RU8) (ls := [(1 : UInt8)]) (vs := [.int .u8 ((1 : UInt8).toNat : Int)]) U45 I5 rfl rfl (⟨_, _, rfl, rfl, rfl, rfl⟩) RU8.one rfl rfl rfl (by simp [maxLen]) rfl (fun vr_1 Kr_1 hr_1 => ?_))))))))
 obtain ⟨ar_1, cr_1, rfl⟩ := RowOf.val hr_1
 obtain ⟨x_5, hr_6, hx⟩ := ZM hx
 refine JL.callL3 (vs := [_, _]) E109 rfl rfl (fun H_4 hle_3 hl_2 => bytes_Repeat_ok ([(1 : UInt8)]) 12 _ (Lent.row' 0 hl_2 RU8.mono hle_3 rfl (hr_1.old RU8.mono)) _ hr_6) rfl (fun _ _ _ _ hR_8 hf_9 => ?_)
 obtain ⟨ar_7, nr_7, cr_7, Kr_7, rfl, rfl, rfl, hr_7, -, -⟩ := hR_8
 replace hr_7 := RowOf.base (Zc (H2 := New H H) RU8.const hr_7) (fun p hp => hf_9 p (Zg 0 rfl hp))
 obtain ⟨z_12, hz_11, hc_10, hx⟩ := mks_some hx
 obtain ⟨q_13, hm_14, hl_15, hx⟩ := app_some hx
 refine JL.appZR (HF := (New H H)) (y := (0 : UInt8)) 0 U45 U3 I5 rfl rfl hr_7 rfl (fun _ => rfl) RU8.one hz_11 hc_10 hm_14 hl_15 rfl (Nat.le_refl _) rfl (fun vr_16 Kr_16 hr_16 => ?_)
 obtain ⟨ar_16, cr_16, rfl⟩ := RowOf.val hr_16
 refine ZA rfl rfl (ZH rfl) (ZD (ZC (ZV (ZT (vs := [.slice ar_16 q_13.length cr_16]) (K := [_]) (rst := [_]) (.inl rfl) rfl rfl (ZQ rfl rfl) (Za 0 rfl ZK) ?_))))
 obtain rfl := Option.some.inj hx
 exact ⟨ar_16, q_13.length, cr_16, Kr_16, rfl, rfl, rfl, (Zd (Nat.zero_le _) hr_16), (Zx hr_16 hlt), trivial⟩

set_option maxHeartbeats 8000000 in
theorem store_New_ok (H : Heaplet) (r : Store) (hx : store_New = some r) :
  Does Try.prog 33 #[] [] H (fun u K' H' => ∃ ao0 : Option Addr, ∃ n0 : Nat, ∃ cap0 : Nat, ∃ K0 : Own, ∃ ao1 : Option Addr, ∃ n1 : Nat, ∃ ao2 : Option Addr, ∃ n2 : Nat, ∃ cap2 : Nat, ∃ K2 : Own, u = .agg #[.slice ao0 n0 cap0, .slice ao1 n1 n1, .slice ao2 n2 cap2, .int .u32 (r.Epoch.toNat : Int), .int .u32 (r.Count.toNat : Int)] ∧ K' = [K0, K2] ∧ Pcs 0 5 45 (.slice ao0 n0 cap0) r.Disk.Blocks K0 ∧ (∀ p ∈ K0, p.1 ∉ ids (List.flatten [])) ∧ IsSlice (New H H') R_Write 2 (.slice ao1 n1 n1) r.Disk.Waits ∧ RowOf (New H H') RU8 0 5 1 (.slice ao2 n2 cap2) r.Space K2 ∧ (∀ p ∈ K2, p.1 ∉ ids (List.flatten [])) ∧ True) := by
 refine Does.enterL (vs := []) (l := []) Try.func33 rfl rfl trivial (fun w hlt => ?_)
 unfold store_New at hx
 refine ZG (ZB (JL.alloc Z50 rfl (fun b_1 hb_1 => ZD (ZC (ZG (ZB ?_))))))
 obtain ⟨x_2, hr_3, hx⟩ := ZM hx
 refine ZS (vs := []) (args := []) (K := []) (rst := [_]) E64 rfl rfl rfl ZK (dev_New_ok _ _ hr_3) rfl (fun u_4 Ku_4 Hu_4 hRu_4 hleu_4 hfu_4 => ?_)
 obtain ⟨ar_5, nr_5, cr_5, Kr_5, az_6, nz_6, rfl, rfl, hr_5, hnewr_5, hz_6, -⟩ := hRu_4
 replace hr_5 := (Pcs.base hr_5 (fun p hp => (hfu_4 p (Zg 0 rfl hp)).resolve_left (hnewr_5 p hp)))
 replace hz_6 := IsSlice.mono R_Write.mono (New.call (Hle.refl _)) hz_6
 obtain ⟨x_7, hr_8, hx⟩ := ZM hx
 refine ZS (vs := []) (args := []) (K := []) (rst := [_, _]) E65 rfl rfl rfl ZK (space_New_ok _ _ hr_8) rfl (fun u_9 Ku_9 Hu_9 hRu_9 hleu_9 hfu_9 => ?_)
 obtain ⟨ar_10, nr_10, cr_10, Kr_10, rfl, rfl, rfl, hr_10, hnewr_10, -⟩ := hRu_9
 replace hr_10 := (RowOf.base (Zc (H2 := New H Hu_4) RU8.const hr_10) (fun p hp => (hfu_9 p (Zg 0 rfl hp)).resolve_left (hnewr_10 p hp)))
 refine ZA rfl rfl (R.bldP (vs := [(0, .agg #[.slice ar_5 nr_5 cr_5, .slice az_6 nz_6 nz_6]), (1, .slice ar_10 nr_10 cr_10), (2, .int .u32 ((1 : UInt32).toNat : Int))]) (cs := [.slice ar_5 nr_5 cr_5, .slice az_6 nz_6 nz_6, .slice ar_10 nr_10 cr_10, .int .u32 ((1 : UInt32).toNat : Int), .int .u32 ((0 : UInt32).toNat : Int)]) Z50 B50 rfl rfl rfl) (ZN 2 S50 rfl rfl rfl rfl rfl (Nat.le_of_ble_eq_true rfl) (ZD (ZC (ZV (ZT (vs := [.agg #[.slice ar_5 nr_5 cr_5, .slice az_6 nz_6 nz_6, .slice ar_10 nr_10 cr_10, .int .u32 ((1 : UInt32).toNat : Int), .int .u32 ((0 : UInt32).toNat : Int)]]) (K := [_, _]) (rst := [_]) (.inl rfl) rfl rfl (Zf 2 rfl rfl S50 rfl) (Za 1 rfl (Za 0 rfl ZK)) ?_)))))
 obtain rfl := Option.some.inj hx
 exact ⟨ar_5, nr_5, cr_5, Kr_5, az_6, nz_6, ar_10, nr_10, cr_10, Kr_10, rfl, rfl, (Pcs.weak (Nat.zero_le _) hr_5), (newP_ids hr_5 hlt), hz_6, (Zd (Nat.zero_le _) hr_10), (Zx hr_10 hlt), trivial⟩

set_option maxHeartbeats 8000000 in
theorem dev_place_ok (p_1 : Int) (H : Heaplet) (r : Bool) (hx : dev_place p_1 = some r) :
  Does Try.prog 67 #[.int .i64 p_1] [] H (fun u K' H' => u = .bool r ∧ K' = [] ∧ H = H' ∧ True) := by
 refine Does.enterL (vs := [.int .i64 p_1]) (l := [(0, .int .i64 p_1)]) Try.func67 rfl rfl ⟨rfl, trivial⟩ (fun w hlt => ?_)
 unfold dev_place at hx
 refine ZG (ZB (ZA rfl rfl (ZH rfl) (ZD (ZC (ZG (ZB (ZA rfl rfl (ZF rfl) (ZA rfl rfl (R.cv_i64_u64 U3 U133 rfl) (ZA rfl rfl (R.lss64 (a := u64i p_1) (b := (256 : UInt64)) rfl rfl) (ZA rfl rfl (ZH rfl) (ZD ?_)))))))))))
 refine ZC (ZV (ZT (vs := [.bool (decide ((u64i p_1) < (256 : UInt64)))]) (K := []) (rst := []) (.inl rfl) rfl rfl (ZQ rfl rfl) ZK ?_))
 obtain rfl := Option.some.inj hx
 exact ⟨rfl, rfl, rfl, trivial⟩

set_option maxHeartbeats 8000000 in
theorem dev_Check_ok (p_1 : Disk) (H : Heaplet) {aa_2 : Option Addr} {na_2 : Nat} {ca_2 : Nat} {aa_3 : Option Addr} {na_3 : Nat} {ca_3 : Nat} (ha_2 : IsSlice H (RSl RU8 1) 1 (.slice aa_2 na_2 ca_2) p_1.Blocks) (ha_3 : IsSlice H R_Write 2 (.slice aa_3 na_3 ca_3) p_1.Waits) (r : Int) (hx : dev_Check p_1 = some r) :
  Does Try.prog 36 #[.agg #[.slice aa_2 na_2 ca_2, .slice aa_3 na_3 ca_3]] [] H (fun u K' H' => u = .int .i64 r ∧ K' = [] ∧ H = H' ∧ True) := by
 refine Does.enterL (vs := [.agg #[.slice aa_2 na_2 ca_2, .slice aa_3 na_3 ca_3]]) (l := [(0, .agg #[.slice aa_2 na_2 ca_2, .slice aa_3 na_3 ca_3])]) Try.func36 rfl rfl ⟨rfl, trivial⟩ (fun w hlt => ?_)
 unfold dev_Check at hx
 refine ZG (ZB (JL.box rfl rfl (fun b_4 hb_4 => ZA rfl rfl (ZH rfl) (ZD (ZC (ZG ?_))))))
 obtain ⟨t_5, ht_7, hx⟩ := ZM hx
 refine JC.cut (fun l o g => l = [(1, .pointer (some ⟨b_4, 0, none⟩)), (3, .bool t_5)] ∧ o = [[(b_4, .cells #[.slice aa_2 na_2 ca_2, .slice aa_3 na_3 ca_3] 25 (0, 0))]] ∧ H = g) ?_ ?_
 ·
  rintro _ _ _ ⟨rfl, rfl, rfl⟩
  refine ZC (ZG (ZG (ZB (ZA rfl rfl (R.fa F25_0 rfl) (ZA rfl rfl (Zi 0 S22 rfl rfl rfl) (ZA rfl rfl (Zm U22 rfl (IsSlice.long ha_2)) (ZA rfl rfl (ZF rfl) (ZD (ZC ?_)))))))))
  obtain ⟨t_9, ht_11, hx⟩ := ZM hx
  refine JC.cut (fun l o g => l = [(1, .pointer (some ⟨b_4, 0, none⟩)), (3, .bool t_9)] ∧ o = [[(b_4, .cells #[.slice aa_2 na_2 ca_2, .slice aa_3 na_3 ca_3] 25 (0, 0))]] ∧ H = g) ?_ ?_
  ·
   rintro _ _ _ ⟨rfl, rfl, rfl⟩
   refine ZC (ZG (ZG (ZB (ZA rfl rfl (R.fa F25_1 rfl) (ZA rfl rfl (Zi 0 S23 rfl rfl rfl) (ZA rfl rfl (Zm U23 rfl (IsSlice.long ha_3)) (ZA rfl rfl (ZF rfl) (ZD (ZC ?_)))))))))
   obtain ⟨t_15, ht_17, hx⟩ := ZM hx
   refine JC.cut (fun l o g => l = [(3, .bool t_15)] ∧ o = [] ∧ H = g) ?_ ?_
   ·
    rintro _ _ _ ⟨rfl, rfl, rfl⟩
    refine ZC (ZG (ZG (ZB (ZA rfl rfl (ZF rfl) (ZD (ZC (ZU rfl (fun c_21 => ?_) (fun c_21 => ?_))))))))
    ·
     replace hx := ZW c_21 hx
     refine ZG (ZB (ZA rfl rfl (ZH rfl) (ZD (ZC (ZV (ZR (ZT (vs := [.int .i64 0]) (K := []) (rst := []) (.inl rfl) rfl rfl (ZQ rfl rfl) ZK ?_)))))))
     obtain rfl := Option.some.inj hx
     exact ⟨rfl, rfl, rfl, trivial⟩
    ·
     replace hx := ZX c_21 hx
     refine JC.skip (ZC (ZG (ZB (ZA rfl rfl (ZH rfl) (ZD (ZC (ZV (ZT (vs := [.int .i64 8]) (K := []) (rst := []) (.inl rfl) rfl rfl (ZQ rfl rfl) ZK ?_))))))))
     obtain rfl := Option.some.inj hx
     exact ⟨rfl, rfl, rfl, trivial⟩
   ·
    have hxo_16 := hx; clear hx; have hx := ht_17; clear ht_17
    refine JC.block (JC.forget 0 (JC.loopI (fun n l o g => ∃ s_18 : Bool × Nat, l = [(3, .bool s_18.1), (33, .slice aa_3 na_3 ca_3), (34, .int .i64 (p_1.Waits.length : Int)), (35, .int .i64 ((s_18.2 : Nat) : Int))] ∧ o = [] ∧ H = g ∧ run (dev_Check_l2 p_1) n s_18 = some t_15) FUEL ?_ ⟨(t_9, 0), rfl, rfl, rfl, hx⟩ ⟨rfl, rfl, rfl, rfl, trivial⟩ ?_))
    ·
     rintro _ _ _ ⟨s_18, rfl, rfl, rfl, hn_19⟩
     exact run_zero hn_19
    ·
     rintro n_20 _ _ _ ⟨s_18, rfl, rfl, rfl, hn_19⟩
     clear hx; obtain ⟨oo_22, hx, hd_21⟩ := Z0 hn_19
     unfold dev_Check_l2 at hx
     refine ZG (ZB (ZA rfl rfl (Zr rfl rfl) (ZD (ZC (ZG (ZU rfl (fun c_21 => ?_) (fun c_21 => ?_)))))))
     ·
      replace hx := ZW c_21 hx
      refine JC.skip (ZC (ZG (JC.block (ZG (ZB ?_)))))
      obtain ⟨y_22, hN_23, hx⟩ := Zs hx
      obtain ⟨b_24, o_25, cs_26, hE_27, hR_28, hl_29, hc_30⟩ := IsSlice.elem ha_3 hN_23
      obtain ⟨v_31, rfl, hs_32⟩ := hR_28
      obtain ⟨av_31, cv_31, rfl⟩ := IsSlice.val hs_32
      refine ZA rfl rfl (R.ix U23 S47 rfl rfl hE_27) (ZA rfl rfl (R.ldHE (cs := [.int .i64 y_22.At, .slice av_31 y_22.Data.length cv_31]) (k := 0) (vs := [.int .i64 y_22.At, .slice av_31 y_22.Data.length cv_31]) S47 rfl hc_30 rfl rfl) (JL.alloc Z47 rfl (fun b_33 hb_33 => ZN 0 S47 rfl rfl rfl rfl rfl (Nat.le_of_ble_eq_true rfl) (ZD (ZC (ZB (ZA rfl rfl (ZF rfl) (ZA rfl rfl (ZF rfl) (Zh (t := 40) rfl (fun c_34 => ?_) (fun c_34 => ?_))))))))))
      ·
       replace hx := ZW c_34 hx
       refine ZP rfl rfl rfl (ZA rfl rfl (R.fa F47_0 rfl) (ZP rfl rfl rfl (ZA rfl rfl (Zi 0 S3 rfl rfl rfl) (ZP rfl rfl rfl ?_))))
       obtain ⟨x_35, hr_36, hx⟩ := ZM hx
       refine ZS (vs := [_]) (args := [_]) (K := []) (rst := [_]) E67 rfl rfl rfl ZK (dev_place_ok y_22.At _ _ hr_36) rfl (fun u_37 Ku_37 Hu_37 hRu_37 hleu_37 hfu_37 => ?_)
       obtain ⟨rfl, rfl, rfl, -⟩ := hRu_37
       refine ZA rfl rfl (Zj rfl rfl) (ZA rfl rfl (ZF rfl) (Zh (t := 45) rfl (fun c_38 => ?_) (fun c_38 => ?_)))
       ·
        replace hx := ZW c_38 hx
        refine ZP rfl rfl rfl (ZA rfl rfl (R.fa F47_1 rfl) (ZP rfl rfl rfl (ZA rfl rfl (Zi 0 S45 rfl rfl rfl) (ZP rfl rfl rfl (ZA rfl rfl (Zm U45 rfl (IsSlice.long hs_32)) (ZP rfl rfl rfl (ZA rfl rfl (Zy rfl rfl) (ZA rfl rfl (Zj rfl rfl) (ZA rfl rfl (ZH rfl) (ZD (Zk ?_)))))))))))
        refine ZC (ZB (ZA rfl rfl (R.inc rfl rfl (of_decide_eq_true c_21) (IsSlice.lenI ha_3)) (ZA rfl rfl (ZF rfl) (ZD ?_))))
        replace hx := Zo hd_21 hx
        refine JN.forget 0 ?_
        exact JN.cut ⟨(decide ((y_22.Data.length : Int) = 256), s_18.2 + 1), rfl, rfl, rfl, hx⟩ ⟨rfl, rfl, rfl, rfl, trivial⟩ rfl rfl
       ·
        replace hx := ZX c_38 hx
        refine ZE rfl rfl rfl rfl rfl (ZE rfl rfl rfl rfl rfl (ZE rfl rfl rfl rfl rfl (ZE rfl rfl rfl rfl rfl (ZA rfl rfl (ZL rfl rfl) (ZA rfl rfl (ZH rfl) (ZD (Zk (ZC (ZB (ZA rfl rfl (R.inc rfl rfl (of_decide_eq_true c_21) (IsSlice.lenI ha_3)) (ZA rfl rfl (ZF rfl) ?_)))))))))))
        refine ZD ?_
        replace hx := Zo hd_21 hx
        refine JN.forget 0 ?_
        exact JN.cut ⟨(false, s_18.2 + 1), rfl, rfl, rfl, hx⟩ ⟨rfl, rfl, rfl, rfl, trivial⟩ rfl rfl
      ·
       replace hx := ZX c_34 hx
       refine ZE rfl rfl rfl rfl rfl (ZE rfl rfl rfl rfl rfl (ZE rfl rfl rfl rfl rfl (ZA rfl rfl (ZL rfl rfl) (ZA rfl rfl (ZF rfl) (ZE rfl rfl rfl rfl rfl (ZE rfl rfl rfl rfl rfl (ZE rfl rfl rfl rfl rfl (ZE rfl rfl rfl rfl rfl (ZA rfl rfl (ZL rfl rfl) (ZA rfl rfl (ZH rfl) (ZD ?_)))))))))))
       refine Zk (ZC (ZB (ZA rfl rfl (R.inc rfl rfl (of_decide_eq_true c_21) (IsSlice.lenI ha_3)) (ZA rfl rfl (ZF rfl) (ZD ?_)))))
       replace hx := Zo hd_21 hx
       refine JN.forget 0 ?_
       exact JN.cut ⟨(false, s_18.2 + 1), rfl, rfl, rfl, hx⟩ ⟨rfl, rfl, rfl, rfl, trivial⟩ rfl rfl
     ·
      replace hx := ZX c_21 hx
      refine JC.exit (Ze ?_)
      obtain rfl := Zu hd_21 hx
      refine Ze (Zl ?_)
      exact JN.cut ⟨rfl, rfl, rfl⟩ ⟨rfl, trivial⟩ rfl rfl
  ·
   have hxo_10 := hx; clear hx; have hx := ht_11; clear ht_11
   refine JC.block (JC.loopI (fun n l o g => ∃ s_12 : Bool × Nat, l = [(1, .pointer (some ⟨b_4, 0, none⟩)), (3, .bool s_12.1), (19, .slice aa_2 na_2 ca_2), (20, .int .i64 (p_1.Blocks.length : Int)), (21, .int .i64 ((s_12.2 : Nat) : Int))] ∧ o = [[(b_4, .cells #[.slice aa_2 na_2 ca_2, .slice aa_3 na_3 ca_3] 25 (0, 0))]] ∧ H = g ∧ run (dev_Check_l1 p_1) n s_12 = some t_9) FUEL ?_ ⟨(t_5, 0), rfl, rfl, rfl, hx⟩ ⟨rfl, rfl, rfl, rfl, rfl, trivial⟩ ?_)
   ·
    rintro _ _ _ ⟨s_12, rfl, rfl, rfl, hn_13⟩
    exact run_zero hn_13
   ·
    rintro n_14 _ _ _ ⟨s_12, rfl, rfl, rfl, hn_13⟩
    clear hx; obtain ⟨oo_16, hx, hd_15⟩ := Z0 hn_13
    unfold dev_Check_l1 at hx
    refine ZG (ZB (ZA rfl rfl (Zr rfl rfl) (ZD (ZC (ZG (ZU rfl (fun c_15 => ?_) (fun c_15 => ?_)))))))
    ·
     replace hx := ZW c_15 hx
     refine JC.skip (ZC (ZG (JC.block (ZG (ZB ?_)))))
     obtain ⟨y_16, hN_17, hx⟩ := Zs hx
     obtain ⟨b_18, o_19, cs_20, hE_21, hR_22, hl_23, hc_24⟩ := IsSlice.elem ha_2 hN_17
     obtain ⟨v_25, rfl, hs_26⟩ := hR_22
     obtain ⟨av_25, cv_25, rfl⟩ := IsSlice.val hs_26
     refine ZA rfl rfl (R.ix U22 S45 rfl rfl hE_21) (ZA rfl rfl (R.ldH S45 rfl (hc_24 0 _ rfl)) (ZA rfl rfl (ZH rfl) (ZD (ZC (ZB (ZA rfl rfl (ZF rfl) (ZA rfl rfl (ZF rfl) (Zh (t := 26) rfl (fun c_27 => ?_) (fun c_27 => ?_)))))))))
     ·
      replace hx := ZW c_27 hx
      refine ZP rfl rfl rfl (ZA rfl rfl (ZF rfl) (ZP rfl rfl rfl (ZA rfl rfl (Zm U45 rfl (IsSlice.long hs_26)) (ZP rfl rfl rfl (ZA rfl rfl (Zy rfl rfl) (ZA rfl rfl (Zj rfl rfl) (ZA rfl rfl (ZH rfl) (ZD (Zk (ZC (ZB ?_)))))))))))
      refine ZA rfl rfl (R.inc rfl rfl (of_decide_eq_true c_15) (IsSlice.lenI ha_2)) (ZA rfl rfl (ZF rfl) (ZD ?_))
      replace hx := Zo hd_15 hx
      exact JN.cut ⟨(decide ((y_16.length : Int) = 256), s_12.2 + 1), rfl, rfl, rfl, hx⟩ ⟨rfl, rfl, rfl, rfl, rfl, trivial⟩ rfl rfl
     ·
      replace hx := ZX c_27 hx
      refine ZE rfl rfl rfl rfl rfl (ZE rfl rfl rfl rfl rfl (ZE rfl rfl rfl rfl rfl (ZA rfl rfl (ZL rfl rfl) (ZA rfl rfl (ZH rfl) (ZD (Zk (ZC (ZB (ZA rfl rfl (R.inc rfl rfl (of_decide_eq_true c_15) (IsSlice.lenI ha_2)) (ZA rfl rfl (ZF rfl) (ZD ?_)))))))))))
      replace hx := Zo hd_15 hx
      exact JN.cut ⟨(false, s_12.2 + 1), rfl, rfl, rfl, hx⟩ ⟨rfl, rfl, rfl, rfl, rfl, trivial⟩ rfl rfl
    ·
     replace hx := ZX c_15 hx
     refine JC.exit (Ze ?_)
     obtain rfl := Zu hd_15 hx
     refine Ze (Zl ?_)
     exact JN.cut ⟨rfl, rfl, rfl⟩ ⟨rfl, rfl, trivial⟩ rfl rfl
 ·
  have hxo_6 := hx; clear hx; have hx := ht_7; clear ht_7
  refine ZB (ZA rfl rfl (R.fa F25_0 rfl) (ZA rfl rfl (Zi 0 S22 rfl rfl rfl) (ZA rfl rfl (Zm U22 rfl (IsSlice.long ha_2)) (ZA rfl rfl (Zy rfl rfl) (ZA rfl rfl (ZF rfl) (Zh (t := 12) rfl (fun c_8 => ?_) (fun c_8 => ?_)))))))
  ·
   replace hx := ZW c_8 hx
   refine ZP rfl rfl rfl (ZA rfl rfl (R.fa F25_1 rfl) (ZP rfl rfl rfl (ZA rfl rfl (Zi 0 S23 rfl rfl rfl) (ZP rfl rfl rfl (ZA rfl rfl (Zm U23 rfl (IsSlice.long ha_3)) (ZP rfl rfl rfl (ZA rfl rfl (R.leq_i rfl rfl) (ZA rfl rfl (Zj rfl rfl) (ZA rfl rfl (ZH rfl) (ZD ?_))))))))))
   obtain rfl := Option.some.inj hx
   exact JN.cut ⟨rfl, rfl, rfl⟩ ⟨rfl, rfl, trivial⟩ rfl rfl
  ·
   replace hx := ZX c_8 hx
   refine ZE rfl rfl rfl rfl rfl (ZE rfl rfl rfl rfl rfl (ZE rfl rfl rfl rfl rfl (ZE rfl rfl rfl rfl rfl (ZA rfl rfl (ZL rfl rfl) (ZA rfl rfl (ZH rfl) (ZD ?_))))))
   obtain rfl := Option.some.inj hx
   exact JN.cut ⟨rfl, rfl, rfl⟩ ⟨rfl, rfl, trivial⟩ rfl rfl

set_option maxHeartbeats 8000000 in
theorem slices_Max_byte_ok (p_1 : List UInt8) (H : Heaplet) {aa_2 : Option Addr} {na_2 : Nat} {ca_2 : Nat} (ha_2 : IsSlice H RU8 1 (.slice aa_2 na_2 ca_2) p_1) (r : UInt8) (hx : slices_Max_byte p_1 = some r) :
  Does Try.prog 96 #[.slice aa_2 na_2 ca_2] [] H (fun u K' H' => u = .int .u8 (r.toNat : Int) ∧ K' = [] ∧ H = H' ∧ True) := by
 refine Does.enterL (vs := [.slice aa_2 na_2 ca_2]) (l := [(0, .slice aa_2 na_2 ca_2)]) Try.func96 rfl rfl ⟨rfl, trivial⟩ (fun w hlt => ?_)
 unfold slices_Max_byte at hx
 refine ZG (ZB (ZA rfl rfl (ZH rfl) (ZD (ZC (ZG (ZG (ZB (ZA rfl rfl (ZF rfl) (ZA rfl rfl (Zm U45 rfl (IsSlice.long ha_2)) (ZA rfl rfl (Zr rfl rfl) (ZD ?_)))))))))))
 refine ZC (ZU rfl (fun c_3 => ?_) (fun c_3 => ?_))
 ·
  replace hx := ZW c_3 hx
  refine ZB ?_
  cases hx
 ·
  replace hx := ZX c_3 hx
  refine JC.skip (ZC (ZG (ZB (ZA rfl rfl (ZF rfl) ?_))))
  obtain ⟨y_4, hN_5, hx⟩ := Zs hx
  obtain ⟨b_6, o_7, cs_8, hE_9, hR_10, hl_11, hc_12⟩ := IsSlice.elem ha_2 hN_5
  obtain rfl := hR_10
  refine ZA rfl rfl (R.ix U45 S5 rfl rfl hE_9) (ZA rfl rfl (R.ldH S5 rfl (hc_12 0 _ rfl)) (ZA rfl rfl (ZH rfl) (ZD (ZC (ZG (ZG (ZB (ZA rfl rfl (ZH rfl) (ZD (ZC ?_))))))))))
  obtain ⟨t_13, ht_15, hx⟩ := ZM hx
  refine JC.cut (fun l o g => l = [(3, .int .u8 (t_13.toNat : Int))] ∧ o = [] ∧ H = g) ?_ ?_
  ·
   rintro _ _ _ ⟨rfl, rfl, rfl⟩
   refine ZC (ZG (ZB (ZA rfl rfl (ZF rfl) (ZA rfl rfl (ZH rfl) (ZD (ZC (ZV (ZT (vs := [.int .u8 (t_13.toNat : Int)]) (K := []) (rst := []) (.inl rfl) rfl rfl (ZQ rfl rfl) ZK ?_))))))))
   obtain rfl := Option.some.inj hx
   exact ⟨rfl, rfl, rfl, trivial⟩
  ·
   have hxo_14 := hx; clear hx; have hx := ht_15; clear ht_15
   refine JC.block (JC.loopI (fun n l o g => ∃ s_16 : UInt8 × Nat, l = [(0, .slice aa_2 na_2 ca_2), (3, .int .u8 (s_16.1.toNat : Int)), (4, .int .i64 ((s_16.2 : Nat) : Int))] ∧ o = [] ∧ H = g ∧ run (slices_Max_byte_l1 p_1) n s_16 = some t_13) FUEL ?_ ⟨(y_4, 1), rfl, rfl, rfl, hx⟩ ⟨rfl, rfl, rfl, trivial⟩ ?_)
   ·
    rintro _ _ _ ⟨s_16, rfl, rfl, rfl, hn_17⟩
    exact run_zero hn_17
   ·
    rintro n_18 _ _ _ ⟨s_16, rfl, rfl, rfl, hn_17⟩
    clear hx; obtain ⟨oo_20, hx, hd_19⟩ := Z0 hn_17
    unfold slices_Max_byte_l1 at hx
    refine ZG (ZG (ZB (ZA rfl rfl (ZF rfl) (ZA rfl rfl (ZF rfl) (ZA rfl rfl (Zm U45 rfl (IsSlice.long ha_2)) (ZA rfl rfl (Zr rfl rfl) (ZD (ZC (ZU rfl (fun c_19 => ?_) (fun c_19 => ?_))))))))))
    ·
     replace hx := ZW c_19 hx
     refine JC.skip (ZC (ZG (JC.block (ZB (ZA rfl rfl (ZF rfl) (ZA rfl rfl (ZF rfl) (ZA rfl rfl (ZF rfl) ?_)))))))
     obtain ⟨y_20, hN_21, hx⟩ := Zs hx
     obtain ⟨b_22, o_23, cs_24, hE_25, hR_26, hl_27, hc_28⟩ := IsSlice.elem ha_2 hN_21
     obtain rfl := hR_26
     refine ZA rfl rfl (R.ix U45 S5 rfl rfl hE_25) (ZA rfl rfl (R.ldH S5 rfl (hc_28 0 _ rfl)) (ZA rfl rfl (R.max2b (a := s_16.1) (b := y_20) rfl rfl) (ZA rfl rfl (ZH rfl) (ZD (Zk (ZC (ZB (ZA rfl rfl (ZF rfl) (ZA rfl rfl (R.inc rfl rfl (of_decide_eq_true c_19) (IsSlice.lenI ha_2)) (ZA rfl rfl (ZH rfl) (ZD ?_)))))))))))
     replace hx := Zo hd_19 hx
     exact JN.cut ⟨(maxB s_16.1 y_20, s_16.2 + 1), rfl, rfl, rfl, hx⟩ ⟨rfl, rfl, rfl, trivial⟩ rfl rfl
    ·
     replace hx := ZX c_19 hx
     refine JC.exit (Ze ?_)
     obtain rfl := Zu hd_19 hx
     refine Ze (Zl ?_)
     exact JN.cut ⟨rfl, rfl, rfl⟩ ⟨rfl, trivial⟩ rfl rfl

theorem unicode_utf8_RuneCount_ok (p_0 : List UInt8) (H : Heaplet) {ao0 : Option Addr} {n0 cap0 : Nat} (h0 : IsSlice H RU8 1 (.slice ao0 n0 cap0) p_0) (r : Int) (hx : unicode_utf8_RuneCount p_0 = some r) :
  Does Try.prog 137 #[.slice ao0 n0 cap0] [] H (fun u K' H' => u = .int .i64 r ∧ K' = [] ∧ H = H' ∧ True) := by cases hx

theorem bytes_Index_ok (p_0 : List UInt8) (p_1 : List UInt8) (H : Heaplet) {ao0 : Option Addr} {n0 cap0 : Nat} {ao1 : Option Addr} {n1 cap1 : Nat} (h0 : IsSlice H RU8 1 (.slice ao0 n0 cap0) p_0) (h1 : IsSlice H RU8 1 (.slice ao1 n1 cap1) p_1) (r : Int) (hx : bytes_Index p_0 p_1 = some r) :
  Does Try.prog 139 #[.slice ao0 n0 cap0, .slice ao1 n1 cap1] [] H (fun u K' H' => u = .int .i64 r ∧ K' = [] ∧ H = H' ∧ True) := by cases hx

set_option maxHeartbeats 8000000 in
theorem bytes_Count_ok (p_1 : List UInt8) (p_3 : List UInt8) (H : Heaplet) {aa_2 : Option Addr} {na_2 : Nat} {ca_2 : Nat} {aa_4 : Option Addr} {na_4 : Nat} {ca_4 : Nat} (ha_2 : IsSlice H RU8 1 (.slice aa_2 na_2 ca_2) p_1) (ha_4 : IsSlice H RU8 1 (.slice aa_4 na_4 ca_4) p_3) (r : Int) (hx : bytes_Count p_1 p_3 = some r) :
  Does Try.prog 97 #[.slice aa_2 na_2 ca_2, .slice aa_4 na_4 ca_4] [] H (fun u K' H' => u = .int .i64 r ∧ K' = [] ∧ H = H' ∧ True) := by
 refine Does.enterL (vs := [.slice aa_2 na_2 ca_2, .slice aa_4 na_4 ca_4]) (l := [(0, .slice aa_2 na_2 ca_2), (1, .slice aa_4 na_4 ca_4)]) Try.func97 rfl rfl ⟨rfl, rfl, trivial⟩ (fun w hlt => ?_)
 unfold bytes_Count at hx
 refine ZG (ZB (ZA rfl rfl (ZH rfl) (ZD (ZC (ZG (ZG (ZB (ZA rfl rfl (ZF rfl) (ZA rfl rfl (Zm U45 rfl (IsSlice.long ha_4)) (ZA rfl rfl (Zy rfl rfl) (ZD ?_)))))))))))
 refine ZC (ZU rfl (fun c_5 => ?_) (fun c_5 => ?_))
 ·
  replace hx := ZW c_5 hx
  refine ZG (ZB (ZA rfl rfl (ZF rfl) ?_))
  obtain ⟨x_6, hr_7, hx⟩ := ZM hx
  refine ZS (vs := [_]) (args := [_]) (K := []) (rst := []) E137 rfl rfl rfl ZK (unicode_utf8_RuneCount_ok p_1 _ ha_2 _ hr_7) rfl (fun u_8 Ku_8 Hu_8 hRu_8 hleu_8 hfu_8 => ?_)
  obtain ⟨rfl, rfl, rfl, -⟩ := hRu_8
  refine ZA rfl rfl (R.add_i rfl rfl) (ZA rfl rfl (ZH rfl) (ZD (ZC (ZV (ZR (ZT (vs := [.int .i64 (w64 (x_6 + 1))]) (K := []) (rst := []) (.inl rfl) rfl rfl (ZQ rfl rfl) ZK ?_))))))
  obtain rfl := Option.some.inj hx
  exact ⟨rfl, rfl, rfl, trivial⟩
 ·
  replace hx := ZX c_5 hx
  refine JC.skip (ZC (ZG (ZG (ZB (ZA rfl rfl (ZF rfl) (ZA rfl rfl (Zm U45 rfl (IsSlice.long ha_4)) (ZA rfl rfl (Zy rfl rfl) (ZD (ZC (ZU rfl (fun c_9 => ?_) (fun c_9 => ?_)))))))))))
  ·
   replace hx := ZW c_9 hx
   refine ZG (ZB (ZA rfl rfl (ZF rfl) (ZA rfl rfl (ZF rfl) ?_)))
   obtain ⟨y_10, hN_11, hx⟩ := Zs hx
   obtain ⟨b_12, o_13, cs_14, hE_15, hR_16, hl_17, hc_18⟩ := IsSlice.elem ha_4 hN_11
   obtain rfl := hR_16
   refine ZA rfl rfl (R.ix U45 S5 rfl rfl hE_15) (ZA rfl rfl (R.ldH S5 rfl (hc_18 0 _ rfl)) (ZA rfl rfl (R.countB (m := p_1) (c := y_10) Try.func138 (by kernel_rfl) rfl (by kernel_rfl) (by kernel_rfl) rfl ha_2 rfl) (ZA rfl rfl (ZH rfl) (ZD (ZC (ZV (ZR (ZT (vs := [.int .i64 ((cntB p_1 y_10 : Nat) : Int)]) (K := []) (rst := []) (.inl rfl) rfl rfl (ZQ rfl rfl) ZK ?_))))))))
   obtain rfl := Option.some.inj hx
   exact ⟨rfl, rfl, rfl, trivial⟩
  ·
   replace hx := ZX c_9 hx
   refine JC.skip (ZC (ZG (ZB (ZA rfl rfl (ZH rfl) (ZD (ZC ?_))))))
   obtain ⟨t_19, ht_21, hx⟩ := ZM hx
   have hxo_20 := hx; clear hx; have hx := ht_21; clear ht_21
   refine JC.block (JC.loopI (fun n l o g => ∃ s_22 : List UInt8 × Int, ∃ az_25 : Option Addr, ∃ nz_25 : Nat, ∃ cz_25 : Nat, l = [(0, .slice az_25 nz_25 cz_25), (1, .slice aa_4 na_4 ca_4), (5, .int .i64 s_22.2)] ∧ o = [] ∧ H = g ∧ run (bytes_Count_l1 p_3) n s_22 = some t_19 ∧ IsSlice H RU8 1 (.slice az_25 nz_25 cz_25) s_22.1) FUEL ?_ ⟨(p_1, 0), aa_2, na_2, ca_2, rfl, rfl, rfl, hx, ha_2⟩ ⟨rfl, rfl, rfl, trivial⟩ ?_)
   ·
    rintro _ _ _ ⟨s_22, az_25, nz_25, cz_25, rfl, rfl, rfl, hn_23, hz_25⟩
    exact run_zero hn_23
   ·
    rintro n_24 _ _ _ ⟨s_22, az_25, nz_25, cz_25, rfl, rfl, rfl, hn_23, hz_25⟩
    clear hx; obtain ⟨oo_27, hx, hd_26⟩ := Z0 hn_23
    unfold bytes_Count_l1 at hx
    refine JC.block (ZG (ZB (ZA rfl rfl (ZF rfl) (ZA rfl rfl (ZF rfl) ?_))))
    obtain ⟨x_26, hr_27, hx⟩ := ZM hx
    refine ZS (vs := [_, _]) (args := [_, _]) (K := []) (rst := []) E139 rfl rfl rfl ZK (bytes_Index_ok s_22.1 p_3 _ hz_25 ha_4 _ hr_27) rfl (fun u_28 Ku_28 Hu_28 hRu_28 hleu_28 hfu_28 => ?_)
    obtain ⟨rfl, rfl, rfl, -⟩ := hRu_28
    refine ZA rfl rfl (ZH rfl) (ZD (ZC (ZG (ZG (ZB (ZA rfl rfl (ZF rfl) (ZA rfl rfl (Zy rfl rfl) (ZD (ZC (ZU rfl (fun c_29 => ?_) (fun c_29 => ?_)))))))))))
    ·
     replace hx := ZW c_29 hx
     refine ZG (ZB (ZA rfl rfl (ZF rfl) (ZA rfl rfl (ZH rfl) (ZD (ZC (ZV (ZR (Z4 ?_))))))))
     obtain rfl := Zu hd_26 hx
     refine ZR (Z4 ?_)
     clear hx; have hx := hxo_20
     refine ZT (vs := [.int .i64 s_22.2]) (K := []) (rst := []) (.inl rfl) rfl rfl (ZQ rfl rfl) ZK ?_
     obtain rfl := Option.some.inj hx
     exact ⟨rfl, rfl, rfl, trivial⟩
    ·
     replace hx := ZX c_29 hx
     refine JC.skip (ZC (ZG (ZB (ZA rfl rfl (ZF rfl) (ZA rfl rfl (R.add_i rfl rfl) (ZA rfl rfl (ZH rfl) (ZD (ZC (ZB (ZA rfl rfl (ZF rfl) (ZA rfl rfl (ZF rfl) ?_)))))))))))
     refine ZA rfl rfl (ZF rfl) (ZA rfl rfl (Zm U45 rfl (IsSlice.long ha_4)) (ZA rfl rfl (R.add_i rfl rfl) ?_))
     obtain ⟨m_30, hm_32, hb_31, hx⟩ := slc_some hx
     obtain ⟨vv_33, cv_33, h1v_33, h2v_33, h3v_33, hsv_33⟩ := IsSlice.cutv hz_25 hm_32 hb_31
     refine ZA rfl rfl (R.slc (cap := cv_33) (a := w64 (x_26 + (p_3.length : Int))) (b := (s_22.1.length : Int)) (c := (cv_33 : Int)) (m := s_22.1) (R := RU8) U45 S5 rfl ⟨_, rfl⟩ rfl (by obtain ⟨ao, n, e, _⟩ := h1v_33; exact ⟨ao, n, e, rfl⟩) ⟨hb_31.1, hb_31.2.1, h2v_33⟩ h3v_33 (.inl rfl)) ?_
     obtain ⟨av_33, cv_33', rfl⟩ := IsSlice.val hsv_33
     refine ZA rfl rfl (ZH rfl) (ZD (Zk ?_))
     replace hx := Zo hd_26 hx
     exact JN.cut ⟨(m_30, w64 (s_22.2 + 1)), av_33, m_30.length, cv_33', rfl, rfl, rfl, hx, hsv_33⟩ ⟨rfl, rfl, rfl, trivial⟩ rfl rfl

set_option maxHeartbeats 8000000 in
theorem space_Check_ok (p_1 : List UInt8) (H : Heaplet) {aa_2 : Option Addr} {na_2 : Nat} {ca_2 : Nat} (ha_2 : IsSlice H RU8 1 (.slice aa_2 na_2 ca_2) p_1) (r : Int) (hx : space_Check p_1 = some r) :
  Does Try.prog 57 #[.slice aa_2 na_2 ca_2] [] H (fun u K' H' => u = .int .i64 r ∧ K' = [] ∧ H = H' ∧ True) := by
 refine Does.enterL (vs := [.slice aa_2 na_2 ca_2]) (l := [(0, .slice aa_2 na_2 ca_2)]) Try.func57 rfl rfl ⟨rfl, trivial⟩ (fun w hlt => ?_)
 unfold space_Check at hx
 refine ZG (ZB (ZA rfl rfl (ZH rfl) (ZD (ZC (ZG (ZG (ZB (ZA rfl rfl (ZF rfl) (ZA rfl rfl (Zm U45 rfl (IsSlice.long ha_2)) (ZA rfl rfl (R.neq_i rfl rfl) (ZA rfl rfl (ZF rfl) ?_)))))))))))
 refine Zh (t := 6) rfl (fun c_3 => ?_) (fun c_3 => ?_)
 ·
  replace hx := ZW c_3 hx
  refine ZE rfl rfl rfl rfl rfl (ZE rfl rfl rfl rfl rfl (ZE rfl rfl rfl rfl rfl (ZA rfl rfl (Zj rfl rfl) (ZA rfl rfl (ZF rfl) (ZE rfl rfl rfl rfl rfl (ZE rfl rfl rfl rfl rfl (ZE rfl rfl rfl rfl rfl (ZE rfl rfl rfl rfl rfl (ZE rfl rfl rfl rfl rfl (ZA rfl rfl (Zj rfl rfl) (ZD ?_)))))))))))
  refine ZC (Z2 rfl (ZG (ZB (ZA rfl rfl (ZH rfl) (ZD (ZC (ZV (ZR (ZT (vs := [.int .i64 8]) (K := []) (rst := []) (.inl rfl) rfl rfl (ZQ rfl rfl) ZK ?_)))))))))
  obtain rfl := Option.some.inj hx
  exact ⟨rfl, rfl, rfl, trivial⟩
 ·
  replace hx := ZX c_3 hx
  refine ZP rfl rfl rfl (ZA rfl rfl (ZF rfl) (ZP rfl rfl rfl ?_))
  obtain ⟨x_4, hr_5, hx⟩ := ZM hx
  refine ZS (vs := [_]) (args := [_]) (K := []) (rst := []) E96 rfl rfl rfl ZK (slices_Max_byte_ok p_1 _ ha_2 _ hr_5) rfl (fun u_6 Ku_6 Hu_6 hRu_6 hleu_6 hfu_6 => ?_)
  obtain ⟨rfl, rfl, rfl, -⟩ := hRu_6
  refine ZP rfl rfl rfl (ZA rfl rfl (R.gtr8 (a := x_4) (b := (2 : UInt8)) rfl rfl) (ZA rfl rfl (ZL rfl rfl) (ZA rfl rfl (ZF rfl) (Zh (t := 11) rfl (fun c_7 => ?_) (fun c_7 => ?_)))))
  ·
   replace hx := ZW c_7 hx
   refine ZE rfl rfl rfl rfl rfl (ZE rfl rfl rfl rfl rfl (ZE rfl rfl rfl rfl rfl (ZE rfl rfl rfl rfl rfl (ZE rfl rfl rfl rfl rfl (ZA rfl rfl (Zj rfl rfl) (ZD (ZC (Z2 rfl (ZG (ZB (ZA rfl rfl (ZH rfl) ?_)))))))))))
   refine ZD (ZC (ZV (ZR (ZT (vs := [.int .i64 8]) (K := []) (rst := []) (.inl rfl) rfl rfl (ZQ rfl rfl) ZK ?_))))
   obtain rfl := Option.some.inj hx
   exact ⟨rfl, rfl, rfl, trivial⟩
  ·
   replace hx := ZX c_7 hx
   refine ZP rfl rfl rfl (ZA rfl rfl (ZF rfl) (ZP rfl rfl rfl ?_))
   obtain ⟨m_8, hm_10, hb_9, hx⟩ := slc_some hx
   obtain ⟨vv_11, cv_11, h1v_11, h2v_11, h3v_11, hsv_11⟩ := IsSlice.cutv ha_2 hm_10 hb_9
   refine ZA rfl rfl (R.slc (cap := cv_11) (a := 0) (b := 12) (c := (cv_11 : Int)) (m := p_1) (R := RU8) U45 S5 rfl rfl ⟨_, rfl⟩ (by obtain ⟨ao, n, e, _⟩ := h1v_11; exact ⟨ao, n, e, rfl⟩) ⟨hb_9.1, hb_9.2.1, h2v_11⟩ h3v_11 (.inl rfl)) ?_
   obtain ⟨av_11, cv_11', rfl⟩ := IsSlice.val hsv_11
   refine ZP rfl rfl rfl (Zz (HF := (New H H)) (R := RU8) (ls := [(1 : UInt8)]) (vs := [.int .u8 ((1 : UInt8).toNat : Int)]) U45 I5 rfl rfl (⟨_, _, rfl, rfl, rfl, rfl⟩) RU8.one rfl rfl rfl (by simp [maxLen]) rfl (fun vr_12 Kr_12 hr_12 => ?_))
   obtain ⟨ar_12, cr_12, rfl⟩ := RowOf.val hr_12
   refine ZP rfl rfl rfl ?_
   obtain ⟨x_16, hr_17, hx⟩ := ZM hx
   refine JL.callL2 (vs := [_, _]) (v := .int .i64 x_16) E97 rfl rfl (fun H_15 hle_14 hl_13 => Does.mono (bytes_Count_ok m_8 ([(1 : UInt8)]) _ (IsSlice.mono RU8.mono hle_14 hsv_11) (Lent.row' 0 hl_13 RU8.mono hle_14 rfl (hr_12.old RU8.mono)) _ hr_17) (fun _ _ _ h => h.1)) rfl (ZP rfl rfl rfl (ZA rfl rfl (R.neq_i rfl rfl) (ZA rfl rfl (ZL rfl rfl) (ZD (ZC (ZU rfl (fun c_18 => ?_) (fun c_18 => ?_)))))))
   ·
    replace hx := ZW c_18 hx
    refine ZG (ZB (ZA rfl rfl (ZH rfl) (ZD (ZC (ZV (ZR (ZT (vs := [.int .i64 8]) (K := []) (rst := [_]) (.inl rfl) rfl rfl (ZQ rfl rfl) ZK ?_)))))))
    obtain rfl := Option.some.inj hx
    exact ⟨rfl, rfl, rfl, trivial⟩
   ·
    replace hx := ZX c_18 hx
    refine JC.skip (ZC (ZG (ZB (ZA rfl rfl (ZH rfl) (ZD (ZC (ZV (ZT (vs := [.int .i64 0]) (K := []) (rst := [_]) (.inl rfl) rfl rfl (ZQ rfl rfl) ZK ?_))))))))
    obtain rfl := Option.some.inj hx
    exact ⟨rfl, rfl, rfl, trivial⟩

set_option maxHeartbeats 8000000 in
theorem store_Check_ok (p_1 : Store) (H : Heaplet) {aa_2 : Option Addr} {na_2 : Nat} {ca_2 : Nat} {aa_3 : Option Addr} {na_3 : Nat} {ca_3 : Nat} {aa_4 : Option Addr} {na_4 : Nat} {ca_4 : Nat} (ha_2 : IsSlice H (RSl RU8 1) 1 (.slice aa_2 na_2 ca_2) p_1.Disk.Blocks) (ha_3 : IsSlice H R_Write 2 (.slice aa_3 na_3 ca_3) p_1.Disk.Waits) (ha_4 : IsSlice H RU8 1 (.slice aa_4 na_4 ca_4) p_1.Space) (r : Int) (hx : store_Check p_1 = some r) :
  Does Try.prog 26 #[.agg #[.slice aa_2 na_2 ca_2, .slice aa_3 na_3 ca_3, .slice aa_4 na_4 ca_4, .int .u32 (p_1.Epoch.toNat : Int), .int .u32 (p_1.Count.toNat : Int)]] [] H (fun u K' H' => u = .int .i64 r ∧ K' = [] ∧ H = H' ∧ True) := by
 refine Does.enterL (vs := [.agg #[.slice aa_2 na_2 ca_2, .slice aa_3 na_3 ca_3, .slice aa_4 na_4 ca_4, .int .u32 (p_1.Epoch.toNat : Int), .int .u32 (p_1.Count.toNat : Int)]]) (l := [(0, .agg #[.slice aa_2 na_2 ca_2, .slice aa_3 na_3 ca_3, .slice aa_4 na_4 ca_4, .int .u32 (p_1.Epoch.toNat : Int), .int .u32 (p_1.Count.toNat : Int)])]) Try.func26 rfl rfl ⟨rfl, trivial⟩ (fun w hlt => ?_)
 unfold store_Check at hx
 refine ZG (ZB (JL.box rfl rfl (fun b_5 hb_5 => ZA rfl rfl (ZH rfl) (ZD (ZC (ZG (ZG (ZB (ZA rfl rfl (R.fa F50_0 rfl) (ZA rfl rfl (Z1 0 (vs := [.slice aa_2 na_2 ca_2, .slice aa_3 na_3 ca_3]) S25 rfl rfl rfl rfl) ?_))))))))))
 obtain ⟨x_6, hr_7, hx⟩ := ZM hx
 refine ZS (vs := [_]) (args := [_]) (K := []) (rst := [_]) E36 rfl rfl rfl ZK (dev_Check_ok (Disk.mk p_1.Disk.Blocks p_1.Disk.Waits) _ ha_2 ha_3 _ hr_7) rfl (fun u_8 Ku_8 Hu_8 hRu_8 hleu_8 hfu_8 => ?_)
 obtain ⟨rfl, rfl, rfl, -⟩ := hRu_8
 refine ZA rfl rfl (R.neq_i rfl rfl) (ZA rfl rfl (ZF rfl) (Zh (t := 7) rfl (fun c_9 => ?_) (fun c_9 => ?_)))
 ·
  replace hx := ZW c_9 hx
  refine ZE rfl rfl rfl rfl rfl (ZE rfl rfl rfl rfl rfl (ZE rfl rfl rfl rfl rfl (ZE rfl rfl rfl rfl rfl (ZA rfl rfl (Zj rfl rfl) (ZA rfl rfl (ZF rfl) (ZE rfl rfl rfl rfl rfl (ZE rfl rfl rfl rfl rfl (ZE rfl rfl rfl rfl rfl (ZA rfl rfl (Zj rfl rfl) (ZA rfl rfl (ZF rfl) (ZE rfl rfl rfl rfl rfl ?_)))))))))))
  refine ZE rfl rfl rfl rfl rfl (ZE rfl rfl rfl rfl rfl (ZA rfl rfl (Zj rfl rfl) (ZA rfl rfl (ZF rfl) (ZE rfl rfl rfl rfl rfl (ZE rfl rfl rfl rfl rfl (ZE rfl rfl rfl rfl rfl (ZA rfl rfl (Zj rfl rfl) (ZD (ZC (Z2 rfl (ZG ?_)))))))))))
  refine ZB (ZA rfl rfl (ZH rfl) (ZD (ZC (ZV (ZR (ZT (vs := [.int .i64 8]) (K := []) (rst := [_]) (.inl rfl) rfl rfl (ZQ rfl rfl) ZK ?_))))))
  obtain rfl := Option.some.inj hx
  exact ⟨rfl, rfl, rfl, trivial⟩
 ·
  replace hx := ZX c_9 hx
  refine ZP rfl rfl rfl (ZA rfl rfl (R.fa F50_1 rfl) (ZP rfl rfl rfl (ZA rfl rfl (Zi 0 S45 rfl rfl rfl) (ZP rfl rfl rfl ?_))))
  obtain ⟨x_10, hr_11, hx⟩ := ZM hx
  refine ZS (vs := [_]) (args := [_]) (K := []) (rst := [_]) E57 rfl rfl rfl ZK (space_Check_ok p_1.Space _ ha_4 _ hr_11) rfl (fun u_12 Ku_12 Hu_12 hRu_12 hleu_12 hfu_12 => ?_)
  obtain ⟨rfl, rfl, rfl, -⟩ := hRu_12
  refine ZP rfl rfl rfl (ZA rfl rfl (R.neq_i rfl rfl) (ZA rfl rfl (ZL rfl rfl) (ZA rfl rfl (ZF rfl) (Zh (t := 13) rfl (fun c_13 => ?_) (fun c_13 => ?_)))))
  ·
   replace hx := ZW c_13 hx
   refine ZE rfl rfl rfl rfl rfl (ZE rfl rfl rfl rfl rfl (ZE rfl rfl rfl rfl rfl (ZA rfl rfl (Zj rfl rfl) (ZA rfl rfl (ZF rfl) (ZE rfl rfl rfl rfl rfl (ZE rfl rfl rfl rfl rfl (ZE rfl rfl rfl rfl rfl (ZA rfl rfl (Zj rfl rfl) (ZA rfl rfl (ZF rfl) (ZE rfl rfl rfl rfl rfl (ZE rfl rfl rfl rfl rfl ?_)))))))))))
   refine ZE rfl rfl rfl rfl rfl (ZA rfl rfl (Zj rfl rfl) (ZD (ZC (Z2 rfl (ZG (ZB (ZA rfl rfl (ZH rfl) (ZD (ZC (ZV (ZR ?_)))))))))))
   refine ZT (vs := [.int .i64 8]) (K := []) (rst := [_]) (.inl rfl) rfl rfl (ZQ rfl rfl) ZK ?_
   obtain rfl := Option.some.inj hx
   exact ⟨rfl, rfl, rfl, trivial⟩
  ·
   replace hx := ZX c_13 hx
   refine ZP rfl rfl rfl (ZA rfl rfl (R.fa F50_2 rfl) (ZP rfl rfl rfl (ZA rfl rfl (Zi 0 S26 rfl rfl rfl) (ZP rfl rfl rfl (ZA rfl rfl (R.lss32 (a := p_1.Epoch) (b := (1 : UInt32)) rfl rfl) (ZA rfl rfl (ZL rfl rfl) (ZA rfl rfl (ZF rfl) (Zh (t := 18) rfl (fun c_14 => ?_) (fun c_14 => ?_)))))))))
   ·
    replace hx := ZW c_14 hx
    refine ZE rfl rfl rfl rfl rfl (ZE rfl rfl rfl rfl rfl (ZE rfl rfl rfl rfl rfl (ZA rfl rfl (Zj rfl rfl) (ZA rfl rfl (ZF rfl) (ZE rfl rfl rfl rfl rfl (ZE rfl rfl rfl rfl rfl (ZE rfl rfl rfl rfl rfl (ZA rfl rfl (Zj rfl rfl) (ZD (ZC (Z2 rfl ?_)))))))))))
    refine ZG (ZB (ZA rfl rfl (ZH rfl) (ZD (ZC (ZV (ZR (ZT (vs := [.int .i64 8]) (K := []) (rst := [_]) (.inl rfl) rfl rfl (ZQ rfl rfl) ZK ?_)))))))
    obtain rfl := Option.some.inj hx
    exact ⟨rfl, rfl, rfl, trivial⟩
   ·
    replace hx := ZX c_14 hx
    refine ZP rfl rfl rfl (ZA rfl rfl (R.fa F50_2 rfl) (ZP rfl rfl rfl (ZA rfl rfl (Zi 0 S26 rfl rfl rfl) (ZP rfl rfl rfl (ZA rfl rfl (R.gtr32 (a := p_1.Epoch) (b := (65535 : UInt32)) rfl rfl) (ZA rfl rfl (ZL rfl rfl) (ZA rfl rfl (ZF rfl) (Zh (t := 23) rfl (fun c_15 => ?_) (fun c_15 => ?_)))))))))
    ·
     replace hx := ZW c_15 hx
     refine ZE rfl rfl rfl rfl rfl (ZE rfl rfl rfl rfl rfl (ZE rfl rfl rfl rfl rfl (ZA rfl rfl (Zj rfl rfl) (ZD (ZC (Z2 rfl (ZG (ZB (ZA rfl rfl (ZH rfl) (ZD (ZC ?_)))))))))))
     refine ZV (ZR (ZT (vs := [.int .i64 8]) (K := []) (rst := [_]) (.inl rfl) rfl rfl (ZQ rfl rfl) ZK ?_))
     obtain rfl := Option.some.inj hx
     exact ⟨rfl, rfl, rfl, trivial⟩
    ·
     replace hx := ZX c_15 hx
     refine ZP rfl rfl rfl (ZA rfl rfl (R.fa F50_3 rfl) (ZP rfl rfl rfl (ZA rfl rfl (Zi 0 S26 rfl rfl rfl) (ZP rfl rfl rfl (ZA rfl rfl (R.gtr32 (a := p_1.Count) (b := (65535 : UInt32)) rfl rfl) (ZA rfl rfl (ZL rfl rfl) (ZD (ZC (ZU rfl (fun c_16 => ?_) (fun c_16 => ?_))))))))))
     ·
      replace hx := ZW c_16 hx
      refine ZG (ZB (ZA rfl rfl (ZH rfl) (ZD (ZC (ZV (ZR (ZT (vs := [.int .i64 8]) (K := []) (rst := [_]) (.inl rfl) rfl rfl (ZQ rfl rfl) ZK ?_)))))))
      obtain rfl := Option.some.inj hx
      exact ⟨rfl, rfl, rfl, trivial⟩
     ·
      replace hx := ZX c_16 hx
      refine JC.skip (ZC (ZG (ZB (ZA rfl rfl (ZH rfl) (ZD (ZC (ZV (ZT (vs := [.int .i64 0]) (K := []) (rst := [_]) (.inl rfl) rfl rfl (ZQ rfl rfl) ZK ?_))))))))
      obtain rfl := Option.some.inj hx
      exact ⟨rfl, rfl, rfl, trivial⟩

theorem bytes_Clone_ok (p_1 : List UInt8) (H : Heaplet) {ao : Option Addr} {n cap : Nat} (hs : IsSlice H RU8 1 (.slice ao n cap) p_1) (r : List UInt8) (hx : bytes_Clone p_1 = some r) :
  Does Try.prog 105 #[.slice ao n cap] [] H (fun u K' H' => ∃ ao0 : Option Addr, ∃ n0 : Nat, ∃ cap0 : Nat, ∃ K0 : Own, u = .slice ao0 n0 cap0 ∧ K' = [K0] ∧ H = H' ∧ RowOf (New H H') RU8 0 5 1 (.slice ao0 n0 cap0) r K0 ∧ (∀ p ∈ K0, p.1 ∉ ids (List.flatten [])) ∧ True) := by
 rw [bytes_Clone.eq_1] at hx
 obtain ⟨q, hq, hl, hx⟩ := app_some hx
 obtain rfl := Option.some.inj hx
 refine Does.enter (vs := [.slice ao n cap]) (l := [(0, .slice ao n cap)]) Try.func105 rfl rfl ⟨rfl, trivial⟩ (fun w => ZG (ZB (ZA rfl rfl (ZH rfl) (ZD (ZC (ZG (ZG (ZB (ZA rfl rfl (ZF rfl) (ZA rfl rfl (R.eqlNil U45 rfl rfl) (ZD ?_)))))))))))
 refine ZC ?_
 cases ao with
 | none =>
  have hp := hs.none_nil
  subst hp
  simp only [List.append_nil] at hq
  subst hq
  refine Z2 rfl (ZG (ZB (ZA rfl rfl (ZH rfl) (ZD (ZC (ZV (ZR (Zn (ZT (vs := [.slice none 0 0]) (K := [_]) (rst := []) (.inl rfl) rfl rfl (ZQ rfl rfl) (Za 0 rfl ZK) ?_)))))))))
  exact ⟨none, 0, 0, [], rfl, rfl, rfl, Zb _ _ _ _ _, (fun p hp => by cases hp), trivial⟩
 | some a =>
  refine JC.condF rfl (JC.skip (ZC (ZG (ZB (Zz (HF := New H H) (R := RU8) (ls := []) (vs := []) U45 I5 rfl rfl rfl RU8.one rfl rfl rfl (by simp [maxLen]) rfl (fun v1 K1 h1 => ?_))))))
  obtain ⟨ao1, cap1, rfl⟩ := RowOf.val h1
  refine ZA rfl rfl (ZF rfl) (JL.appF (HF := New H H) 0 U45 I5 rfl rfl h1 rfl (SrcF.sliceC RU8.const RU8.one U45 hs) hq hl rfl (Nat.le_refl _) rfl (fun v2 K2 h2 => ?_))
  obtain ⟨ao2, cap2, rfl⟩ := RowOf.val h2
  refine ZA rfl rfl (ZH rfl) (ZD (ZC (ZV (ZT (vs := [.slice ao2 _ cap2]) (K := [_]) (rst := []) (.inl rfl) rfl rfl (ZQ rfl rfl) (Za 0 rfl ZK) ?_))))
  exact ⟨_, _, _, _, rfl, rfl, rfl, Zd (Nat.zero_le _) h2, (fun p hp hm => by cases hm), trivial⟩
end Go.Proofs.Ytdoebbgjjlicjaa
