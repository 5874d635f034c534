import Derived.Test.YtdoebbgjjlicjaaGreatW2p0
/- walks: what the code computes, function by function. -/
namespace Go.Proofs.YtdoebbgjjlicjaaGreat
open Go.Ow Go.RowKit Go.Proofs
set_option linter.unusedVariables false
set_option linter.unusedSimpArgs false
set_option maxHeartbeats 8000000 in
theorem math_bits_RotateLeft32_ok (p_1 : UInt32) (p_2 : Int) (H : Heaplet) (r : UInt32) (hx : math_bits_RotateLeft32 p_1 p_2 = some r) :
  Does Tryz.prog 168 #[.int .u32 (p_1.toNat : Int), .int .i64 p_2] [] H (fun u K' H' => u = .int .u32 (r.toNat : Int) ∧ K' = [] ∧ H = H' ∧ True) := by
 refine Does.enterL (vs := [.int .u32 (p_1.toNat : Int), .int .i64 p_2]) (l := [(0, .int .u32 (p_1.toNat : Int)), (1, .int .i64 p_2)]) Tryz.func168 rfl rfl ⟨rfl, rfl, trivial⟩ (fun w hlt => ?_)
 unfold math_bits_RotateLeft32 at hx
 refine ZF (ZB (ZA rfl rfl (ZE rfl) (ZD (ZC (ZF (ZB (ZA rfl rfl (ZG rfl) (ZA rfl rfl (R.cv_i64_u64 U3 U167 rfl) (ZA rfl rfl (R.and64 (a := u64i p_2) (b := (31 : UInt64)) rfl rfl) (ZA rfl rfl (ZE rfl) (ZD ?_)))))))))))
 refine ZC (ZF (ZB (ZA rfl rfl (ZG rfl) (ZA rfl rfl (ZG rfl) (ZA rfl rfl (R.shl32 (n := (((u64i p_2) &&& (31 : UInt64)).toNat : Int)) (a := p_1) rfl rfl (Int.natCast_nonneg _)) (ZA rfl rfl (ZG rfl) (ZA rfl rfl (ZG rfl) (ZA rfl rfl (R.sub64 (a := (32 : UInt64)) (b := (u64i p_2) &&& (31 : UInt64)) rfl rfl) (ZA rfl rfl (R.shr32 (n := (((32 : UInt64) - ((u64i p_2) &&& (31 : UInt64))).toNat : Int)) (a := p_1) rfl rfl (Int.natCast_nonneg _)) (ZA rfl rfl (R.or32 (a := sl32 p_1 ((((u64i p_2) &&& (31 : UInt64)).toNat : Int)).toNat) (b := sr32 p_1 ((((32 : UInt64) - ((u64i p_2) &&& (31 : UInt64))).toNat : Int)).toNat) rfl rfl) (ZA rfl rfl (ZE rfl) ?_)))))))))))
 refine ZD (ZC (ZS (ZQ (vs := [.int .u32 (((sl32 p_1 ((((u64i p_2) &&& (31 : UInt64)).toNat : Int)).toNat) ||| (sr32 p_1 ((((32 : UInt64) - ((u64i p_2) &&& (31 : UInt64))).toNat : Int)).toNat)).toNat : Int)]) (K := []) (rst := []) (.inl rfl) rfl rfl (ZO rfl rfl) ZL ?_)))
 obtain rfl := Option.some.inj hx
 exact ⟨rfl, rfl, rfl, trivial⟩

set_option maxHeartbeats 8000000 in
theorem mix_words_turned_1_ok (p_1 : Int) (p_2 : Int) (p_4 : A4 UInt32) (H : Heaplet) {b_3 : Nat} (r : A4 UInt32) (hx : mix_words_turned_1 p_1 p_2 p_4 = some r) :
  Does Tryz.prog 167 #[.int .i64 p_1, .int .i64 p_2, .pointer (some ⟨b_3, 0, none⟩)] [[(b_3, .cells #[.int .u32 (p_4.e0.toNat : Int), .int .u32 (p_4.e1.toNat : Int), .int .u32 (p_4.e2.toNat : Int), .int .u32 (p_4.e3.toNat : Int)] 138 (0, 0))]] H (fun u K' H' => u = .tuple #[] ∧ K' = [[(b_3, .cells #[.int .u32 (r.e0.toNat : Int), .int .u32 (r.e1.toNat : Int), .int .u32 (r.e2.toNat : Int), .int .u32 (r.e3.toNat : Int)] 138 (0, 0))]] ∧ H = H' ∧ True) := by
 refine Does.enterL (vs := [.int .i64 p_1, .int .i64 p_2, .pointer (some ⟨b_3, 0, none⟩)]) (l := [(0, .int .i64 p_1), (1, .int .i64 p_2), (2, .pointer (some ⟨b_3, 0, none⟩))]) Tryz.func167 rfl rfl ⟨rfl, rfl, rfl, trivial⟩ (fun w hlt => ?_)
 unfold mix_words_turned_1 at hx
 refine ZF (ZB (ZA rfl rfl (R.ixA 0 U138 S27 rfl rfl rfl) (ZA rfl rfl (Zd 0 S27 rfl rfl rfl) (ZA rfl rfl (R.ixA 1 U138 S27 rfl rfl rfl) (ZA rfl rfl (Zd 0 S27 rfl rfl rfl) (ZA rfl rfl (R.add32 (a := p_4.e0) (b := p_4.e1) rfl rfl) (ZA rfl rfl (R.ixA 0 U138 S27 rfl rfl rfl) (ZV 0 S27 rfl rfl rfl rfl rfl (Nat.le_of_ble_eq_true rfl) (ZD (ZC (ZF ?_)))))))))))
 refine ZB (ZA rfl rfl (R.ixA 3 U138 S27 rfl rfl rfl) (ZA rfl rfl (Zd 0 S27 rfl rfl rfl) (ZA rfl rfl (R.ixA 0 U138 S27 rfl rfl rfl) (ZA rfl rfl (Zd 0 S27 rfl rfl rfl) (ZA rfl rfl (R.xor32 (a := p_4.e3) (b := p_4.e0 + p_4.e1) rfl rfl) (ZA rfl rfl (ZG rfl) ?_))))))
 obtain ⟨x_5, hr_6, hx⟩ := ZM hx
 refine ZR (vs := [_, _]) (args := [_, _]) (K := []) (rst := [_]) E168 rfl rfl rfl ZL (math_bits_RotateLeft32_ok (p_4.e3 ^^^ (p_4.e0 + p_4.e1)) p_1 _ _ hr_6) rfl (fun u_7 Ku_7 Hu_7 hRu_7 hleu_7 hfu_7 => ?_)
 obtain ⟨rfl, rfl, rfl, -⟩ := hRu_7
 refine ZA rfl rfl (R.ixA 3 U138 S27 rfl rfl rfl) (ZV 0 S27 rfl rfl rfl rfl rfl (Nat.le_of_ble_eq_true rfl) (ZD (ZC (ZF (ZB (ZA rfl rfl (R.ixA 2 U138 S27 rfl rfl rfl) (ZA rfl rfl (Zd 0 S27 rfl rfl rfl) (ZA rfl rfl (R.ixA 3 U138 S27 rfl rfl rfl) (ZA rfl rfl (Zd 0 S27 rfl rfl rfl) (ZA rfl rfl (R.add32 (a := p_4.e2) (b := x_5) rfl rfl) (ZA rfl rfl (R.ixA 2 U138 S27 rfl rfl rfl) ?_)))))))))))
 refine ZV 0 S27 rfl rfl rfl rfl rfl (Nat.le_of_ble_eq_true rfl) (ZD (ZC (ZB (ZA rfl rfl (R.ixA 1 U138 S27 rfl rfl rfl) (ZA rfl rfl (Zd 0 S27 rfl rfl rfl) (ZA rfl rfl (R.ixA 2 U138 S27 rfl rfl rfl) (ZA rfl rfl (Zd 0 S27 rfl rfl rfl) (ZA rfl rfl (R.xor32 (a := p_4.e1) (b := p_4.e2 + x_5) rfl rfl) (ZA rfl rfl (ZG rfl) ?_)))))))))
 obtain ⟨x_8, hr_9, hx⟩ := ZM hx
 refine ZR (vs := [_, _]) (args := [_, _]) (K := []) (rst := [_]) E168 rfl rfl rfl ZL (math_bits_RotateLeft32_ok (p_4.e1 ^^^ (p_4.e2 + x_5)) p_2 _ _ hr_9) rfl (fun u_10 Ku_10 Hu_10 hRu_10 hleu_10 hfu_10 => ?_)
 obtain ⟨rfl, rfl, rfl, -⟩ := hRu_10
 refine ZA rfl rfl (R.ixA 1 U138 S27 rfl rfl rfl) (ZV 0 S27 rfl rfl rfl rfl rfl (Nat.le_of_ble_eq_true rfl) (ZD (ZQ (vs := []) (K := [_]) (rst := []) (.inr rfl) rfl rfl rfl (Zf 0 rfl ZL) ?_)))
 obtain rfl := Option.some.inj hx
 exact ⟨rfl, rfl, rfl, trivial⟩

set_option maxHeartbeats 8000000 in
theorem mix_words_turned_ok (p_1 : A4 UInt32) (H : Heaplet) (r : A4 UInt32) (hx : mix_words_turned p_1 = some r) :
  Does Tryz.prog 147 #[.agg #[.int .u32 (p_1.e0.toNat : Int), .int .u32 (p_1.e1.toNat : Int), .int .u32 (p_1.e2.toNat : Int), .int .u32 (p_1.e3.toNat : Int)]] [] H (fun u K' H' => u = .agg #[.int .u32 (r.e0.toNat : Int), .int .u32 (r.e1.toNat : Int), .int .u32 (r.e2.toNat : Int), .int .u32 (r.e3.toNat : Int)] ∧ K' = [] ∧ H = H' ∧ True) := by
 refine Does.enterL (vs := [.agg #[.int .u32 (p_1.e0.toNat : Int), .int .u32 (p_1.e1.toNat : Int), .int .u32 (p_1.e2.toNat : Int), .int .u32 (p_1.e3.toNat : Int)]]) (l := [(0, .agg #[.int .u32 (p_1.e0.toNat : Int), .int .u32 (p_1.e1.toNat : Int), .int .u32 (p_1.e2.toNat : Int), .int .u32 (p_1.e3.toNat : Int)])]) Tryz.func147 rfl rfl ⟨rfl, trivial⟩ (fun w hlt => ?_)
 unfold mix_words_turned at hx
 refine ZF (ZB (Zv rfl rfl (fun b_2 hb_2 => JL.alloc Z138 rfl (fun b_3 hb_3 => ZD (ZC (ZF (ZB (ZA rfl rfl (R.func (vf := []) (vc := [_]) rfl rfl) (ZA rfl rfl (ZE rfl) (ZD (ZC ?_)))))))))))
 refine ZF (ZB (ZA rfl rfl (ZG rfl) ?_))
 obtain ⟨x_4, hr_5, hx⟩ := ZM hx
 refine ZR (vs := [_, _]) (args := [_, _, _]) (K := [_]) (rst := [_]) E167 rfl rfl rfl (Zf 1 rfl ZL) (mix_words_turned_1_ok 15 11 p_1 _ _ hr_5) rfl (fun u_6 Ku_6 Hu_6 hRu_6 hleu_6 hfu_6 => ?_)
 obtain ⟨rfl, rfl, rfl, -⟩ := hRu_6
 refine ZD (ZC (ZF (ZB (ZA rfl rfl (ZG rfl) ?_))))
 obtain ⟨x_7, hr_8, hx⟩ := ZM hx
 refine ZR (vs := [_, _]) (args := [_, _, _]) (K := [_]) (rst := [_]) E167 rfl rfl rfl (Zf 0 rfl ZL) (mix_words_turned_1_ok 9 6 x_4 _ _ hr_8) rfl (fun u_9 Ku_9 Hu_9 hRu_9 hleu_9 hfu_9 => ?_)
 obtain ⟨rfl, rfl, rfl, -⟩ := hRu_9
 refine ZD (ZC (ZF (ZB (ZA rfl rfl (Zg 0 (vs := [.int .u32 (x_7.e0.toNat : Int), .int .u32 (x_7.e1.toNat : Int), .int .u32 (x_7.e2.toNat : Int), .int .u32 (x_7.e3.toNat : Int)]) S138 rfl rfl rfl rfl) (ZV 1 S138 rfl rfl rfl rfl rfl (Nat.le_of_ble_eq_true rfl) (ZD (ZC (ZS (ZQ (vs := [.agg #[.int .u32 (x_7.e0.toNat : Int), .int .u32 (x_7.e1.toNat : Int), .int .u32 (x_7.e2.toNat : Int), .int .u32 (x_7.e3.toNat : Int)]]) (K := []) (rst := [_, _]) (.inl rfl) rfl rfl (Zn 1 rfl rfl S138 rfl) ZL ?_)))))))))
 obtain rfl := Option.some.inj hx
 exact ⟨rfl, rfl, rfl, trivial⟩

set_option maxHeartbeats 8000000 in
theorem mix_words_often_ok (p_1 : A4 UInt32) (p_2 : Int) (H : Heaplet) (r : A4 UInt32) (hx : mix_words_often p_1 p_2 = some r) :
  Does Tryz.prog 126 #[.agg #[.int .u32 (p_1.e0.toNat : Int), .int .u32 (p_1.e1.toNat : Int), .int .u32 (p_1.e2.toNat : Int), .int .u32 (p_1.e3.toNat : Int)], .int .i64 p_2] [] H (fun u K' H' => u = .agg #[.int .u32 (r.e0.toNat : Int), .int .u32 (r.e1.toNat : Int), .int .u32 (r.e2.toNat : Int), .int .u32 (r.e3.toNat : Int)] ∧ K' = [] ∧ H = H' ∧ True) := by
 refine Does.enterL (vs := [.agg #[.int .u32 (p_1.e0.toNat : Int), .int .u32 (p_1.e1.toNat : Int), .int .u32 (p_1.e2.toNat : Int), .int .u32 (p_1.e3.toNat : Int)], .int .i64 p_2]) (l := [(0, .agg #[.int .u32 (p_1.e0.toNat : Int), .int .u32 (p_1.e1.toNat : Int), .int .u32 (p_1.e2.toNat : Int), .int .u32 (p_1.e3.toNat : Int)]), (1, .int .i64 p_2)]) Tryz.func126 rfl rfl ⟨rfl, rfl, trivial⟩ (fun w hlt => ?_)
 unfold mix_words_often at hx
 refine ZF (ZB (Zv rfl rfl (fun b_3 hb_3 => JL.alloc Z138 rfl (fun b_4 hb_4 => ZD (ZC (ZF (ZF (ZB (ZA rfl rfl (ZG rfl) (ZA rfl rfl (ZG rfl) (ZD ?_)))))))))))
 refine ZC ?_
 obtain ⟨t_5, ht_7, hx⟩ := ZM hx
 refine Z1 (fun l o g => l = [(2, .pointer (some ⟨b_3, 0, none⟩)), (4, .pointer (some ⟨b_4, 0, none⟩))] ∧ o = [[(b_3, .cells #[.int .u32 (t_5.1.toNat : Int), .int .u32 (t_5.2.1.toNat : Int), .int .u32 (t_5.2.2.1.toNat : Int), .int .u32 (t_5.2.2.2.toNat : Int)] 138 (0, 0))], [(b_4, .cells #[.int .u32 ((0 : UInt32).toNat : Int), .int .u32 ((0 : UInt32).toNat : Int), .int .u32 ((0 : UInt32).toNat : Int), .int .u32 ((0 : UInt32).toNat : Int)] 138 (0, 0))]] ∧ H = g) ?_ ?_
 ·
  rintro _ _ _ ⟨rfl, rfl, rfl⟩
  refine ZC (ZF (ZB (ZA rfl rfl (Zg 0 (vs := [.int .u32 (t_5.1.toNat : Int), .int .u32 (t_5.2.1.toNat : Int), .int .u32 (t_5.2.2.1.toNat : Int), .int .u32 (t_5.2.2.2.toNat : Int)]) S138 rfl rfl rfl rfl) (ZV 1 S138 rfl rfl rfl rfl rfl (Nat.le_of_ble_eq_true rfl) (ZD (ZC (ZS (ZQ (vs := [.agg #[.int .u32 (t_5.1.toNat : Int), .int .u32 (t_5.2.1.toNat : Int), .int .u32 (t_5.2.2.1.toNat : Int), .int .u32 (t_5.2.2.2.toNat : Int)]]) (K := []) (rst := [_, _]) (.inl rfl) rfl rfl (Zn 1 rfl rfl S138 rfl) ZL ?_))))))))
  obtain rfl := Option.some.inj hx
  exact ⟨rfl, rfl, rfl, trivial⟩
 ·
  have hxo_6 := hx; clear hx; have hx := ht_7; clear ht_7
  refine JC.block (Zj 1 rfl (Z5 (fun n l o g => ∃ s_8 : UInt32 × UInt32 × UInt32 × UInt32 × Int, l = [(2, .pointer (some ⟨b_3, 0, none⟩)), (4, .pointer (some ⟨b_4, 0, none⟩)), (5, .int .i64 p_2), (6, .int .i64 s_8.2.2.2.2)] ∧ o = [[(b_3, .cells #[.int .u32 (s_8.1.toNat : Int), .int .u32 (s_8.2.1.toNat : Int), .int .u32 (s_8.2.2.1.toNat : Int), .int .u32 (s_8.2.2.2.1.toNat : Int)] 138 (0, 0))], [(b_4, .cells #[.int .u32 ((0 : UInt32).toNat : Int), .int .u32 ((0 : UInt32).toNat : Int), .int .u32 ((0 : UInt32).toNat : Int), .int .u32 ((0 : UInt32).toNat : Int)] 138 (0, 0))]] ∧ H = g ∧ run (mix_words_often_l1 p_2) n s_8 = some t_5) FUEL ?_ ⟨(p_1.e0, p_1.e1, p_1.e2, p_1.e3, 0), rfl, rfl, rfl, hx⟩ ⟨rfl, rfl, rfl, rfl, trivial⟩ ?_))
  ·
   rintro _ _ _ ⟨s_8, rfl, rfl, rfl, hn_9⟩
   exact Z2 hn_9
  ·
   rintro n_10 _ _ _ ⟨s_8, rfl, rfl, rfl, hn_9⟩
   clear hx; obtain ⟨oo_12, hx, hd_11⟩ := Z4 hn_9
   unfold mix_words_often_l1 at hx
   refine ZF (ZB (ZA rfl rfl (Zy rfl rfl) (ZD (ZC (ZF (ZW rfl (fun c_11 => ?_) (fun c_11 => ?_)))))))
   ·
    replace hx := ZT c_11 hx
    refine ZX (ZC (ZF (JC.block (ZB (ZA rfl rfl (Zg 0 (vs := [.int .u32 (s_8.1.toNat : Int), .int .u32 (s_8.2.1.toNat : Int), .int .u32 (s_8.2.2.1.toNat : Int), .int .u32 (s_8.2.2.2.1.toNat : Int)]) S138 rfl rfl rfl rfl) ?_)))))
    obtain ⟨x_12, hr_13, hx⟩ := ZM hx
    refine ZR (vs := [_]) (args := [_]) (K := []) (rst := [_, _]) E147 rfl rfl rfl ZL (mix_words_turned_ok (A4.mk s_8.1 s_8.2.1 s_8.2.2.1 s_8.2.2.2.1) _ _ hr_13) rfl (fun u_14 Ku_14 Hu_14 hRu_14 hleu_14 hfu_14 => ?_)
    obtain ⟨rfl, rfl, rfl, -⟩ := hRu_14
    refine ZV 0 S138 rfl rfl rfl rfl rfl (Nat.le_of_ble_eq_true rfl) (ZD (Zm (ZC (ZB (ZA rfl rfl (YA rfl rfl) (ZA rfl rfl (ZG rfl) (ZD ?_)))))))
    replace hx := Zp hd_11 hx
    refine ZN 1 rfl (ZN 1 rfl ?_)
    exact ZZ ⟨(x_12.e0, x_12.e1, x_12.e2, x_12.e3, w64 (s_8.2.2.2.2 + 1)), rfl, rfl, rfl, hx⟩ ⟨rfl, rfl, rfl, rfl, trivial⟩ rfl rfl
   ·
    replace hx := ZU c_11 hx
    refine Z0 (Zc ?_)
    obtain rfl := Zr hd_11 hx
    refine Zc (Zh (ZN 1 rfl (ZN 1 rfl ?_)))
    exact ZZ ⟨rfl, rfl, rfl⟩ ⟨rfl, rfl, trivial⟩ rfl rfl

set_option maxHeartbeats 8000000 in
theorem mix_four_ok (p_1 : List UInt8) (H : Heaplet) {aa_2 : Option Addr} {na_2 : Nat} {ca_2 : Nat} (ha_2 : IsSlice H RU8 1 (.slice aa_2 na_2 ca_2) p_1) (r : A4 UInt32) (hx : mix_four p_1 = some r) :
  Does Tryz.prog 92 #[.slice aa_2 na_2 ca_2] [] H (fun u K' H' => u = .agg #[.int .u32 (r.e0.toNat : Int), .int .u32 (r.e1.toNat : Int), .int .u32 (r.e2.toNat : Int), .int .u32 (r.e3.toNat : Int)] ∧ K' = [] ∧ True) := by
 refine Does.enterML (vs := [.slice aa_2 na_2 ca_2]) (l := [(0, .slice aa_2 na_2 ca_2)]) Tryz.func92 rfl rfl ⟨rfl, trivial⟩ (fun w hlt => ?_)
 unfold mix_four at hx
 refine ZF (ZB (JL.alloc Z138 rfl (fun b_3 hb_3 => ZD (ZC (ZF (ZB (ZA rfl rfl (R.bldA (vs := [(0, .int .u32 ((1 : UInt32).toNat : Int)), (1, .int .u32 ((2 : UInt32).toNat : Int)), (2, .int .u32 ((3 : UInt32).toNat : Int)), (3, .int .u32 ((4 : UInt32).toNat : Int))]) (cells := #[.int .u32 ((1 : UInt32).toNat : Int), .int .u32 ((2 : UInt32).toNat : Int), .int .u32 ((3 : UInt32).toNat : Int), .int .u32 ((4 : UInt32).toNat : Int)]) Z138 B138 rfl rfl rfl rfl) (JL.alloc Z138 rfl (fun b_4 hb_4 => ZV 0 S138 rfl rfl rfl rfl rfl (Nat.le_of_ble_eq_true rfl) (ZD (ZC ?_)))))))))))
 refine ZF (ZB (ZA rfl rfl (ZG rfl) ?_))
 obtain ⟨x_5, hr_6, hx⟩ := ZM hx
 refine ZR (vs := [_]) (args := [_]) (K := []) (rst := [_, _]) E124 rfl rfl rfl ZL (slices_Clone_byte_ok p_1 _ ha_2 _ hr_6) rfl (fun u_7 Ku_7 Hu_7 hRu_7 hleu_7 hfu_7 => ?_)
 obtain ⟨ar_8, nr_8, cr_8, Kr_8, rfl, rfl, rfl, hr_8, hnewr_8, -⟩ := hRu_7
 replace hr_8 := (RowOf.base (Zo (H2 := New H H) RU8.const hr_8) (fun p hp => (hfu_7 p (Zw 0 rfl hp)).resolve_left (hnewr_8 p hp)))
 refine JL.pubN 0 RU8.mono rfl hr_8 (Nat.le_refl _) (fun H_9 hleH_9 hsH_9 => JL.forget 0 ?_)
 obtain ⟨x_10, hr_11, hx⟩ := ZM hx
 refine ZR (vs := [_]) (args := [_]) (K := []) (rst := [_, _]) E123 rfl rfl rfl ZL (slices_Clip_byte_ok x_5 _ (hsH_9.old RU8.mono) _ hr_11) rfl (fun u_12 Ku_12 Hu_12 hRu_12 hleu_12 hfu_12 => ?_)
 obtain ⟨az_13, nz_13, rfl, rfl, rfl, hz_13, -⟩ := hRu_12
 refine JL.bslF (HF := (New H H_9)) (R := RU8) (ls := [(1 : UInt8)]) (vs := [.int .u8 ((1 : UInt8).toNat : Int)]) U26 I5 rfl rfl (⟨_, _, rfl, rfl, rfl, rfl⟩) RU8.one rfl rfl rfl (by simp [maxLen]) rfl (fun vr_14 Kr_14 hr_14 => ?_)
 obtain ⟨ar_14, cr_14, rfl⟩ := RowOf.val hr_14
 obtain ⟨q_15, hm_16, hl_17, hx⟩ := YC hx
 refine JL.appC (HF := (New H H_9)) U26 I5 rfl RU8.one (Hle.refl _) hz_13 (fun _ _ h => RU8.const _ _ _ _ h) rfl (SrcF.row 0 U26 rfl (Zo RU8.const hr_14)) (List.cons_ne_nil _ _) hm_16 hl_17 rfl rfl (fun vr_18 Kr_18 hr_18 => ?_)
 obtain ⟨ar_18, cr_18, rfl⟩ := RowOf.val hr_18
 refine ZA rfl rfl (ZE rfl) (ZD (ZC (ZF ?_)))
 obtain ⟨t_19, ht_21, hx⟩ := ZM hx
 refine Z1 (fun l o g => ∃ ar_26 : Option Addr, ∃ nr_26 : Nat, ∃ cr_26 : Nat, ∃ Kr_26 : Own, l = [(0, .slice aa_2 na_2 ca_2), (2, .pointer (some ⟨b_3, 0, none⟩)), (3, .pointer (some ⟨b_4, 0, none⟩)), (4, .slice ar_26 nr_26 cr_26)] ∧ o = [[(b_3, .cells #[.int .u32 ((0 : UInt32).toNat : Int), .int .u32 ((0 : UInt32).toNat : Int), .int .u32 ((0 : UInt32).toNat : Int), .int .u32 ((0 : UInt32).toNat : Int)] 138 (0, 0))], [(b_4, .cells #[.int .u32 ((1 : UInt32).toNat : Int), .int .u32 ((2 : UInt32).toNat : Int), .int .u32 ((3 : UInt32).toNat : Int), .int .u32 ((4 : UInt32).toNat : Int)] 138 (0, 0))], Kr_26] ∧ H_9 = g ∧ RowOf (New H H_9) RU8 w.heap.size 5 1 (.slice ar_26 nr_26 cr_26) t_19 Kr_26) ?_ ?_
 ·
  rintro _ _ _ ⟨ar_26, nr_26, cr_26, Kr_26, rfl, rfl, rfl, hr_26⟩
  refine ZC (ZF (ZF (ZB (ZA rfl rfl (ZG rfl) (JL.pubN 2 RU8.mono rfl hr_26 (Nat.le_refl _) (fun H_27 hleH_27 hsH_27 => JL.forget 2 ?_))))))
  obtain ⟨x_28, hr_29, hx⟩ := ZM hx
  refine ZR (vs := [_, _]) (args := [_, _]) (K := []) (rst := [_, _]) E59 rfl rfl rfl ZL (slices_Chunk_byte_ok t_19 8 _ (hsH_27.old RU8.mono) _ hr_29) rfl (fun u_30 Ku_30 Hu_30 hRu_30 hleu_30 hfu_30 => ?_)
  obtain ⟨bit_31, cit_31, rfl, rfl, hit_31, kit_31, pit_31, -⟩ := hRu_30
  refine ZD (ZC (JC.block ?_))
  obtain ⟨t_32, ht_34, hx⟩ := ZM hx
  refine Zj 1 rfl (Zj 1 rfl (JC.rangeL (RA := fun H' args (y : List UInt8) => ∃ ao : Option Addr, args = #[.slice ao y.length y.length] ∧ IsSlice H' RU8 1 (.slice ao y.length y.length) y) rfl mix_four_r2 ((1 : UInt32), (2 : UInt32), (3 : UInt32), (4 : UInt32)) t_32 ht_34 (fun s_35 o g => ∃ H_41 : Heaplet, o = [[(b_3, .cells #[.int .u32 ((0 : UInt32).toNat : Int), .int .u32 ((0 : UInt32).toNat : Int), .int .u32 ((0 : UInt32).toNat : Int), .int .u32 ((0 : UInt32).toNat : Int)] 138 (0, 0))], [(b_4, .cells #[.int .u32 (s_35.1.toNat : Int), .int .u32 (s_35.2.1.toNat : Int), .int .u32 (s_35.2.2.1.toNat : Int), .int .u32 (s_35.2.2.2.toNat : Int)] 138 (0, 0))]] ∧ H_41 = g ∧ Hle Hu_30 H_41) (fun e c o g => False) rfl E93 (slices_Chunk_byte_it t_19 8 pit_31 _ ((hsH_27.mono RU8.mono (New.mono hleu_30)).old RU8.mono) hit_31 kit_31) (fun _ _ _ h => by obtain ⟨_, h, _⟩ := h; rw [h]; rfl) rfl ⟨Hu_30, rfl, rfl, (Hle.refl _)⟩ ?_ ?_ ?_))
  ·
   rintro lr_37 y_36 s_35 args o g out_39 ⟨H_41, rfl, rfl, hleH_41⟩ hA hx2
   clear hx; have hx := hx2; clear hx2; unfold mix_four_r2 at hx
   obtain ⟨aoit_31, rfl, hyit_31⟩ := hA
   refine ⟨[(0, .slice aa_2 na_2 ca_2), (2, .pointer (some ⟨b_3, 0, none⟩)), (3, .pointer (some ⟨b_4, 0, none⟩)), (5, .slice aoit_31 y_36.length y_36.length)], fun wb_38 hwb_38 => ?_, fun wb_38 hwb_38 => ?_⟩
   ·
    refine ZB (ZA rfl rfl (ZE rfl) (ZD ?_))
    exact JN.assigned ⟨rfl, rfl, rfl, rfl, trivial⟩
   ·
    refine JC.block (ZF ?_)
    obtain ⟨t_42, ht_44, hx⟩ := ZM hx
    refine Z1 (fun l o g => ∃ H_55 : Heaplet, l = [(0, .slice aa_2 na_2 ca_2), (2, .pointer (some ⟨b_3, 0, none⟩)), (3, .pointer (some ⟨b_4, 0, none⟩)), (5, .slice aoit_31 y_36.length y_36.length)] ∧ o = [[(b_3, .cells #[.int .u32 ((0 : UInt32).toNat : Int), .int .u32 ((0 : UInt32).toNat : Int), .int .u32 ((0 : UInt32).toNat : Int), .int .u32 ((0 : UInt32).toNat : Int)] 138 (0, 0))], [(b_4, .cells #[.int .u32 (t_42.toNat : Int), .int .u32 (s_35.2.1.toNat : Int), .int .u32 (s_35.2.2.1.toNat : Int), .int .u32 (s_35.2.2.2.toNat : Int)] 138 (0, 0))]] ∧ H_55 = g ∧ Hle H_41 H_55) ?_ ?_
    ·
     rintro _ _ _ ⟨H_55, rfl, rfl, rfl, hleH_55⟩
     refine ZC (ZF (JC.draw (so := [_]) 8 rfl Mixed ⟨⟨0, rfl⟩, trivial⟩ (JA.val ⟨by kernel_rfl, by kernel_rfl⟩ (ZI _) (i := 0) rfl ⟨by kernel_rfl, by kernel_rfl, rfl⟩ trivial (ZJ (Hle.refl _) ⟨⟨0, rfl⟩, trivial⟩) (R.ixA 2 U138 S27 rfl rfl rfl) rfl (JA.val ⟨by kernel_rfl, by kernel_rfl⟩ (ZI _) (i := 2) rfl ⟨by kernel_rfl, by kernel_rfl, rfl⟩ trivial (ZJ (Hle.refl _) ⟨⟨0, rfl⟩, trivial⟩) (ZG rfl) rfl ?_))))
     obtain ⟨m_56, hm_58, hb_57, hx⟩ := slc_some hx
     obtain ⟨vv_59, cv_59, h1v_59, h2v_59, h3v_59, hsv_59⟩ := IsSlice.cutv (hyit_31.mono RU8.mono hleH_55) hm_58 hb_57
     refine JA.val ⟨by kernel_rfl, by kernel_rfl⟩ (ZI _) (i := 3) rfl ⟨by kernel_rfl, by kernel_rfl, rfl⟩ trivial (ZJ (Hle.refl _) ⟨⟨0, rfl⟩, trivial⟩) (R.slc (cap := cv_59) (a := 4) (b := (y_36.length : Int)) (c := (cv_59 : Int)) (m := y_36) (R := RU8) U26 S5 rfl ⟨_, rfl⟩ rfl (by obtain ⟨ao, n, e, _⟩ := h1v_59; exact ⟨ao, n, e, rfl⟩) ⟨hb_57.1, hb_57.2.1, h2v_59⟩ h3v_59 (.inl rfl)) rfl ?_
     obtain ⟨av_59, cv_59', rfl⟩ := IsSlice.val hsv_59
     refine JA.two (i := 1) (j := 4) (by kernel_rfl) ?_ ?_
     ·
      refine JO.step rfl trivial rfl (fun K hK => ZA rfl rfl (Zd 1 S27 rfl rfl rfl) (ZD (hK _ _ _ (ZJ (Hle.refl _) ⟨⟨0, rfl⟩, trivial⟩) (JA.one (i := 4) (by kernel_rfl) (JO.step rfl trivial rfl (fun K hK => ?_))))))
      obtain ⟨x_60, hr_61, hx⟩ := ZM hx
      refine ZR (vs := [_]) (args := [_]) (K := []) (rst := [_, _]) E125 rfl rfl rfl ZL (mix_number_ok m_56 _ hsv_59 _ hr_61) rfl (fun u_62 Ku_62 Hu_62 hRu_62 hleu_62 hfu_62 => ?_)
      obtain ⟨rfl, rfl, -⟩ := hRu_62
      refine ZD (hK _ _ _ (ZJ hleu_62 ⟨⟨0, rfl⟩, trivial⟩) (JA.val ⟨by kernel_rfl, by kernel_rfl⟩ (ZI _) (i := 5) rfl ⟨by kernel_rfl, by kernel_rfl, rfl⟩ trivial (ZJ hleu_62 ⟨⟨0, rfl⟩, trivial⟩) (R.xor32 (a := s_35.2.2.1) (b := x_60) rfl rfl) rfl (JA.val ⟨by kernel_rfl, by kernel_rfl⟩ (ZI _) (i := 6) rfl ⟨by kernel_rfl, by kernel_rfl, rfl⟩ trivial (ZJ hleu_62 ⟨⟨0, rfl⟩, trivial⟩) (R.ixA 2 U138 S27 rfl rfl rfl) rfl (JA.one (i := 7) (by kernel_rfl) (JO.step rfl trivial rfl (fun K hK => ZV 1 S27 rfl rfl rfl rfl rfl (Nat.le_of_ble_eq_true rfl) (ZD (hK _ _ _ (ZJ hleu_62 ⟨⟨0, rfl⟩, trivial⟩) (Zz (by kernel_rfl) (ZC (ZB ?_)))))))))))
      refine ZA rfl rfl (Zg 1 (vs := [.int .u32 (t_42.toNat : Int), .int .u32 (s_35.2.1.toNat : Int), .int .u32 ((s_35.2.2.1 ^^^ x_60).toNat : Int), .int .u32 (s_35.2.2.2.toNat : Int)]) S138 rfl rfl rfl rfl) ?_
      obtain ⟨x_63, hr_64, hx⟩ := ZM hx
      refine ZR (vs := [_, _]) (args := [_, _]) (K := []) (rst := [_, _]) E126 rfl rfl rfl ZL (mix_words_often_ok (A4.mk t_42 s_35.2.1 (s_35.2.2.1 ^^^ x_60) s_35.2.2.2) 4 _ _ hr_64) rfl (fun u_65 Ku_65 Hu_65 hRu_65 hleu_65 hfu_65 => ?_)
      obtain ⟨rfl, rfl, rfl, -⟩ := hRu_65
      refine ZV 1 S138 rfl rfl rfl rfl rfl (Nat.le_of_ble_eq_true rfl) (ZD (Zm ?_))
      obtain rfl := Option.some.inj hx
      refine ZN 1 rfl (ZN 1 rfl ?_)
      exact JN.rN ⟨Hu_62, rfl, rfl, ((hleH_41.trans (hleH_55.trans hleu_62)))⟩
     ·
      refine JO.step rfl trivial rfl (fun K hK => ?_)
      obtain ⟨x_66, hr_67, hx⟩ := ZM hx
      refine ZR (vs := [_]) (args := [_]) (K := []) (rst := [_, _]) E125 rfl rfl rfl ZL (mix_number_ok m_56 _ hsv_59 _ hr_67) rfl (fun u_68 Ku_68 Hu_68 hRu_68 hleu_68 hfu_68 => ?_)
      obtain ⟨rfl, rfl, -⟩ := hRu_68
      refine ZD (hK _ _ _ (ZJ hleu_68 ⟨⟨0, rfl⟩, trivial⟩) (JA.one (i := 1) (by kernel_rfl) (JO.step rfl trivial rfl (fun K hK => ZA rfl rfl (Zd 1 S27 rfl rfl rfl) (ZD (hK _ _ _ (ZJ hleu_68 ⟨⟨0, rfl⟩, trivial⟩) (JA.val ⟨by kernel_rfl, by kernel_rfl⟩ (ZI _) (i := 5) rfl ⟨by kernel_rfl, by kernel_rfl, rfl⟩ trivial (ZJ hleu_68 ⟨⟨0, rfl⟩, trivial⟩) (R.xor32 (a := s_35.2.2.1) (b := x_66) rfl rfl) rfl (JA.val ⟨by kernel_rfl, by kernel_rfl⟩ (ZI _) (i := 6) rfl ⟨by kernel_rfl, by kernel_rfl, rfl⟩ trivial (ZJ hleu_68 ⟨⟨0, rfl⟩, trivial⟩) (R.ixA 2 U138 S27 rfl rfl rfl) rfl (JA.one (i := 7) (by kernel_rfl) (JO.step rfl trivial rfl (fun K hK => ZV 1 S27 rfl rfl rfl rfl rfl (Nat.le_of_ble_eq_true rfl) ?_)))))))))))
      refine ZD (hK _ _ _ (ZJ hleu_68 ⟨⟨0, rfl⟩, trivial⟩) (Zz (by kernel_rfl) (ZC (ZB (ZA rfl rfl (Zg 1 (vs := [.int .u32 (t_42.toNat : Int), .int .u32 (s_35.2.1.toNat : Int), .int .u32 ((s_35.2.2.1 ^^^ x_66).toNat : Int), .int .u32 (s_35.2.2.2.toNat : Int)]) S138 rfl rfl rfl rfl) ?_)))))
      obtain ⟨x_69, hr_70, hx⟩ := ZM hx
      refine ZR (vs := [_, _]) (args := [_, _]) (K := []) (rst := [_, _]) E126 rfl rfl rfl ZL (mix_words_often_ok (A4.mk t_42 s_35.2.1 (s_35.2.2.1 ^^^ x_66) s_35.2.2.2) 4 _ _ hr_70) rfl (fun u_71 Ku_71 Hu_71 hRu_71 hleu_71 hfu_71 => ?_)
      obtain ⟨rfl, rfl, rfl, -⟩ := hRu_71
      refine ZV 1 S138 rfl rfl rfl rfl rfl (Nat.le_of_ble_eq_true rfl) (ZD (Zm ?_))
      obtain rfl := Option.some.inj hx
      refine ZN 1 rfl (ZN 1 rfl ?_)
      exact JN.rN ⟨Hu_68, rfl, rfl, ((hleH_41.trans (hleH_55.trans hleu_68)))⟩
    ·
     have hxo_43 := hx; clear hx; have hx := ht_44; clear ht_44
     refine JC.draw (so := [_]) 8 rfl Mixed ⟨⟨0, rfl⟩, trivial⟩ (JA.val ⟨by kernel_rfl, by kernel_rfl⟩ (ZI _) (i := 0) rfl ⟨by kernel_rfl, by kernel_rfl, rfl⟩ trivial (ZJ (Hle.refl _) ⟨⟨0, rfl⟩, trivial⟩) (R.ixA 0 U138 S27 rfl rfl rfl) rfl (JA.val ⟨by kernel_rfl, by kernel_rfl⟩ (ZI _) (i := 2) rfl ⟨by kernel_rfl, by kernel_rfl, rfl⟩ trivial (ZJ (Hle.refl _) ⟨⟨0, rfl⟩, trivial⟩) (ZG rfl) rfl ?_))
     obtain ⟨m_45, hm_47, hb_46, hx⟩ := slc_some hx
     obtain ⟨vv_48, cv_48, h1v_48, h2v_48, h3v_48, hsv_48⟩ := IsSlice.cutv hyit_31 hm_47 hb_46
     refine JA.val ⟨by kernel_rfl, by kernel_rfl⟩ (ZI _) (i := 3) rfl ⟨by kernel_rfl, by kernel_rfl, rfl⟩ trivial (ZJ (Hle.refl _) ⟨⟨0, rfl⟩, trivial⟩) (R.slc (cap := cv_48) (a := 0) (b := 4) (c := (cv_48 : Int)) (m := y_36) (R := RU8) U26 S5 rfl rfl ⟨_, rfl⟩ (by obtain ⟨ao, n, e, _⟩ := h1v_48; exact ⟨ao, n, e, rfl⟩) ⟨hb_46.1, hb_46.2.1, h2v_48⟩ h3v_48 (.inl rfl)) rfl ?_
     obtain ⟨av_48, cv_48', rfl⟩ := IsSlice.val hsv_48
     refine JA.two (i := 1) (j := 4) (by kernel_rfl) ?_ ?_
     ·
      refine JO.step rfl trivial rfl (fun K hK => ZA rfl rfl (Zd 1 S27 rfl rfl rfl) (ZD (hK _ _ _ (ZJ (Hle.refl _) ⟨⟨0, rfl⟩, trivial⟩) (JA.one (i := 4) (by kernel_rfl) (JO.step rfl trivial rfl (fun K hK => ?_))))))
      obtain ⟨x_49, hr_50, hx⟩ := ZM hx
      refine ZR (vs := [_]) (args := [_]) (K := []) (rst := [_, _]) E125 rfl rfl rfl ZL (mix_number_ok m_45 _ hsv_48 _ hr_50) rfl (fun u_51 Ku_51 Hu_51 hRu_51 hleu_51 hfu_51 => ?_)
      obtain ⟨rfl, rfl, -⟩ := hRu_51
      refine ZD (hK _ _ _ (ZJ hleu_51 ⟨⟨0, rfl⟩, trivial⟩) (JA.val ⟨by kernel_rfl, by kernel_rfl⟩ (ZI _) (i := 5) rfl ⟨by kernel_rfl, by kernel_rfl, rfl⟩ trivial (ZJ hleu_51 ⟨⟨0, rfl⟩, trivial⟩) (R.xor32 (a := s_35.1) (b := x_49) rfl rfl) rfl (JA.val ⟨by kernel_rfl, by kernel_rfl⟩ (ZI _) (i := 6) rfl ⟨by kernel_rfl, by kernel_rfl, rfl⟩ trivial (ZJ hleu_51 ⟨⟨0, rfl⟩, trivial⟩) (R.ixA 0 U138 S27 rfl rfl rfl) rfl (JA.one (i := 7) (by kernel_rfl) (JO.step rfl trivial rfl (fun K hK => ZV 1 S27 rfl rfl rfl rfl rfl (Nat.le_of_ble_eq_true rfl) (ZD (hK _ _ _ (ZJ hleu_51 ⟨⟨0, rfl⟩, trivial⟩) (Zz (by kernel_rfl) ?_)))))))))
      obtain rfl := Option.some.inj hx
      refine ZN 1 rfl (ZN 1 rfl ?_)
      exact ZZ ⟨Hu_51, rfl, rfl, rfl, (hleu_51)⟩ ⟨rfl, rfl, rfl, rfl, trivial⟩ rfl rfl
     ·
      refine JO.step rfl trivial rfl (fun K hK => ?_)
      obtain ⟨x_52, hr_53, hx⟩ := ZM hx
      refine ZR (vs := [_]) (args := [_]) (K := []) (rst := [_, _]) E125 rfl rfl rfl ZL (mix_number_ok m_45 _ hsv_48 _ hr_53) rfl (fun u_54 Ku_54 Hu_54 hRu_54 hleu_54 hfu_54 => ?_)
      obtain ⟨rfl, rfl, -⟩ := hRu_54
      refine ZD (hK _ _ _ (ZJ hleu_54 ⟨⟨0, rfl⟩, trivial⟩) (JA.one (i := 1) (by kernel_rfl) (JO.step rfl trivial rfl (fun K hK => ZA rfl rfl (Zd 1 S27 rfl rfl rfl) (ZD (hK _ _ _ (ZJ hleu_54 ⟨⟨0, rfl⟩, trivial⟩) (JA.val ⟨by kernel_rfl, by kernel_rfl⟩ (ZI _) (i := 5) rfl ⟨by kernel_rfl, by kernel_rfl, rfl⟩ trivial (ZJ hleu_54 ⟨⟨0, rfl⟩, trivial⟩) (R.xor32 (a := s_35.1) (b := x_52) rfl rfl) rfl (JA.val ⟨by kernel_rfl, by kernel_rfl⟩ (ZI _) (i := 6) rfl ⟨by kernel_rfl, by kernel_rfl, rfl⟩ trivial (ZJ hleu_54 ⟨⟨0, rfl⟩, trivial⟩) (R.ixA 0 U138 S27 rfl rfl rfl) rfl (JA.one (i := 7) (by kernel_rfl) (JO.step rfl trivial rfl (fun K hK => ZV 1 S27 rfl rfl rfl rfl rfl (Nat.le_of_ble_eq_true rfl) ?_)))))))))))
      refine ZD (hK _ _ _ (ZJ hleu_54 ⟨⟨0, rfl⟩, trivial⟩) (Zz (by kernel_rfl) ?_))
      obtain rfl := Option.some.inj hx
      refine ZN 1 rfl (ZN 1 rfl ?_)
      exact ZZ ⟨Hu_54, rfl, rfl, rfl, (hleu_54)⟩ ⟨rfl, rfl, rfl, rfl, trivial⟩ rfl rfl
  ·
   rintro D_40 s_35 o g hD_40 htt ⟨H_41, rfl, rfl, hleH_41⟩ hle2
   subst htt; simp only [Sum.elim_inl] at hx
   refine Zm (ZC (ZF (ZB (ZA rfl rfl (R.ixA 1 U138 S27 rfl rfl rfl) (ZA rfl rfl (Zd 2 S27 rfl rfl rfl) (ZA rfl rfl (ZG rfl) (ZA rfl rfl (Zs U26 rfl (IsSlice.long ha_2)) (ZA rfl rfl (R.cv_i64_u32 U3 U27 rfl) (ZA rfl rfl (R.xor32 (a := s_35.2.1) (b := u32i (p_1.length : Int)) rfl rfl) (ZA rfl rfl (R.ixA 1 U138 S27 rfl rfl rfl) (ZV 2 S27 rfl rfl rfl rfl rfl (Nat.le_of_ble_eq_true rfl) ?_)))))))))))
   refine ZD (ZC (ZF (ZB (ZA rfl rfl (Zg 2 (vs := [.int .u32 (s_35.1.toNat : Int), .int .u32 ((s_35.2.1 ^^^ (u32i (p_1.length : Int))).toNat : Int), .int .u32 (s_35.2.2.1.toNat : Int), .int .u32 (s_35.2.2.2.toNat : Int)]) S138 rfl rfl rfl rfl) ?_))))
   obtain ⟨x_42, hr_43, hx⟩ := ZM hx
   refine ZR (vs := [_, _]) (args := [_, _]) (K := []) (rst := [_, _, _]) E126 rfl rfl rfl ZL (mix_words_often_ok (A4.mk s_35.1 (s_35.2.1 ^^^ (u32i (p_1.length : Int))) s_35.2.2.1 s_35.2.2.2) 8 _ _ hr_43) rfl (fun u_44 Ku_44 Hu_44 hRu_44 hleu_44 hfu_44 => ?_)
   obtain ⟨rfl, rfl, rfl, -⟩ := hRu_44
   refine ZV 1 S138 rfl rfl rfl rfl rfl (Nat.le_of_ble_eq_true rfl) (ZD (ZC (ZS (JN.outMP (vs := [.agg #[.int .u32 (x_42.e0.toNat : Int), .int .u32 (x_42.e1.toNat : Int), .int .u32 (x_42.e2.toNat : Int), .int .u32 (x_42.e3.toNat : Int)]]) (K := []) (rst := [_, _]) (own2 := [_, _]) [D_40] (.inl rfl) ⟨rfl, rfl, rfl, rfl⟩ rfl rfl (Zf 0 rfl ZL) (Zn 0 rfl rfl S138 rfl) ZL ?_))))
   obtain rfl := Option.some.inj hx
   exact ⟨rfl, rfl, trivial⟩
  ·
   rintro D c e o g hD htt hX; exact hX.elim
 ·
  have hxo_20 := hx; clear hx; have hx := ht_21; clear ht_21
  refine JC.block (JC.forget 1 (Zj 1 rfl (Zj 2 rfl (Z5 (fun n l o g => ∃ s_22 : List UInt8, ∃ ar_25 : Option Addr, ∃ nr_25 : Nat, ∃ cr_25 : Nat, ∃ Kr_25 : Own, l = [(0, .slice aa_2 na_2 ca_2), (2, .pointer (some ⟨b_3, 0, none⟩)), (3, .pointer (some ⟨b_4, 0, none⟩)), (4, .slice ar_25 nr_25 cr_25)] ∧ o = [[(b_3, .cells #[.int .u32 ((0 : UInt32).toNat : Int), .int .u32 ((0 : UInt32).toNat : Int), .int .u32 ((0 : UInt32).toNat : Int), .int .u32 ((0 : UInt32).toNat : Int)] 138 (0, 0))], [(b_4, .cells #[.int .u32 ((1 : UInt32).toNat : Int), .int .u32 ((2 : UInt32).toNat : Int), .int .u32 ((3 : UInt32).toNat : Int), .int .u32 ((4 : UInt32).toNat : Int)] 138 (0, 0))], Kr_25] ∧ H_9 = g ∧ run mix_four_l1 n s_22 = some t_19 ∧ RowOf (New H H_9) RU8 w.heap.size 5 1 (.slice ar_25 nr_25 cr_25) s_22 Kr_25) FUEL ?_ ⟨q_15, ar_18, q_15.length, cr_18, Kr_18, rfl, rfl, rfl, hx, hr_18⟩ ⟨rfl, rfl, rfl, rfl, trivial⟩ ?_))))
  ·
   rintro _ _ _ ⟨s_22, ar_25, nr_25, cr_25, Kr_25, rfl, rfl, rfl, hn_23, hr_25⟩
   exact Z2 hn_23
  ·
   rintro n_24 _ _ _ ⟨s_22, ar_25, nr_25, cr_25, Kr_25, rfl, rfl, rfl, hn_23, hr_25⟩
   clear hx; obtain ⟨oo_27, hx, hd_26⟩ := Z4 hn_23
   unfold mix_four_l1 at hx
   refine ZF (ZF (ZB (ZA rfl rfl (ZG rfl) (ZA rfl rfl (Zs U26 rfl (RowOf.long hr_25)) (ZA rfl rfl (R.rem_i rfl rfl (by decide)) (ZA rfl rfl (Zx rfl rfl) (ZD (ZC (ZW rfl (fun c_26 => ?_) (fun c_26 => ?_))))))))))
   ·
    replace hx := ZT c_26 hx
    refine ZX (ZC (JC.block (ZB (ZA rfl rfl (ZG rfl) (JL.bslF (HF := (New H H_9)) (R := RU8) (ls := [(0 : UInt8)]) (vs := [.int .u8 ((0 : UInt8).toNat : Int)]) U26 I5 rfl rfl (⟨_, _, rfl, rfl, rfl, rfl⟩) RU8.one rfl rfl rfl (by simp [maxLen]) rfl (fun vr_27 Kr_27 hr_27 => ?_))))))
    obtain ⟨ar_27, cr_27, rfl⟩ := RowOf.val hr_27
    obtain ⟨q_28, hm_29, hl_30, hx⟩ := YC hx
    refine JL.appF (HF := (New H H_9)) 3 U26 I5 rfl rfl hr_25 rfl (SrcF.row 0 U26 rfl hr_27) hm_29 hl_30 rfl (Nat.le_refl _) rfl (fun vr_31 Kr_31 hr_31 => ?_)
    obtain ⟨ar_31, cr_31, rfl⟩ := RowOf.val hr_31
    refine ZA rfl rfl (ZE rfl) (ZD (Zm ?_))
    replace hx := Zp hd_26 hx
    refine JN.forget 0 (ZN 2 rfl (ZN 2 rfl (ZN 2 rfl ?_)))
    exact ZZ ⟨q_28, ar_31, q_28.length, cr_31, Kr_31, rfl, rfl, rfl, hx, hr_31⟩ ⟨rfl, rfl, rfl, rfl, trivial⟩ rfl rfl
   ·
    replace hx := ZU c_26 hx
    refine Z0 (Zc ?_)
    obtain rfl := Zr hd_26 hx
    refine Zc (Zh (ZN 2 rfl (ZN 2 rfl (ZN 2 rfl ?_))))
    exact ZZ ⟨ar_25, nr_25, cr_25, Kr_25, rfl, rfl, rfl, hr_25⟩ ⟨rfl, rfl, rfl, rfl, trivial⟩ rfl rfl

set_option maxHeartbeats 8000000 in
theorem mix_Sum_ok (p_1 : List UInt8) (H : Heaplet) {aa_2 : Option Addr} {na_2 : Nat} {ca_2 : Nat} (ha_2 : IsSlice H RU8 1 (.slice aa_2 na_2 ca_2) p_1) (r : UInt32) (hx : mix_Sum p_1 = some r) :
  Does Tryz.prog 58 #[.slice aa_2 na_2 ca_2] [] H (fun u K' H' => u = .int .u32 (r.toNat : Int) ∧ K' = [] ∧ True) := by
 refine Does.enterL (vs := [.slice aa_2 na_2 ca_2]) (l := [(0, .slice aa_2 na_2 ca_2)]) Tryz.func58 rfl rfl ⟨rfl, trivial⟩ (fun w hlt => ?_)
 unfold mix_Sum at hx
 refine ZF (ZB (ZA rfl rfl (ZE rfl) (ZD (ZC (ZF (ZB (ZA rfl rfl (ZG rfl) ?_)))))))
 obtain ⟨x_3, hr_4, hx⟩ := ZM hx
 refine ZR (vs := [_]) (args := [_]) (K := []) (rst := []) E92 rfl rfl rfl ZL (mix_four_ok p_1 _ ha_2 _ hr_4) rfl (fun u_5 Ku_5 Hu_5 hRu_5 hleu_5 hfu_5 => ?_)
 obtain ⟨rfl, rfl, -⟩ := hRu_5
 refine ZA rfl rfl (R.idxAk 0 U138 S27 rfl rfl rfl rfl rfl) (ZA rfl rfl (ZE rfl) (ZD (ZC (ZS (ZQ (vs := [.int .u32 (x_3.e0.toNat : Int)]) (K := []) (rst := []) (.inl rfl) rfl rfl (ZO rfl rfl) ZL ?_)))))
 obtain rfl := Option.some.inj hx
 exact ⟨rfl, rfl, trivial⟩

set_option maxHeartbeats 8000000 in
theorem store_Look_ok (p_1 : Store) (p_5 : Ptr) (H : Heaplet) {aa_2 : Option Addr} {na_2 : Nat} {ca_2 : Nat} {aa_3 : Option Addr} {na_3 : Nat} {ca_3 : Nat} {aa_4 : Option Addr} {na_4 : Nat} {ca_4 : Nat} (ha_2 : IsSlice H (RSl RU8 1) 1 (.slice aa_2 na_2 ca_2) p_1.Disk.Blocks) (ha_3 : IsSlice H R_Write 2 (.slice aa_3 na_3 ca_3) p_1.Disk.Waits) (ha_4 : IsSlice H RU8 1 (.slice aa_4 na_4 ca_4) p_1.Space) (r : List UInt8 × Int) (hx : store_Look p_1 p_5 = some r) :
  Does Tryz.prog 29 #[.agg #[.slice aa_2 na_2 ca_2, .slice aa_3 na_3 ca_3, .slice aa_4 na_4 ca_4, .int .u32 (p_1.Epoch.toNat : Int), .int .u32 (p_1.Count.toNat : Int)], .agg #[.int .i64 p_5.At, .int .u32 (p_5.Birth.toNat : Int), .int .u32 (p_5.Iv.toNat : Int), .int .u32 (p_5.Tag.toNat : Int), .int .u32 (p_5.Sum.toNat : Int)]] [] H (fun u K' H' => ∃ ao0 : Option Addr, ∃ n0 : Nat, ∃ cap0 : Nat, u = .tuple #[.slice ao0 n0 cap0, .int .i64 r.2] ∧ K' = [] ∧ IsSlice (New H H') RU8 1 (.slice ao0 n0 cap0) r.1 ∧ True) := by
 refine Does.enterL (vs := [.agg #[.slice aa_2 na_2 ca_2, .slice aa_3 na_3 ca_3, .slice aa_4 na_4 ca_4, .int .u32 (p_1.Epoch.toNat : Int), .int .u32 (p_1.Count.toNat : Int)], .agg #[.int .i64 p_5.At, .int .u32 (p_5.Birth.toNat : Int), .int .u32 (p_5.Iv.toNat : Int), .int .u32 (p_5.Tag.toNat : Int), .int .u32 (p_5.Sum.toNat : Int)]]) (l := [(0, .agg #[.slice aa_2 na_2 ca_2, .slice aa_3 na_3 ca_3, .slice aa_4 na_4 ca_4, .int .u32 (p_1.Epoch.toNat : Int), .int .u32 (p_1.Count.toNat : Int)]), (1, .agg #[.int .i64 p_5.At, .int .u32 (p_5.Birth.toNat : Int), .int .u32 (p_5.Iv.toNat : Int), .int .u32 (p_5.Tag.toNat : Int), .int .u32 (p_5.Sum.toNat : Int)])]) Tryz.func29 rfl rfl ⟨rfl, rfl, trivial⟩ (fun w hlt => ?_)
 unfold store_Look at hx
 refine ZF (ZB (Zv rfl rfl (fun b_6 hb_6 => Zv rfl rfl (fun b_7 hb_7 => ZA rfl rfl (ZE rfl) (ZA rfl rfl (ZE rfl) (ZD (ZC (ZF (ZF (ZB (ZA rfl rfl (Zg 1 (vs := [.slice aa_2 na_2 ca_2, .slice aa_3 na_3 ca_3, .slice aa_4 na_4 ca_4, .int .u32 (p_1.Epoch.toNat : Int), .int .u32 (p_1.Count.toNat : Int)]) S29 rfl rfl rfl rfl) ?_)))))))))))
 obtain ⟨x_8, hr_9, hx⟩ := ZM hx
 refine ZR (vs := [_]) (args := [_]) (K := []) (rst := [_, _]) E27 rfl rfl rfl ZL (store_Check_ok p_1 _ ha_2 ha_3 ha_4 _ hr_9) rfl (fun u_10 Ku_10 Hu_10 hRu_10 hleu_10 hfu_10 => ?_)
 obtain ⟨rfl, rfl, rfl, -⟩ := hRu_10
 refine ZA rfl rfl (Zx rfl rfl) (ZA rfl rfl (ZG rfl) (Ze (t := 11) rfl (fun c_11 => ?_) (fun c_11 => ?_)))
 ·
  replace hx := ZT c_11 hx
  refine ZH rfl rfl rfl rfl rfl (ZH rfl rfl rfl rfl rfl (ZH rfl rfl rfl rfl rfl (ZA rfl rfl (Zb rfl rfl) (ZD (ZC (Zu rfl (ZF (ZB (ZA rfl rfl (ZE rfl) (ZA rfl rfl (ZE rfl) (ZD ?_)))))))))))
  refine ZC (ZS (ZP (ZQ (vs := [.slice none 0 0, .int .i64 8]) (K := []) (rst := [_, _]) (.inl rfl) rfl rfl (ZO rfl (ZO rfl rfl)) ZL ?_)))
  obtain rfl := Option.some.inj hx
  exact ⟨none, 0, 0, rfl, rfl, (IsSlice.nil _ _ _), trivial⟩
 ·
  replace hx := ZU c_11 hx
  refine ZK rfl rfl rfl (ZA rfl rfl (Zg 0 (vs := [.int .i64 p_5.At, .int .u32 (p_5.Birth.toNat : Int), .int .u32 (p_5.Iv.toNat : Int), .int .u32 (p_5.Tag.toNat : Int), .int .u32 (p_5.Sum.toNat : Int)]) S31 rfl rfl rfl rfl) (ZK rfl rfl rfl ?_))
  obtain ⟨x_12, hr_13, hx⟩ := ZM hx
  refine ZR (vs := [_]) (args := [_]) (K := []) (rst := [_, _]) E28 rfl rfl rfl ZL (ptr_Check_ok p_5 _ _ hr_13) rfl (fun u_14 Ku_14 Hu_14 hRu_14 hleu_14 hfu_14 => ?_)
  obtain ⟨rfl, rfl, rfl, -⟩ := hRu_14
  refine ZK rfl rfl rfl (ZA rfl rfl (Zx rfl rfl) (ZA rfl rfl (Za rfl rfl) (ZD (ZC (ZW rfl (fun c_15 => ?_) (fun c_15 => ?_))))))
  ·
   replace hx := ZT c_15 hx
   refine ZF (ZB (ZA rfl rfl (ZE rfl) (ZA rfl rfl (ZE rfl) (ZD (ZC (ZS (ZP (ZQ (vs := [.slice none 0 0, .int .i64 8]) (K := []) (rst := [_, _]) (.inl rfl) rfl rfl (ZO rfl (ZO rfl rfl)) ZL ?_))))))))
   obtain rfl := Option.some.inj hx
   exact ⟨none, 0, 0, rfl, rfl, (IsSlice.nil _ _ _), trivial⟩
  ·
   replace hx := ZU c_15 hx
   refine ZX (ZC (ZF (ZF (ZB (ZA rfl rfl (Zg 0 (vs := [.int .i64 p_5.At, .int .u32 (p_5.Birth.toNat : Int), .int .u32 (p_5.Iv.toNat : Int), .int .u32 (p_5.Tag.toNat : Int), .int .u32 (p_5.Sum.toNat : Int)]) S31 rfl rfl rfl rfl) (ZA rfl rfl (YB (vs := []) (cs := [.int .i64 0, .int .u32 ((0 : UInt32).toNat : Int), .int .u32 ((0 : UInt32).toNat : Int), .int .u32 ((0 : UInt32).toNat : Int), .int .u32 ((0 : UInt32).toNat : Int)]) Z31 B31 rfl rfl rfl) (ZA rfl rfl (R.eqlAgg QU31 QP31 QG31 QF31 rfl rfl (EqF.i (by decide) S3 U3 rfl rfl (EqF.u32 (a := p_5.Birth) (b := (0 : UInt32)) (by decide) S27 U27 rfl rfl (EqF.u32 (a := p_5.Iv) (b := (0 : UInt32)) (by decide) S27 U27 rfl rfl (EqF.u32 (a := p_5.Tag) (b := (0 : UInt32)) (by decide) S27 U27 rfl rfl (EqF.u32 (a := p_5.Sum) (b := (0 : UInt32)) (by decide) S27 U27 rfl rfl EqF.nil)))))) (ZD (ZC (ZW rfl (fun c_16 => ?_) (fun c_16 => ?_)))))))))))
   ·
    replace hx := ZT c_16 hx
    refine ZF (ZB (ZA rfl rfl (ZE rfl) (ZA rfl rfl (ZE rfl) (ZD (ZC (ZS (ZP (ZQ (vs := [.slice none 0 0, .int .i64 6]) (K := []) (rst := [_, _]) (.inl rfl) rfl rfl (ZO rfl (ZO rfl rfl)) ZL ?_))))))))
    obtain rfl := Option.some.inj hx
    exact ⟨none, 0, 0, rfl, rfl, (IsSlice.nil _ _ _), trivial⟩
   ·
    replace hx := ZU c_16 hx
    refine ZX (ZC (ZF (ZB (ZA rfl rfl (Zq F29_0 rfl) (ZA rfl rfl (Zg 1 (vs := [.slice aa_2 na_2 ca_2, .slice aa_3 na_3 ca_3]) S25 rfl rfl rfl rfl) (ZA rfl rfl (Zq F31_0 rfl) (ZA rfl rfl (Zd 0 S3 rfl rfl rfl) ?_)))))))
    obtain ⟨x_17, hr_18, hx⟩ := ZM hx
    refine ZR (vs := [_, _]) (args := [_, _]) (K := []) (rst := [_, _]) E57 rfl rfl rfl ZL (dev_Read_ok (Disk.mk p_1.Disk.Blocks p_1.Disk.Waits) p_5.At _ ha_2 ha_3 _ hr_18) rfl (fun u_19 Ku_19 Hu_19 hRu_19 hleu_19 hfu_19 => ?_)
    obtain ⟨az_20, nz_20, cz_20, rfl, rfl, hz_20, -⟩ := hRu_19
    replace hz_20 := IsSlice.mono RU8.mono (New.call (Hle.refl _)) hz_20
    refine ZA rfl rfl (ZG rfl) (ZA rfl rfl (R.extract rfl rfl) (ZA rfl rfl (R.extract rfl rfl) (ZA rfl rfl (ZE rfl) (ZA rfl rfl (ZE rfl) (ZD (ZC (ZF ?_)))))))
    obtain ⟨t_21, ht_23, hx⟩ := ZM hx
    refine Z1 (fun l o g => ∃ H_29 : Heaplet, ∃ az_30 : Option Addr, ∃ nz_30 : Nat, ∃ cz_30 : Nat, l = [(6, .slice az_30 nz_30 cz_30), (7, .int .i64 t_21.2)] ∧ o = [] ∧ H_29 = g ∧ Hle Hu_19 H_29 ∧ IsSlice (New H H_29) RU8 1 (.slice az_30 nz_30 cz_30) t_21.1) ?_ ?_
    ·
     rintro _ _ _ ⟨H_29, az_30, nz_30, cz_30, rfl, rfl, rfl, hleH_29, hz_30⟩
     refine ZC (ZF (ZB (ZA rfl rfl (ZG rfl) (ZA rfl rfl (ZG rfl) (ZA rfl rfl (ZE rfl) (ZA rfl rfl (ZE rfl) (ZD (ZC (ZS (ZQ (vs := [.slice az_30 nz_30 cz_30, .int .i64 t_21.2]) (K := []) (rst := []) (.inl rfl) rfl rfl (ZO rfl (ZO rfl rfl)) ZL ?_))))))))))
     obtain rfl := Option.some.inj hx
     exact ⟨az_30, nz_30, cz_30, rfl, rfl, hz_30, trivial⟩
    ·
     have hxo_22 := hx; clear hx; have hx := ht_23; clear ht_23
     refine ZF (JC.draw (so := [_, _]) 9 rfl Mixed ⟨⟨0, rfl⟩, ⟨1, rfl⟩, trivial⟩ (JA.val ⟨by kernel_rfl, by kernel_rfl⟩ (ZI _) (i := 0) rfl ⟨by kernel_rfl, by kernel_rfl, rfl⟩ trivial (ZJ (Hle.refl _) ⟨⟨0, rfl⟩, ⟨1, rfl⟩, trivial⟩) (ZG rfl) rfl (JA.val ⟨by kernel_rfl, by kernel_rfl⟩ (ZI _) (i := 1) rfl ⟨by kernel_rfl, by kernel_rfl, rfl⟩ trivial (ZJ (Hle.refl _) ⟨⟨0, rfl⟩, ⟨1, rfl⟩, trivial⟩) (R.eql_i rfl rfl) rfl (JA.val ⟨by kernel_rfl, by kernel_rfl⟩ (ZI _) (i := 2) rfl ⟨by kernel_rfl, by kernel_rfl, rfl⟩ trivial (ZJ (Hle.refl _) ⟨⟨0, rfl⟩, ⟨1, rfl⟩, trivial⟩) (ZG rfl) rfl (JA.gSplit (t := 29) rfl (fun c_24 => ?_) (fun c_24 => ?_))))))
     ·
      replace hx := ZT c_24 hx
      refine JA.val ⟨by kernel_rfl, by kernel_rfl⟩ (ZI _) (i := 3) rfl ⟨by kernel_rfl, by kernel_rfl, rfl⟩ ⟨_, _, rfl, rfl, rfl⟩ (ZJ (Hle.refl _) ⟨⟨0, rfl⟩, ⟨1, rfl⟩, trivial⟩) (ZG rfl) rfl (JA.val ⟨by kernel_rfl, by kernel_rfl⟩ (ZI _) (i := 5) rfl ⟨by kernel_rfl, by kernel_rfl, rfl⟩ ⟨_, _, rfl, rfl, rfl⟩ (ZJ (Hle.refl _) ⟨⟨0, rfl⟩, ⟨1, rfl⟩, trivial⟩) (Zq F31_4 rfl) rfl (JA.val ⟨by kernel_rfl, by kernel_rfl⟩ (ZI _) (i := 6) rfl ⟨by kernel_rfl, by kernel_rfl, rfl⟩ ⟨_, _, rfl, rfl, rfl⟩ (ZJ (Hle.refl _) ⟨⟨0, rfl⟩, ⟨1, rfl⟩, trivial⟩) (Zd 0 S27 rfl rfl rfl) rfl (JA.one (i := 4) (by kernel_rfl) (JO.step rfl ⟨_, _, rfl, rfl, rfl⟩ rfl (fun K hK => ?_)))))
      obtain ⟨x_25, hr_26, hx⟩ := ZM hx
      refine ZR (vs := [_]) (args := [_]) (K := []) (rst := [_, _]) E58 rfl rfl rfl ZL (mix_Sum_ok x_17.1 _ (hz_20.old RU8.mono) _ hr_26) rfl (fun u_27 Ku_27 Hu_27 hRu_27 hleu_27 hfu_27 => ?_)
      obtain ⟨rfl, rfl, -⟩ := hRu_27
      refine ZD (hK _ _ _ (ZJ hleu_27 ⟨⟨0, rfl⟩, ⟨1, rfl⟩, trivial⟩) (JA.val ⟨by kernel_rfl, by kernel_rfl⟩ (ZI _) (i := 7) rfl ⟨by kernel_rfl, by kernel_rfl, rfl⟩ ⟨_, _, rfl, rfl, rfl⟩ (ZJ hleu_27 ⟨⟨0, rfl⟩, ⟨1, rfl⟩, trivial⟩) (R.neq32 (a := x_25) (b := p_5.Sum) rfl rfl) rfl (JA.val ⟨by kernel_rfl, by kernel_rfl⟩ (ZI _) (i := 8) rfl ⟨by kernel_rfl, by kernel_rfl, rfl⟩ trivial (ZJ hleu_27 ⟨⟨0, rfl⟩, ⟨1, rfl⟩, trivial⟩) (Zb rfl rfl) rfl (Zz (by kernel_rfl) (ZC (ZW rfl (fun c_28 => ?_) (fun c_28 => ?_)))))))
      ·
       replace hx := ZT c_28 hx
       refine ZB (ZA rfl rfl (ZE rfl) (ZA rfl rfl (ZE rfl) (ZD ?_)))
       obtain rfl := Option.some.inj hx
       refine JN.forget 1 (JN.forget 0 ?_)
       exact ZZ ⟨Hu_27, none, 0, 0, rfl, rfl, rfl, (hleu_27), (IsSlice.nil _ _ _)⟩ ⟨rfl, rfl, trivial⟩ rfl rfl
      ·
       replace hx := ZU c_28 hx
       refine ZX ?_
       obtain rfl := Option.some.inj hx
       refine JN.forget 1 (JN.forget 0 ?_)
       exact ZZ ⟨Hu_27, az_20, nz_20, cz_20, rfl, rfl, rfl, (hleu_27), (hz_20.mono RU8.mono (New.mono hleu_27))⟩ ⟨rfl, rfl, trivial⟩ rfl rfl
     ·
      replace hx := ZU c_24 hx
      refine JA.no ⟨by kernel_rfl, by kernel_rfl⟩ (ZI _) (i := 3) rfl ⟨by kernel_rfl, by kernel_rfl, rfl⟩ rfl rfl rfl rfl (ZJ (Hle.refl _) ⟨⟨0, rfl⟩, ⟨1, rfl⟩, trivial⟩) rfl (JA.no ⟨by kernel_rfl, by kernel_rfl⟩ (ZI _) (i := 4) rfl ⟨by kernel_rfl, by kernel_rfl, rfl⟩ rfl rfl rfl rfl (ZJ (Hle.refl _) ⟨⟨0, rfl⟩, ⟨1, rfl⟩, trivial⟩) rfl (JA.no ⟨by kernel_rfl, by kernel_rfl⟩ (ZI _) (i := 5) rfl ⟨by kernel_rfl, by kernel_rfl, rfl⟩ rfl rfl rfl rfl (ZJ (Hle.refl _) ⟨⟨0, rfl⟩, ⟨1, rfl⟩, trivial⟩) rfl (JA.no ⟨by kernel_rfl, by kernel_rfl⟩ (ZI _) (i := 6) rfl ⟨by kernel_rfl, by kernel_rfl, rfl⟩ rfl rfl rfl rfl (ZJ (Hle.refl _) ⟨⟨0, rfl⟩, ⟨1, rfl⟩, trivial⟩) rfl (JA.no ⟨by kernel_rfl, by kernel_rfl⟩ (ZI _) (i := 7) rfl ⟨by kernel_rfl, by kernel_rfl, rfl⟩ rfl rfl rfl rfl (ZJ (Hle.refl _) ⟨⟨0, rfl⟩, ⟨1, rfl⟩, trivial⟩) rfl (JA.val ⟨by kernel_rfl, by kernel_rfl⟩ (ZI _) (i := 8) rfl ⟨by kernel_rfl, by kernel_rfl, rfl⟩ trivial (ZJ (Hle.refl _) ⟨⟨0, rfl⟩, ⟨1, rfl⟩, trivial⟩) (Za rfl rfl) rfl (Zz (by kernel_rfl) (ZC (JC.condF rfl (ZX ?_)))))))))
      obtain rfl := Option.some.inj hx
      refine JN.forget 1 (JN.forget 0 ?_)
      exact ZZ ⟨Hu_19, az_20, nz_20, cz_20, rfl, rfl, rfl, (Hle.refl _), hz_20⟩ ⟨rfl, rfl, trivial⟩ rfl rfl

set_option maxHeartbeats 8000000 in
theorem ptr_sizes_ok (H : Heaplet) (r : A5 Int) (hx : ptr_sizes = some r) :
  Does Tryz.prog 94 #[] [] H (fun u K' H' => u = .agg #[.int .i64 r.e0, .int .i64 r.e1, .int .i64 r.e2, .int .i64 r.e3, .int .i64 r.e4] ∧ K' = [] ∧ H = H' ∧ True) := by
 refine Does.enterL (vs := []) (l := []) Tryz.func94 rfl rfl trivial (fun w hlt => ?_)
 unfold ptr_sizes at hx
 refine ZF (ZB (JL.alloc Z140 rfl (fun b_1 hb_1 => ZD (ZC (ZF (ZB (ZA rfl rfl (R.bldA (vs := [(0, .int .i64 1), (1, .int .i64 3), (2, .int .i64 4), (3, .int .i64 4), (4, .int .i64 4)]) (cells := #[.int .i64 1, .int .i64 3, .int .i64 4, .int .i64 4, .int .i64 4]) Z140 B140 rfl rfl rfl rfl) (ZV 0 S140 rfl rfl rfl rfl rfl (Nat.le_of_ble_eq_true rfl) (ZD (ZC (ZS ?_)))))))))))
 refine ZQ (vs := [.agg #[.int .i64 1, .int .i64 3, .int .i64 4, .int .i64 4, .int .i64 4]]) (K := []) (rst := [_]) (.inl rfl) rfl rfl (Zn 0 rfl rfl S140 rfl) ZL ?_
 obtain rfl := Option.some.inj hx
 exact ⟨rfl, rfl, rfl, trivial⟩

set_option maxHeartbeats 8000000 in
theorem ptr_Read_ok (p_1 : List UInt8) (H : Heaplet) {aa_2 : Option Addr} {na_2 : Nat} {ca_2 : Nat} (ha_2 : IsSlice H RU8 1 (.slice aa_2 na_2 ca_2) p_1) (r : Ptr × Int) (hx : ptr_Read p_1 = some r) :
  Does Tryz.prog 60 #[.slice aa_2 na_2 ca_2] [] H (fun u K' H' => u = .tuple #[.agg #[.int .i64 r.1.At, .int .u32 (r.1.Birth.toNat : Int), .int .u32 (r.1.Iv.toNat : Int), .int .u32 (r.1.Tag.toNat : Int), .int .u32 (r.1.Sum.toNat : Int)], .int .i64 r.2] ∧ K' = [] ∧ True) := by
 refine Does.enterL (vs := [.slice aa_2 na_2 ca_2]) (l := [(0, .slice aa_2 na_2 ca_2)]) Tryz.func60 rfl rfl ⟨rfl, trivial⟩ (fun w hlt => ?_)
 unfold ptr_Read at hx
 refine ZF (ZB (JL.alloc Z31 rfl (fun b_3 hb_3 => ZA rfl rfl (ZE rfl) (ZD (ZC (ZF (ZF (ZB (ZA rfl rfl (ZG rfl) (ZA rfl rfl (Zs U26 rfl (IsSlice.long ha_2)) (ZA rfl rfl (Zx rfl rfl) ?_)))))))))))
 refine ZD (ZC (ZW rfl (fun c_4 => ?_) (fun c_4 => ?_)))
 ·
  replace hx := ZT c_4 hx
  refine ZF (ZB (ZA rfl rfl (YB (vs := []) (cs := [.int .i64 0, .int .u32 ((0 : UInt32).toNat : Int), .int .u32 ((0 : UInt32).toNat : Int), .int .u32 ((0 : UInt32).toNat : Int), .int .u32 ((0 : UInt32).toNat : Int)]) Z31 B31 rfl rfl rfl) (ZV 0 S31 rfl rfl rfl rfl rfl (Nat.le_of_ble_eq_true rfl) (ZA rfl rfl (ZE rfl) (ZD (ZC (ZS (ZP (ZQ (vs := [.agg #[.int .i64 0, .int .u32 ((0 : UInt32).toNat : Int), .int .u32 ((0 : UInt32).toNat : Int), .int .u32 ((0 : UInt32).toNat : Int), .int .u32 ((0 : UInt32).toNat : Int)], .int .i64 3]) (K := []) (rst := [_]) (.inl rfl) rfl rfl (Zn 0 rfl rfl S31 (ZO rfl rfl)) ZL ?_)))))))))
  obtain rfl := Option.some.inj hx
  exact ⟨rfl, rfl, trivial⟩
 ·
  replace hx := ZU c_4 hx
  refine ZX (ZC (ZF (ZB (JL.alloc Z140 rfl (fun b_5 hb_5 => ZD (ZC (ZF (ZB (ZA rfl rfl (ZE rfl) (ZD (ZC ?_)))))))))))
  refine ZF (ZF (ZB ?_))
  obtain ⟨x_6, hr_7, hx⟩ := ZM hx
  refine ZR (vs := []) (args := []) (K := []) (rst := [_, _]) E94 rfl rfl rfl ZL (ptr_sizes_ok _ _ hr_7) rfl (fun u_8 Ku_8 Hu_8 hRu_8 hleu_8 hfu_8 => ?_)
  obtain ⟨rfl, rfl, rfl, -⟩ := hRu_8
  refine ZA rfl rfl (ZG rfl) (ZD (ZC ?_))
  obtain ⟨t_9, ht_11, hx⟩ := ZM hx
  refine Z1 (fun l o g => ∃ H_16 : Heaplet, l = [(2, .pointer (some ⟨b_3, 0, none⟩)), (4, .pointer (some ⟨b_5, 0, none⟩))] ∧ o = [[(b_3, .cells #[.int .i64 0, .int .u32 ((0 : UInt32).toNat : Int), .int .u32 ((0 : UInt32).toNat : Int), .int .u32 ((0 : UInt32).toNat : Int), .int .u32 ((0 : UInt32).toNat : Int)] 31 (0, 0))], [(b_5, .cells #[.int .i64 t_9.1, .int .i64 t_9.2.1, .int .i64 t_9.2.2.1, .int .i64 t_9.2.2.2.1, .int .i64 t_9.2.2.2.2] 140 (0, 0))]] ∧ H_16 = g ∧ Hle H H_16) ?_ ?_
  ·
   rintro _ _ _ ⟨H_16, rfl, rfl, rfl, hleH_16⟩
   refine ZC (ZF (ZB (ZA rfl rfl (R.ixA 0 U140 S3 rfl rfl rfl) (ZA rfl rfl (Zd 1 S3 rfl rfl rfl) (ZA rfl rfl (R.ixA 1 U140 S3 rfl rfl rfl) (ZA rfl rfl (Zd 1 S3 rfl rfl rfl) (ZA rfl rfl (R.cv_i64_u32 U3 U27 rfl) (ZA rfl rfl (R.ixA 2 U140 S3 rfl rfl rfl) (ZA rfl rfl (Zd 1 S3 rfl rfl rfl) (ZA rfl rfl (R.cv_i64_u32 U3 U27 rfl) (ZA rfl rfl (R.ixA 3 U140 S3 rfl rfl rfl) ?_)))))))))))
   refine ZA rfl rfl (Zd 1 S3 rfl rfl rfl) (ZA rfl rfl (R.cv_i64_u32 U3 U27 rfl) (ZA rfl rfl (R.ixA 4 U140 S3 rfl rfl rfl) (ZA rfl rfl (Zd 1 S3 rfl rfl rfl) (ZA rfl rfl (R.cv_i64_u32 U3 U27 rfl) (ZA rfl rfl (YB (vs := [(0, .int .i64 t_9.1), (1, .int .u32 ((u32i t_9.2.1).toNat : Int)), (2, .int .u32 ((u32i t_9.2.2.1).toNat : Int)), (3, .int .u32 ((u32i t_9.2.2.2.1).toNat : Int)), (4, .int .u32 ((u32i t_9.2.2.2.2).toNat : Int))]) (cs := [.int .i64 t_9.1, .int .u32 ((u32i t_9.2.1).toNat : Int), .int .u32 ((u32i t_9.2.2.1).toNat : Int), .int .u32 ((u32i t_9.2.2.2.1).toNat : Int), .int .u32 ((u32i t_9.2.2.2.2).toNat : Int)]) Z31 B31 rfl rfl rfl) (ZV 0 S31 rfl rfl rfl rfl rfl (Nat.le_of_ble_eq_true rfl) (ZD (ZC (ZF (ZF (ZB ?_)))))))))))
   refine ZA rfl rfl (Zg 0 (vs := [.int .i64 t_9.1, .int .u32 ((u32i t_9.2.1).toNat : Int), .int .u32 ((u32i t_9.2.2.1).toNat : Int), .int .u32 ((u32i t_9.2.2.2.1).toNat : Int), .int .u32 ((u32i t_9.2.2.2.2).toNat : Int)]) S31 rfl rfl rfl rfl) ?_
   obtain ⟨x_17, hr_18, hx⟩ := ZM hx
   refine ZR (vs := [_]) (args := [_]) (K := []) (rst := [_, _]) E28 rfl rfl rfl ZL (ptr_Check_ok (Ptr.mk t_9.1 (u32i t_9.2.1) (u32i t_9.2.2.1) (u32i t_9.2.2.2.1) (u32i t_9.2.2.2.2)) _ _ hr_18) rfl (fun u_19 Ku_19 Hu_19 hRu_19 hleu_19 hfu_19 => ?_)
   obtain ⟨rfl, rfl, rfl, -⟩ := hRu_19
   refine ZA rfl rfl (ZE rfl) (ZD (ZC (ZF (ZB (ZA rfl rfl (ZG rfl) (ZA rfl rfl (Zx rfl rfl) (ZD (ZC (ZW rfl (fun c_20 => ?_) (fun c_20 => ?_))))))))))
   ·
    replace hx := ZT c_20 hx
    refine ZF (ZB (ZA rfl rfl (YB (vs := []) (cs := [.int .i64 0, .int .u32 ((0 : UInt32).toNat : Int), .int .u32 ((0 : UInt32).toNat : Int), .int .u32 ((0 : UInt32).toNat : Int), .int .u32 ((0 : UInt32).toNat : Int)]) Z31 B31 rfl rfl rfl) (ZA rfl rfl (ZG rfl) (ZV 0 S31 rfl rfl rfl rfl rfl (Nat.le_of_ble_eq_true rfl) (ZA rfl rfl (ZE rfl) (ZD (ZC (ZS (ZP (ZQ (vs := [.agg #[.int .i64 0, .int .u32 ((0 : UInt32).toNat : Int), .int .u32 ((0 : UInt32).toNat : Int), .int .u32 ((0 : UInt32).toNat : Int), .int .u32 ((0 : UInt32).toNat : Int)], .int .i64 x_17]) (K := []) (rst := [_, _]) (.inl rfl) rfl rfl (Zn 0 rfl rfl S31 (ZO rfl rfl)) ZL ?_))))))))))
    obtain rfl := Option.some.inj hx
    exact ⟨rfl, rfl, trivial⟩
   ·
    replace hx := ZU c_20 hx
    refine ZX (ZC (ZF (ZB (ZA rfl rfl (Zg 0 (vs := [.int .i64 t_9.1, .int .u32 ((u32i t_9.2.1).toNat : Int), .int .u32 ((u32i t_9.2.2.1).toNat : Int), .int .u32 ((u32i t_9.2.2.2.1).toNat : Int), .int .u32 ((u32i t_9.2.2.2.2).toNat : Int)]) S31 rfl rfl rfl rfl) (ZV 0 S31 rfl rfl rfl rfl rfl (Nat.le_of_ble_eq_true rfl) (ZA rfl rfl (ZE rfl) (ZD (ZC (ZS (ZQ (vs := [.agg #[.int .i64 t_9.1, .int .u32 ((u32i t_9.2.1).toNat : Int), .int .u32 ((u32i t_9.2.2.1).toNat : Int), .int .u32 ((u32i t_9.2.2.2.1).toNat : Int), .int .u32 ((u32i t_9.2.2.2.2).toNat : Int)], .int .i64 0]) (K := []) (rst := [_, _]) (.inl rfl) rfl rfl (Zn 0 rfl rfl S31 (ZO rfl rfl)) ZL ?_))))))))))
    obtain rfl := Option.some.inj hx
    exact ⟨rfl, rfl, trivial⟩
  ·
   have hxo_10 := hx; clear hx; have hx := ht_11; clear ht_11
   refine JC.block (Zj 1 rfl (Z5 (fun n l o g => ∃ s_12 : Int × Int × Int × Int × Int × Int × Nat, ∃ H_15 : Heaplet, l = [(0, .slice aa_2 na_2 ca_2), (2, .pointer (some ⟨b_3, 0, none⟩)), (4, .pointer (some ⟨b_5, 0, none⟩)), (5, .int .i64 s_12.2.2.2.2.2.1), (13, .agg #[.int .i64 x_6.e0, .int .i64 x_6.e1, .int .i64 x_6.e2, .int .i64 x_6.e3, .int .i64 x_6.e4]), (14, .int .i64 ((s_12.2.2.2.2.2.2 : Nat) : Int))] ∧ o = [[(b_3, .cells #[.int .i64 0, .int .u32 ((0 : UInt32).toNat : Int), .int .u32 ((0 : UInt32).toNat : Int), .int .u32 ((0 : UInt32).toNat : Int), .int .u32 ((0 : UInt32).toNat : Int)] 31 (0, 0))], [(b_5, .cells #[.int .i64 s_12.1, .int .i64 s_12.2.1, .int .i64 s_12.2.2.1, .int .i64 s_12.2.2.2.1, .int .i64 s_12.2.2.2.2.1] 140 (0, 0))]] ∧ H_15 = g ∧ run (ptr_Read_l1 p_1 x_6) n s_12 = some t_9 ∧ Hle H H_15) FUEL ?_ ⟨(0, 0, 0, 0, 0, 0, 0), H, rfl, rfl, rfl, hx, (Hle.refl _)⟩ ⟨rfl, rfl, rfl, rfl, rfl, rfl, trivial⟩ ?_))
   ·
    rintro _ _ _ ⟨s_12, H_15, rfl, rfl, rfl, hn_13, hleH_15⟩
    exact Z2 hn_13
   ·
    rintro n_14 _ _ _ ⟨s_12, H_15, rfl, rfl, rfl, hn_13, hleH_15⟩
    clear hx; obtain ⟨oo_17, hx, hd_16⟩ := Z4 hn_13
    unfold ptr_Read_l1 at hx
    refine ZF (ZB (ZA rfl rfl (Zy rfl rfl) (ZD (ZC (ZF (ZW rfl (fun c_16 => ?_) (fun c_16 => ?_)))))))
    ·
     replace hx := ZT c_16 hx
     refine ZX (ZC (ZF (JC.block (ZF (ZB (ZA rfl rfl (ZG rfl) ?_))))))
     obtain ⟨y_17, hN_18, hx⟩ := Zl hx
     refine ZA rfl rfl (R.idxA (enc := (fun a : Int => Value.int .i64 a)) (L := x_6.l) U140 S3 rfl rfl rfl rfl rfl hN_18) (ZA rfl rfl (ZE rfl) (ZA rfl rfl (ZE rfl) (ZD (ZC (ZF (ZB (ZA rfl rfl (ZG rfl) (ZA rfl rfl (ZG rfl) (ZA rfl rfl (ZG rfl) (ZA rfl rfl (ZG rfl) ?_))))))))))
     obtain ⟨x_19, hr_20, hx⟩ := ZM hx
     refine ZR (vs := [_, _, _]) (args := [_, _, _]) (K := []) (rst := [_, _]) E95 rfl rfl rfl ZL (code_Get_ok p_1 s_12.2.2.2.2.2.1 y_17 _ (ha_2.mono RU8.mono hleH_15) _ hr_20) rfl (fun u_21 Ku_21 Hu_21 hRu_21 hleu_21 hfu_21 => ?_)
     obtain ⟨rfl, rfl, -⟩ := hRu_21
     refine ZA rfl rfl (ZG rfl) (ZA rfl rfl (R.extract rfl rfl) (ZA rfl rfl (R.extract rfl rfl) ?_))
     obtain ⟨hp_22, hx⟩ := chk_some hx
     refine ZA rfl rfl (R.ixAs U140 S3 rfl rfl hp_22) ?_
     obtain ⟨m_23, hm_24, hb_25, hx⟩ := A5.setI_some hx
     refine JL.stA 1 (enc := (fun a : Int => Value.int .i64 a)) (L := (A5.mk s_12.1 s_12.2.1 s_12.2.2.1 s_12.2.2.2.1 s_12.2.2.2.2.1).l) (L' := m_23.l) (cur' := #[.int .i64 m_23.e0, .int .i64 m_23.e1, .int .i64 m_23.e2, .int .i64 m_23.e3, .int .i64 m_23.e4]) S3 rfl rfl rfl rfl rfl rfl rfl hm_24 hb_25.2 rfl (ZD (ZC (ZB (ZA rfl rfl (ZG rfl) (ZA rfl rfl (ZG rfl) (ZA rfl rfl (YA rfl rfl) (ZA rfl rfl (ZE rfl) (ZD (Zm (ZC (ZB ?_)))))))))))
     refine ZA rfl rfl (R.inc rfl rfl (of_decide_eq_true c_16) (by decide)) (ZA rfl rfl (ZG rfl) (ZD ?_))
     replace hx := Zp hd_16 hx
     refine ZN 1 rfl (ZN 1 rfl ?_)
     exact ZZ ⟨(m_23.e0, m_23.e1, m_23.e2, m_23.e3, m_23.e4, w64 (s_12.2.2.2.2.2.1 + y_17), s_12.2.2.2.2.2.2 + 1), Hu_21, rfl, rfl, rfl, hx, ((hleH_15.trans hleu_21))⟩ ⟨rfl, rfl, rfl, rfl, rfl, rfl, trivial⟩ rfl rfl
    ·
     replace hx := ZU c_16 hx
     refine Z0 (Zc ?_)
     obtain rfl := Zr hd_16 hx
     refine Zc (Zh (ZN 1 rfl (ZN 1 rfl ?_)))
     exact ZZ ⟨H_15, rfl, rfl, rfl, (hleH_15)⟩ ⟨rfl, rfl, trivial⟩ rfl rfl

set_option maxHeartbeats 8000000 in
theorem ptr_Rows_ok (p_1 : List UInt8) (H : Heaplet) {aa_2 : Option Addr} {na_2 : Nat} {ca_2 : Nat} (ha_2 : IsSlice H RU8 1 (.slice aa_2 na_2 ca_2) p_1) (r : List Ptr × Int) (hx : ptr_Rows p_1 = some r) :
  Does Tryz.prog 30 #[.slice aa_2 na_2 ca_2] [] H (fun u K' H' => ∃ ao0 : Option Addr, ∃ n0 : Nat, ∃ cap0 : Nat, ∃ K0 : Own, u = .tuple #[.slice ao0 n0 cap0, .int .i64 r.2] ∧ K' = [K0] ∧ RowOf (New H H') R_Ptr 0 31 5 (.slice ao0 n0 cap0) r.1 K0 ∧ (∀ p ∈ K0, p.1 ∉ ids (List.flatten [])) ∧ True) := by
 refine Does.enterML (vs := [.slice aa_2 na_2 ca_2]) (l := [(0, .slice aa_2 na_2 ca_2)]) Tryz.func30 rfl rfl ⟨rfl, trivial⟩ (fun w hlt => ?_)
 unfold ptr_Rows at hx
 refine ZF (ZB (JL.alloc Z34 rfl (fun b_3 hb_3 => JL.alloc Z35 rfl (fun b_4 hb_4 => ZD (ZC (ZF (ZF (ZB (ZA rfl rfl (ZG rfl) (ZA rfl rfl (Zs U26 rfl (IsSlice.long ha_2)) (ZA rfl rfl (Zx rfl rfl) ?_)))))))))))
 refine ZD (ZC (ZW rfl (fun c_5 => ?_) (fun c_5 => ?_)))
 ·
  replace hx := ZT c_5 hx
  refine ZF (ZB (ZV 1 S34 rfl rfl rfl rfl rfl (Nat.le_of_ble_eq_true rfl) (ZV 0 S35 rfl rfl rfl rfl rfl (Nat.le_of_ble_eq_true rfl) (ZD (ZC (ZS (ZP (Z8 (JN.outMP (vs := [.slice none 0 0, .int .i64 3]) (K := [_]) (rst := [_, _]) (own2 := [_, _, _]) [] (.inl rfl) ⟨rfl, rfl, rfl, rfl⟩ rfl rfl ZL (Res.cell1 2 rfl rfl S34 rfl (Res.cell1 1 rfl rfl S35 rfl rfl)) (Zf 0 rfl ZL) ?_)))))))))
  obtain rfl := Option.some.inj hx
  exact ⟨none, 0, 0, [], rfl, rfl, (Zi _ _ _ _ _), (fun p hp => by cases hp), trivial⟩
 ·
  replace hx := ZU c_5 hx
  refine ZX (ZC (ZF (ZF (ZB (ZA rfl rfl (ZG rfl) ?_)))))
  obtain ⟨x_6, hr_7, hx⟩ := ZM hx
  refine ZR (vs := [_, _]) (args := [_, _]) (K := []) (rst := [_, _]) E59 rfl rfl rfl ZL (slices_Chunk_byte_ok p_1 16 _ ha_2 _ hr_7) rfl (fun u_8 Ku_8 Hu_8 hRu_8 hleu_8 hfu_8 => ?_)
  obtain ⟨bit_9, cit_9, rfl, rfl, hit_9, kit_9, pit_9, -⟩ := hRu_8
  refine ZD (ZC (JC.block ?_))
  obtain ⟨t_10, ht_12, hx⟩ := ZM hx
  refine JC.seg0 (Zj 1 rfl (Zj 1 rfl (Zj 2 rfl (JC.rangeL (RA := fun H' args (y : List UInt8) => ∃ ao : Option Addr, args = #[.slice ao y.length y.length] ∧ IsSlice H' RU8 1 (.slice ao y.length y.length) y) rfl ptr_Rows_r1 ([] : List Ptr) t_10 ht_12 (fun s_13 o g => ∃ H_19 : Heaplet, ∃ ar_20 : Option Addr, ∃ nr_20 : Nat, ∃ cr_20 : Nat, ∃ Kr_20 : Own, o = [[(b_3, .cells #[.slice ar_20 nr_20 cr_20] 34 (0, 0))], Kr_20, [(b_4, .cells #[.int .i64 0] 35 (0, 0))]] ∧ H_19 = g ∧ Hle Hu_8 H_19 ∧ RowOf (New H H_19) R_Ptr w.heap.size 31 5 (.slice ar_20 nr_20 cr_20) s_13 Kr_20) (fun e c o g => (c = .ret ∧ ∃ t_10e0 : Int, t_10e0 = e ∧ ∃ H_21 : Heaplet, o = [[(b_3, .cells #[.slice none 0 0] 34 (0, 0))], [(b_4, .cells #[.int .i64 t_10e0] 35 (0, 0))]] ∧ H_21 = g ∧ Hle Hu_8 H_21)) rfl E93 (slices_Chunk_byte_it p_1 16 pit_9 _ (ha_2.mono RU8.mono hleu_8) hit_9 kit_9) (fun _ _ _ h => by obtain ⟨_, h, _⟩ := h; rw [h]; rfl) rfl ⟨Hu_8, none, 0, 0, [], rfl, rfl, (Hle.refl _), (Zi _ _ _ _ _)⟩ ?_ ?_ ?_))))
  ·
   rintro lr_15 y_14 s_13 args o g out_17 ⟨H_19, ar_20, nr_20, cr_20, Kr_20, rfl, rfl, hleH_19, hr_20⟩ hA hx2
   clear hx; have hx := hx2; clear hx2; unfold ptr_Rows_r1 at hx
   obtain ⟨aoit_9, rfl, hyit_9⟩ := hA
   refine ⟨[(2, .pointer (some ⟨b_3, 0, none⟩)), (3, .pointer (some ⟨b_4, 0, none⟩)), (4, .slice aoit_9 y_14.length y_14.length)], fun wb_16 hwb_16 => ?_, fun wb_16 hwb_16 => ?_⟩
   ·
    refine ZB (ZA rfl rfl (ZE rfl) (ZD ?_))
    exact JN.assigned ⟨rfl, rfl, rfl, trivial⟩
   ·
    refine JC.block (ZF (ZB (ZA rfl rfl (ZG rfl) ?_)))
    obtain ⟨x_21, hr_22, hx⟩ := ZM hx
    refine ZR (vs := [_]) (args := [_]) (K := []) (rst := [_, _, _]) E60 rfl rfl rfl ZL (ptr_Read_ok y_14 _ hyit_9 _ hr_22) rfl (fun u_23 Ku_23 Hu_23 hRu_23 hleu_23 hfu_23 => ?_)
    obtain ⟨rfl, rfl, -⟩ := hRu_23
    refine ZA rfl rfl (ZG rfl) (ZA rfl rfl (R.extract rfl rfl) (ZA rfl rfl (R.extract rfl rfl) (JL.alloc Z31 rfl (fun b_24 hb_24 => ZV 0 S31 rfl rfl rfl rfl rfl (Nat.le_of_ble_eq_true rfl) (ZA rfl rfl (ZE rfl) (ZD (ZC (ZF (ZF (ZB (ZA rfl rfl (ZG rfl) ?_)))))))))))
    refine ZA rfl rfl (Zx rfl rfl) (ZD (ZC (ZW rfl (fun c_25 => ?_) (fun c_25 => ?_))))
    ·
     replace hx := ZT c_25 hx
     refine ZF (ZB (ZA rfl rfl (ZG rfl) (ZV 1 S34 rfl rfl rfl rfl rfl (Nat.le_of_ble_eq_true rfl) (ZV 3 S35 rfl rfl rfl rfl rfl (Nat.le_of_ble_eq_true rfl) (ZD (ZC (ZS (ZP (Z9 ?_)))))))))
     obtain rfl := Option.some.inj hx
     refine JN.forget 2 (JN.forget 0 (ZN 1 rfl (ZN 1 rfl ?_)))
     exact JN.rR ⟨rfl, x_21.2, rfl, Hu_23, rfl, rfl, ((hleH_19.trans hleu_23))⟩
    ·
     replace hx := ZU c_25 hx
     refine ZX (ZC (ZB (ZA rfl rfl (Zd 1 S34 rfl rfl rfl) (ZA rfl rfl (Zg 0 (vs := [.int .i64 x_21.1.At, .int .u32 (x_21.1.Birth.toNat : Int), .int .u32 (x_21.1.Iv.toNat : Int), .int .u32 (x_21.1.Tag.toNat : Int), .int .u32 (x_21.1.Sum.toNat : Int)]) S31 rfl rfl rfl rfl) (JL.bslF (HF := (New H Hu_23)) (R := R_Ptr) (ls := [x_21.1]) (vs := [.agg #[.int .i64 x_21.1.At, .int .u32 (x_21.1.Birth.toNat : Int), .int .u32 (x_21.1.Iv.toNat : Int), .int .u32 (x_21.1.Tag.toNat : Int), .int .u32 (x_21.1.Sum.toNat : Int)]]) U34 I31 rfl rfl (⟨_, _, rfl, rfl, rfl, rfl⟩) R_Ptr.one rfl rfl rfl (by simp [maxLen]) rfl (fun vr_26 Kr_26 hr_26 => ?_))))))
     obtain ⟨ar_26, cr_26, rfl⟩ := RowOf.val hr_26
     obtain ⟨q_27, hm_28, hl_29, hx⟩ := YC hx
     refine JL.appF (HF := (New H Hu_23)) 3 U34 I31 rfl rfl (hr_20.mono R_Ptr.mono (New.mono hleu_23)) rfl (SrcF.row 0 U34 rfl hr_26) hm_28 hl_29 rfl hwb_16 rfl (fun vr_30 Kr_30 hr_30 => ?_)
     obtain ⟨ar_30, cr_30, rfl⟩ := RowOf.val hr_30
     refine ZV 2 S34 rfl rfl rfl rfl rfl (Nat.le_of_ble_eq_true rfl) (ZD (Zm ?_))
     obtain rfl := Option.some.inj hx
     refine JN.forget 1 (JN.forget 0 (ZN 2 rfl (ZN 2 rfl (ZN 2 rfl ?_))))
     exact JN.rN ⟨Hu_23, ar_30, q_27.length, cr_30, Kr_30, rfl, rfl, ((hleH_19.trans hleu_23)), hr_30⟩
  ·
   rintro D_18 s_13 o g hD_18 htt ⟨H_19, ar_20, nr_20, cr_20, Kr_20, rfl, rfl, hleH_19, hr_20⟩ hle2
   subst htt; simp only [Sum.elim_inl] at hx
   refine Zm (ZC (ZF (ZB (ZA rfl rfl (Zd 1 S34 rfl rfl rfl) (ZV 1 S34 rfl rfl rfl rfl rfl (Nat.le_of_ble_eq_true rfl) (ZV 3 S35 rfl rfl rfl rfl rfl (Nat.le_of_ble_eq_true rfl) (ZD (ZC (ZS (JN.outMP (vs := [.slice ar_20 nr_20 cr_20, .int .i64 0]) (K := [_]) (rst := [_, _]) (own2 := [_, _, _]) [D_18] (.inl rfl) ⟨rfl, rfl, rfl, rfl⟩ rfl rfl (Zf 0 rfl ZL) (Res.cell1 0 rfl rfl S34 rfl (Res.cell1 2 rfl rfl S35 rfl rfl)) (Zf 1 rfl ZL) ?_))))))))))
   obtain rfl := Option.some.inj hx
   exact ⟨ar_20, nr_20, cr_20, Kr_20, rfl, rfl, (Zt (Nat.zero_le _) hr_20), (new_ids hr_20 hlt), trivial⟩
  ·
   rintro D_18 c e o g hD_18 htt hX hle2
   rcases hX with ⟨rfl, t_10e0, rfl, H_21, rfl, rfl, hleH_21⟩
   subst htt; simp only [Sum.elim_inl, Sum.elim_inr] at hx
   refine ZS (Z9 (ZP (Z8 (JN.outMP (vs := [.slice none 0 0, .int .i64 t_10e0]) (K := [_]) (rst := [_, _]) (own2 := [_, _, _]) [D_18] (.inl rfl) ⟨rfl, rfl, rfl, rfl⟩ rfl rfl (Zf 1 rfl ZL) (Res.cell1 1 rfl rfl S34 rfl (Res.cell1 2 rfl rfl S35 rfl rfl)) (Zf 0 rfl ZL) ?_))))
   obtain rfl := Option.some.inj hx
   exact ⟨none, 0, 0, [], rfl, rfl, (Zi _ _ _ _ _), (fun p hp => by cases hp), trivial⟩

set_option maxHeartbeats 8000000 in
theorem set_Ptrs_ok (p_1 : Store) (p_5 : Ptr) (H : Heaplet) {aa_2 : Option Addr} {na_2 : Nat} {ca_2 : Nat} {aa_3 : Option Addr} {na_3 : Nat} {ca_3 : Nat} {aa_4 : Option Addr} {na_4 : Nat} {ca_4 : Nat} (ha_2 : IsSlice H (RSl RU8 1) 1 (.slice aa_2 na_2 ca_2) p_1.Disk.Blocks) (ha_3 : IsSlice H R_Write 2 (.slice aa_3 na_3 ca_3) p_1.Disk.Waits) (ha_4 : IsSlice H RU8 1 (.slice aa_4 na_4 ca_4) p_1.Space) (r : List Ptr × Int) (hx : set_Ptrs p_1 p_5 = some r) :
  Does Tryz.prog 8 #[.agg #[.slice aa_2 na_2 ca_2, .slice aa_3 na_3 ca_3, .slice aa_4 na_4 ca_4, .int .u32 (p_1.Epoch.toNat : Int), .int .u32 (p_1.Count.toNat : Int)], .agg #[.int .i64 p_5.At, .int .u32 (p_5.Birth.toNat : Int), .int .u32 (p_5.Iv.toNat : Int), .int .u32 (p_5.Tag.toNat : Int), .int .u32 (p_5.Sum.toNat : Int)]] [] H (fun u K' H' => ∃ ao0 : Option Addr, ∃ n0 : Nat, ∃ cap0 : Nat, ∃ K0 : Own, u = .tuple #[.slice ao0 n0 cap0, .int .i64 r.2] ∧ K' = [K0] ∧ RowOf (New H H') R_Ptr 0 31 5 (.slice ao0 n0 cap0) r.1 K0 ∧ (∀ p ∈ K0, p.1 ∉ ids (List.flatten [])) ∧ True) := by
 refine Does.enterL (vs := [.agg #[.slice aa_2 na_2 ca_2, .slice aa_3 na_3 ca_3, .slice aa_4 na_4 ca_4, .int .u32 (p_1.Epoch.toNat : Int), .int .u32 (p_1.Count.toNat : Int)], .agg #[.int .i64 p_5.At, .int .u32 (p_5.Birth.toNat : Int), .int .u32 (p_5.Iv.toNat : Int), .int .u32 (p_5.Tag.toNat : Int), .int .u32 (p_5.Sum.toNat : Int)]]) (l := [(0, .agg #[.slice aa_2 na_2 ca_2, .slice aa_3 na_3 ca_3, .slice aa_4 na_4 ca_4, .int .u32 (p_1.Epoch.toNat : Int), .int .u32 (p_1.Count.toNat : Int)]), (1, .agg #[.int .i64 p_5.At, .int .u32 (p_5.Birth.toNat : Int), .int .u32 (p_5.Iv.toNat : Int), .int .u32 (p_5.Tag.toNat : Int), .int .u32 (p_5.Sum.toNat : Int)])]) Tryz.func8 rfl rfl ⟨rfl, rfl, trivial⟩ (fun w hlt => ?_)
 unfold set_Ptrs at hx
 refine ZF (ZB (Zv rfl rfl (fun b_6 hb_6 => Zv rfl rfl (fun b_7 hb_7 => ZA rfl rfl (ZE rfl) (ZA rfl rfl (ZE rfl) (ZD (ZC (ZF (ZF (ZB (ZA rfl rfl (Zg 1 (vs := [.slice aa_2 na_2 ca_2, .slice aa_3 na_3 ca_3, .slice aa_4 na_4 ca_4, .int .u32 (p_1.Epoch.toNat : Int), .int .u32 (p_1.Count.toNat : Int)]) S29 rfl rfl rfl rfl) ?_)))))))))))
 obtain ⟨x_8, hr_9, hx⟩ := ZM hx
 refine ZR (vs := [_]) (args := [_]) (K := []) (rst := [_, _]) E27 rfl rfl rfl ZL (store_Check_ok p_1 _ ha_2 ha_3 ha_4 _ hr_9) rfl (fun u_10 Ku_10 Hu_10 hRu_10 hleu_10 hfu_10 => ?_)
 obtain ⟨rfl, rfl, rfl, -⟩ := hRu_10
 refine ZA rfl rfl (Zx rfl rfl) (ZA rfl rfl (ZG rfl) (Ze (t := 12) rfl (fun c_11 => ?_) (fun c_11 => ?_)))
 ·
  replace hx := ZT c_11 hx
  refine ZH rfl rfl rfl rfl rfl (ZH rfl rfl rfl rfl rfl (ZH rfl rfl rfl rfl rfl (ZA rfl rfl (Zb rfl rfl) (ZD (ZC (Zu rfl (ZF (ZB (ZA rfl rfl (ZE rfl) (ZA rfl rfl (ZE rfl) (ZD ?_)))))))))))
  refine ZC (ZS (ZP (Z8 (ZQ (vs := [.slice none 0 0, .int .i64 8]) (K := [_]) (rst := [_, _]) (.inl rfl) rfl rfl (ZO rfl (ZO rfl rfl)) (Zf 0 rfl ZL) ?_))))
  obtain rfl := Option.some.inj hx
  exact ⟨none, 0, 0, [], rfl, rfl, (Zi _ _ _ _ _), (fun p hp => by cases hp), trivial⟩
 ·
  replace hx := ZU c_11 hx
  refine ZK rfl rfl rfl (ZA rfl rfl (Zg 0 (vs := [.int .i64 p_5.At, .int .u32 (p_5.Birth.toNat : Int), .int .u32 (p_5.Iv.toNat : Int), .int .u32 (p_5.Tag.toNat : Int), .int .u32 (p_5.Sum.toNat : Int)]) S31 rfl rfl rfl rfl) (ZK rfl rfl rfl ?_))
  obtain ⟨x_12, hr_13, hx⟩ := ZM hx
  refine ZR (vs := [_]) (args := [_]) (K := []) (rst := [_, _]) E28 rfl rfl rfl ZL (ptr_Check_ok p_5 _ _ hr_13) rfl (fun u_14 Ku_14 Hu_14 hRu_14 hleu_14 hfu_14 => ?_)
  obtain ⟨rfl, rfl, rfl, -⟩ := hRu_14
  refine ZK rfl rfl rfl (ZA rfl rfl (Zx rfl rfl) (ZA rfl rfl (Za rfl rfl) (ZD (ZC (ZW rfl (fun c_15 => ?_) (fun c_15 => ?_))))))
  ·
   replace hx := ZT c_15 hx
   refine ZF (ZB (ZA rfl rfl (ZE rfl) (ZA rfl rfl (ZE rfl) (ZD (ZC (ZS (ZP (Z8 (ZQ (vs := [.slice none 0 0, .int .i64 8]) (K := [_]) (rst := [_, _]) (.inl rfl) rfl rfl (ZO rfl (ZO rfl rfl)) (Zf 0 rfl ZL) ?_)))))))))
   obtain rfl := Option.some.inj hx
   exact ⟨none, 0, 0, [], rfl, rfl, (Zi _ _ _ _ _), (fun p hp => by cases hp), trivial⟩
  ·
   replace hx := ZU c_15 hx
   refine ZX (ZC (ZF (ZF (ZB (ZA rfl rfl (Zg 0 (vs := [.int .i64 p_5.At, .int .u32 (p_5.Birth.toNat : Int), .int .u32 (p_5.Iv.toNat : Int), .int .u32 (p_5.Tag.toNat : Int), .int .u32 (p_5.Sum.toNat : Int)]) S31 rfl rfl rfl rfl) (ZA rfl rfl (YB (vs := []) (cs := [.int .i64 0, .int .u32 ((0 : UInt32).toNat : Int), .int .u32 ((0 : UInt32).toNat : Int), .int .u32 ((0 : UInt32).toNat : Int), .int .u32 ((0 : UInt32).toNat : Int)]) Z31 B31 rfl rfl rfl) (ZA rfl rfl (R.eqlAgg QU31 QP31 QG31 QF31 rfl rfl (EqF.i (by decide) S3 U3 rfl rfl (EqF.u32 (a := p_5.Birth) (b := (0 : UInt32)) (by decide) S27 U27 rfl rfl (EqF.u32 (a := p_5.Iv) (b := (0 : UInt32)) (by decide) S27 U27 rfl rfl (EqF.u32 (a := p_5.Tag) (b := (0 : UInt32)) (by decide) S27 U27 rfl rfl (EqF.u32 (a := p_5.Sum) (b := (0 : UInt32)) (by decide) S27 U27 rfl rfl EqF.nil)))))) (ZD (ZC (ZW rfl (fun c_16 => ?_) (fun c_16 => ?_)))))))))))
   ·
    replace hx := ZT c_16 hx
    refine ZF (ZB ?_)
    obtain ⟨x_19, hm_18, hc_17, hx⟩ := mks_some hx
    refine JL.mkF (HF := New H H) (R := R_Ptr) (y := Ptr.mk 0 (0 : UInt32) (0 : UInt32) (0 : UInt32) (0 : UInt32)) (n := 16) U34 I31 rfl rfl (fun _ => rfl) R_Ptr.one hm_18 hc_17 rfl rfl (fun vr_20 Kr_20 hr_20 => ?_)
    obtain ⟨ar_20, cr_20, rfl⟩ := RowOf.val hr_20
    refine ZA rfl rfl (ZE rfl) (ZA rfl rfl (ZE rfl) (ZD (ZC (ZS (ZP (ZQ (vs := [.slice ar_20 x_19.length cr_20, .int .i64 0]) (K := [_]) (rst := [_, _]) (.inl rfl) rfl rfl (ZO rfl (ZO rfl rfl)) (Zf 0 rfl ZL) ?_))))))
    obtain rfl := Option.some.inj hx
    exact ⟨ar_20, x_19.length, cr_20, Kr_20, rfl, rfl, (Zt (Nat.zero_le _) hr_20), (new_ids hr_20 hlt), trivial⟩
   ·
    replace hx := ZU c_16 hx
    refine ZX (ZC (ZF (ZB (ZA rfl rfl (Zg 1 (vs := [.slice aa_2 na_2 ca_2, .slice aa_3 na_3 ca_3, .slice aa_4 na_4 ca_4, .int .u32 (p_1.Epoch.toNat : Int), .int .u32 (p_1.Count.toNat : Int)]) S29 rfl rfl rfl rfl) (ZA rfl rfl (Zg 0 (vs := [.int .i64 p_5.At, .int .u32 (p_5.Birth.toNat : Int), .int .u32 (p_5.Iv.toNat : Int), .int .u32 (p_5.Tag.toNat : Int), .int .u32 (p_5.Sum.toNat : Int)]) S31 rfl rfl rfl rfl) ?_)))))
    obtain ⟨x_21, hr_22, hx⟩ := ZM hx
    refine ZR (vs := [_, _]) (args := [_, _]) (K := []) (rst := [_, _]) E29 rfl rfl rfl ZL (store_Look_ok p_1 p_5 _ ha_2 ha_3 ha_4 _ hr_22) rfl (fun u_23 Ku_23 Hu_23 hRu_23 hleu_23 hfu_23 => ?_)
    obtain ⟨az_24, nz_24, cz_24, rfl, rfl, hz_24, -⟩ := hRu_23
    replace hz_24 := IsSlice.mono RU8.mono (New.call (Hle.refl _)) hz_24
    refine ZA rfl rfl (ZG rfl) (ZA rfl rfl (R.extract rfl rfl) (ZA rfl rfl (R.extract rfl rfl) (ZA rfl rfl (ZE rfl) (ZA rfl rfl (ZE rfl) (ZD (ZC (ZF (ZF (ZB (ZA rfl rfl (ZG rfl) (ZA rfl rfl (Zx rfl rfl) ?_)))))))))))
    refine ZD (ZC (ZW rfl (fun c_25 => ?_) (fun c_25 => ?_)))
    ·
     replace hx := ZT c_25 hx
     refine ZF (ZB (ZA rfl rfl (ZG rfl) (ZA rfl rfl (ZE rfl) (ZA rfl rfl (ZE rfl) (ZD (ZC (ZS (ZP (Z8 (ZQ (vs := [.slice none 0 0, .int .i64 x_21.2]) (K := [_]) (rst := [_, _]) (.inl rfl) rfl rfl (ZO rfl (ZO rfl rfl)) (Zf 0 rfl ZL) ?_))))))))))
     obtain rfl := Option.some.inj hx
     exact ⟨none, 0, 0, [], rfl, rfl, (Zi _ _ _ _ _), (fun p hp => by cases hp), trivial⟩
    ·
     replace hx := ZU c_25 hx
     refine ZX (ZC (ZF (ZB (ZA rfl rfl (ZG rfl) ?_))))
     obtain ⟨x_26, hr_27, hx⟩ := ZM hx
     refine ZR (vs := [_]) (args := [_]) (K := []) (rst := [_, _]) E30 rfl rfl rfl ZL (ptr_Rows_ok x_21.1 _ (hz_24.old RU8.mono) _ hr_27) rfl (fun u_28 Ku_28 Hu_28 hRu_28 hleu_28 hfu_28 => ?_)
     obtain ⟨ar_29, nr_29, cr_29, Kr_29, rfl, rfl, hr_29, hnewr_29, -⟩ := hRu_28
     replace hr_29 := (RowOf.base (Zo (H2 := New H Hu_28) R_Ptr.const hr_29) (fun p hp => (hfu_28 p (Zw 0 rfl hp)).resolve_left (hnewr_29 p hp)))
     refine ZA rfl rfl (ZG rfl) (ZA rfl rfl (R.extract rfl rfl) (ZA rfl rfl (R.extract rfl rfl) (ZA rfl rfl (ZE rfl) (ZA rfl rfl (ZE rfl) (ZD (ZC (ZF (ZF (ZB (ZA rfl rfl (ZG rfl) (ZA rfl rfl (Zx rfl rfl) ?_)))))))))))
     refine ZD (ZC (ZW rfl (fun c_30 => ?_) (fun c_30 => ?_)))
     ·
      replace hx := ZT c_30 hx
      refine ZF (ZB (ZA rfl rfl (ZE rfl) (ZA rfl rfl (ZE rfl) (ZD (ZC (ZS (ZP (Z8 (ZQ (vs := [.slice none 0 0, .int .i64 8]) (K := [_]) (rst := [_, _, _]) (.inl rfl) rfl rfl (ZO rfl (ZO rfl rfl)) (Zf 0 rfl ZL) ?_)))))))))
      obtain rfl := Option.some.inj hx
      exact ⟨none, 0, 0, [], rfl, rfl, (Zi _ _ _ _ _), (fun p hp => by cases hp), trivial⟩
     ·
      replace hx := ZU c_30 hx
      refine ZX (ZC (ZF (ZB (ZA rfl rfl (ZG rfl) (ZA rfl rfl (ZE rfl) (ZA rfl rfl (ZE rfl) (ZD (ZC (ZS (ZQ (vs := [.slice ar_29 nr_29 cr_29, .int .i64 0]) (K := [_]) (rst := [_, _]) (.inl rfl) rfl rfl (ZO rfl (ZO rfl rfl)) (Zf 0 rfl ZL) ?_))))))))))
      obtain rfl := Option.some.inj hx
      exact ⟨ar_29, nr_29, cr_29, Kr_29, rfl, rfl, (Zt (Nat.zero_le _) hr_29), (new_ids hr_29 hlt), trivial⟩

set_option maxHeartbeats 8000000 in
theorem ref09_place_ok (p_1 : Int) (H : Heaplet) (r : Bool) (hx : ref09_place p_1 = some r) :
  Does Tryz.prog 107 #[.int .i64 p_1] [] H (fun u K' H' => u = .bool r ∧ K' = [] ∧ H = H' ∧ True) := by
 refine Does.enterL (vs := [.int .i64 p_1]) (l := [(0, .int .i64 p_1)]) Tryz.func107 rfl rfl ⟨rfl, trivial⟩ (fun w hlt => ?_)
 unfold ref09_place at hx
 refine ZF (ZB (ZA rfl rfl (ZE rfl) (ZD (ZC (ZF ?_)))))
 obtain ⟨t_2, ht_4, hx⟩ := ZM hx
 refine Z1 (fun l o g => l = [(2, .bool t_2)] ∧ o = [] ∧ H = g) ?_ ?_
 ·
  rintro _ _ _ ⟨rfl, rfl, rfl⟩
  refine ZC (ZS (ZQ (vs := [.bool t_2]) (K := []) (rst := []) (.inl rfl) rfl rfl (ZO rfl rfl) ZL ?_))
  obtain rfl := Option.some.inj hx
  exact ⟨rfl, rfl, rfl, trivial⟩
 ·
  have hxo_3 := hx; clear hx; have hx := ht_4; clear ht_4
  refine ZB (ZA rfl rfl (ZG rfl) (ZA rfl rfl (R.leq_i rfl rfl) (ZA rfl rfl (ZG rfl) (Ze (t := 5) rfl (fun c_5 => ?_) (fun c_5 => ?_)))))
  ·
   replace hx := ZT c_5 hx
   refine ZK rfl rfl rfl (ZA rfl rfl (ZG rfl) (ZK rfl rfl rfl (ZA rfl rfl (Zy rfl rfl) (ZA rfl rfl (Zb rfl rfl) (ZA rfl rfl (ZE rfl) (ZD ?_))))))
   obtain rfl := Option.some.inj hx
   exact ZZ ⟨rfl, rfl, rfl⟩ ⟨rfl, trivial⟩ rfl rfl
  ·
   replace hx := ZU c_5 hx
   refine ZH rfl rfl rfl rfl rfl (ZH rfl rfl rfl rfl rfl (ZA rfl rfl (Za rfl rfl) (ZA rfl rfl (ZE rfl) (ZD ?_))))
   obtain rfl := Option.some.inj hx
   exact ZZ ⟨rfl, rfl, rfl⟩ ⟨rfl, trivial⟩ rfl rfl

set_option maxHeartbeats 8000000 in
theorem ref09_May_ok (p_1 : Disk) (H : Heaplet) {aa_2 : Option Addr} {na_2 : Nat} {ca_2 : Nat} {aa_3 : Option Addr} {na_3 : Nat} {ca_3 : Nat} (ha_2 : IsSlice H (RSl RU8 1) 1 (.slice aa_2 na_2 ca_2) p_1.Blocks) (ha_3 : IsSlice H R_Write 2 (.slice aa_3 na_3 ca_3) p_1.Waits) (r : Bool) (hx : ref09_May p_1 = some r) :
  Does Tryz.prog 74 #[.agg #[.slice aa_2 na_2 ca_2, .slice aa_3 na_3 ca_3]] [] H (fun u K' H' => u = .bool r ∧ K' = [] ∧ H = H' ∧ True) := by
 refine Does.enterL (vs := [.agg #[.slice aa_2 na_2 ca_2, .slice aa_3 na_3 ca_3]]) (l := [(0, .agg #[.slice aa_2 na_2 ca_2, .slice aa_3 na_3 ca_3])]) Tryz.func74 rfl rfl ⟨rfl, trivial⟩ (fun w hlt => ?_)
 unfold ref09_May at hx
 refine ZF (ZB (Zv rfl rfl (fun b_4 hb_4 => ZA rfl rfl (ZE rfl) (ZD (ZC (ZF (ZB (ZA rfl rfl (ZE rfl) (ZD (ZC (ZF ?_)))))))))))
 refine ZF (ZB (ZA rfl rfl (ZE rfl) (ZD (ZC ?_))))
 obtain ⟨t_5, ht_7, hx⟩ := ZM hx
 refine Z1 (fun l o g => l = [(1, .pointer (some ⟨b_4, 0, none⟩)), (3, .int .i64 t_5)] ∧ o = [[(b_4, .cells #[.slice aa_2 na_2 ca_2, .slice aa_3 na_3 ca_3] 25 (0, 0))]] ∧ H = g) ?_ ?_
 ·
  rintro _ _ _ ⟨rfl, rfl, rfl⟩
  refine ZC (ZF (ZF (ZB (ZA rfl rfl (ZE rfl) (ZD (ZC ?_))))))
  obtain ⟨t_11, ht_13, hx⟩ := ZM hx
  refine Z1 (fun l o g => l = [(1, .pointer (some ⟨b_4, 0, none⟩)), (3, .int .i64 t_11)] ∧ o = [[(b_4, .cells #[.slice aa_2 na_2 ca_2, .slice aa_3 na_3 ca_3] 25 (0, 0))]] ∧ H = g) ?_ ?_
  ·
   rintro _ _ _ ⟨rfl, rfl, rfl⟩
   refine ZC (ZF ?_)
   obtain ⟨t_17, ht_19, hx⟩ := ZM hx
   refine Z1 (fun l o g => l = [(2, .bool t_17)] ∧ o = [] ∧ H = g) ?_ ?_
   ·
    rintro _ _ _ ⟨rfl, rfl, rfl⟩
    refine ZC (ZS (ZQ (vs := [.bool t_17]) (K := []) (rst := []) (.inl rfl) rfl rfl (ZO rfl rfl) ZL ?_))
    obtain rfl := Option.some.inj hx
    exact ⟨rfl, rfl, rfl, trivial⟩
   ·
    have hxo_18 := hx; clear hx; have hx := ht_19; clear ht_19
    refine ZB (ZA rfl rfl (ZG rfl) (ZA rfl rfl (R.eql_i rfl rfl) (ZA rfl rfl (ZG rfl) (Ze (t := 59) rfl (fun c_20 => ?_) (fun c_20 => ?_)))))
    ·
     replace hx := ZT c_20 hx
     refine ZK rfl rfl rfl (ZA rfl rfl (Zq F25_0 rfl) (ZK rfl rfl rfl (ZA rfl rfl (Zd 0 S22 rfl rfl rfl) (ZK rfl rfl rfl (ZA rfl rfl (Zs U22 rfl (IsSlice.long ha_2)) (ZK rfl rfl rfl (ZA rfl rfl (R.eql_i rfl rfl) (ZA rfl rfl (Zb rfl rfl) (ZA rfl rfl (ZG rfl) (Ze (t := 65) rfl (fun c_21 => ?_) (fun c_21 => ?_)))))))))))
     ·
      replace hx := ZT c_21 hx
      refine ZK rfl rfl rfl (ZA rfl rfl (Zq F25_1 rfl) (ZK rfl rfl rfl (ZA rfl rfl (Zd 0 S23 rfl rfl rfl) (ZK rfl rfl rfl (ZA rfl rfl (Zs U23 rfl (IsSlice.long ha_3)) (ZK rfl rfl rfl (ZA rfl rfl (R.leq_i rfl rfl) (ZA rfl rfl (Zb rfl rfl) (ZA rfl rfl (ZE rfl) (ZD ?_))))))))))
      obtain rfl := Option.some.inj hx
      refine JN.forget 0 ?_
      exact ZZ ⟨rfl, rfl, rfl⟩ ⟨rfl, trivial⟩ rfl rfl
     ·
      replace hx := ZU c_21 hx
      refine ZH rfl rfl rfl rfl rfl (ZH rfl rfl rfl rfl rfl (ZH rfl rfl rfl rfl rfl (ZH rfl rfl rfl rfl rfl (ZA rfl rfl (Za rfl rfl) (ZA rfl rfl (ZE rfl) (ZD ?_))))))
      obtain rfl := Option.some.inj hx
      refine JN.forget 0 ?_
      exact ZZ ⟨rfl, rfl, rfl⟩ ⟨rfl, trivial⟩ rfl rfl
    ·
     replace hx := ZU c_20 hx
     refine ZH rfl rfl rfl rfl rfl (ZH rfl rfl rfl rfl rfl (ZH rfl rfl rfl rfl rfl (ZH rfl rfl rfl rfl rfl (ZA rfl rfl (Za rfl rfl) (ZA rfl rfl (ZG rfl) (ZH rfl rfl rfl rfl rfl (ZH rfl rfl rfl rfl rfl (ZH rfl rfl rfl rfl rfl (ZH rfl rfl rfl rfl rfl (ZA rfl rfl (Za rfl rfl) (ZA rfl rfl (ZE rfl) ?_)))))))))))
     refine ZD ?_
     obtain rfl := Option.some.inj hx
     refine JN.forget 0 ?_
     exact ZZ ⟨rfl, rfl, rfl⟩ ⟨rfl, trivial⟩ rfl rfl
  ·
   have hxo_12 := hx; clear hx; have hx := ht_13; clear ht_13
   refine JC.block (Z5 (fun n l o g => ∃ s_14 : Int × Nat, l = [(1, .pointer (some ⟨b_4, 0, none⟩)), (3, .int .i64 s_14.1), (5, .int .i64 ((s_14.2 : Nat) : Int))] ∧ o = [[(b_4, .cells #[.slice aa_2 na_2 ca_2, .slice aa_3 na_3 ca_3] 25 (0, 0))]] ∧ H = g ∧ run (ref09_May_l2 p_1) n s_14 = some t_11) FUEL ?_ ⟨(t_5, 0), rfl, rfl, rfl, hx⟩ ⟨rfl, rfl, rfl, trivial⟩ ?_)
   ·
    rintro _ _ _ ⟨s_14, rfl, rfl, rfl, hn_15⟩
    exact Z2 hn_15
   ·
    rintro n_16 _ _ _ ⟨s_14, rfl, rfl, rfl, hn_15⟩
    clear hx; obtain ⟨oo_18, hx, hd_17⟩ := Z4 hn_15
    unfold ref09_May_l2 at hx
    refine ZF (ZF (ZB (ZA rfl rfl (ZG rfl) (ZA rfl rfl (Zq F25_1 rfl) (ZA rfl rfl (Zd 0 S23 rfl rfl rfl) (ZA rfl rfl (Zs U23 rfl (IsSlice.long ha_3)) (ZA rfl rfl (Zy rfl rfl) (ZA rfl rfl (ZG rfl) (Ze (t := 31) rfl (fun c_17 => ?_) (fun c_17 => ?_))))))))))
    ·
     replace hx := ZT c_17 hx
     refine ZK rfl rfl rfl (ZA rfl rfl (ZG rfl) (ZK rfl rfl rfl (ZA rfl rfl (R.leq_i rfl rfl) (ZA rfl rfl (Zb rfl rfl) (ZD (ZC (ZW rfl (fun c_18 => ?_) (fun c_18 => ?_))))))))
     ·
      replace hx := ZT c_18 hx
      refine ZX (ZC (ZF (JC.block (ZF (ZB (ZA rfl rfl (Zq F25_1 rfl) (ZA rfl rfl (Zd 0 S23 rfl rfl rfl) (ZA rfl rfl (ZG rfl) ?_))))))))
      obtain ⟨y_19, hN_20, hx⟩ := Zl hx
      obtain ⟨b_21, o_22, cs_23, hE_24, hR_25, hl_26, hc_27⟩ := IsSlice.elem ha_3 hN_20
      obtain ⟨v_28, rfl, hs_29⟩ := hR_25
      obtain ⟨av_28, cv_28, rfl⟩ := IsSlice.val hs_29
      refine ZA rfl rfl (R.ix U23 S101 rfl rfl hE_24) (ZA rfl rfl (Zq F101_1 rfl) (ZA rfl rfl (R.ldH S26 rfl (hc_27 1 _ rfl)) (ZA rfl rfl (Zs U26 rfl (IsSlice.long hs_29)) (ZA rfl rfl (Zx rfl rfl) (ZA rfl rfl (ZG rfl) (Ze (t := 45) rfl (fun c_30 => ?_) (fun c_30 => ?_)))))))
      ·
       replace hx := ZT c_30 hx
       refine ZH rfl rfl rfl rfl rfl (ZH rfl rfl rfl rfl rfl (ZH rfl rfl rfl rfl rfl (ZH rfl rfl rfl rfl rfl (ZH rfl rfl rfl rfl rfl (ZH rfl rfl rfl rfl rfl (ZH rfl rfl rfl rfl rfl (ZH rfl rfl rfl rfl rfl (ZA rfl rfl (Zb rfl rfl) (ZD (ZC (Zu rfl ?_)))))))))))
       refine ZB (ZA rfl rfl (ZG rfl) (ZA rfl rfl (YA rfl rfl) (ZA rfl rfl (ZE rfl) (ZD (Zm (ZC (ZB (ZA rfl rfl (ZG rfl) (ZA rfl rfl (R.inc rfl rfl (of_decide_eq_true c_17) (IsSlice.lenI ha_3)) (ZA rfl rfl (ZE rfl) (ZD ?_)))))))))))
       replace hx := Zp hd_17 hx
       exact ZZ ⟨(w64 (s_14.1 + 1), s_14.2 + 1), rfl, rfl, rfl, hx⟩ ⟨rfl, rfl, rfl, trivial⟩ rfl rfl
      ·
       replace hx := ZU c_30 hx
       refine ZK rfl rfl rfl (ZA rfl rfl (Zq F25_1 rfl) (ZK rfl rfl rfl (ZA rfl rfl (Zd 0 S23 rfl rfl rfl) (ZK rfl rfl rfl (ZA rfl rfl (ZG rfl) (ZK rfl rfl rfl ?_))))))
       obtain ⟨y_31, hN_32, hx⟩ := Zl hx
       obtain ⟨b_33, o_34, cs_35, hE_36, hR_37, hl_38, hc_39⟩ := IsSlice.elem ha_3 hN_32
       obtain ⟨v_40, rfl, hs_41⟩ := hR_37
       obtain ⟨av_40, cv_40, rfl⟩ := IsSlice.val hs_41
       refine ZA rfl rfl (R.ix U23 S101 rfl rfl hE_36) (ZK rfl rfl rfl (ZA rfl rfl (Zq F101_0 rfl) (ZK rfl rfl rfl (ZA rfl rfl (R.ldH S3 rfl (hc_39 0 _ rfl)) (ZK rfl rfl rfl ?_)))))
       obtain ⟨x_42, hr_43, hx⟩ := ZM hx
       refine ZR (vs := [_]) (args := [_]) (K := []) (rst := [_]) E107 rfl rfl rfl ZL (ref09_place_ok y_31.At _ _ hr_43) rfl (fun u_44 Ku_44 Hu_44 hRu_44 hleu_44 hfu_44 => ?_)
       obtain ⟨rfl, rfl, rfl, -⟩ := hRu_44
       refine ZK rfl rfl rfl (ZA rfl rfl (R.not rfl) (ZA rfl rfl (Za rfl rfl) (ZD (ZC (ZW rfl (fun c_45 => ?_) (fun c_45 => ?_))))))
       ·
        replace hx := ZT c_45 hx
        refine ZB (ZA rfl rfl (ZG rfl) (ZA rfl rfl (YA rfl rfl) (ZA rfl rfl (ZE rfl) (ZD (Zm (ZC (ZB (ZA rfl rfl (ZG rfl) (ZA rfl rfl (R.inc rfl rfl (of_decide_eq_true c_17) (IsSlice.lenI ha_3)) (ZA rfl rfl (ZE rfl) (ZD ?_)))))))))))
        replace hx := Zp hd_17 hx
        exact ZZ ⟨(w64 (s_14.1 + 1), s_14.2 + 1), rfl, rfl, rfl, hx⟩ ⟨rfl, rfl, rfl, trivial⟩ rfl rfl
       ·
        replace hx := ZU c_45 hx
        refine ZX (Zm (ZC (ZB (ZA rfl rfl (ZG rfl) (ZA rfl rfl (R.inc rfl rfl (of_decide_eq_true c_17) (IsSlice.lenI ha_3)) (ZA rfl rfl (ZE rfl) (ZD ?_)))))))
        replace hx := Zp hd_17 hx
        exact ZZ ⟨(s_14.1, s_14.2 + 1), rfl, rfl, rfl, hx⟩ ⟨rfl, rfl, rfl, trivial⟩ rfl rfl
     ·
      replace hx := ZU c_18 hx
      refine Z0 (Zc ?_)
      obtain rfl := Zr hd_17 hx
      refine Zc (Zh ?_)
      exact ZZ ⟨rfl, rfl, rfl⟩ ⟨rfl, rfl, trivial⟩ rfl rfl
    ·
     replace hx := ZU c_17 hx
     refine ZH rfl rfl rfl rfl rfl (ZH rfl rfl rfl rfl rfl (ZA rfl rfl (Za rfl rfl) (ZD (ZC (JC.condF rfl (Z0 (Zc ?_)))))))
     obtain rfl := Zr hd_17 hx
     refine Zc (Zh ?_)
     exact ZZ ⟨rfl, rfl, rfl⟩ ⟨rfl, rfl, trivial⟩ rfl rfl
 ·
  have hxo_6 := hx; clear hx; have hx := ht_7; clear ht_7
  refine JC.block (Z5 (fun n l o g => ∃ s_8 : Int × Nat, l = [(1, .pointer (some ⟨b_4, 0, none⟩)), (3, .int .i64 s_8.1), (4, .int .i64 ((s_8.2 : Nat) : Int))] ∧ o = [[(b_4, .cells #[.slice aa_2 na_2 ca_2, .slice aa_3 na_3 ca_3] 25 (0, 0))]] ∧ H = g ∧ run (ref09_May_l1 p_1) n s_8 = some t_5) FUEL ?_ ⟨(0, 0), rfl, rfl, rfl, hx⟩ ⟨rfl, rfl, rfl, trivial⟩ ?_)
  ·
   rintro _ _ _ ⟨s_8, rfl, rfl, rfl, hn_9⟩
   exact Z2 hn_9
  ·
   rintro n_10 _ _ _ ⟨s_8, rfl, rfl, rfl, hn_9⟩
   clear hx; obtain ⟨oo_12, hx, hd_11⟩ := Z4 hn_9
   unfold ref09_May_l1 at hx
   refine ZF (ZF (ZB (ZA rfl rfl (ZG rfl) (ZA rfl rfl (Zq F25_0 rfl) (ZA rfl rfl (Zd 0 S22 rfl rfl rfl) (ZA rfl rfl (Zs U22 rfl (IsSlice.long ha_2)) (ZA rfl rfl (Zy rfl rfl) (ZA rfl rfl (ZG rfl) (Ze (t := 11) rfl (fun c_11 => ?_) (fun c_11 => ?_))))))))))
   ·
    replace hx := ZT c_11 hx
    refine ZK rfl rfl rfl (ZA rfl rfl (ZG rfl) (ZK rfl rfl rfl (ZA rfl rfl (R.leq_i rfl rfl) (ZA rfl rfl (Zb rfl rfl) (ZD (ZC (ZW rfl (fun c_12 => ?_) (fun c_12 => ?_))))))))
    ·
     replace hx := ZT c_12 hx
     refine ZX (ZC (ZF (JC.block (ZF (ZB (ZA rfl rfl (Zq F25_0 rfl) (ZA rfl rfl (Zd 0 S22 rfl rfl rfl) (ZA rfl rfl (ZG rfl) ?_))))))))
     obtain ⟨y_13, hN_14, hx⟩ := Zl hx
     obtain ⟨b_15, o_16, cs_17, hE_18, hR_19, hl_20, hc_21⟩ := IsSlice.elem ha_2 hN_14
     obtain ⟨v_22, rfl, hs_23⟩ := hR_19
     obtain ⟨av_22, cv_22, rfl⟩ := IsSlice.val hs_23
     refine ZA rfl rfl (R.ix U22 S26 rfl rfl hE_18) (ZA rfl rfl (R.ldH S26 rfl (hc_21 0 _ rfl)) (ZA rfl rfl (Zs U26 rfl (IsSlice.long hs_23)) (ZA rfl rfl (Zx rfl rfl) (ZD (ZC (ZW rfl (fun c_24 => ?_) (fun c_24 => ?_)))))))
     ·
      replace hx := ZT c_24 hx
      refine ZB (ZA rfl rfl (ZG rfl) (ZA rfl rfl (YA rfl rfl) (ZA rfl rfl (ZE rfl) (ZD (Zm (ZC (ZB (ZA rfl rfl (ZG rfl) (ZA rfl rfl (R.inc rfl rfl (of_decide_eq_true c_11) (IsSlice.lenI ha_2)) (ZA rfl rfl (ZE rfl) (ZD ?_)))))))))))
      replace hx := Zp hd_11 hx
      exact ZZ ⟨(w64 (s_8.1 + 1), s_8.2 + 1), rfl, rfl, rfl, hx⟩ ⟨rfl, rfl, rfl, trivial⟩ rfl rfl
     ·
      replace hx := ZU c_24 hx
      refine ZX (Zm (ZC (ZB (ZA rfl rfl (ZG rfl) (ZA rfl rfl (R.inc rfl rfl (of_decide_eq_true c_11) (IsSlice.lenI ha_2)) (ZA rfl rfl (ZE rfl) (ZD ?_)))))))
      replace hx := Zp hd_11 hx
      exact ZZ ⟨(s_8.1, s_8.2 + 1), rfl, rfl, rfl, hx⟩ ⟨rfl, rfl, rfl, trivial⟩ rfl rfl
    ·
     replace hx := ZU c_12 hx
     refine Z0 (Zc ?_)
     obtain rfl := Zr hd_11 hx
     refine Zc (Zh ?_)
     exact ZZ ⟨rfl, rfl, rfl⟩ ⟨rfl, rfl, trivial⟩ rfl rfl
   ·
    replace hx := ZU c_11 hx
    refine ZH rfl rfl rfl rfl rfl (ZH rfl rfl rfl rfl rfl (ZA rfl rfl (Za rfl rfl) (ZD (ZC (JC.condF rfl (Z0 (Zc ?_)))))))
    obtain rfl := Zr hd_11 hx
    refine Zc (Zh ?_)
    exact ZZ ⟨rfl, rfl, rfl⟩ ⟨rfl, rfl, trivial⟩ rfl rfl

set_option maxHeartbeats 8000000 in
theorem ref12_May_ok (p_1 : List UInt8) (H : Heaplet) {aa_2 : Option Addr} {na_2 : Nat} {ca_2 : Nat} (ha_2 : IsSlice H RU8 1 (.slice aa_2 na_2 ca_2) p_1) (r : Bool) (hx : ref12_May p_1 = some r) :
  Does Tryz.prog 75 #[.slice aa_2 na_2 ca_2] [] H (fun u K' H' => u = .bool r ∧ K' = [] ∧ H = H' ∧ True) := by
 refine Does.enterL (vs := [.slice aa_2 na_2 ca_2]) (l := [(0, .slice aa_2 na_2 ca_2)]) Tryz.func75 rfl rfl ⟨rfl, trivial⟩ (fun w hlt => ?_)
 unfold ref12_May at hx
 refine ZF (ZB (ZA rfl rfl (ZE rfl) (ZD (ZC (ZF (ZF (ZB (ZA rfl rfl (ZG rfl) (ZA rfl rfl (Zs U26 rfl (IsSlice.long ha_2)) (ZA rfl rfl (Zx rfl rfl) (ZD ?_)))))))))))
 refine ZC (ZW rfl (fun c_3 => ?_) (fun c_3 => ?_))
 ·
  replace hx := ZT c_3 hx
  refine ZF (ZB (ZA rfl rfl (ZE rfl) (ZD (ZC (ZS (ZP (ZQ (vs := [.bool false]) (K := []) (rst := []) (.inl rfl) rfl rfl (ZO rfl rfl) ZL ?_)))))))
  obtain rfl := Option.some.inj hx
  exact ⟨rfl, rfl, rfl, trivial⟩
 ·
  replace hx := ZU c_3 hx
  refine ZX (ZC (ZF (ZF (ZB (ZA rfl rfl (ZE rfl) (ZD (ZC ?_)))))))
  obtain ⟨t_4, ht_6, hx⟩ := ZM hx
  refine Z1 (fun l o g => ∃ t_4a : Unit, l = [] ∧ o = [] ∧ H = g ∧ t_4 = .inl t_4a) ?_ ?_
  ·
   rintro _ _ _ ⟨t_4a, rfl, rfl, rfl, rfl⟩
   simp only [Sum.elim_inl] at hx
   refine ZC (ZF (ZB (ZA rfl rfl (ZE rfl) (ZD (ZC (ZS (ZQ (vs := [.bool true]) (K := []) (rst := []) (.inl rfl) rfl rfl (ZO rfl rfl) ZL ?_)))))))
   obtain rfl := Option.some.inj hx
   exact ⟨rfl, rfl, rfl, trivial⟩
  ·
   have hxo_5 := hx; clear hx; have hx := ht_6; clear ht_6
   refine JC.block (Z5 (fun n l o g => ∃ s_7 : Nat, l = [(0, .slice aa_2 na_2 ca_2), (3, .int .i64 ((s_7 : Nat) : Int))] ∧ o = [] ∧ H = g ∧ run (ref12_May_l1 p_1) n s_7 = some t_4) FUEL ?_ ⟨0, rfl, rfl, rfl, hx⟩ ⟨rfl, rfl, trivial⟩ ?_)
   ·
    rintro _ _ _ ⟨s_7, rfl, rfl, rfl, hn_8⟩
    exact Z2 hn_8
   ·
    rintro n_9 _ _ _ ⟨s_7, rfl, rfl, rfl, hn_8⟩
    clear hx; obtain ⟨oo_11, hx, hd_10⟩ := Z4 hn_8
    unfold ref12_May_l1 at hx
    refine ZF (ZF (ZB (ZA rfl rfl (ZG rfl) (ZA rfl rfl (Zy rfl rfl) (ZD (ZC (ZW rfl (fun c_10 => ?_) (fun c_10 => ?_))))))))
    ·
     replace hx := ZT c_10 hx
     refine ZX (ZC (ZF (JC.block (ZF (ZB (ZA rfl rfl (ZG rfl) (ZA rfl rfl (ZG rfl) ?_)))))))
     obtain ⟨y_11, hN_12, hx⟩ := Zl hx
     obtain ⟨b_13, o_14, cs_15, hE_16, hR_17, hl_18, hc_19⟩ := IsSlice.elem ha_2 hN_12
     obtain rfl := hR_17
     refine ZA rfl rfl (R.ix U26 S5 rfl rfl hE_16) (ZA rfl rfl (R.ldH S5 rfl (hc_19 0 _ rfl)) (ZA rfl rfl (R.gtr8 (a := y_11) (b := (2 : UInt8)) rfl rfl) (ZA rfl rfl (ZG rfl) (Ze (t := 16) rfl (fun c_20 => ?_) (fun c_20 => ?_)))))
     ·
      replace hx := ZT c_20 hx
      refine ZH rfl rfl rfl rfl rfl (ZH rfl rfl rfl rfl rfl (ZH rfl rfl rfl rfl rfl (YD rfl rfl rfl rfl (YD rfl rfl rfl rfl (YD rfl rfl rfl rfl (YD rfl rfl rfl rfl (YD rfl rfl rfl rfl (ZH rfl rfl rfl rfl rfl (ZA rfl rfl (Zb rfl rfl) (ZD (ZC ?_)))))))))))
      refine Zu rfl (ZF (ZB (ZA rfl rfl (ZE rfl) (ZD (ZC (ZS (Z9 (ZP ?_))))))))
      obtain rfl := Zr hd_10 hx
      refine ZP (Z9 ?_)
      clear hx; have hx := hxo_5
      simp only [Sum.elim_inl, Sum.elim_inr] at hx
      refine ZP (ZP (ZQ (vs := [.bool false]) (K := []) (rst := []) (.inl rfl) rfl rfl (ZO rfl rfl) ZL ?_))
      obtain rfl := Option.some.inj hx
      exact ⟨rfl, rfl, rfl, trivial⟩
     ·
      replace hx := ZU c_20 hx
      refine ZK rfl rfl rfl (ZA rfl rfl (ZG rfl) (ZK rfl rfl rfl (ZA rfl rfl (Zy rfl rfl) (ZK rfl rfl rfl (ZA rfl rfl (ZG rfl) (Ze (t := 19) rfl (fun c_21 => ?_) (fun c_21 => ?_)))))))
      ·
       replace hx := ZT c_21 hx
       refine ZK rfl rfl rfl (ZA rfl rfl (ZG rfl) (ZK rfl rfl rfl (ZA rfl rfl (ZG rfl) (ZK rfl rfl rfl ?_))))
       obtain ⟨y_22, hN_23, hx⟩ := Zl hx
       obtain ⟨b_24, o_25, cs_26, hE_27, hR_28, hl_29, hc_30⟩ := IsSlice.elem ha_2 hN_23
       obtain rfl := hR_28
       refine ZA rfl rfl (R.ix U26 S5 rfl rfl hE_27) (ZK rfl rfl rfl (ZA rfl rfl (R.ldH S5 rfl (hc_30 0 _ rfl)) (ZK rfl rfl rfl (ZA rfl rfl (R.neq8 (a := y_22) (b := (1 : UInt8)) rfl rfl) (ZK rfl rfl rfl (ZA rfl rfl (Zb rfl rfl) (ZA rfl rfl (Za rfl rfl) (ZD (ZC (ZW rfl (fun c_31 => ?_) (fun c_31 => ?_)))))))))))
       ·
        replace hx := ZT c_31 hx
        refine ZF (ZB (ZA rfl rfl (ZE rfl) (ZD (ZC (ZS (Z9 (ZP ?_)))))))
        obtain rfl := Zr hd_10 hx
        refine ZP (Z9 ?_)
        clear hx; have hx := hxo_5
        simp only [Sum.elim_inl, Sum.elim_inr] at hx
        refine ZP (ZP (ZQ (vs := [.bool false]) (K := []) (rst := []) (.inl rfl) rfl rfl (ZO rfl rfl) ZL ?_))
        obtain rfl := Option.some.inj hx
        exact ⟨rfl, rfl, rfl, trivial⟩
       ·
        replace hx := ZU c_31 hx
        refine ZX (Zm (ZC (ZB (ZA rfl rfl (ZG rfl) (ZA rfl rfl (R.inc rfl rfl (of_decide_eq_true c_10) (by decide)) (ZA rfl rfl (ZE rfl) (ZD ?_)))))))
        replace hx := Zp hd_10 hx
        exact ZZ ⟨s_7 + 1, rfl, rfl, rfl, hx⟩ ⟨rfl, rfl, trivial⟩ rfl rfl
      ·
       replace hx := ZU c_21 hx
       refine ZH rfl rfl rfl rfl rfl (ZH rfl rfl rfl rfl rfl (ZH rfl rfl rfl rfl rfl (ZH rfl rfl rfl rfl rfl (ZH rfl rfl rfl rfl rfl (ZK rfl rfl rfl (ZA rfl rfl (Za rfl rfl) (ZA rfl rfl (Za rfl rfl) (ZD (ZC (JC.condF rfl (ZX ?_)))))))))))
       refine Zm (ZC (ZB (ZA rfl rfl (ZG rfl) (ZA rfl rfl (R.inc rfl rfl (of_decide_eq_true c_10) (by decide)) (ZA rfl rfl (ZE rfl) (ZD ?_))))))
       replace hx := Zp hd_10 hx
       exact ZZ ⟨s_7 + 1, rfl, rfl, rfl, hx⟩ ⟨rfl, rfl, trivial⟩ rfl rfl
    ·
     replace hx := ZU c_10 hx
     refine Z0 (Zc ?_)
     obtain rfl := Zr hd_10 hx
     refine Zc (Zh ?_)
     exact ZZ ⟨(), rfl, rfl, rfl, rfl⟩ trivial rfl rfl

set_option maxHeartbeats 8000000 in
theorem ref13_May_ok (p_1 : Store) (H : Heaplet) {aa_2 : Option Addr} {na_2 : Nat} {ca_2 : Nat} {aa_3 : Option Addr} {na_3 : Nat} {ca_3 : Nat} {aa_4 : Option Addr} {na_4 : Nat} {ca_4 : Nat} (ha_2 : IsSlice H (RSl RU8 1) 1 (.slice aa_2 na_2 ca_2) p_1.Disk.Blocks) (ha_3 : IsSlice H R_Write 2 (.slice aa_3 na_3 ca_3) p_1.Disk.Waits) (ha_4 : IsSlice H RU8 1 (.slice aa_4 na_4 ca_4) p_1.Space) (r : Bool) (hx : ref13_May p_1 = some r) :
  Does Tryz.prog 45 #[.agg #[.slice aa_2 na_2 ca_2, .slice aa_3 na_3 ca_3, .slice aa_4 na_4 ca_4, .int .u32 (p_1.Epoch.toNat : Int), .int .u32 (p_1.Count.toNat : Int)]] [] H (fun u K' H' => u = .bool r ∧ K' = [] ∧ H = H' ∧ True) := by
 refine Does.enterL (vs := [.agg #[.slice aa_2 na_2 ca_2, .slice aa_3 na_3 ca_3, .slice aa_4 na_4 ca_4, .int .u32 (p_1.Epoch.toNat : Int), .int .u32 (p_1.Count.toNat : Int)]]) (l := [(0, .agg #[.slice aa_2 na_2 ca_2, .slice aa_3 na_3 ca_3, .slice aa_4 na_4 ca_4, .int .u32 (p_1.Epoch.toNat : Int), .int .u32 (p_1.Count.toNat : Int)])]) Tryz.func45 rfl rfl ⟨rfl, trivial⟩ (fun w hlt => ?_)
 unfold ref13_May at hx
 refine ZF (ZB (Zv rfl rfl (fun b_5 hb_5 => ZA rfl rfl (ZE rfl) (ZD (ZC (ZF ?_))))))
 obtain ⟨t_6, ht_8, hx⟩ := ZM hx
 refine Z1 (fun l o g => l = [(2, .bool t_6)] ∧ o = [] ∧ H = g) ?_ ?_
 ·
  rintro _ _ _ ⟨rfl, rfl, rfl⟩
  refine ZC (ZS (ZQ (vs := [.bool t_6]) (K := []) (rst := []) (.inl rfl) rfl rfl (ZO rfl rfl) ZL ?_))
  obtain rfl := Option.some.inj hx
  exact ⟨rfl, rfl, rfl, trivial⟩
 ·
  have hxo_7 := hx; clear hx; have hx := ht_8; clear ht_8
  refine ZB (ZA rfl rfl (Zq F29_0 rfl) (ZA rfl rfl (Zg 0 (vs := [.slice aa_2 na_2 ca_2, .slice aa_3 na_3 ca_3]) S25 rfl rfl rfl rfl) ?_))
  obtain ⟨x_9, hr_10, hx⟩ := ZM hx
  refine ZR (vs := [_]) (args := [_]) (K := []) (rst := [_]) E74 rfl rfl rfl ZL (ref09_May_ok (Disk.mk p_1.Disk.Blocks p_1.Disk.Waits) _ ha_2 ha_3 _ hr_10) rfl (fun u_11 Ku_11 Hu_11 hRu_11 hleu_11 hfu_11 => ?_)
  obtain ⟨rfl, rfl, rfl, -⟩ := hRu_11
  refine ZA rfl rfl (ZG rfl) (Ze (t := 6) rfl (fun c_12 => ?_) (fun c_12 => ?_))
  ·
   replace hx := ZT c_12 hx
   refine ZK rfl rfl rfl (ZA rfl rfl (Zq F29_1 rfl) (ZK rfl rfl rfl (ZA rfl rfl (Zd 0 S26 rfl rfl rfl) (ZK rfl rfl rfl ?_))))
   obtain ⟨x_13, hr_14, hx⟩ := ZM hx
   refine ZR (vs := [_]) (args := [_]) (K := []) (rst := [_]) E75 rfl rfl rfl ZL (ref12_May_ok p_1.Space _ ha_4 _ hr_14) rfl (fun u_15 Ku_15 Hu_15 hRu_15 hleu_15 hfu_15 => ?_)
   obtain ⟨rfl, rfl, rfl, -⟩ := hRu_15
   refine ZA rfl rfl (Zb rfl rfl) (ZA rfl rfl (ZG rfl) (Ze (t := 11) rfl (fun c_16 => ?_) (fun c_16 => ?_)))
   ·
    replace hx := ZT c_16 hx
    refine ZK rfl rfl rfl (ZA rfl rfl (Zq F29_2 rfl) (ZK rfl rfl rfl (ZA rfl rfl (Zd 0 S27 rfl rfl rfl) (ZK rfl rfl rfl (ZA rfl rfl (R.geq32 (a := p_1.Epoch) (b := (1 : UInt32)) rfl rfl) (ZA rfl rfl (Zb rfl rfl) (ZA rfl rfl (ZG rfl) (Ze (t := 16) rfl (fun c_17 => ?_) (fun c_17 => ?_)))))))))
    ·
     replace hx := ZT c_17 hx
     refine ZK rfl rfl rfl (ZA rfl rfl (Zq F29_2 rfl) (ZK rfl rfl rfl (ZA rfl rfl (Zd 0 S27 rfl rfl rfl) (ZK rfl rfl rfl (ZA rfl rfl (R.leq32 (a := p_1.Epoch) (b := (65535 : UInt32)) rfl rfl) (ZA rfl rfl (Zb rfl rfl) (ZA rfl rfl (ZG rfl) (Ze (t := 21) rfl (fun c_18 => ?_) (fun c_18 => ?_)))))))))
     ·
      replace hx := ZT c_18 hx
      refine ZK rfl rfl rfl (ZA rfl rfl (Zq F29_3 rfl) (ZK rfl rfl rfl (ZA rfl rfl (Zd 0 S27 rfl rfl rfl) (ZK rfl rfl rfl (ZA rfl rfl (R.leq32 (a := p_1.Count) (b := (65535 : UInt32)) rfl rfl) (ZA rfl rfl (Zb rfl rfl) (ZA rfl rfl (ZE rfl) (ZD ?_))))))))
      obtain rfl := Option.some.inj hx
      refine JN.forget 0 ?_
      exact ZZ ⟨rfl, rfl, rfl⟩ ⟨rfl, trivial⟩ rfl rfl
     ·
      replace hx := ZU c_18 hx
      refine ZH rfl rfl rfl rfl rfl (ZH rfl rfl rfl rfl rfl (ZH rfl rfl rfl rfl rfl (ZA rfl rfl (Za rfl rfl) (ZA rfl rfl (ZE rfl) (ZD ?_)))))
      obtain rfl := Option.some.inj hx
      refine JN.forget 0 ?_
      exact ZZ ⟨rfl, rfl, rfl⟩ ⟨rfl, trivial⟩ rfl rfl
    ·
     replace hx := ZU c_17 hx
     refine ZH rfl rfl rfl rfl rfl (ZH rfl rfl rfl rfl rfl (ZH rfl rfl rfl rfl rfl (ZA rfl rfl (Za rfl rfl) (ZA rfl rfl (ZG rfl) (ZH rfl rfl rfl rfl rfl (ZH rfl rfl rfl rfl rfl (ZH rfl rfl rfl rfl rfl (ZA rfl rfl (Za rfl rfl) (ZA rfl rfl (ZE rfl) (ZD ?_))))))))))
     obtain rfl := Option.some.inj hx
     refine JN.forget 0 ?_
     exact ZZ ⟨rfl, rfl, rfl⟩ ⟨rfl, trivial⟩ rfl rfl
   ·
    replace hx := ZU c_16 hx
    refine ZH rfl rfl rfl rfl rfl (ZH rfl rfl rfl rfl rfl (ZH rfl rfl rfl rfl rfl (ZA rfl rfl (Za rfl rfl) (ZA rfl rfl (ZG rfl) (ZH rfl rfl rfl rfl rfl (ZH rfl rfl rfl rfl rfl (ZH rfl rfl rfl rfl rfl (ZA rfl rfl (Za rfl rfl) (ZA rfl rfl (ZG rfl) (ZH rfl rfl rfl rfl rfl (ZH rfl rfl rfl rfl rfl ?_)))))))))))
    refine ZH rfl rfl rfl rfl rfl (ZA rfl rfl (Za rfl rfl) (ZA rfl rfl (ZE rfl) (ZD ?_)))
    obtain rfl := Option.some.inj hx
    refine JN.forget 0 ?_
    exact ZZ ⟨rfl, rfl, rfl⟩ ⟨rfl, trivial⟩ rfl rfl
  ·
   replace hx := ZU c_12 hx
   refine ZH rfl rfl rfl rfl rfl (ZH rfl rfl rfl rfl rfl (ZH rfl rfl rfl rfl rfl (ZA rfl rfl (Za rfl rfl) (ZA rfl rfl (ZG rfl) (ZH rfl rfl rfl rfl rfl (ZH rfl rfl rfl rfl rfl (ZH rfl rfl rfl rfl rfl (ZA rfl rfl (Za rfl rfl) (ZA rfl rfl (ZG rfl) (ZH rfl rfl rfl rfl rfl (ZH rfl rfl rfl rfl rfl ?_)))))))))))
   refine ZH rfl rfl rfl rfl rfl (ZA rfl rfl (Za rfl rfl) (ZA rfl rfl (ZG rfl) (ZH rfl rfl rfl rfl rfl (ZH rfl rfl rfl rfl rfl (ZH rfl rfl rfl rfl rfl (ZA rfl rfl (Za rfl rfl) (ZA rfl rfl (ZE rfl) (ZD ?_))))))))
   obtain rfl := Option.some.inj hx
   refine JN.forget 0 ?_
   exact ZZ ⟨rfl, rfl, rfl⟩ ⟨rfl, trivial⟩ rfl rfl

set_option maxHeartbeats 8000000 in
theorem ref10_None_ok (p_1 : Ptr) (H : Heaplet) (r : Bool) (hx : ref10_None p_1 = some r) :
  Does Tryz.prog 61 #[.agg #[.int .i64 p_1.At, .int .u32 (p_1.Birth.toNat : Int), .int .u32 (p_1.Iv.toNat : Int), .int .u32 (p_1.Tag.toNat : Int), .int .u32 (p_1.Sum.toNat : Int)]] [] H (fun u K' H' => u = .bool r ∧ K' = [] ∧ H = H' ∧ True) := by
 refine Does.enterL (vs := [.agg #[.int .i64 p_1.At, .int .u32 (p_1.Birth.toNat : Int), .int .u32 (p_1.Iv.toNat : Int), .int .u32 (p_1.Tag.toNat : Int), .int .u32 (p_1.Sum.toNat : Int)]]) (l := [(0, .agg #[.int .i64 p_1.At, .int .u32 (p_1.Birth.toNat : Int), .int .u32 (p_1.Iv.toNat : Int), .int .u32 (p_1.Tag.toNat : Int), .int .u32 (p_1.Sum.toNat : Int)])]) Tryz.func61 rfl rfl ⟨rfl, trivial⟩ (fun w hlt => ?_)
 unfold ref10_None at hx
 refine ZF (ZB (Zv rfl rfl (fun b_2 hb_2 => ZA rfl rfl (ZE rfl) (ZD (ZC (ZF (ZB (ZA rfl rfl (Zg 0 (vs := [.int .i64 p_1.At, .int .u32 (p_1.Birth.toNat : Int), .int .u32 (p_1.Iv.toNat : Int), .int .u32 (p_1.Tag.toNat : Int), .int .u32 (p_1.Sum.toNat : Int)]) S31 rfl rfl rfl rfl) (ZA rfl rfl (YB (vs := []) (cs := [.int .i64 0, .int .u32 ((0 : UInt32).toNat : Int), .int .u32 ((0 : UInt32).toNat : Int), .int .u32 ((0 : UInt32).toNat : Int), .int .u32 ((0 : UInt32).toNat : Int)]) Z31 B31 rfl rfl rfl) (ZA rfl rfl (R.eqlAgg QU31 QP31 QG31 QF31 rfl rfl (EqF.i (by decide) S3 U3 rfl rfl (EqF.u32 (a := p_1.Birth) (b := (0 : UInt32)) (by decide) S27 U27 rfl rfl (EqF.u32 (a := p_1.Iv) (b := (0 : UInt32)) (by decide) S27 U27 rfl rfl (EqF.u32 (a := p_1.Tag) (b := (0 : UInt32)) (by decide) S27 U27 rfl rfl (EqF.u32 (a := p_1.Sum) (b := (0 : UInt32)) (by decide) S27 U27 rfl rfl EqF.nil)))))) (ZA rfl rfl (ZE rfl) ?_)))))))))))
 refine ZD (ZC (ZS (ZQ (vs := [.bool (decide (p_1.At = 0) && (decide (p_1.Birth = (0 : UInt32)) && (decide (p_1.Iv = (0 : UInt32)) && (decide (p_1.Tag = (0 : UInt32)) && (decide (p_1.Sum = (0 : UInt32)) && true)))))]) (K := []) (rst := [_]) (.inl rfl) rfl rfl (ZO rfl rfl) ZL ?_)))
 obtain rfl := Option.some.inj hx
 exact ⟨rfl, rfl, rfl, trivial⟩

set_option maxHeartbeats 8000000 in
theorem ref10_May_ok (p_1 : Ptr) (H : Heaplet) (r : Bool) (hx : ref10_May p_1 = some r) :
  Does Tryz.prog 51 #[.agg #[.int .i64 p_1.At, .int .u32 (p_1.Birth.toNat : Int), .int .u32 (p_1.Iv.toNat : Int), .int .u32 (p_1.Tag.toNat : Int), .int .u32 (p_1.Sum.toNat : Int)]] [] H (fun u K' H' => u = .bool r ∧ K' = [] ∧ H = H' ∧ True) := by
 refine Does.enterL (vs := [.agg #[.int .i64 p_1.At, .int .u32 (p_1.Birth.toNat : Int), .int .u32 (p_1.Iv.toNat : Int), .int .u32 (p_1.Tag.toNat : Int), .int .u32 (p_1.Sum.toNat : Int)]]) (l := [(0, .agg #[.int .i64 p_1.At, .int .u32 (p_1.Birth.toNat : Int), .int .u32 (p_1.Iv.toNat : Int), .int .u32 (p_1.Tag.toNat : Int), .int .u32 (p_1.Sum.toNat : Int)])]) Tryz.func51 rfl rfl ⟨rfl, trivial⟩ (fun w hlt => ?_)
 unfold ref10_May at hx
 refine ZF (ZB (Zv rfl rfl (fun b_2 hb_2 => ZA rfl rfl (ZE rfl) (ZD (ZC (ZF ?_))))))
 obtain ⟨t_3, ht_5, hx⟩ := ZM hx
 refine Z1 (fun l o g => l = [(2, .bool t_3)] ∧ o = [] ∧ H = g) ?_ ?_
 ·
  rintro _ _ _ ⟨rfl, rfl, rfl⟩
  refine ZC (ZS (ZQ (vs := [.bool t_3]) (K := []) (rst := []) (.inl rfl) rfl rfl (ZO rfl rfl) ZL ?_))
  obtain rfl := Option.some.inj hx
  exact ⟨rfl, rfl, rfl, trivial⟩
 ·
  have hxo_4 := hx; clear hx; have hx := ht_5; clear ht_5
  refine ZB (ZA rfl rfl (Zg 0 (vs := [.int .i64 p_1.At, .int .u32 (p_1.Birth.toNat : Int), .int .u32 (p_1.Iv.toNat : Int), .int .u32 (p_1.Tag.toNat : Int), .int .u32 (p_1.Sum.toNat : Int)]) S31 rfl rfl rfl rfl) ?_)
  obtain ⟨x_6, hr_7, hx⟩ := ZM hx
  refine ZR (vs := [_]) (args := [_]) (K := []) (rst := [_]) E61 rfl rfl rfl ZL (ref10_None_ok p_1 _ _ hr_7) rfl (fun u_8 Ku_8 Hu_8 hRu_8 hleu_8 hfu_8 => ?_)
  obtain ⟨rfl, rfl, rfl, -⟩ := hRu_8
  refine ZA rfl rfl (ZG rfl) (Ze (t := 5) rfl (fun c_9 => ?_) (fun c_9 => ?_))
  ·
   replace hx := ZT c_9 hx
   refine ZH rfl rfl rfl rfl rfl (ZH rfl rfl rfl rfl rfl (ZH rfl rfl rfl rfl rfl (ZH rfl rfl rfl rfl rfl (YD rfl rfl rfl rfl (YD rfl rfl rfl rfl (YD rfl rfl rfl rfl (ZH rfl rfl rfl rfl rfl (ZH rfl rfl rfl rfl rfl (YD rfl rfl rfl rfl (YD rfl rfl rfl rfl (YD rfl rfl rfl rfl ?_)))))))))))
   refine ZH rfl rfl rfl rfl rfl (ZH rfl rfl rfl rfl rfl (YD rfl rfl rfl rfl (YD rfl rfl rfl rfl (YD rfl rfl rfl rfl (ZH rfl rfl rfl rfl rfl (ZA rfl rfl (Zb rfl rfl) (ZA rfl rfl (ZE rfl) (ZD ?_))))))))
   obtain rfl := Option.some.inj hx
   refine JN.forget 0 ?_
   exact ZZ ⟨rfl, rfl, rfl⟩ ⟨rfl, trivial⟩ rfl rfl
  ·
   replace hx := ZU c_9 hx
   refine ZK rfl rfl rfl (ZA rfl rfl (Zq F31_0 rfl) (ZK rfl rfl rfl (ZA rfl rfl (Zd 0 S3 rfl rfl rfl) (ZK rfl rfl rfl (ZA rfl rfl (R.geq_i rfl rfl) (ZK rfl rfl rfl (ZA rfl rfl (ZG rfl) (Ze (t := 9) rfl (fun c_10 => ?_) (fun c_10 => ?_)))))))))
   ·
    replace hx := ZT c_10 hx
    refine ZK rfl rfl rfl (ZA rfl rfl (Zq F31_0 rfl) (ZK rfl rfl rfl (ZA rfl rfl (Zd 0 S3 rfl rfl rfl) (ZK rfl rfl rfl (ZA rfl rfl (Zy rfl rfl) (ZK rfl rfl rfl (ZA rfl rfl (Zb rfl rfl) (ZK rfl rfl rfl (ZA rfl rfl (ZG rfl) (Ze (t := 14) rfl (fun c_11 => ?_) (fun c_11 => ?_)))))))))))
    ·
     replace hx := ZT c_11 hx
     refine ZK rfl rfl rfl (ZA rfl rfl (Zq F31_1 rfl) (ZK rfl rfl rfl (ZA rfl rfl (Zd 0 S27 rfl rfl rfl) (ZK rfl rfl rfl (ZA rfl rfl (R.geq32 (a := p_1.Birth) (b := (1 : UInt32)) rfl rfl) (ZK rfl rfl rfl (ZA rfl rfl (Zb rfl rfl) (ZK rfl rfl rfl (ZA rfl rfl (ZG rfl) (Ze (t := 19) rfl (fun c_12 => ?_) (fun c_12 => ?_)))))))))))
     ·
      replace hx := ZT c_12 hx
      refine ZK rfl rfl rfl (ZA rfl rfl (Zq F31_1 rfl) (ZK rfl rfl rfl (ZA rfl rfl (Zd 0 S27 rfl rfl rfl) (ZK rfl rfl rfl (ZA rfl rfl (R.leq32 (a := p_1.Birth) (b := (16777215 : UInt32)) rfl rfl) (ZK rfl rfl rfl (ZA rfl rfl (Zb rfl rfl) (ZA rfl rfl (Za rfl rfl) (ZA rfl rfl (ZE rfl) (ZD ?_))))))))))
      obtain rfl := Option.some.inj hx
      refine JN.forget 0 ?_
      exact ZZ ⟨rfl, rfl, rfl⟩ ⟨rfl, trivial⟩ rfl rfl
     ·
      replace hx := ZU c_12 hx
      refine ZH rfl rfl rfl rfl rfl (ZH rfl rfl rfl rfl rfl (ZH rfl rfl rfl rfl rfl (ZK rfl rfl rfl (ZA rfl rfl (Za rfl rfl) (ZA rfl rfl (Za rfl rfl) (ZA rfl rfl (ZE rfl) (ZD ?_)))))))
      obtain rfl := Option.some.inj hx
      refine JN.forget 0 ?_
      exact ZZ ⟨rfl, rfl, rfl⟩ ⟨rfl, trivial⟩ rfl rfl
    ·
     replace hx := ZU c_11 hx
     refine ZH rfl rfl rfl rfl rfl (ZH rfl rfl rfl rfl rfl (ZH rfl rfl rfl rfl rfl (ZK rfl rfl rfl (ZA rfl rfl (Za rfl rfl) (ZK rfl rfl rfl (ZA rfl rfl (ZG rfl) (ZH rfl rfl rfl rfl rfl (ZH rfl rfl rfl rfl rfl (ZH rfl rfl rfl rfl rfl (ZK rfl rfl rfl (ZA rfl rfl (Za rfl rfl) ?_)))))))))))
     refine ZA rfl rfl (Za rfl rfl) (ZA rfl rfl (ZE rfl) (ZD ?_))
     obtain rfl := Option.some.inj hx
     refine JN.forget 0 ?_
     exact ZZ ⟨rfl, rfl, rfl⟩ ⟨rfl, trivial⟩ rfl rfl
   ·
    replace hx := ZU c_10 hx
    refine ZH rfl rfl rfl rfl rfl (ZH rfl rfl rfl rfl rfl (ZH rfl rfl rfl rfl rfl (ZK rfl rfl rfl (ZA rfl rfl (Za rfl rfl) (ZK rfl rfl rfl (ZA rfl rfl (ZG rfl) (ZH rfl rfl rfl rfl rfl (ZH rfl rfl rfl rfl rfl (ZH rfl rfl rfl rfl rfl (ZK rfl rfl rfl (ZA rfl rfl (Za rfl rfl) ?_)))))))))))
    refine ZK rfl rfl rfl (ZA rfl rfl (ZG rfl) (ZH rfl rfl rfl rfl rfl (ZH rfl rfl rfl rfl rfl (ZH rfl rfl rfl rfl rfl (ZK rfl rfl rfl (ZA rfl rfl (Za rfl rfl) (ZA rfl rfl (Za rfl rfl) (ZA rfl rfl (ZE rfl) (ZD ?_)))))))))
    obtain rfl := Option.some.inj hx
    refine JN.forget 0 ?_
    exact ZZ ⟨rfl, rfl, rfl⟩ ⟨rfl, trivial⟩ rfl rfl

set_option maxHeartbeats 8000000 in
theorem ref15_may_ok (p_1 : Store) (p_5 : Ptr) (H : Heaplet) {aa_2 : Option Addr} {na_2 : Nat} {ca_2 : Nat} {aa_3 : Option Addr} {na_3 : Nat} {ca_3 : Nat} {aa_4 : Option Addr} {na_4 : Nat} {ca_4 : Nat} (ha_2 : IsSlice H (RSl RU8 1) 1 (.slice aa_2 na_2 ca_2) p_1.Disk.Blocks) (ha_3 : IsSlice H R_Write 2 (.slice aa_3 na_3 ca_3) p_1.Disk.Waits) (ha_4 : IsSlice H RU8 1 (.slice aa_4 na_4 ca_4) p_1.Space) (r : Bool) (hx : ref15_may p_1 p_5 = some r) :
  Does Tryz.prog 31 #[.agg #[.slice aa_2 na_2 ca_2, .slice aa_3 na_3 ca_3, .slice aa_4 na_4 ca_4, .int .u32 (p_1.Epoch.toNat : Int), .int .u32 (p_1.Count.toNat : Int)], .agg #[.int .i64 p_5.At, .int .u32 (p_5.Birth.toNat : Int), .int .u32 (p_5.Iv.toNat : Int), .int .u32 (p_5.Tag.toNat : Int), .int .u32 (p_5.Sum.toNat : Int)]] [] H (fun u K' H' => u = .bool r ∧ K' = [] ∧ H = H' ∧ True) := by
 refine Does.enterL (vs := [.agg #[.slice aa_2 na_2 ca_2, .slice aa_3 na_3 ca_3, .slice aa_4 na_4 ca_4, .int .u32 (p_1.Epoch.toNat : Int), .int .u32 (p_1.Count.toNat : Int)], .agg #[.int .i64 p_5.At, .int .u32 (p_5.Birth.toNat : Int), .int .u32 (p_5.Iv.toNat : Int), .int .u32 (p_5.Tag.toNat : Int), .int .u32 (p_5.Sum.toNat : Int)]]) (l := [(0, .agg #[.slice aa_2 na_2 ca_2, .slice aa_3 na_3 ca_3, .slice aa_4 na_4 ca_4, .int .u32 (p_1.Epoch.toNat : Int), .int .u32 (p_1.Count.toNat : Int)]), (1, .agg #[.int .i64 p_5.At, .int .u32 (p_5.Birth.toNat : Int), .int .u32 (p_5.Iv.toNat : Int), .int .u32 (p_5.Tag.toNat : Int), .int .u32 (p_5.Sum.toNat : Int)])]) Tryz.func31 rfl rfl ⟨rfl, rfl, trivial⟩ (fun w hlt => ?_)
 unfold ref15_may at hx
 refine ZF (ZB (Zv rfl rfl (fun b_6 hb_6 => Zv rfl rfl (fun b_7 hb_7 => ZA rfl rfl (ZE rfl) (ZD (ZC (ZF ?_)))))))
 obtain ⟨t_8, ht_10, hx⟩ := ZM hx
 refine Z1 (fun l o g => l = [(4, .bool t_8)] ∧ o = [] ∧ H = g) ?_ ?_
 ·
  rintro _ _ _ ⟨rfl, rfl, rfl⟩
  refine ZC (ZS (ZQ (vs := [.bool t_8]) (K := []) (rst := []) (.inl rfl) rfl rfl (ZO rfl rfl) ZL ?_))
  obtain rfl := Option.some.inj hx
  exact ⟨rfl, rfl, rfl, trivial⟩
 ·
  have hxo_9 := hx; clear hx; have hx := ht_10; clear ht_10
  refine ZB (ZA rfl rfl (Zg 1 (vs := [.slice aa_2 na_2 ca_2, .slice aa_3 na_3 ca_3, .slice aa_4 na_4 ca_4, .int .u32 (p_1.Epoch.toNat : Int), .int .u32 (p_1.Count.toNat : Int)]) S29 rfl rfl rfl rfl) ?_)
  obtain ⟨x_11, hr_12, hx⟩ := ZM hx
  refine ZR (vs := [_]) (args := [_]) (K := []) (rst := [_, _]) E45 rfl rfl rfl ZL (ref13_May_ok p_1 _ ha_2 ha_3 ha_4 _ hr_12) rfl (fun u_13 Ku_13 Hu_13 hRu_13 hleu_13 hfu_13 => ?_)
  obtain ⟨rfl, rfl, rfl, -⟩ := hRu_13
  refine ZA rfl rfl (ZG rfl) (Ze (t := 7) rfl (fun c_14 => ?_) (fun c_14 => ?_))
  ·
   replace hx := ZT c_14 hx
   refine ZK rfl rfl rfl (ZA rfl rfl (Zg 0 (vs := [.int .i64 p_5.At, .int .u32 (p_5.Birth.toNat : Int), .int .u32 (p_5.Iv.toNat : Int), .int .u32 (p_5.Tag.toNat : Int), .int .u32 (p_5.Sum.toNat : Int)]) S31 rfl rfl rfl rfl) (ZK rfl rfl rfl ?_))
   obtain ⟨x_15, hr_16, hx⟩ := ZM hx
   refine ZR (vs := [_]) (args := [_]) (K := []) (rst := [_, _]) E51 rfl rfl rfl ZL (ref10_May_ok p_5 _ _ hr_16) rfl (fun u_17 Ku_17 Hu_17 hRu_17 hleu_17 hfu_17 => ?_)
   obtain ⟨rfl, rfl, rfl, -⟩ := hRu_17
   refine ZA rfl rfl (Zb rfl rfl) (ZA rfl rfl (ZE rfl) (ZD ?_))
   obtain rfl := Option.some.inj hx
   refine JN.forget 1 (JN.forget 0 ?_)
   exact ZZ ⟨rfl, rfl, rfl⟩ ⟨rfl, trivial⟩ rfl rfl
  ·
   replace hx := ZU c_14 hx
   refine ZH rfl rfl rfl rfl rfl (ZH rfl rfl rfl rfl rfl (ZA rfl rfl (Za rfl rfl) (ZA rfl rfl (ZE rfl) (ZD ?_))))
   obtain rfl := Option.some.inj hx
   refine JN.forget 1 (JN.forget 0 ?_)
   exact ZZ ⟨rfl, rfl, rfl⟩ ⟨rfl, trivial⟩ rfl rfl

set_option maxHeartbeats 8000000 in
theorem ref09_last_ok (p_1 : Disk) (p_4 : List Bool) (p_6 : Int) (H : Heaplet) {aa_2 : Option Addr} {na_2 : Nat} {ca_2 : Nat} {aa_3 : Option Addr} {na_3 : Nat} {ca_3 : Nat} {aa_5 : Option Addr} {na_5 : Nat} {ca_5 : Nat} (ha_2 : IsSlice H (RSl RU8 1) 1 (.slice aa_2 na_2 ca_2) p_1.Blocks) (ha_3 : IsSlice H R_Write 2 (.slice aa_3 na_3 ca_3) p_1.Waits) (ha_5 : IsSlice H RBool 1 (.slice aa_5 na_5 ca_5) p_4) (r : Int) (hx : ref09_last p_1 p_4 p_6 = some r) :
  Does Tryz.prog 149 #[.agg #[.slice aa_2 na_2 ca_2, .slice aa_3 na_3 ca_3], .slice aa_5 na_5 ca_5, .int .i64 p_6] [] H (fun u K' H' => u = .int .i64 r ∧ K' = [] ∧ H = H' ∧ True) := by
 refine Does.enterL (vs := [.agg #[.slice aa_2 na_2 ca_2, .slice aa_3 na_3 ca_3], .slice aa_5 na_5 ca_5, .int .i64 p_6]) (l := [(0, .agg #[.slice aa_2 na_2 ca_2, .slice aa_3 na_3 ca_3]), (1, .slice aa_5 na_5 ca_5), (2, .int .i64 p_6)]) Tryz.func149 rfl rfl ⟨rfl, rfl, rfl, trivial⟩ (fun w hlt => ?_)
 unfold ref09_last at hx
 refine ZF (ZB (Zv rfl rfl (fun b_7 hb_7 => ZA rfl rfl (ZE rfl) (ZD (ZC (ZF (ZB (ZA rfl rfl (Zq F25_1 rfl) (ZA rfl rfl (Zd 0 S23 rfl rfl rfl) (ZA rfl rfl (Zs U23 rfl (IsSlice.long ha_3)) (ZA rfl rfl (R.sub_i rfl rfl) ?_)))))))))))
 refine ZA rfl rfl (ZE rfl) (ZD (ZC (ZF ?_)))
 obtain ⟨t_8, ht_10, hx⟩ := ZM hx
 refine Z1 (fun l o g => l = [(7, .int .i64 t_8)] ∧ o = [] ∧ H = g) ?_ ?_
 ·
  rintro _ _ _ ⟨rfl, rfl, rfl⟩
  refine ZC (ZF (ZB (ZA rfl rfl (ZG rfl) (ZA rfl rfl (ZE rfl) (ZD (ZC (ZS (ZQ (vs := [.int .i64 t_8]) (K := []) (rst := []) (.inl rfl) rfl rfl (ZO rfl rfl) ZL ?_))))))))
  obtain rfl := Option.some.inj hx
  exact ⟨rfl, rfl, rfl, trivial⟩
 ·
  have hxo_9 := hx; clear hx; have hx := ht_10; clear ht_10
  refine JC.block (Z5 (fun n l o g => ∃ s_11 : Int, l = [(1, .slice aa_5 na_5 ca_5), (2, .int .i64 p_6), (3, .pointer (some ⟨b_7, 0, none⟩)), (7, .int .i64 s_11)] ∧ o = [[(b_7, .cells #[.slice aa_2 na_2 ca_2, .slice aa_3 na_3 ca_3] 25 (0, 0))]] ∧ H = g ∧ run (ref09_last_l1 p_1 p_4 p_6) n s_11 = some t_8) FUEL ?_ ⟨w64 ((p_1.Waits.length : Int) - 1), rfl, rfl, rfl, hx⟩ ⟨rfl, rfl, rfl, rfl, trivial⟩ ?_)
  ·
   rintro _ _ _ ⟨s_11, rfl, rfl, rfl, hn_12⟩
   exact Z2 hn_12
  ·
   rintro n_13 _ _ _ ⟨s_11, rfl, rfl, rfl, hn_12⟩
   clear hx; obtain ⟨oo_15, hx, hd_14⟩ := Z4 hn_12
   unfold ref09_last_l1 at hx
   refine ZF ?_
   obtain ⟨t_14, ht_16, hx⟩ := ZM hx
   refine Z1 (fun l o g => ∃ t_14a : Unit, l = [(1, .slice aa_5 na_5 ca_5), (2, .int .i64 p_6), (3, .pointer (some ⟨b_7, 0, none⟩)), (7, .int .i64 s_11)] ∧ o = [[(b_7, .cells #[.slice aa_2 na_2 ca_2, .slice aa_3 na_3 ca_3] 25 (0, 0))]] ∧ H = g ∧ t_14 = .inl t_14a) ?_ ?_
   ·
    rintro _ _ _ ⟨t_14a, rfl, rfl, rfl, rfl⟩
    simp only [Sum.elim_inl] at hx
    refine ZC (JC.block (ZB (ZA rfl rfl (ZG rfl) (ZA rfl rfl (R.sub_i rfl rfl) (ZA rfl rfl (ZE rfl) (ZD (Zm ?_)))))))
    replace hx := Zp hd_14 hx
    exact ZZ ⟨w64 (s_11 - 1), rfl, rfl, rfl, hx⟩ ⟨rfl, rfl, rfl, rfl, trivial⟩ rfl rfl
   ·
    have hxo_15 := hx; clear hx; have hx := ht_16; clear ht_16
    refine ZF (ZB (ZA rfl rfl (ZG rfl) (ZA rfl rfl (R.geq_i rfl rfl) (ZA rfl rfl (ZG rfl) (Ze (t := 14) rfl (fun c_17 => ?_) (fun c_17 => ?_))))))
    ·
     replace hx := ZT c_17 hx
     refine ZK rfl rfl rfl (ZA rfl rfl (Zq F25_1 rfl) (ZK rfl rfl rfl (ZA rfl rfl (Zd 0 S23 rfl rfl rfl) (ZK rfl rfl rfl (ZA rfl rfl (ZG rfl) (ZK rfl rfl rfl ?_))))))
     obtain ⟨y_18, hN_19, hx⟩ := Zl hx
     obtain ⟨b_20, o_21, cs_22, hE_23, hR_24, hl_25, hc_26⟩ := IsSlice.elem ha_3 hN_19
     obtain ⟨v_27, rfl, hs_28⟩ := hR_24
     obtain ⟨av_27, cv_27, rfl⟩ := IsSlice.val hs_28
     refine ZA rfl rfl (R.ix U23 S101 rfl rfl hE_23) (ZK rfl rfl rfl (ZA rfl rfl (Zq F101_0 rfl) (ZK rfl rfl rfl (ZA rfl rfl (R.ldH S3 rfl (hc_26 0 _ rfl)) (ZK rfl rfl rfl (ZA rfl rfl (ZG rfl) (ZK rfl rfl rfl (ZA rfl rfl (R.eql_i rfl rfl) (ZK rfl rfl rfl (ZA rfl rfl (ZG rfl) (Ze (t := 23) rfl (fun c_29 => ?_) (fun c_29 => ?_))))))))))))
     ·
      replace hx := ZT c_29 hx
      refine ZK rfl rfl rfl (ZA rfl rfl (ZG rfl) (ZK rfl rfl rfl (ZA rfl rfl (Zs U192 rfl (IsSlice.long ha_5)) (ZK rfl rfl rfl (ZA rfl rfl (R.eql_i rfl rfl) (ZK rfl rfl rfl (ZA rfl rfl (ZG rfl) (Ze (t := 27) rfl (fun c_30 => ?_) (fun c_30 => ?_)))))))))
      ·
       replace hx := ZT c_30 hx
       refine ZH rfl rfl rfl rfl rfl (ZH rfl rfl rfl rfl rfl (ZH rfl rfl rfl rfl rfl (ZH rfl rfl rfl rfl rfl (ZK rfl rfl rfl (ZA rfl rfl (Zb rfl rfl) (ZK rfl rfl rfl (ZA rfl rfl (Zb rfl rfl) (ZK rfl rfl rfl (ZA rfl rfl (R.not rfl) (ZA rfl rfl (Zb rfl rfl) (ZD ?_)))))))))))
       refine ZC (JC.condF rfl (Z0 ?_))
       obtain rfl := Option.some.inj hx
       clear hx; have hx := hxo_15
       simp only [Sum.elim_inl, Sum.elim_inr] at hx
       refine Zc (Zc ?_)
       obtain rfl := Zr hd_14 hx
       refine Zc (Zh (JN.forget 0 ?_))
       exact ZZ ⟨rfl, rfl, rfl⟩ ⟨rfl, trivial⟩ rfl rfl
      ·
       replace hx := ZU c_30 hx
       refine ZK rfl rfl rfl (ZA rfl rfl (ZG rfl) (ZK rfl rfl rfl (ZA rfl rfl (ZG rfl) (ZK rfl rfl rfl ?_))))
       obtain ⟨y_31, hN_32, hx⟩ := Zl hx
       obtain ⟨b_33, o_34, cs_35, hE_36, hR_37, hl_38, hc_39⟩ := IsSlice.elem ha_5 hN_32
       obtain rfl := hR_37
       refine ZA rfl rfl (R.ix U192 S4 rfl rfl hE_36) (ZK rfl rfl rfl (ZA rfl rfl (R.ldH S4 rfl (hc_39 0 _ rfl)) (ZK rfl rfl rfl (ZA rfl rfl (Za rfl rfl) (ZK rfl rfl rfl (ZA rfl rfl (Zb rfl rfl) (ZK rfl rfl rfl (ZA rfl rfl (R.not rfl) (ZA rfl rfl (Zb rfl rfl) (ZD (ZC ?_)))))))))))
       refine ZW rfl (fun c_40 => ?_) (fun c_40 => ?_)
       ·
        replace hx := ZT c_40 hx
        refine ZX ?_
        obtain rfl := Option.some.inj hx
        exact ZZ ⟨(), rfl, rfl, rfl, rfl⟩ ⟨rfl, rfl, rfl, rfl, trivial⟩ rfl rfl
       ·
        replace hx := ZU c_40 hx
        refine Z0 ?_
        obtain rfl := Option.some.inj hx
        clear hx; have hx := hxo_15
        simp only [Sum.elim_inl, Sum.elim_inr] at hx
        refine Zc (Zc ?_)
        obtain rfl := Zr hd_14 hx
        refine Zc (Zh (JN.forget 0 ?_))
        exact ZZ ⟨rfl, rfl, rfl⟩ ⟨rfl, trivial⟩ rfl rfl
     ·
      replace hx := ZU c_29 hx
      refine ZH rfl rfl rfl rfl rfl (ZH rfl rfl rfl rfl rfl (ZH rfl rfl rfl rfl rfl (ZH rfl rfl rfl rfl rfl (YD rfl rfl rfl rfl (YD rfl rfl rfl rfl (YD rfl rfl rfl rfl (YD rfl rfl rfl rfl (ZH rfl rfl rfl rfl rfl (ZK rfl rfl rfl (ZA rfl rfl (Za rfl rfl) (ZK rfl rfl rfl ?_)))))))))))
      refine ZA rfl rfl (R.not rfl) (ZA rfl rfl (Zb rfl rfl) (ZD (ZC (Zu rfl (ZX ?_)))))
      obtain rfl := Option.some.inj hx
      exact ZZ ⟨(), rfl, rfl, rfl, rfl⟩ ⟨rfl, rfl, rfl, rfl, trivial⟩ rfl rfl
    ·
     replace hx := ZU c_17 hx
     refine ZH rfl rfl rfl rfl rfl (ZH rfl rfl rfl rfl rfl (ZH rfl rfl rfl rfl rfl (ZH rfl rfl rfl rfl rfl (ZH rfl rfl rfl rfl rfl (ZH rfl rfl rfl rfl rfl (ZH rfl rfl rfl rfl rfl (ZH rfl rfl rfl rfl rfl (ZH rfl rfl rfl rfl rfl (YD rfl rfl rfl rfl (YD rfl rfl rfl rfl (YD rfl rfl rfl rfl ?_)))))))))))
     refine YD rfl rfl rfl rfl (YD rfl rfl rfl rfl (YD rfl rfl rfl rfl (YD rfl rfl rfl rfl (YD rfl rfl rfl rfl (YD rfl rfl rfl rfl (ZH rfl rfl rfl rfl rfl (ZH rfl rfl rfl rfl rfl (ZA rfl rfl (Za rfl rfl) (ZD (ZC (JC.condF rfl ?_)))))))))))
     refine Z0 ?_
     obtain rfl := Option.some.inj hx
     clear hx; have hx := hxo_15
     simp only [Sum.elim_inl, Sum.elim_inr] at hx
     refine Zc (Zc ?_)
     obtain rfl := Zr hd_14 hx
     refine Zc (Zh (JN.forget 0 ?_))
     exact ZZ ⟨rfl, rfl, rfl⟩ ⟨rfl, trivial⟩ rfl rfl

set_option maxHeartbeats 8000000 in
theorem ref09_left_ok (p_1 : Disk) (p_4 : List Bool) (p_6 : Int) (H : Heaplet) {aa_2 : Option Addr} {na_2 : Nat} {ca_2 : Nat} {aa_3 : Option Addr} {na_3 : Nat} {ca_3 : Nat} {aa_5 : Option Addr} {na_5 : Nat} {ca_5 : Nat} (ha_2 : IsSlice H (RSl RU8 1) 1 (.slice aa_2 na_2 ca_2) p_1.Blocks) (ha_3 : IsSlice H R_Write 2 (.slice aa_3 na_3 ca_3) p_1.Waits) (ha_5 : IsSlice H RBool 1 (.slice aa_5 na_5 ca_5) p_4) (r : List UInt8) (hx : ref09_left p_1 p_4 p_6 = some r) :
  Does Tryz.prog 129 #[.agg #[.slice aa_2 na_2 ca_2, .slice aa_3 na_3 ca_3], .slice aa_5 na_5 ca_5, .int .i64 p_6] [] H (fun u K' H' => ∃ ao0 : Option Addr, ∃ n0 : Nat, ∃ cap0 : Nat, ∃ K0 : Own, u = .slice ao0 n0 cap0 ∧ K' = [K0] ∧ H = H' ∧ RowOf (New H H) RU8 0 5 1 (.slice ao0 n0 cap0) r K0 ∧ (∀ p ∈ K0, p.1 ∉ ids (List.flatten [])) ∧ True) := by
 refine Does.enterL (vs := [.agg #[.slice aa_2 na_2 ca_2, .slice aa_3 na_3 ca_3], .slice aa_5 na_5 ca_5, .int .i64 p_6]) (l := [(0, .agg #[.slice aa_2 na_2 ca_2, .slice aa_3 na_3 ca_3]), (1, .slice aa_5 na_5 ca_5), (2, .int .i64 p_6)]) Tryz.func129 rfl rfl ⟨rfl, rfl, rfl, trivial⟩ (fun w hlt => ?_)
 unfold ref09_left at hx
 refine ZF (ZB (Zv rfl rfl (fun b_7 hb_7 => ZA rfl rfl (ZE rfl) (ZD (ZC (ZF (ZB (ZA rfl rfl (Zg 0 (vs := [.slice aa_2 na_2 ca_2, .slice aa_3 na_3 ca_3]) S25 rfl rfl rfl rfl) (ZA rfl rfl (ZG rfl) (ZA rfl rfl (ZG rfl) ?_))))))))))
 obtain ⟨x_8, hr_9, hx⟩ := ZM hx
 refine ZR (vs := [_, _, _]) (args := [_, _, _]) (K := []) (rst := [_]) E149 rfl rfl rfl ZL (ref09_last_ok p_1 p_4 p_6 _ ha_2 ha_3 ha_5 _ hr_9) rfl (fun u_10 Ku_10 Hu_10 hRu_10 hleu_10 hfu_10 => ?_)
 obtain ⟨rfl, rfl, rfl, -⟩ := hRu_10
 refine ZA rfl rfl (ZE rfl) (ZD (ZC (ZF (ZF (ZB (ZA rfl rfl (ZG rfl) (ZA rfl rfl (Zy rfl rfl) (ZD (ZC (ZW rfl (fun c_11 => ?_) (fun c_11 => ?_)))))))))))
 ·
  replace hx := ZT c_11 hx
  refine ZF (ZB (ZA rfl rfl (Zq F25_0 rfl) (ZA rfl rfl (Zd 0 S22 rfl rfl rfl) (ZA rfl rfl (ZG rfl) ?_))))
  obtain ⟨y_12, hN_13, hx⟩ := Zl hx
  obtain ⟨b_14, o_15, cs_16, hE_17, hR_18, hl_19, hc_20⟩ := IsSlice.elem ha_2 hN_13
  obtain ⟨v_21, rfl, hs_22⟩ := hR_18
  obtain ⟨av_21, cv_21', rfl⟩ := IsSlice.val hs_22
  refine ZA rfl rfl (R.ix U22 S26 rfl rfl hE_17) (ZA rfl rfl (R.ldH S26 rfl (hc_20 0 _ rfl)) (JL.seg0 ?_))
  obtain ⟨q_24, hm_25, hl_26, hx⟩ := YC hx
  refine JL.appF (HF := (New H H)) 0 U26 I5 rfl rfl (Zi _ RU8 _ _ _) rfl (SrcF.sliceC RU8.const RU8.one U26 hs_22) hm_25 hl_26 rfl (Nat.le_refl _) rfl (fun vr_27 Kr_27 hr_27 => ?_)
  obtain ⟨ar_27, cr_27, rfl⟩ := RowOf.val hr_27
  refine ZA rfl rfl (ZE rfl) (ZD (ZC (ZS (ZP (ZQ (vs := [.slice ar_27 q_24.length cr_27]) (K := [_]) (rst := [_]) (.inl rfl) rfl rfl (ZO rfl rfl) (Zf 0 rfl ZL) ?_)))))
  obtain rfl := Option.some.inj hx
  exact ⟨ar_27, q_24.length, cr_27, Kr_27, rfl, rfl, rfl, (Zt (Nat.zero_le _) hr_27), (new_ids hr_27 hlt), trivial⟩
 ·
  replace hx := ZU c_11 hx
  refine ZX (ZC (ZF (ZB (ZA rfl rfl (Zq F25_1 rfl) (ZA rfl rfl (Zd 0 S23 rfl rfl rfl) (ZA rfl rfl (ZG rfl) ?_))))))
  obtain ⟨y_28, hN_29, hx⟩ := Zl hx
  obtain ⟨b_30, o_31, cs_32, hE_33, hR_34, hl_35, hc_36⟩ := IsSlice.elem ha_3 hN_29
  obtain ⟨v_37, rfl, hs_38⟩ := hR_34
  obtain ⟨av_37, cv_37, rfl⟩ := IsSlice.val hs_38
  refine ZA rfl rfl (R.ix U23 S101 rfl rfl hE_33) (ZA rfl rfl (Zq F101_1 rfl) (ZA rfl rfl (R.ldH S26 rfl (hc_36 1 _ rfl)) (JL.seg0 ?_)))
  obtain ⟨q_40, hm_41, hl_42, hx⟩ := YC hx
  refine JL.appF (HF := (New H H)) 0 U26 I5 rfl rfl (Zi _ RU8 _ _ _) rfl (SrcF.sliceC RU8.const RU8.one U26 hs_38) hm_41 hl_42 rfl (Nat.le_refl _) rfl (fun vr_43 Kr_43 hr_43 => ?_)
  obtain ⟨ar_43, cr_43, rfl⟩ := RowOf.val hr_43
  refine ZA rfl rfl (ZE rfl) (ZD (ZC (ZS (ZQ (vs := [.slice ar_43 q_40.length cr_43]) (K := [_]) (rst := [_]) (.inl rfl) rfl rfl (ZO rfl rfl) (Zf 0 rfl ZL) ?_))))
  obtain rfl := Option.some.inj hx
  exact ⟨ar_43, q_40.length, cr_43, Kr_43, rfl, rfl, rfl, (Zt (Nat.zero_le _) hr_43), (new_ids hr_43 hlt), trivial⟩

set_option maxHeartbeats 8000000 in
theorem ref09_Seen_ok (p_1 : Disk) (p_4 : Int) (H : Heaplet) {aa_2 : Option Addr} {na_2 : Nat} {ca_2 : Nat} {aa_3 : Option Addr} {na_3 : Nat} {ca_3 : Nat} (ha_2 : IsSlice H (RSl RU8 1) 1 (.slice aa_2 na_2 ca_2) p_1.Blocks) (ha_3 : IsSlice H R_Write 2 (.slice aa_3 na_3 ca_3) p_1.Waits) (r : List UInt8) (hx : ref09_Seen p_1 p_4 = some r) :
  Does Tryz.prog 96 #[.agg #[.slice aa_2 na_2 ca_2, .slice aa_3 na_3 ca_3], .int .i64 p_4] [] H (fun u K' H' => ∃ ao0 : Option Addr, ∃ n0 : Nat, ∃ cap0 : Nat, ∃ K0 : Own, u = .slice ao0 n0 cap0 ∧ K' = [K0] ∧ H = H' ∧ RowOf (New H H) RU8 0 5 1 (.slice ao0 n0 cap0) r K0 ∧ (∀ p ∈ K0, p.1 ∉ ids (List.flatten [])) ∧ True) := by
 refine Does.enterL (vs := [.agg #[.slice aa_2 na_2 ca_2, .slice aa_3 na_3 ca_3], .int .i64 p_4]) (l := [(0, .agg #[.slice aa_2 na_2 ca_2, .slice aa_3 na_3 ca_3]), (1, .int .i64 p_4)]) Tryz.func96 rfl rfl ⟨rfl, rfl, trivial⟩ (fun w hlt => ?_)
 unfold ref09_Seen at hx
 refine ZF (ZB (Zv rfl rfl (fun b_5 hb_5 => ZA rfl rfl (ZE rfl) (ZD (ZC (ZF (ZB (ZA rfl rfl (Zg 0 (vs := [.slice aa_2 na_2 ca_2, .slice aa_3 na_3 ca_3]) S25 rfl rfl rfl rfl) (ZA rfl rfl (ZG rfl) ?_)))))))))
 obtain ⟨x_6, hr_7, hx⟩ := ZM hx
 refine ZR (vs := [_, _, _]) (args := [_, _, _]) (K := []) (rst := [_]) E129 rfl rfl rfl ZL (ref09_left_ok p_1 ([] : List Bool) p_4 _ ha_2 ha_3 (IsSlice.nil _ _ _) _ hr_7) rfl (fun u_8 Ku_8 Hu_8 hRu_8 hleu_8 hfu_8 => ?_)
 obtain ⟨ar_9, nr_9, cr_9, Kr_9, rfl, rfl, rfl, hr_9, hnewr_9, -⟩ := hRu_8
 replace hr_9 := (RowOf.base (Zo (H2 := New H H) RU8.const hr_9) (fun p hp => (hfu_8 p (Zw 0 rfl hp)).resolve_left (hnewr_9 p hp)))
 refine ZA rfl rfl (ZE rfl) (ZD (ZC (ZS (ZQ (vs := [.slice ar_9 nr_9 cr_9]) (K := [_]) (rst := [_]) (.inl rfl) rfl rfl (ZO rfl rfl) (Zf 0 rfl ZL) ?_))))
 obtain rfl := Option.some.inj hx
 exact ⟨ar_9, nr_9, cr_9, Kr_9, rfl, rfl, rfl, (Zt (Nat.zero_le _) hr_9), (new_ids hr_9 hlt), trivial⟩

set_option maxHeartbeats 8000000 in
theorem ref02_byteAt_ok (p_1 : List UInt8) (p_3 : Int) (H : Heaplet) {aa_2 : Option Addr} {na_2 : Nat} {ca_2 : Nat} (ha_2 : IsSlice H RU8 1 (.slice aa_2 na_2 ca_2) p_1) (r : UInt32) (hx : ref02_byteAt p_1 p_3 = some r) :
  Does Tryz.prog 169 #[.slice aa_2 na_2 ca_2, .int .i64 p_3] [] H (fun u K' H' => u = .int .u32 (r.toNat : Int) ∧ K' = [] ∧ H = H' ∧ True) := by
 refine Does.enterL (vs := [.slice aa_2 na_2 ca_2, .int .i64 p_3]) (l := [(0, .slice aa_2 na_2 ca_2), (1, .int .i64 p_3)]) Tryz.func169 rfl rfl ⟨rfl, rfl, trivial⟩ (fun w hlt => ?_)
 unfold ref02_byteAt at hx
 refine ZF (ZB (ZA rfl rfl (ZE rfl) (ZD (ZC (ZF (ZF (ZB (ZA rfl rfl (ZG rfl) (ZA rfl rfl (ZG rfl) (ZA rfl rfl (Zs U26 rfl (IsSlice.long ha_2)) (ZA rfl rfl (Zy rfl rfl) ?_)))))))))))
 refine ZD (ZC (ZW rfl (fun c_4 => ?_) (fun c_4 => ?_)))
 ·
  replace hx := ZT c_4 hx
  refine ZF (ZB (ZA rfl rfl (ZG rfl) (ZA rfl rfl (ZG rfl) ?_)))
  obtain ⟨y_5, hN_6, hx⟩ := Zl hx
  obtain ⟨b_7, o_8, cs_9, hE_10, hR_11, hl_12, hc_13⟩ := IsSlice.elem ha_2 hN_6
  obtain rfl := hR_11
  refine ZA rfl rfl (R.ix U26 S5 rfl rfl hE_10) (ZA rfl rfl (R.ldH S5 rfl (hc_13 0 _ rfl)) (ZA rfl rfl (R.cv_u8_u32 (a := y_5) U5 U27 rfl) (ZA rfl rfl (ZE rfl) (ZD (ZC (ZS (ZP (ZQ (vs := [.int .u32 (y_5.toUInt32.toNat : Int)]) (K := []) (rst := []) (.inl rfl) rfl rfl (ZO rfl rfl) ZL ?_))))))))
  obtain rfl := Option.some.inj hx
  exact ⟨rfl, rfl, rfl, trivial⟩
 ·
  replace hx := ZU c_4 hx
  refine ZX (ZC (ZF (ZF (ZB (ZA rfl rfl (ZG rfl) (ZA rfl rfl (ZG rfl) (ZA rfl rfl (Zs U26 rfl (IsSlice.long ha_2)) (ZA rfl rfl (R.eql_i rfl rfl) (ZD (ZC (ZW rfl (fun c_14 => ?_) (fun c_14 => ?_))))))))))))
  ·
   replace hx := ZT c_14 hx
   refine ZF (ZB (ZA rfl rfl (ZE rfl) (ZD (ZC (ZS (ZP (ZQ (vs := [.int .u32 ((1 : UInt32).toNat : Int)]) (K := []) (rst := []) (.inl rfl) rfl rfl (ZO rfl rfl) ZL ?_)))))))
   obtain rfl := Option.some.inj hx
   exact ⟨rfl, rfl, rfl, trivial⟩
  ·
   replace hx := ZU c_14 hx
   refine ZX (ZC (ZF (ZB (ZA rfl rfl (ZE rfl) (ZD (ZC (ZS (ZQ (vs := [.int .u32 ((0 : UInt32).toNat : Int)]) (K := []) (rst := []) (.inl rfl) rfl rfl (ZO rfl rfl) ZL ?_))))))))
   obtain rfl := Option.some.inj hx
   exact ⟨rfl, rfl, rfl, trivial⟩

set_option maxHeartbeats 8000000 in
theorem ref02_word_ok (p_1 : List UInt8) (p_3 : Int) (H : Heaplet) {aa_2 : Option Addr} {na_2 : Nat} {ca_2 : Nat} (ha_2 : IsSlice H RU8 1 (.slice aa_2 na_2 ca_2) p_1) (r : UInt32) (hx : ref02_word p_1 p_3 = some r) :
  Does Tryz.prog 150 #[.slice aa_2 na_2 ca_2, .int .i64 p_3] [] H (fun u K' H' => u = .int .u32 (r.toNat : Int) ∧ K' = [] ∧ H = H' ∧ True) := by
 refine Does.enterL (vs := [.slice aa_2 na_2 ca_2, .int .i64 p_3]) (l := [(0, .slice aa_2 na_2 ca_2), (1, .int .i64 p_3)]) Tryz.func150 rfl rfl ⟨rfl, rfl, trivial⟩ (fun w hlt => ?_)
 unfold ref02_word at hx
 refine ZF (ZB (ZA rfl rfl (ZE rfl) (ZD (ZC (ZF (ZB (ZA rfl rfl (ZG rfl) (ZA rfl rfl (ZG rfl) ?_))))))))
 obtain ⟨x_4, hr_5, hx⟩ := ZM hx
 refine ZR (vs := [_, _]) (args := [_, _]) (K := []) (rst := []) E169 rfl rfl rfl ZL (ref02_byteAt_ok p_1 p_3 _ ha_2 _ hr_5) rfl (fun u_6 Ku_6 Hu_6 hRu_6 hleu_6 hfu_6 => ?_)
 obtain ⟨rfl, rfl, rfl, -⟩ := hRu_6
 refine ZA rfl rfl (ZG rfl) (ZA rfl rfl (ZG rfl) (ZA rfl rfl (YA rfl rfl) ?_))
 obtain ⟨x_7, hr_8, hx⟩ := ZM hx
 refine ZR (vs := [_, _]) (args := [_, _]) (K := []) (rst := []) E169 rfl rfl rfl ZL (ref02_byteAt_ok p_1 (w64 (p_3 + 1)) _ ha_2 _ hr_8) rfl (fun u_9 Ku_9 Hu_9 hRu_9 hleu_9 hfu_9 => ?_)
 obtain ⟨rfl, rfl, rfl, -⟩ := hRu_9
 refine ZA rfl rfl (R.mul32 (a := (256 : UInt32)) (b := x_7) rfl rfl) (ZA rfl rfl (R.add32 (a := x_4) (b := (256 : UInt32) * x_7) rfl rfl) (ZA rfl rfl (ZG rfl) (ZA rfl rfl (ZG rfl) (ZA rfl rfl (YA rfl rfl) ?_))))
 obtain ⟨x_10, hr_11, hx⟩ := ZM hx
 refine ZR (vs := [_, _]) (args := [_, _]) (K := []) (rst := []) E169 rfl rfl rfl ZL (ref02_byteAt_ok p_1 (w64 (p_3 + 2)) _ ha_2 _ hr_11) rfl (fun u_12 Ku_12 Hu_12 hRu_12 hleu_12 hfu_12 => ?_)
 obtain ⟨rfl, rfl, rfl, -⟩ := hRu_12
 refine ZA rfl rfl (R.mul32 (a := (65536 : UInt32)) (b := x_10) rfl rfl) (ZA rfl rfl (R.add32 (a := x_4 + ((256 : UInt32) * x_7)) (b := (65536 : UInt32) * x_10) rfl rfl) (ZA rfl rfl (ZG rfl) (ZA rfl rfl (ZG rfl) (ZA rfl rfl (YA rfl rfl) ?_))))
 obtain ⟨x_13, hr_14, hx⟩ := ZM hx
 refine ZR (vs := [_, _]) (args := [_, _]) (K := []) (rst := []) E169 rfl rfl rfl ZL (ref02_byteAt_ok p_1 (w64 (p_3 + 3)) _ ha_2 _ hr_14) rfl (fun u_15 Ku_15 Hu_15 hRu_15 hleu_15 hfu_15 => ?_)
 obtain ⟨rfl, rfl, rfl, -⟩ := hRu_15
 refine ZA rfl rfl (R.mul32 (a := (16777216 : UInt32)) (b := x_13) rfl rfl) (ZA rfl rfl (R.add32 (a := (x_4 + ((256 : UInt32) * x_7)) + ((65536 : UInt32) * x_10)) (b := (16777216 : UInt32) * x_13) rfl rfl) (ZA rfl rfl (ZE rfl) (ZD (ZC (ZS (ZQ (vs := [.int .u32 ((((x_4 + ((256 : UInt32) * x_7)) + ((65536 : UInt32) * x_10)) + ((16777216 : UInt32) * x_13)).toNat : Int)]) (K := []) (rst := []) (.inl rfl) rfl rfl (ZO rfl rfl) ZL ?_))))))
 obtain rfl := Option.some.inj hx
 exact ⟨rfl, rfl, rfl, trivial⟩

set_option maxHeartbeats 8000000 in
theorem ref02_plus_ok (p_1 : UInt32) (p_2 : UInt32) (H : Heaplet) (r : UInt32) (hx : ref02_plus p_1 p_2 = some r) :
  Does Tryz.prog 170 #[.int .u32 (p_1.toNat : Int), .int .u32 (p_2.toNat : Int)] [] H (fun u K' H' => u = .int .u32 (r.toNat : Int) ∧ K' = [] ∧ H = H' ∧ True) := by
 refine Does.enterL (vs := [.int .u32 (p_1.toNat : Int), .int .u32 (p_2.toNat : Int)]) (l := [(0, .int .u32 (p_1.toNat : Int)), (1, .int .u32 (p_2.toNat : Int))]) Tryz.func170 rfl rfl ⟨rfl, rfl, trivial⟩ (fun w hlt => ?_)
 unfold ref02_plus at hx
 refine ZF (ZB (ZA rfl rfl (ZE rfl) (ZD (ZC (ZF (ZB (ZA rfl rfl (ZG rfl) (ZA rfl rfl (R.cv_u32_i64 (a := p_1) U27 U3 rfl) (ZA rfl rfl (ZG rfl) (ZA rfl rfl (R.cv_u32_i64 (a := p_2) U27 U3 rfl) (ZA rfl rfl (YA rfl rfl) ?_)))))))))))
 refine ZA rfl rfl (R.rem_i rfl rfl (by decide)) (ZA rfl rfl (R.cv_i64_u32 U3 U27 rfl) (ZA rfl rfl (ZE rfl) (ZD (ZC (ZS (ZQ (vs := [.int .u32 ((u32i ((w64 ((p_1.toNat : Int) + (p_2.toNat : Int))).tmod 4294967296)).toNat : Int)]) (K := []) (rst := []) (.inl rfl) rfl rfl (ZO rfl rfl) ZL ?_))))))
 obtain rfl := Option.some.inj hx
 exact ⟨rfl, rfl, rfl, trivial⟩

set_option maxHeartbeats 8000000 in
theorem ref02_left_ok (p_1 : UInt32) (p_2 : Int) (H : Heaplet) (r : UInt32) (hx : ref02_left p_1 p_2 = some r) :
  Does Tryz.prog 171 #[.int .u32 (p_1.toNat : Int), .int .i64 p_2] [] H (fun u K' H' => u = .int .u32 (r.toNat : Int) ∧ K' = [] ∧ H = H' ∧ True) := by
 refine Does.enterL (vs := [.int .u32 (p_1.toNat : Int), .int .i64 p_2]) (l := [(0, .int .u32 (p_1.toNat : Int)), (1, .int .i64 p_2)]) Tryz.func171 rfl rfl ⟨rfl, rfl, trivial⟩ (fun w hlt => ?_)
 unfold ref02_left at hx
 refine ZF (ZB (ZA rfl rfl (ZE rfl) (ZD (ZC (ZF (ZB (ZA rfl rfl (ZG rfl) (ZA rfl rfl (R.cv_u32_i64 (a := p_1) U27 U3 rfl) (ZA rfl rfl (ZE rfl) (ZD (ZC ?_)))))))))))
 refine ZF (ZF (ZB (ZA rfl rfl (ZE rfl) (ZD (ZC ?_)))))
 obtain ⟨t_3, ht_5, hx⟩ := ZM hx
 refine Z1 (fun l o g => l = [(5, .int .i64 t_3)] ∧ o = [] ∧ H = g) ?_ ?_
 ·
  rintro _ _ _ ⟨rfl, rfl, rfl⟩
  refine ZC (ZF (ZB (ZA rfl rfl (ZG rfl) (ZA rfl rfl (R.cv_i64_u32 U3 U27 rfl) (ZA rfl rfl (ZE rfl) (ZD (ZC (ZS (ZQ (vs := [.int .u32 ((u32i t_3).toNat : Int)]) (K := []) (rst := []) (.inl rfl) rfl rfl (ZO rfl rfl) ZL ?_)))))))))
  obtain rfl := Option.some.inj hx
  exact ⟨rfl, rfl, rfl, trivial⟩
 ·
  have hxo_4 := hx; clear hx; have hx := ht_5; clear ht_5
  refine JC.block (Z5 (fun n l o g => ∃ s_6 : Int × Int, l = [(1, .int .i64 p_2), (5, .int .i64 s_6.1), (6, .int .i64 s_6.2)] ∧ o = [] ∧ H = g ∧ run (ref02_left_l1 p_2) n s_6 = some t_3) FUEL ?_ ⟨((p_1.toNat : Int), 0), rfl, rfl, rfl, hx⟩ ⟨rfl, rfl, rfl, trivial⟩ ?_)
  ·
   rintro _ _ _ ⟨s_6, rfl, rfl, rfl, hn_7⟩
   exact Z2 hn_7
  ·
   rintro n_8 _ _ _ ⟨s_6, rfl, rfl, rfl, hn_7⟩
   clear hx; obtain ⟨oo_10, hx, hd_9⟩ := Z4 hn_7
   unfold ref02_left_l1 at hx
   refine ZF (ZF (ZB (ZA rfl rfl (ZG rfl) (ZA rfl rfl (ZG rfl) (ZA rfl rfl (Zy rfl rfl) (ZD (ZC (ZW rfl (fun c_9 => ?_) (fun c_9 => ?_)))))))))
   ·
    replace hx := ZT c_9 hx
    refine ZX (ZC (ZF (JC.block (ZB (ZA rfl rfl (ZG rfl) (ZA rfl rfl (R.mul_i rfl rfl) (ZA rfl rfl (R.rem_i rfl rfl (by decide)) (ZA rfl rfl (ZG rfl) (ZA rfl rfl (R.mul_i rfl rfl) (ZA rfl rfl (R.quo_i rfl rfl (by decide)) (ZA rfl rfl (YA rfl rfl) ?_)))))))))))
    refine ZA rfl rfl (ZE rfl) (ZD (Zm (ZC (ZB (ZA rfl rfl (ZG rfl) (ZA rfl rfl (YA rfl rfl) (ZA rfl rfl (ZE rfl) (ZD ?_))))))))
    replace hx := Zp hd_9 hx
    exact ZZ ⟨(w64 (((w64 (s_6.1 * 2)).tmod 4294967296) + (w64 ((w64 (s_6.1 * 2)).tdiv 4294967296))), w64 (s_6.2 + 1)), rfl, rfl, rfl, hx⟩ ⟨rfl, rfl, rfl, trivial⟩ rfl rfl
   ·
    replace hx := ZU c_9 hx
    refine Z0 (Zc ?_)
    obtain rfl := Zr hd_9 hx
    refine Zc (Zh ?_)
    exact ZZ ⟨rfl, rfl, rfl⟩ ⟨rfl, trivial⟩ rfl rfl

set_option maxHeartbeats 8000000 in
theorem ref02_Turn_ok (p_1 : A4 UInt32) (H : Heaplet) (r : A4 UInt32) (hx : ref02_Turn p_1 = some r) :
  Does Tryz.prog 151 #[.agg #[.int .u32 (p_1.e0.toNat : Int), .int .u32 (p_1.e1.toNat : Int), .int .u32 (p_1.e2.toNat : Int), .int .u32 (p_1.e3.toNat : Int)]] [] H (fun u K' H' => u = .agg #[.int .u32 (r.e0.toNat : Int), .int .u32 (r.e1.toNat : Int), .int .u32 (r.e2.toNat : Int), .int .u32 (r.e3.toNat : Int)] ∧ K' = [] ∧ H = H' ∧ True) := by
 refine Does.enterL (vs := [.agg #[.int .u32 (p_1.e0.toNat : Int), .int .u32 (p_1.e1.toNat : Int), .int .u32 (p_1.e2.toNat : Int), .int .u32 (p_1.e3.toNat : Int)]]) (l := [(0, .agg #[.int .u32 (p_1.e0.toNat : Int), .int .u32 (p_1.e1.toNat : Int), .int .u32 (p_1.e2.toNat : Int), .int .u32 (p_1.e3.toNat : Int)])]) Tryz.func151 rfl rfl ⟨rfl, trivial⟩ (fun w hlt => ?_)
 unfold ref02_Turn at hx
 refine ZF (ZB (Zv rfl rfl (fun b_2 hb_2 => JL.alloc Z137 rfl (fun b_3 hb_3 => ZD (ZC (ZF (ZB (ZA rfl rfl (R.ixA 0 U137 S27 rfl rfl rfl) (ZA rfl rfl (Zd 1 S27 rfl rfl rfl) (ZA rfl rfl (ZE rfl) (ZD ?_)))))))))))
 refine ZC (ZF (ZB (ZA rfl rfl (R.ixA 1 U137 S27 rfl rfl rfl) (ZA rfl rfl (Zd 1 S27 rfl rfl rfl) (ZA rfl rfl (ZE rfl) (ZD (ZC (ZF (ZB (ZA rfl rfl (R.ixA 2 U137 S27 rfl rfl rfl) (ZA rfl rfl (Zd 1 S27 rfl rfl rfl) ?_)))))))))))
 refine ZA rfl rfl (ZE rfl) (ZD (ZC (ZF (ZB (ZA rfl rfl (R.ixA 3 U137 S27 rfl rfl rfl) (ZA rfl rfl (Zd 1 S27 rfl rfl rfl) (ZA rfl rfl (ZE rfl) (ZD (ZC (ZF (ZB ?_)))))))))))
 refine ZA rfl rfl (ZG rfl) (ZA rfl rfl (ZG rfl) ?_)
 obtain ⟨x_4, hr_5, hx⟩ := ZM hx
 refine ZR (vs := [_, _]) (args := [_, _]) (K := []) (rst := [_, _]) E170 rfl rfl rfl ZL (ref02_plus_ok p_1.e0 p_1.e1 _ _ hr_5) rfl (fun u_6 Ku_6 Hu_6 hRu_6 hleu_6 hfu_6 => ?_)
 obtain ⟨rfl, rfl, rfl, -⟩ := hRu_6
 refine ZA rfl rfl (ZE rfl) (ZD (ZC (ZF (ZB (ZA rfl rfl (ZG rfl) (ZA rfl rfl (ZG rfl) (ZA rfl rfl (R.xor32 (a := p_1.e3) (b := x_4) rfl rfl) ?_)))))))
 obtain ⟨x_7, hr_8, hx⟩ := ZM hx
 refine ZR (vs := [_, _]) (args := [_, _]) (K := []) (rst := [_, _]) E171 rfl rfl rfl ZL (ref02_left_ok (p_1.e3 ^^^ x_4) 15 _ _ hr_8) rfl (fun u_9 Ku_9 Hu_9 hRu_9 hleu_9 hfu_9 => ?_)
 obtain ⟨rfl, rfl, rfl, -⟩ := hRu_9
 refine ZA rfl rfl (ZE rfl) (ZD (ZC (ZF (ZB (ZA rfl rfl (ZG rfl) (ZA rfl rfl (ZG rfl) ?_))))))
 obtain ⟨x_10, hr_11, hx⟩ := ZM hx
 refine ZR (vs := [_, _]) (args := [_, _]) (K := []) (rst := [_, _]) E170 rfl rfl rfl ZL (ref02_plus_ok p_1.e2 x_7 _ _ hr_11) rfl (fun u_12 Ku_12 Hu_12 hRu_12 hleu_12 hfu_12 => ?_)
 obtain ⟨rfl, rfl, rfl, -⟩ := hRu_12
 refine ZA rfl rfl (ZE rfl) (ZD (ZC (ZF (ZB (ZA rfl rfl (ZG rfl) (ZA rfl rfl (ZG rfl) (ZA rfl rfl (R.xor32 (a := p_1.e1) (b := x_10) rfl rfl) ?_)))))))
 obtain ⟨x_13, hr_14, hx⟩ := ZM hx
 refine ZR (vs := [_, _]) (args := [_, _]) (K := []) (rst := [_, _]) E171 rfl rfl rfl ZL (ref02_left_ok (p_1.e1 ^^^ x_10) 11 _ _ hr_14) rfl (fun u_15 Ku_15 Hu_15 hRu_15 hleu_15 hfu_15 => ?_)
 obtain ⟨rfl, rfl, rfl, -⟩ := hRu_15
 refine ZA rfl rfl (ZE rfl) (ZD (ZC (ZF (ZB (ZA rfl rfl (ZG rfl) (ZA rfl rfl (ZG rfl) ?_))))))
 obtain ⟨x_16, hr_17, hx⟩ := ZM hx
 refine ZR (vs := [_, _]) (args := [_, _]) (K := []) (rst := [_, _]) E170 rfl rfl rfl ZL (ref02_plus_ok x_4 x_13 _ _ hr_17) rfl (fun u_18 Ku_18 Hu_18 hRu_18 hleu_18 hfu_18 => ?_)
 obtain ⟨rfl, rfl, rfl, -⟩ := hRu_18
 refine ZA rfl rfl (ZE rfl) (ZD (ZC (ZF (ZB (ZA rfl rfl (ZG rfl) (ZA rfl rfl (ZG rfl) (ZA rfl rfl (R.xor32 (a := x_7) (b := x_16) rfl rfl) ?_)))))))
 obtain ⟨x_19, hr_20, hx⟩ := ZM hx
 refine ZR (vs := [_, _]) (args := [_, _]) (K := []) (rst := [_, _]) E171 rfl rfl rfl ZL (ref02_left_ok (x_7 ^^^ x_16) 9 _ _ hr_20) rfl (fun u_21 Ku_21 Hu_21 hRu_21 hleu_21 hfu_21 => ?_)
 obtain ⟨rfl, rfl, rfl, -⟩ := hRu_21
 refine ZA rfl rfl (ZE rfl) (ZD (ZC (JC.tidyP (l' := [(2, .pointer (some ⟨b_3, 0, none⟩)), (3, .int .u32 (x_16.toNat : Int)), (4, .int .u32 (x_13.toNat : Int)), (5, .int .u32 (x_10.toNat : Int)), (6, .int .u32 (x_19.toNat : Int))]) (own' := [[(b_3, .cells #[.int .u32 ((0 : UInt32).toNat : Int), .int .u32 ((0 : UInt32).toNat : Int), .int .u32 ((0 : UInt32).toNat : Int), .int .u32 ((0 : UInt32).toNat : Int)] 137 (0, 0))]]) (rst := [_]) ⟨rfl, rfl, rfl, rfl, rfl, trivial⟩ (Zf 0 rfl ZL) (ZF (ZB (ZA rfl rfl (ZG rfl) (ZA rfl rfl (ZG rfl) ?_)))))))
 obtain ⟨x_22, hr_23, hx⟩ := ZM hx
 refine ZR (vs := [_, _]) (args := [_, _]) (K := []) (rst := [_]) E170 rfl rfl rfl ZL (ref02_plus_ok x_10 x_19 _ _ hr_23) rfl (fun u_24 Ku_24 Hu_24 hRu_24 hleu_24 hfu_24 => ?_)
 obtain ⟨rfl, rfl, rfl, -⟩ := hRu_24
 refine ZA rfl rfl (ZE rfl) (ZD (ZC (ZF (ZB (ZA rfl rfl (ZG rfl) (ZA rfl rfl (ZG rfl) (ZA rfl rfl (R.xor32 (a := x_13) (b := x_22) rfl rfl) ?_)))))))
 obtain ⟨x_25, hr_26, hx⟩ := ZM hx
 refine ZR (vs := [_, _]) (args := [_, _]) (K := []) (rst := [_]) E171 rfl rfl rfl ZL (ref02_left_ok (x_13 ^^^ x_22) 6 _ _ hr_26) rfl (fun u_27 Ku_27 Hu_27 hRu_27 hleu_27 hfu_27 => ?_)
 obtain ⟨rfl, rfl, rfl, -⟩ := hRu_27
 refine ZA rfl rfl (ZE rfl) (ZD (ZC (ZF (ZB (ZA rfl rfl (ZG rfl) (ZA rfl rfl (ZG rfl) (ZA rfl rfl (ZG rfl) (ZA rfl rfl (ZG rfl) (ZA rfl rfl (R.bldA (vs := [(0, .int .u32 (x_16.toNat : Int)), (1, .int .u32 (x_25.toNat : Int)), (2, .int .u32 (x_22.toNat : Int)), (3, .int .u32 (x_19.toNat : Int))]) (cells := #[.int .u32 (x_16.toNat : Int), .int .u32 (x_25.toNat : Int), .int .u32 (x_22.toNat : Int), .int .u32 (x_19.toNat : Int)]) Z137 B137 rfl rfl rfl rfl) (ZV 0 S137 rfl rfl rfl rfl rfl (Nat.le_of_ble_eq_true rfl) (ZD ?_)))))))))))
 refine ZC (ZS (ZQ (vs := [.agg #[.int .u32 (x_16.toNat : Int), .int .u32 (x_25.toNat : Int), .int .u32 (x_22.toNat : Int), .int .u32 (x_19.toNat : Int)]]) (K := []) (rst := [_]) (.inl rfl) rfl rfl (Zn 0 rfl rfl S137 rfl) ZL ?_))
 obtain rfl := Option.some.inj hx
 exact ⟨rfl, rfl, rfl, trivial⟩

set_option maxHeartbeats 8000000 in
theorem ref02_Four_ok (p_1 : List UInt8) (H : Heaplet) {aa_2 : Option Addr} {na_2 : Nat} {ca_2 : Nat} (ha_2 : IsSlice H RU8 1 (.slice aa_2 na_2 ca_2) p_1) (r : A4 UInt32) (hx : ref02_Four p_1 = some r) :
  Does Tryz.prog 130 #[.slice aa_2 na_2 ca_2] [] H (fun u K' H' => u = .agg #[.int .u32 (r.e0.toNat : Int), .int .u32 (r.e1.toNat : Int), .int .u32 (r.e2.toNat : Int), .int .u32 (r.e3.toNat : Int)] ∧ K' = [] ∧ H = H' ∧ True) := by
 refine Does.enterL (vs := [.slice aa_2 na_2 ca_2]) (l := [(0, .slice aa_2 na_2 ca_2)]) Tryz.func130 rfl rfl ⟨rfl, trivial⟩ (fun w hlt => ?_)
 unfold ref02_Four at hx
 refine ZF (ZB (JL.alloc Z137 rfl (fun b_3 hb_3 => ZD (ZC (ZF (ZB (ZA rfl rfl (R.bldA (vs := [(0, .int .u32 ((1 : UInt32).toNat : Int)), (1, .int .u32 ((2 : UInt32).toNat : Int)), (2, .int .u32 ((3 : UInt32).toNat : Int)), (3, .int .u32 ((4 : UInt32).toNat : Int))]) (cells := #[.int .u32 ((1 : UInt32).toNat : Int), .int .u32 ((2 : UInt32).toNat : Int), .int .u32 ((3 : UInt32).toNat : Int), .int .u32 ((4 : UInt32).toNat : Int)]) Z137 B137 rfl rfl rfl rfl) (JL.alloc Z137 rfl (fun b_4 hb_4 => ZV 0 S137 rfl rfl rfl rfl rfl (Nat.le_of_ble_eq_true rfl) (ZD (ZC ?_)))))))))))
 refine ZF (ZF (ZB (ZA rfl rfl (ZE rfl) (ZD (ZC ?_)))))
 obtain ⟨t_5, ht_7, hx⟩ := ZM hx
 refine Z1 (fun l o g => l = [(0, .slice aa_2 na_2 ca_2), (2, .pointer (some ⟨b_3, 0, none⟩)), (3, .pointer (some ⟨b_4, 0, none⟩))] ∧ o = [[(b_3, .cells #[.int .u32 ((0 : UInt32).toNat : Int), .int .u32 ((0 : UInt32).toNat : Int), .int .u32 ((0 : UInt32).toNat : Int), .int .u32 ((0 : UInt32).toNat : Int)] 137 (0, 0))], [(b_4, .cells #[.int .u32 (t_5.1.toNat : Int), .int .u32 (t_5.2.1.toNat : Int), .int .u32 (t_5.2.2.1.toNat : Int), .int .u32 (t_5.2.2.2.toNat : Int)] 137 (0, 0))]] ∧ H = g) ?_ ?_
 ·
  rintro _ _ _ ⟨rfl, rfl, rfl⟩
  refine ZC (ZF (ZB (ZA rfl rfl (R.ixA 1 U137 S27 rfl rfl rfl) (ZA rfl rfl (Zd 1 S27 rfl rfl rfl) (ZA rfl rfl (ZG rfl) (ZA rfl rfl (Zs U26 rfl (IsSlice.long ha_2)) (ZA rfl rfl (R.cv_i64_u32 U3 U27 rfl) (ZA rfl rfl (R.xor32 (a := t_5.2.1) (b := u32i (p_1.length : Int)) rfl rfl) (ZA rfl rfl (R.ixA 1 U137 S27 rfl rfl rfl) (ZV 1 S27 rfl rfl rfl rfl rfl (Nat.le_of_ble_eq_true rfl) (ZD ?_)))))))))))
  refine ZC (ZF (ZB (ZA rfl rfl (Zg 1 (vs := [.int .u32 (t_5.1.toNat : Int), .int .u32 ((t_5.2.1 ^^^ (u32i (p_1.length : Int))).toNat : Int), .int .u32 (t_5.2.2.1.toNat : Int), .int .u32 (t_5.2.2.2.toNat : Int)]) S137 rfl rfl rfl rfl) ?_)))
  obtain ⟨x_11, hr_12, hx⟩ := ZM hx
  refine ZR (vs := [_]) (args := [_]) (K := []) (rst := [_, _]) E151 rfl rfl rfl ZL (ref02_Turn_ok (A4.mk t_5.1 (t_5.2.1 ^^^ (u32i (p_1.length : Int))) t_5.2.2.1 t_5.2.2.2) _ _ hr_12) rfl (fun u_13 Ku_13 Hu_13 hRu_13 hleu_13 hfu_13 => ?_)
  obtain ⟨rfl, rfl, rfl, -⟩ := hRu_13
  obtain ⟨x_14, hr_15, hx⟩ := ZM hx
  refine ZR (vs := [_]) (args := [_]) (K := []) (rst := [_, _]) E151 rfl rfl rfl ZL (ref02_Turn_ok x_11 _ _ hr_15) rfl (fun u_16 Ku_16 Hu_16 hRu_16 hleu_16 hfu_16 => ?_)
  obtain ⟨rfl, rfl, rfl, -⟩ := hRu_16
  obtain ⟨x_17, hr_18, hx⟩ := ZM hx
  refine ZR (vs := [_]) (args := [_]) (K := []) (rst := [_, _]) E151 rfl rfl rfl ZL (ref02_Turn_ok x_14 _ _ hr_18) rfl (fun u_19 Ku_19 Hu_19 hRu_19 hleu_19 hfu_19 => ?_)
  obtain ⟨rfl, rfl, rfl, -⟩ := hRu_19
  obtain ⟨x_20, hr_21, hx⟩ := ZM hx
  refine ZR (vs := [_]) (args := [_]) (K := []) (rst := [_, _]) E151 rfl rfl rfl ZL (ref02_Turn_ok x_17 _ _ hr_21) rfl (fun u_22 Ku_22 Hu_22 hRu_22 hleu_22 hfu_22 => ?_)
  obtain ⟨rfl, rfl, rfl, -⟩ := hRu_22
  refine ZV 1 S137 rfl rfl rfl rfl rfl (Nat.le_of_ble_eq_true rfl) (ZD (ZC (ZF (ZB (ZA rfl rfl (Zg 1 (vs := [.int .u32 (x_20.e0.toNat : Int), .int .u32 (x_20.e1.toNat : Int), .int .u32 (x_20.e2.toNat : Int), .int .u32 (x_20.e3.toNat : Int)]) S137 rfl rfl rfl rfl) ?_)))))
  obtain ⟨x_23, hr_24, hx⟩ := ZM hx
  refine ZR (vs := [_]) (args := [_]) (K := []) (rst := [_, _]) E151 rfl rfl rfl ZL (ref02_Turn_ok x_20 _ _ hr_24) rfl (fun u_25 Ku_25 Hu_25 hRu_25 hleu_25 hfu_25 => ?_)
  obtain ⟨rfl, rfl, rfl, -⟩ := hRu_25
  obtain ⟨x_26, hr_27, hx⟩ := ZM hx
  refine ZR (vs := [_]) (args := [_]) (K := []) (rst := [_, _]) E151 rfl rfl rfl ZL (ref02_Turn_ok x_23 _ _ hr_27) rfl (fun u_28 Ku_28 Hu_28 hRu_28 hleu_28 hfu_28 => ?_)
  obtain ⟨rfl, rfl, rfl, -⟩ := hRu_28
  obtain ⟨x_29, hr_30, hx⟩ := ZM hx
  refine ZR (vs := [_]) (args := [_]) (K := []) (rst := [_, _]) E151 rfl rfl rfl ZL (ref02_Turn_ok x_26 _ _ hr_30) rfl (fun u_31 Ku_31 Hu_31 hRu_31 hleu_31 hfu_31 => ?_)
  obtain ⟨rfl, rfl, rfl, -⟩ := hRu_31
  obtain ⟨x_32, hr_33, hx⟩ := ZM hx
  refine ZR (vs := [_]) (args := [_]) (K := []) (rst := [_, _]) E151 rfl rfl rfl ZL (ref02_Turn_ok x_29 _ _ hr_33) rfl (fun u_34 Ku_34 Hu_34 hRu_34 hleu_34 hfu_34 => ?_)
  obtain ⟨rfl, rfl, rfl, -⟩ := hRu_34
  refine ZV 0 S137 rfl rfl rfl rfl rfl (Nat.le_of_ble_eq_true rfl) (ZD (ZC (ZS (ZQ (vs := [.agg #[.int .u32 (x_32.e0.toNat : Int), .int .u32 (x_32.e1.toNat : Int), .int .u32 (x_32.e2.toNat : Int), .int .u32 (x_32.e3.toNat : Int)]]) (K := []) (rst := [_, _]) (.inl rfl) rfl rfl (Zn 0 rfl rfl S137 rfl) ZL ?_))))
  obtain rfl := Option.some.inj hx
  exact ⟨rfl, rfl, rfl, trivial⟩
 ·
  have hxo_6 := hx; clear hx; have hx := ht_7; clear ht_7
  refine JC.block (Zj 1 rfl (Z5 (fun n l o g => ∃ s_8 : UInt32 × UInt32 × UInt32 × UInt32 × Int, l = [(0, .slice aa_2 na_2 ca_2), (2, .pointer (some ⟨b_3, 0, none⟩)), (3, .pointer (some ⟨b_4, 0, none⟩)), (4, .int .i64 s_8.2.2.2.2)] ∧ o = [[(b_3, .cells #[.int .u32 ((0 : UInt32).toNat : Int), .int .u32 ((0 : UInt32).toNat : Int), .int .u32 ((0 : UInt32).toNat : Int), .int .u32 ((0 : UInt32).toNat : Int)] 137 (0, 0))], [(b_4, .cells #[.int .u32 (s_8.1.toNat : Int), .int .u32 (s_8.2.1.toNat : Int), .int .u32 (s_8.2.2.1.toNat : Int), .int .u32 (s_8.2.2.2.1.toNat : Int)] 137 (0, 0))]] ∧ H = g ∧ run (ref02_Four_l1 p_1) n s_8 = some t_5) FUEL ?_ ⟨((1 : UInt32), (2 : UInt32), (3 : UInt32), (4 : UInt32), 0), rfl, rfl, rfl, hx⟩ ⟨rfl, rfl, rfl, rfl, trivial⟩ ?_))
  ·
   rintro _ _ _ ⟨s_8, rfl, rfl, rfl, hn_9⟩
   exact Z2 hn_9
  ·
   rintro n_10 _ _ _ ⟨s_8, rfl, rfl, rfl, hn_9⟩
   clear hx; obtain ⟨oo_12, hx, hd_11⟩ := Z4 hn_9
   unfold ref02_Four_l1 at hx
   refine ZF (ZF (ZB (ZA rfl rfl (ZG rfl) (ZA rfl rfl (ZG rfl) (ZA rfl rfl (Zs U26 rfl (IsSlice.long ha_2)) (ZA rfl rfl (R.leq_i rfl rfl) (ZD (ZC (ZW rfl (fun c_11 => ?_) (fun c_11 => ?_))))))))))
   ·
    replace hx := ZT c_11 hx
    refine ZX (ZC (ZF (JC.block (ZF ?_))))
    obtain ⟨t_12, ht_14, hx⟩ := ZM hx
    refine Z1 (fun l o g => l = [(0, .slice aa_2 na_2 ca_2), (2, .pointer (some ⟨b_3, 0, none⟩)), (3, .pointer (some ⟨b_4, 0, none⟩)), (4, .int .i64 s_8.2.2.2.2)] ∧ o = [[(b_3, .cells #[.int .u32 ((0 : UInt32).toNat : Int), .int .u32 ((0 : UInt32).toNat : Int), .int .u32 ((0 : UInt32).toNat : Int), .int .u32 ((0 : UInt32).toNat : Int)] 137 (0, 0))], [(b_4, .cells #[.int .u32 (t_12.toNat : Int), .int .u32 (s_8.2.1.toNat : Int), .int .u32 (s_8.2.2.1.toNat : Int), .int .u32 (s_8.2.2.2.1.toNat : Int)] 137 (0, 0))]] ∧ H = g) ?_ ?_
    ·
     rintro _ _ _ ⟨rfl, rfl, rfl⟩
     refine ZC (ZF ?_)
     obtain ⟨t_21, ht_23, hx⟩ := ZM hx
     refine Z1 (fun l o g => l = [(0, .slice aa_2 na_2 ca_2), (2, .pointer (some ⟨b_3, 0, none⟩)), (3, .pointer (some ⟨b_4, 0, none⟩)), (4, .int .i64 s_8.2.2.2.2)] ∧ o = [[(b_3, .cells #[.int .u32 ((0 : UInt32).toNat : Int), .int .u32 ((0 : UInt32).toNat : Int), .int .u32 ((0 : UInt32).toNat : Int), .int .u32 ((0 : UInt32).toNat : Int)] 137 (0, 0))], [(b_4, .cells #[.int .u32 (t_12.toNat : Int), .int .u32 (s_8.2.1.toNat : Int), .int .u32 (t_21.toNat : Int), .int .u32 (s_8.2.2.2.1.toNat : Int)] 137 (0, 0))]] ∧ H = g) ?_ ?_
     ·
      rintro _ _ _ ⟨rfl, rfl, rfl⟩
      refine ZC (ZB (ZA rfl rfl (Zg 1 (vs := [.int .u32 (t_12.toNat : Int), .int .u32 (s_8.2.1.toNat : Int), .int .u32 (t_21.toNat : Int), .int .u32 (s_8.2.2.2.1.toNat : Int)]) S137 rfl rfl rfl rfl) ?_))
      obtain ⟨x_30, hr_31, hx⟩ := ZM hx
      refine ZR (vs := [_]) (args := [_]) (K := []) (rst := [_, _]) E151 rfl rfl rfl ZL (ref02_Turn_ok (A4.mk t_12 s_8.2.1 t_21 s_8.2.2.2.1) _ _ hr_31) rfl (fun u_32 Ku_32 Hu_32 hRu_32 hleu_32 hfu_32 => ?_)
      obtain ⟨rfl, rfl, rfl, -⟩ := hRu_32
      obtain ⟨x_33, hr_34, hx⟩ := ZM hx
      refine ZR (vs := [_]) (args := [_]) (K := []) (rst := [_, _]) E151 rfl rfl rfl ZL (ref02_Turn_ok x_30 _ _ hr_34) rfl (fun u_35 Ku_35 Hu_35 hRu_35 hleu_35 hfu_35 => ?_)
      obtain ⟨rfl, rfl, rfl, -⟩ := hRu_35
      obtain ⟨x_36, hr_37, hx⟩ := ZM hx
      refine ZR (vs := [_]) (args := [_]) (K := []) (rst := [_, _]) E151 rfl rfl rfl ZL (ref02_Turn_ok x_33 _ _ hr_37) rfl (fun u_38 Ku_38 Hu_38 hRu_38 hleu_38 hfu_38 => ?_)
      obtain ⟨rfl, rfl, rfl, -⟩ := hRu_38
      obtain ⟨x_39, hr_40, hx⟩ := ZM hx
      refine ZR (vs := [_]) (args := [_]) (K := []) (rst := [_, _]) E151 rfl rfl rfl ZL (ref02_Turn_ok x_36 _ _ hr_40) rfl (fun u_41 Ku_41 Hu_41 hRu_41 hleu_41 hfu_41 => ?_)
      obtain ⟨rfl, rfl, rfl, -⟩ := hRu_41
      refine ZV 1 S137 rfl rfl rfl rfl rfl (Nat.le_of_ble_eq_true rfl) (ZD (Zm (ZC (ZB (ZA rfl rfl (ZG rfl) (ZA rfl rfl (YA rfl rfl) (ZA rfl rfl (ZE rfl) (ZD ?_))))))))
      replace hx := Zp hd_11 hx
      refine ZN 1 rfl (ZN 1 rfl ?_)
      exact ZZ ⟨(x_39.e0, x_39.e1, x_39.e2, x_39.e3, w64 (s_8.2.2.2.2 + 8)), rfl, rfl, rfl, hx⟩ ⟨rfl, rfl, rfl, rfl, trivial⟩ rfl rfl
     ·
      have hxo_22 := hx; clear hx; have hx := ht_23; clear ht_23
      refine JC.draw (so := [_]) 9 rfl Mixed ⟨⟨0, rfl⟩, trivial⟩ (JA.val ⟨by kernel_rfl, by kernel_rfl⟩ (ZI _) (i := 0) rfl ⟨by kernel_rfl, by kernel_rfl, rfl⟩ trivial (ZJ (Hle.refl _) ⟨⟨0, rfl⟩, trivial⟩) (R.ixA 2 U137 S27 rfl rfl rfl) rfl (JA.val ⟨by kernel_rfl, by kernel_rfl⟩ (ZI _) (i := 2) rfl ⟨by kernel_rfl, by kernel_rfl, rfl⟩ trivial (ZJ (Hle.refl _) ⟨⟨0, rfl⟩, trivial⟩) (ZG rfl) rfl (JA.val ⟨by kernel_rfl, by kernel_rfl⟩ (ZI _) (i := 3) rfl ⟨by kernel_rfl, by kernel_rfl, rfl⟩ trivial (ZJ (Hle.refl _) ⟨⟨0, rfl⟩, trivial⟩) (ZG rfl) rfl (JA.val ⟨by kernel_rfl, by kernel_rfl⟩ (ZI _) (i := 4) rfl ⟨by kernel_rfl, by kernel_rfl, rfl⟩ trivial (ZJ (Hle.refl _) ⟨⟨0, rfl⟩, trivial⟩) (YA rfl rfl) rfl (JA.two (i := 1) (j := 5) (by kernel_rfl) ?_ ?_)))))
      ·
       refine JO.step rfl trivial rfl (fun K hK => ZA rfl rfl (Zd 1 S27 rfl rfl rfl) (ZD (hK _ _ _ (ZJ (Hle.refl _) ⟨⟨0, rfl⟩, trivial⟩) (JA.one (i := 5) (by kernel_rfl) (JO.step rfl trivial rfl (fun K hK => ?_))))))
       obtain ⟨x_24, hr_25, hx⟩ := ZM hx
       refine ZR (vs := [_, _]) (args := [_, _]) (K := []) (rst := [_, _]) E150 rfl rfl rfl ZL (ref02_word_ok p_1 (w64 (s_8.2.2.2.2 + 4)) _ ha_2 _ hr_25) rfl (fun u_26 Ku_26 Hu_26 hRu_26 hleu_26 hfu_26 => ?_)
       obtain ⟨rfl, rfl, rfl, -⟩ := hRu_26
       refine ZD (hK _ _ _ (ZJ (Hle.refl _) ⟨⟨0, rfl⟩, trivial⟩) (JA.val ⟨by kernel_rfl, by kernel_rfl⟩ (ZI _) (i := 6) rfl ⟨by kernel_rfl, by kernel_rfl, rfl⟩ trivial (ZJ (Hle.refl _) ⟨⟨0, rfl⟩, trivial⟩) (R.xor32 (a := s_8.2.2.1) (b := x_24) rfl rfl) rfl (JA.val ⟨by kernel_rfl, by kernel_rfl⟩ (ZI _) (i := 7) rfl ⟨by kernel_rfl, by kernel_rfl, rfl⟩ trivial (ZJ (Hle.refl _) ⟨⟨0, rfl⟩, trivial⟩) (R.ixA 2 U137 S27 rfl rfl rfl) rfl (JA.one (i := 8) (by kernel_rfl) (JO.step rfl trivial rfl (fun K hK => ZV 1 S27 rfl rfl rfl rfl rfl (Nat.le_of_ble_eq_true rfl) (ZD (hK _ _ _ (ZJ (Hle.refl _) ⟨⟨0, rfl⟩, trivial⟩) (Zz (by kernel_rfl) ?_)))))))))
       obtain rfl := Option.some.inj hx
       refine ZN 1 rfl (ZN 1 rfl ?_)
       exact ZZ ⟨rfl, rfl, rfl⟩ ⟨rfl, rfl, rfl, rfl, trivial⟩ rfl rfl
      ·
       refine JO.step rfl trivial rfl (fun K hK => ?_)
       obtain ⟨x_27, hr_28, hx⟩ := ZM hx
       refine ZR (vs := [_, _]) (args := [_, _]) (K := []) (rst := [_, _]) E150 rfl rfl rfl ZL (ref02_word_ok p_1 (w64 (s_8.2.2.2.2 + 4)) _ ha_2 _ hr_28) rfl (fun u_29 Ku_29 Hu_29 hRu_29 hleu_29 hfu_29 => ?_)
       obtain ⟨rfl, rfl, rfl, -⟩ := hRu_29
       refine ZD (hK _ _ _ (ZJ (Hle.refl _) ⟨⟨0, rfl⟩, trivial⟩) (JA.one (i := 1) (by kernel_rfl) (JO.step rfl trivial rfl (fun K hK => ZA rfl rfl (Zd 1 S27 rfl rfl rfl) (ZD (hK _ _ _ (ZJ (Hle.refl _) ⟨⟨0, rfl⟩, trivial⟩) (JA.val ⟨by kernel_rfl, by kernel_rfl⟩ (ZI _) (i := 6) rfl ⟨by kernel_rfl, by kernel_rfl, rfl⟩ trivial (ZJ (Hle.refl _) ⟨⟨0, rfl⟩, trivial⟩) (R.xor32 (a := s_8.2.2.1) (b := x_27) rfl rfl) rfl (JA.val ⟨by kernel_rfl, by kernel_rfl⟩ (ZI _) (i := 7) rfl ⟨by kernel_rfl, by kernel_rfl, rfl⟩ trivial (ZJ (Hle.refl _) ⟨⟨0, rfl⟩, trivial⟩) (R.ixA 2 U137 S27 rfl rfl rfl) rfl (JA.one (i := 8) (by kernel_rfl) (JO.step rfl trivial rfl (fun K hK => ZV 1 S27 rfl rfl rfl rfl rfl (Nat.le_of_ble_eq_true rfl) ?_)))))))))))
       refine ZD (hK _ _ _ (ZJ (Hle.refl _) ⟨⟨0, rfl⟩, trivial⟩) (Zz (by kernel_rfl) ?_))
       obtain rfl := Option.some.inj hx
       refine ZN 1 rfl (ZN 1 rfl ?_)
       exact ZZ ⟨rfl, rfl, rfl⟩ ⟨rfl, rfl, rfl, rfl, trivial⟩ rfl rfl
    ·
     have hxo_13 := hx; clear hx; have hx := ht_14; clear ht_14
     refine JC.draw (so := [_]) 8 rfl Mixed ⟨⟨0, rfl⟩, trivial⟩ (JA.val ⟨by kernel_rfl, by kernel_rfl⟩ (ZI _) (i := 0) rfl ⟨by kernel_rfl, by kernel_rfl, rfl⟩ trivial (ZJ (Hle.refl _) ⟨⟨0, rfl⟩, trivial⟩) (R.ixA 0 U137 S27 rfl rfl rfl) rfl (JA.val ⟨by kernel_rfl, by kernel_rfl⟩ (ZI _) (i := 2) rfl ⟨by kernel_rfl, by kernel_rfl, rfl⟩ trivial (ZJ (Hle.refl _) ⟨⟨0, rfl⟩, trivial⟩) (ZG rfl) rfl (JA.val ⟨by kernel_rfl, by kernel_rfl⟩ (ZI _) (i := 3) rfl ⟨by kernel_rfl, by kernel_rfl, rfl⟩ trivial (ZJ (Hle.refl _) ⟨⟨0, rfl⟩, trivial⟩) (ZG rfl) rfl (JA.two (i := 1) (j := 4) (by kernel_rfl) ?_ ?_))))
     ·
      refine JO.step rfl trivial rfl (fun K hK => ZA rfl rfl (Zd 1 S27 rfl rfl rfl) (ZD (hK _ _ _ (ZJ (Hle.refl _) ⟨⟨0, rfl⟩, trivial⟩) (JA.one (i := 4) (by kernel_rfl) (JO.step rfl trivial rfl (fun K hK => ?_))))))
      obtain ⟨x_15, hr_16, hx⟩ := ZM hx
      refine ZR (vs := [_, _]) (args := [_, _]) (K := []) (rst := [_, _]) E150 rfl rfl rfl ZL (ref02_word_ok p_1 s_8.2.2.2.2 _ ha_2 _ hr_16) rfl (fun u_17 Ku_17 Hu_17 hRu_17 hleu_17 hfu_17 => ?_)
      obtain ⟨rfl, rfl, rfl, -⟩ := hRu_17
      refine ZD (hK _ _ _ (ZJ (Hle.refl _) ⟨⟨0, rfl⟩, trivial⟩) (JA.val ⟨by kernel_rfl, by kernel_rfl⟩ (ZI _) (i := 5) rfl ⟨by kernel_rfl, by kernel_rfl, rfl⟩ trivial (ZJ (Hle.refl _) ⟨⟨0, rfl⟩, trivial⟩) (R.xor32 (a := s_8.1) (b := x_15) rfl rfl) rfl (JA.val ⟨by kernel_rfl, by kernel_rfl⟩ (ZI _) (i := 6) rfl ⟨by kernel_rfl, by kernel_rfl, rfl⟩ trivial (ZJ (Hle.refl _) ⟨⟨0, rfl⟩, trivial⟩) (R.ixA 0 U137 S27 rfl rfl rfl) rfl (JA.one (i := 7) (by kernel_rfl) (JO.step rfl trivial rfl (fun K hK => ZV 1 S27 rfl rfl rfl rfl rfl (Nat.le_of_ble_eq_true rfl) (ZD (hK _ _ _ (ZJ (Hle.refl _) ⟨⟨0, rfl⟩, trivial⟩) (Zz (by kernel_rfl) ?_)))))))))
      obtain rfl := Option.some.inj hx
      refine ZN 1 rfl (ZN 1 rfl ?_)
      exact ZZ ⟨rfl, rfl, rfl⟩ ⟨rfl, rfl, rfl, rfl, trivial⟩ rfl rfl
     ·
      refine JO.step rfl trivial rfl (fun K hK => ?_)
      obtain ⟨x_18, hr_19, hx⟩ := ZM hx
      refine ZR (vs := [_, _]) (args := [_, _]) (K := []) (rst := [_, _]) E150 rfl rfl rfl ZL (ref02_word_ok p_1 s_8.2.2.2.2 _ ha_2 _ hr_19) rfl (fun u_20 Ku_20 Hu_20 hRu_20 hleu_20 hfu_20 => ?_)
      obtain ⟨rfl, rfl, rfl, -⟩ := hRu_20
      refine ZD (hK _ _ _ (ZJ (Hle.refl _) ⟨⟨0, rfl⟩, trivial⟩) (JA.one (i := 1) (by kernel_rfl) (JO.step rfl trivial rfl (fun K hK => ZA rfl rfl (Zd 1 S27 rfl rfl rfl) (ZD (hK _ _ _ (ZJ (Hle.refl _) ⟨⟨0, rfl⟩, trivial⟩) (JA.val ⟨by kernel_rfl, by kernel_rfl⟩ (ZI _) (i := 5) rfl ⟨by kernel_rfl, by kernel_rfl, rfl⟩ trivial (ZJ (Hle.refl _) ⟨⟨0, rfl⟩, trivial⟩) (R.xor32 (a := s_8.1) (b := x_18) rfl rfl) rfl (JA.val ⟨by kernel_rfl, by kernel_rfl⟩ (ZI _) (i := 6) rfl ⟨by kernel_rfl, by kernel_rfl, rfl⟩ trivial (ZJ (Hle.refl _) ⟨⟨0, rfl⟩, trivial⟩) (R.ixA 0 U137 S27 rfl rfl rfl) rfl (JA.one (i := 7) (by kernel_rfl) (JO.step rfl trivial rfl (fun K hK => ZV 1 S27 rfl rfl rfl rfl rfl (Nat.le_of_ble_eq_true rfl) ?_)))))))))))
      refine ZD (hK _ _ _ (ZJ (Hle.refl _) ⟨⟨0, rfl⟩, trivial⟩) (Zz (by kernel_rfl) ?_))
      obtain rfl := Option.some.inj hx
      refine ZN 1 rfl (ZN 1 rfl ?_)
      exact ZZ ⟨rfl, rfl, rfl⟩ ⟨rfl, rfl, rfl, rfl, trivial⟩ rfl rfl
   ·
    replace hx := ZU c_11 hx
    refine Z0 (Zc ?_)
    obtain rfl := Zr hd_11 hx
    refine Zc (Zh (ZN 1 rfl (ZN 1 rfl ?_)))
    exact ZZ ⟨rfl, rfl, rfl⟩ ⟨rfl, rfl, rfl, trivial⟩ rfl rfl

set_option maxHeartbeats 8000000 in
theorem ref02_Sum_ok (p_1 : List UInt8) (H : Heaplet) {aa_2 : Option Addr} {na_2 : Nat} {ca_2 : Nat} (ha_2 : IsSlice H RU8 1 (.slice aa_2 na_2 ca_2) p_1) (r : UInt32) (hx : ref02_Sum p_1 = some r) :
  Does Tryz.prog 97 #[.slice aa_2 na_2 ca_2] [] H (fun u K' H' => u = .int .u32 (r.toNat : Int) ∧ K' = [] ∧ H = H' ∧ True) := by
 refine Does.enterL (vs := [.slice aa_2 na_2 ca_2]) (l := [(0, .slice aa_2 na_2 ca_2)]) Tryz.func97 rfl rfl ⟨rfl, trivial⟩ (fun w hlt => ?_)
 unfold ref02_Sum at hx
 refine ZF (ZB (ZA rfl rfl (ZE rfl) (ZD (ZC (ZF (ZB (ZA rfl rfl (ZG rfl) ?_)))))))
 obtain ⟨x_3, hr_4, hx⟩ := ZM hx
 refine ZR (vs := [_]) (args := [_]) (K := []) (rst := []) E130 rfl rfl rfl ZL (ref02_Four_ok p_1 _ ha_2 _ hr_4) rfl (fun u_5 Ku_5 Hu_5 hRu_5 hleu_5 hfu_5 => ?_)
 obtain ⟨rfl, rfl, rfl, -⟩ := hRu_5
 refine ZA rfl rfl (R.idxAk 0 U137 S27 rfl rfl rfl rfl rfl) (ZA rfl rfl (ZE rfl) (ZD (ZC (ZS (ZQ (vs := [.int .u32 (x_3.e0.toNat : Int)]) (K := []) (rst := []) (.inl rfl) rfl rfl (ZO rfl rfl) ZL ?_)))))
 obtain rfl := Option.some.inj hx
 exact ⟨rfl, rfl, rfl, trivial⟩

set_option maxHeartbeats 8000000 in
theorem ref13_Seen_ok (p_1 : Store) (p_5 : Ptr) (H : Heaplet) {aa_2 : Option Addr} {na_2 : Nat} {ca_2 : Nat} {aa_3 : Option Addr} {na_3 : Nat} {ca_3 : Nat} {aa_4 : Option Addr} {na_4 : Nat} {ca_4 : Nat} (ha_2 : IsSlice H (RSl RU8 1) 1 (.slice aa_2 na_2 ca_2) p_1.Disk.Blocks) (ha_3 : IsSlice H R_Write 2 (.slice aa_3 na_3 ca_3) p_1.Disk.Waits) (ha_4 : IsSlice H RU8 1 (.slice aa_4 na_4 ca_4) p_1.Space) (r : List UInt8 × Int) (hx : ref13_Seen p_1 p_5 = some r) :
  Does Tryz.prog 62 #[.agg #[.slice aa_2 na_2 ca_2, .slice aa_3 na_3 ca_3, .slice aa_4 na_4 ca_4, .int .u32 (p_1.Epoch.toNat : Int), .int .u32 (p_1.Count.toNat : Int)], .agg #[.int .i64 p_5.At, .int .u32 (p_5.Birth.toNat : Int), .int .u32 (p_5.Iv.toNat : Int), .int .u32 (p_5.Tag.toNat : Int), .int .u32 (p_5.Sum.toNat : Int)]] [] H (fun u K' H' => ∃ ao0 : Option Addr, ∃ n0 : Nat, ∃ cap0 : Nat, ∃ K0 : Own, u = .tuple #[.slice ao0 n0 cap0, .int .i64 r.2] ∧ K' = [K0] ∧ H = H' ∧ RowOf (New H H) RU8 0 5 1 (.slice ao0 n0 cap0) r.1 K0 ∧ (∀ p ∈ K0, p.1 ∉ ids (List.flatten [])) ∧ True) := by
 refine Does.enterL (vs := [.agg #[.slice aa_2 na_2 ca_2, .slice aa_3 na_3 ca_3, .slice aa_4 na_4 ca_4, .int .u32 (p_1.Epoch.toNat : Int), .int .u32 (p_1.Count.toNat : Int)], .agg #[.int .i64 p_5.At, .int .u32 (p_5.Birth.toNat : Int), .int .u32 (p_5.Iv.toNat : Int), .int .u32 (p_5.Tag.toNat : Int), .int .u32 (p_5.Sum.toNat : Int)]]) (l := [(0, .agg #[.slice aa_2 na_2 ca_2, .slice aa_3 na_3 ca_3, .slice aa_4 na_4 ca_4, .int .u32 (p_1.Epoch.toNat : Int), .int .u32 (p_1.Count.toNat : Int)]), (1, .agg #[.int .i64 p_5.At, .int .u32 (p_5.Birth.toNat : Int), .int .u32 (p_5.Iv.toNat : Int), .int .u32 (p_5.Tag.toNat : Int), .int .u32 (p_5.Sum.toNat : Int)])]) Tryz.func62 rfl rfl ⟨rfl, rfl, trivial⟩ (fun w hlt => ?_)
 unfold ref13_Seen at hx
 refine ZF (ZB (Zv rfl rfl (fun b_6 hb_6 => Zv rfl rfl (fun b_7 hb_7 => ZA rfl rfl (ZE rfl) (ZA rfl rfl (ZE rfl) (ZD (ZC (ZF (ZF (ZB (ZA rfl rfl (Zg 0 (vs := [.int .i64 p_5.At, .int .u32 (p_5.Birth.toNat : Int), .int .u32 (p_5.Iv.toNat : Int), .int .u32 (p_5.Tag.toNat : Int), .int .u32 (p_5.Sum.toNat : Int)]) S31 rfl rfl rfl rfl) ?_)))))))))))
 obtain ⟨x_8, hr_9, hx⟩ := ZM hx
 refine ZR (vs := [_]) (args := [_]) (K := []) (rst := [_, _]) E61 rfl rfl rfl ZL (ref10_None_ok p_5 _ _ hr_9) rfl (fun u_10 Ku_10 Hu_10 hRu_10 hleu_10 hfu_10 => ?_)
 obtain ⟨rfl, rfl, rfl, -⟩ := hRu_10
 refine ZD (ZC (ZW rfl (fun c_11 => ?_) (fun c_11 => ?_)))
 ·
  replace hx := ZT c_11 hx
  refine ZF (ZB (ZA rfl rfl (ZE rfl) (ZA rfl rfl (ZE rfl) (ZD (ZC (ZS (ZP (Z8 (ZQ (vs := [.slice none 0 0, .int .i64 6]) (K := [_]) (rst := [_, _]) (.inl rfl) rfl rfl (ZO rfl (ZO rfl rfl)) (Zf 0 rfl ZL) ?_)))))))))
  obtain rfl := Option.some.inj hx
  exact ⟨none, 0, 0, [], rfl, rfl, rfl, (Zi _ _ _ _ _), (fun p hp => by cases hp), trivial⟩
 ·
  replace hx := ZU c_11 hx
  refine ZX (ZC (ZF (ZB (ZA rfl rfl (Zq F29_0 rfl) (ZA rfl rfl (Zg 1 (vs := [.slice aa_2 na_2 ca_2, .slice aa_3 na_3 ca_3]) S25 rfl rfl rfl rfl) (ZA rfl rfl (Zq F31_0 rfl) (ZA rfl rfl (Zd 0 S3 rfl rfl rfl) ?_)))))))
  obtain ⟨x_12, hr_13, hx⟩ := ZM hx
  refine ZR (vs := [_, _]) (args := [_, _]) (K := []) (rst := [_, _]) E96 rfl rfl rfl ZL (ref09_Seen_ok (Disk.mk p_1.Disk.Blocks p_1.Disk.Waits) p_5.At _ ha_2 ha_3 _ hr_13) rfl (fun u_14 Ku_14 Hu_14 hRu_14 hleu_14 hfu_14 => ?_)
  obtain ⟨ar_15, nr_15, cr_15, Kr_15, rfl, rfl, rfl, hr_15, hnewr_15, -⟩ := hRu_14
  replace hr_15 := (RowOf.base (Zo (H2 := New H H) RU8.const hr_15) (fun p hp => (hfu_14 p (Zw 0 rfl hp)).resolve_left (hnewr_15 p hp)))
  refine ZA rfl rfl (ZE rfl) (ZD (ZC (ZF (ZF (JC.draw (so := [_, _]) 5 rfl Mixed ⟨⟨1, rfl⟩, ⟨2, rfl⟩, trivial⟩ (JA.val ⟨by kernel_rfl, by kernel_rfl⟩ (ZI _) (i := 0) rfl ⟨by kernel_rfl, by kernel_rfl, rfl⟩ trivial (ZJ (Hle.refl _) ⟨⟨1, rfl⟩, ⟨2, rfl⟩, trivial⟩) (ZG rfl) rfl (JA.val ⟨by kernel_rfl, by kernel_rfl⟩ (ZI _) (i := 2) rfl ⟨by kernel_rfl, by kernel_rfl, rfl⟩ trivial (ZJ (Hle.refl _) ⟨⟨1, rfl⟩, ⟨2, rfl⟩, trivial⟩) (Zq F31_4 rfl) rfl (JA.val ⟨by kernel_rfl, by kernel_rfl⟩ (ZI _) (i := 3) rfl ⟨by kernel_rfl, by kernel_rfl, rfl⟩ trivial (ZJ (Hle.refl _) ⟨⟨1, rfl⟩, ⟨2, rfl⟩, trivial⟩) (Zd 0 S27 rfl rfl rfl) rfl (JA.one (i := 1) (by kernel_rfl) (JO.step rfl trivial rfl (fun K hK => ?_)))))))))))
  obtain ⟨x_19, hr_20, hx⟩ := ZM hx
  refine JL.callL2 (vs := [_]) (v := .int .u32 (x_19.toNat : Int)) E97 rfl rfl (fun H_18 hle_17 hl_16 => Does.mono (ref02_Sum_ok x_12 _ (Lent.row' 0 hl_16 RU8.mono hle_17 rfl (hr_15.old RU8.mono)) _ hr_20) (fun _ _ _ h => h.1)) rfl (ZD (hK _ _ _ (ZJ (Hle.refl _) ⟨⟨1, rfl⟩, ⟨2, rfl⟩, trivial⟩) (JA.val ⟨by kernel_rfl, by kernel_rfl⟩ (ZI _) (i := 4) rfl ⟨by kernel_rfl, by kernel_rfl, rfl⟩ trivial (ZJ (Hle.refl _) ⟨⟨1, rfl⟩, ⟨2, rfl⟩, trivial⟩) (R.neq32 (a := x_19) (b := p_5.Sum) rfl rfl) rfl (Zz (by kernel_rfl) (ZC (ZW rfl (fun c_21 => ?_) (fun c_21 => ?_)))))))
  ·
   replace hx := ZT c_21 hx
   refine ZF (ZB (ZA rfl rfl (ZE rfl) (ZA rfl rfl (ZE rfl) (ZD (ZC (ZS (ZP (Z8 (ZQ (vs := [.slice none 0 0, .int .i64 130]) (K := [_]) (rst := [_, _, _]) (.inl rfl) rfl rfl (ZO rfl (ZO rfl rfl)) (Zf 0 rfl ZL) ?_)))))))))
   obtain rfl := Option.some.inj hx
   exact ⟨none, 0, 0, [], rfl, rfl, rfl, (Zi _ _ _ _ _), (fun p hp => by cases hp), trivial⟩
  ·
   replace hx := ZU c_21 hx
   refine ZX (ZC (ZF (ZB (ZA rfl rfl (ZG rfl) (JL.seg0 ?_)))))
   obtain ⟨q_23, hm_24, hl_25, hx⟩ := YC hx
   refine JL.appF (HF := (New H H)) 0 U26 I5 rfl rfl (Zi _ RU8 _ _ _) rfl (SrcF.row 1 U26 rfl hr_15) hm_24 hl_25 rfl (Nat.le_refl _) rfl (fun vr_26 Kr_26 hr_26 => ?_)
   obtain ⟨ar_26, cr_26, rfl⟩ := RowOf.val hr_26
   refine ZA rfl rfl (ZE rfl) (ZA rfl rfl (ZE rfl) (ZD (ZC (ZS (ZQ (vs := [.slice ar_26 q_23.length cr_26, .int .i64 0]) (K := [_]) (rst := [_, _, _]) (.inl rfl) rfl rfl (ZO rfl (ZO rfl rfl)) (Zf 0 rfl ZL) ?_)))))
   obtain rfl := Option.some.inj hx
   exact ⟨ar_26, q_23.length, cr_26, Kr_26, rfl, rfl, rfl, (Zt (Nat.zero_le _) hr_26), (new_ids hr_26 hlt), trivial⟩

set_option maxHeartbeats 8000000 in
theorem ref10_Get_ok (p_1 : List UInt8) (H : Heaplet) {aa_2 : Option Addr} {na_2 : Nat} {ca_2 : Nat} (ha_2 : IsSlice H RU8 1 (.slice aa_2 na_2 ca_2) p_1) (r : UInt32) (hx : ref10_Get p_1 = some r) :
  Does Tryz.prog 131 #[.slice aa_2 na_2 ca_2] [] H (fun u K' H' => u = .int .u32 (r.toNat : Int) ∧ K' = [] ∧ H = H' ∧ True) := by
 refine Does.enterL (vs := [.slice aa_2 na_2 ca_2]) (l := [(0, .slice aa_2 na_2 ca_2)]) Tryz.func131 rfl rfl ⟨rfl, trivial⟩ (fun w hlt => ?_)
 unfold ref10_Get at hx
 refine ZF (ZB (ZA rfl rfl (ZE rfl) (ZD (ZC (ZF (ZB (ZA rfl rfl (ZE rfl) (ZD (ZC (ZF (ZF ?_)))))))))))
 refine ZB (ZA rfl rfl (ZG rfl) (ZA rfl rfl (Zs U26 rfl (IsSlice.long ha_2)) (ZA rfl rfl (R.sub_i rfl rfl) (ZA rfl rfl (ZE rfl) (ZD (ZC ?_))))))
 obtain ⟨t_3, ht_5, hx⟩ := ZM hx
 refine Z1 (fun l o g => l = [(3, .int .u32 (t_3.toNat : Int))] ∧ o = [] ∧ H = g) ?_ ?_
 ·
  rintro _ _ _ ⟨rfl, rfl, rfl⟩
  refine ZC (ZF (ZB (ZA rfl rfl (ZG rfl) (ZA rfl rfl (ZE rfl) (ZD (ZC (ZS (ZQ (vs := [.int .u32 (t_3.toNat : Int)]) (K := []) (rst := []) (.inl rfl) rfl rfl (ZO rfl rfl) ZL ?_))))))))
  obtain rfl := Option.some.inj hx
  exact ⟨rfl, rfl, rfl, trivial⟩
 ·
  have hxo_4 := hx; clear hx; have hx := ht_5; clear ht_5
  refine JC.block (Z5 (fun n l o g => ∃ s_6 : UInt32 × Int, l = [(0, .slice aa_2 na_2 ca_2), (3, .int .u32 (s_6.1.toNat : Int)), (4, .int .i64 s_6.2)] ∧ o = [] ∧ H = g ∧ run (ref10_Get_l1 p_1) n s_6 = some t_3) FUEL ?_ ⟨((0 : UInt32), w64 ((p_1.length : Int) - 1)), rfl, rfl, rfl, hx⟩ ⟨rfl, rfl, rfl, trivial⟩ ?_)
  ·
   rintro _ _ _ ⟨s_6, rfl, rfl, rfl, hn_7⟩
   exact Z2 hn_7
  ·
   rintro n_8 _ _ _ ⟨s_6, rfl, rfl, rfl, hn_7⟩
   clear hx; obtain ⟨oo_10, hx, hd_9⟩ := Z4 hn_7
   unfold ref10_Get_l1 at hx
   refine ZF (ZF (ZB (ZA rfl rfl (ZG rfl) (ZA rfl rfl (R.geq_i rfl rfl) (ZD (ZC (ZW rfl (fun c_9 => ?_) (fun c_9 => ?_))))))))
   ·
    replace hx := ZT c_9 hx
    refine ZX (ZC (ZF (JC.block (ZB (ZA rfl rfl (ZG rfl) (ZA rfl rfl (R.mul32 (a := (256 : UInt32)) (b := s_6.1) rfl rfl) (ZA rfl rfl (ZG rfl) (ZA rfl rfl (ZG rfl) ?_))))))))
    obtain ⟨y_10, hN_11, hx⟩ := Zl hx
    obtain ⟨b_12, o_13, cs_14, hE_15, hR_16, hl_17, hc_18⟩ := IsSlice.elem ha_2 hN_11
    obtain rfl := hR_16
    refine ZA rfl rfl (R.ix U26 S5 rfl rfl hE_15) (ZA rfl rfl (R.ldH S5 rfl (hc_18 0 _ rfl)) (ZA rfl rfl (R.cv_u8_u32 (a := y_10) U5 U27 rfl) (ZA rfl rfl (R.add32 (a := (256 : UInt32) * s_6.1) (b := y_10.toUInt32) rfl rfl) (ZA rfl rfl (ZE rfl) (ZD (Zm (ZC (ZB (ZA rfl rfl (ZG rfl) (ZA rfl rfl (R.sub_i rfl rfl) (ZA rfl rfl (ZE rfl) ?_)))))))))))
    refine ZD ?_
    replace hx := Zp hd_9 hx
    exact ZZ ⟨(((256 : UInt32) * s_6.1) + y_10.toUInt32, w64 (s_6.2 - 1)), rfl, rfl, rfl, hx⟩ ⟨rfl, rfl, rfl, trivial⟩ rfl rfl
   ·
    replace hx := ZU c_9 hx
    refine Z0 (Zc ?_)
    obtain rfl := Zr hd_9 hx
    refine Zc (Zh ?_)
    exact ZZ ⟨rfl, rfl, rfl⟩ ⟨rfl, trivial⟩ rfl rfl

set_option maxHeartbeats 8000000 in
theorem ref10_Read_ok (p_1 : List UInt8) (H : Heaplet) {aa_2 : Option Addr} {na_2 : Nat} {ca_2 : Nat} (ha_2 : IsSlice H RU8 1 (.slice aa_2 na_2 ca_2) p_1) (r : Ptr × Int) (hx : ref10_Read p_1 = some r) :
  Does Tryz.prog 98 #[.slice aa_2 na_2 ca_2] [] H (fun u K' H' => u = .tuple #[.agg #[.int .i64 r.1.At, .int .u32 (r.1.Birth.toNat : Int), .int .u32 (r.1.Iv.toNat : Int), .int .u32 (r.1.Tag.toNat : Int), .int .u32 (r.1.Sum.toNat : Int)], .int .i64 r.2] ∧ K' = [] ∧ H = H' ∧ True) := by
 refine Does.enterL (vs := [.slice aa_2 na_2 ca_2]) (l := [(0, .slice aa_2 na_2 ca_2)]) Tryz.func98 rfl rfl ⟨rfl, trivial⟩ (fun w hlt => ?_)
 unfold ref10_Read at hx
 refine ZF (ZB (JL.alloc Z31 rfl (fun b_3 hb_3 => ZA rfl rfl (ZE rfl) (ZD (ZC (ZF (ZF (ZB (ZA rfl rfl (ZG rfl) (ZA rfl rfl (Zs U26 rfl (IsSlice.long ha_2)) (ZA rfl rfl (Zx rfl rfl) ?_)))))))))))
 refine ZD (ZC (ZW rfl (fun c_4 => ?_) (fun c_4 => ?_)))
 ·
  replace hx := ZT c_4 hx
  refine ZF (ZB (ZA rfl rfl (YB (vs := []) (cs := [.int .i64 0, .int .u32 ((0 : UInt32).toNat : Int), .int .u32 ((0 : UInt32).toNat : Int), .int .u32 ((0 : UInt32).toNat : Int), .int .u32 ((0 : UInt32).toNat : Int)]) Z31 B31 rfl rfl rfl) (ZV 0 S31 rfl rfl rfl rfl rfl (Nat.le_of_ble_eq_true rfl) (ZA rfl rfl (ZE rfl) (ZD (ZC (ZS (ZP (ZQ (vs := [.agg #[.int .i64 0, .int .u32 ((0 : UInt32).toNat : Int), .int .u32 ((0 : UInt32).toNat : Int), .int .u32 ((0 : UInt32).toNat : Int), .int .u32 ((0 : UInt32).toNat : Int)], .int .i64 3]) (K := []) (rst := [_]) (.inl rfl) rfl rfl (Zn 0 rfl rfl S31 (ZO rfl rfl)) ZL ?_)))))))))
  obtain rfl := Option.some.inj hx
  exact ⟨rfl, rfl, rfl, trivial⟩
 ·
  replace hx := ZU c_4 hx
  refine ZX (ZC (ZF (JC.draw (so := [_]) 19 rfl Mixed ⟨⟨0, rfl⟩, trivial⟩ (JA.val ⟨by kernel_rfl, by kernel_rfl⟩ (ZI _) (i := 0) rfl ⟨by kernel_rfl, by kernel_rfl, rfl⟩ trivial (ZJ (Hle.refl _) ⟨⟨0, rfl⟩, trivial⟩) (ZG rfl) rfl ?_))))
  obtain ⟨y_5, hN_6, hx⟩ := Zl hx
  obtain ⟨b_7, o_8, cs_9, hE_10, hR_11, hl_12, hc_13⟩ := IsSlice.elem ha_2 hN_6
  obtain rfl := hR_11
  refine JA.val ⟨by kernel_rfl, by kernel_rfl⟩ (ZI _) (i := 1) rfl ⟨by kernel_rfl, by kernel_rfl, rfl⟩ trivial (ZJ (Hle.refl _) ⟨⟨0, rfl⟩, trivial⟩) (R.ix U26 S5 rfl rfl hE_10) rfl (JA.val ⟨by kernel_rfl, by kernel_rfl⟩ (ZI _) (i := 2) rfl ⟨by kernel_rfl, by kernel_rfl, rfl⟩ trivial (ZJ (Hle.refl _) ⟨⟨0, rfl⟩, trivial⟩) (R.ldH S5 rfl (hc_13 0 _ rfl)) rfl (JA.val ⟨by kernel_rfl, by kernel_rfl⟩ (ZI _) (i := 3) rfl ⟨by kernel_rfl, by kernel_rfl, rfl⟩ trivial (ZJ (Hle.refl _) ⟨⟨0, rfl⟩, trivial⟩) (R.cv_u8_i64 (a := y_5) U5 U3 rfl) rfl (JA.val ⟨by kernel_rfl, by kernel_rfl⟩ (ZI _) (i := 4) rfl ⟨by kernel_rfl, by kernel_rfl, rfl⟩ trivial (ZJ (Hle.refl _) ⟨⟨0, rfl⟩, trivial⟩) (ZG rfl) rfl ?_)))
  obtain ⟨m_14, hm_16, hb_15, hx⟩ := slc_some hx
  obtain ⟨vv_17, cv_17, h1v_17, h2v_17, h3v_17, hsv_17⟩ := IsSlice.cutv ha_2 hm_16 hb_15
  refine JA.val ⟨by kernel_rfl, by kernel_rfl⟩ (ZI _) (i := 5) rfl ⟨by kernel_rfl, by kernel_rfl, rfl⟩ trivial (ZJ (Hle.refl _) ⟨⟨0, rfl⟩, trivial⟩) (R.slc (cap := cv_17) (a := 1) (b := 4) (c := (cv_17 : Int)) (m := p_1) (R := RU8) U26 S5 rfl ⟨_, rfl⟩ ⟨_, rfl⟩ (by obtain ⟨ao, n, e, _⟩ := h1v_17; exact ⟨ao, n, e, rfl⟩) ⟨hb_15.1, hb_15.2.1, h2v_17⟩ h3v_17 (.inl rfl)) rfl ?_
  obtain ⟨av_17, cv_17', rfl⟩ := IsSlice.val hsv_17
  refine JA.val ⟨by kernel_rfl, by kernel_rfl⟩ (ZI _) (i := 7) rfl ⟨by kernel_rfl, by kernel_rfl, rfl⟩ trivial (ZJ (Hle.refl _) ⟨⟨0, rfl⟩, trivial⟩) (ZG rfl) rfl ?_
  obtain ⟨m_18, hm_20, hb_19, hx⟩ := slc_some hx
  obtain ⟨vv_21, cv_21, h1v_21, h2v_21, h3v_21, hsv_21⟩ := IsSlice.cutv ha_2 hm_20 hb_19
  refine JA.val ⟨by kernel_rfl, by kernel_rfl⟩ (ZI _) (i := 8) rfl ⟨by kernel_rfl, by kernel_rfl, rfl⟩ trivial (ZJ (Hle.refl _) ⟨⟨0, rfl⟩, trivial⟩) (R.slc (cap := cv_21) (a := 4) (b := 8) (c := (cv_21 : Int)) (m := p_1) (R := RU8) U26 S5 rfl ⟨_, rfl⟩ ⟨_, rfl⟩ (by obtain ⟨ao, n, e, _⟩ := h1v_21; exact ⟨ao, n, e, rfl⟩) ⟨hb_19.1, hb_19.2.1, h2v_21⟩ h3v_21 (.inl rfl)) rfl ?_
  obtain ⟨av_21, cv_21', rfl⟩ := IsSlice.val hsv_21
  refine JA.val ⟨by kernel_rfl, by kernel_rfl⟩ (ZI _) (i := 10) rfl ⟨by kernel_rfl, by kernel_rfl, rfl⟩ trivial (ZJ (Hle.refl _) ⟨⟨0, rfl⟩, trivial⟩) (ZG rfl) rfl ?_
  obtain ⟨m_22, hm_24, hb_23, hx⟩ := slc_some hx
  obtain ⟨vv_25, cv_25, h1v_25, h2v_25, h3v_25, hsv_25⟩ := IsSlice.cutv ha_2 hm_24 hb_23
  refine JA.val ⟨by kernel_rfl, by kernel_rfl⟩ (ZI _) (i := 11) rfl ⟨by kernel_rfl, by kernel_rfl, rfl⟩ trivial (ZJ (Hle.refl _) ⟨⟨0, rfl⟩, trivial⟩) (R.slc (cap := cv_25) (a := 8) (b := 12) (c := (cv_25 : Int)) (m := p_1) (R := RU8) U26 S5 rfl ⟨_, rfl⟩ ⟨_, rfl⟩ (by obtain ⟨ao, n, e, _⟩ := h1v_25; exact ⟨ao, n, e, rfl⟩) ⟨hb_23.1, hb_23.2.1, h2v_25⟩ h3v_25 (.inl rfl)) rfl ?_
  obtain ⟨av_25, cv_25', rfl⟩ := IsSlice.val hsv_25
  refine JA.val ⟨by kernel_rfl, by kernel_rfl⟩ (ZI _) (i := 13) rfl ⟨by kernel_rfl, by kernel_rfl, rfl⟩ trivial (ZJ (Hle.refl _) ⟨⟨0, rfl⟩, trivial⟩) (ZG rfl) rfl ?_
  obtain ⟨m_26, hm_28, hb_27, hx⟩ := slc_some hx
  obtain ⟨vv_29, cv_29, h1v_29, h2v_29, h3v_29, hsv_29⟩ := IsSlice.cutv ha_2 hm_28 hb_27
  refine JA.val ⟨by kernel_rfl, by kernel_rfl⟩ (ZI _) (i := 14) rfl ⟨by kernel_rfl, by kernel_rfl, rfl⟩ trivial (ZJ (Hle.refl _) ⟨⟨0, rfl⟩, trivial⟩) (R.slc (cap := cv_29) (a := 12) (b := 16) (c := (cv_29 : Int)) (m := p_1) (R := RU8) U26 S5 rfl ⟨_, rfl⟩ ⟨_, rfl⟩ (by obtain ⟨ao, n, e, _⟩ := h1v_29; exact ⟨ao, n, e, rfl⟩) ⟨hb_27.1, hb_27.2.1, h2v_29⟩ h3v_29 (.inl rfl)) rfl ?_
  obtain ⟨av_29, cv_29', rfl⟩ := IsSlice.val hsv_29
  refine JAA.start [⟨17, 4, 31, .agg #[.int .i64 0, .int .u32 0, .int .u32 0, .int .u32 0, .int .u32 0]⟩] rfl (JAA.one (i := 6) ⟨⟨_, _, _, rfl, Z31, rfl⟩, trivial⟩ (Hle.refl _) ⟨⟨0, rfl⟩, trivial⟩ rfl (by kernel_rfl) (JOA.step rfl trivial rfl (fun tl_30 to_31 K hK => ?_)))
  obtain ⟨x_32, hr_33, hx⟩ := ZM hx
  refine ZR (vs := [_]) (args := [_]) (K := []) (rst := _ :: to_31) E131 rfl rfl rfl ZL (ref10_Get_ok m_14 _ hsv_17 _ hr_33) rfl (fun u_34 Ku_34 Hu_34 hRu_34 hleu_34 hfu_34 => ?_)
  obtain ⟨rfl, rfl, rfl, -⟩ := hRu_34
  refine ZD (hK (by repeat constructor) (by repeat constructor) (ZJ (Hle.refl _) ⟨⟨0, rfl⟩, trivial⟩) (JAA.one (i := 9) ⟨⟨_, _, _, rfl, Z31, rfl⟩, trivial⟩ (Hle.refl _) ⟨⟨0, rfl⟩, trivial⟩ rfl (by kernel_rfl) (JOA.step rfl trivial rfl (fun tl_35 to_36 K hK => ?_))))
  obtain ⟨x_37, hr_38, hx⟩ := ZM hx
  refine ZR (vs := [_]) (args := [_]) (K := []) (rst := _ :: to_36) E131 rfl rfl rfl ZL (ref10_Get_ok m_18 _ hsv_21 _ hr_38) rfl (fun u_39 Ku_39 Hu_39 hRu_39 hleu_39 hfu_39 => ?_)
  obtain ⟨rfl, rfl, rfl, -⟩ := hRu_39
  refine ZD (hK (by repeat constructor) (by repeat constructor) (ZJ (Hle.refl _) ⟨⟨0, rfl⟩, trivial⟩) (JAA.one (i := 12) ⟨⟨_, _, _, rfl, Z31, rfl⟩, trivial⟩ (Hle.refl _) ⟨⟨0, rfl⟩, trivial⟩ rfl (by kernel_rfl) (JOA.step rfl trivial rfl (fun tl_40 to_41 K hK => ?_))))
  obtain ⟨x_42, hr_43, hx⟩ := ZM hx
  refine ZR (vs := [_]) (args := [_]) (K := []) (rst := _ :: to_41) E131 rfl rfl rfl ZL (ref10_Get_ok m_22 _ hsv_25 _ hr_43) rfl (fun u_44 Ku_44 Hu_44 hRu_44 hleu_44 hfu_44 => ?_)
  obtain ⟨rfl, rfl, rfl, -⟩ := hRu_44
  refine ZD (hK (by repeat constructor) (by repeat constructor) (ZJ (Hle.refl _) ⟨⟨0, rfl⟩, trivial⟩) (JAA.one (i := 15) ⟨⟨_, _, _, rfl, Z31, rfl⟩, trivial⟩ (Hle.refl _) ⟨⟨0, rfl⟩, trivial⟩ rfl (by kernel_rfl) (JOA.step rfl trivial rfl (fun tl_45 to_46 K hK => ?_))))
  obtain ⟨x_47, hr_48, hx⟩ := ZM hx
  refine ZR (vs := [_]) (args := [_]) (K := []) (rst := _ :: to_46) E131 rfl rfl rfl ZL (ref10_Get_ok m_26 _ hsv_29 _ hr_48) rfl (fun u_49 Ku_49 Hu_49 hRu_49 hleu_49 hfu_49 => ?_)
  obtain ⟨rfl, rfl, rfl, -⟩ := hRu_49
  refine ZD (hK (by repeat constructor) (by repeat constructor) (ZJ (Hle.refl _) ⟨⟨0, rfl⟩, trivial⟩) (JAA.val ⟨by kernel_rfl, by kernel_rfl⟩ (ZI _) (i := 16) rfl (by kernel_rfl) rfl trivial (Hle.refl _) ⟨⟨0, rfl⟩, trivial⟩ (YB (vs := [(0, .int .i64 (y_5.toNat : Int)), (1, .int .u32 (x_32.toNat : Int)), (2, .int .u32 (x_37.toNat : Int)), (3, .int .u32 (x_42.toNat : Int)), (4, .int .u32 (x_47.toNat : Int))]) (cs := [.int .i64 (y_5.toNat : Int), .int .u32 (x_32.toNat : Int), .int .u32 (x_37.toNat : Int), .int .u32 (x_42.toNat : Int), .int .u32 (x_47.toNat : Int)]) Z31 B31 rfl rfl rfl) rfl (JAA.all ⟨⟨_, _, _, rfl, Z31, rfl⟩, trivial⟩ (Hle.refl _) ⟨⟨0, rfl⟩, trivial⟩ rfl (by kernel_rfl) (fun b_50 hb_50 => JA.one (i := 18) (by kernel_rfl) (JO.step rfl trivial rfl (fun K hK => ZV 1 S31 rfl rfl rfl rfl rfl (Nat.le_of_ble_eq_true rfl) (ZD (hK _ _ _ (ZJ (Hle.refl _) ⟨⟨0, rfl⟩, trivial⟩) (Zz (by kernel_rfl) (ZC (ZF ?_)))))))))))
  refine ZF (ZB (ZA rfl rfl (Zg 1 (vs := [.int .i64 (y_5.toNat : Int), .int .u32 (x_32.toNat : Int), .int .u32 (x_37.toNat : Int), .int .u32 (x_42.toNat : Int), .int .u32 (x_47.toNat : Int)]) S31 rfl rfl rfl rfl) ?_))
  obtain ⟨x_51, hr_52, hx⟩ := ZM hx
  refine ZR (vs := [_]) (args := [_]) (K := []) (rst := [_, _]) E51 rfl rfl rfl ZL (ref10_May_ok (Ptr.mk (y_5.toNat : Int) x_32 x_37 x_42 x_47) _ _ hr_52) rfl (fun u_53 Ku_53 Hu_53 hRu_53 hleu_53 hfu_53 => ?_)
  obtain ⟨rfl, rfl, rfl, -⟩ := hRu_53
  refine ZA rfl rfl (R.not rfl) (ZD (ZC (ZW rfl (fun c_54 => ?_) (fun c_54 => ?_))))
  ·
   replace hx := ZT c_54 hx
   refine ZF (ZB (ZA rfl rfl (YB (vs := []) (cs := [.int .i64 0, .int .u32 ((0 : UInt32).toNat : Int), .int .u32 ((0 : UInt32).toNat : Int), .int .u32 ((0 : UInt32).toNat : Int), .int .u32 ((0 : UInt32).toNat : Int)]) Z31 B31 rfl rfl rfl) (ZV 0 S31 rfl rfl rfl rfl rfl (Nat.le_of_ble_eq_true rfl) (ZA rfl rfl (ZE rfl) (ZD (ZC (ZS (ZP (ZQ (vs := [.agg #[.int .i64 0, .int .u32 ((0 : UInt32).toNat : Int), .int .u32 ((0 : UInt32).toNat : Int), .int .u32 ((0 : UInt32).toNat : Int), .int .u32 ((0 : UInt32).toNat : Int)], .int .i64 8]) (K := []) (rst := [_, _]) (.inl rfl) rfl rfl (Zn 0 rfl rfl S31 (ZO rfl rfl)) ZL ?_)))))))))
   obtain rfl := Option.some.inj hx
   exact ⟨rfl, rfl, rfl, trivial⟩
  ·
   replace hx := ZU c_54 hx
   refine ZX (ZC (ZF (ZB (ZA rfl rfl (Zg 1 (vs := [.int .i64 (y_5.toNat : Int), .int .u32 (x_32.toNat : Int), .int .u32 (x_37.toNat : Int), .int .u32 (x_42.toNat : Int), .int .u32 (x_47.toNat : Int)]) S31 rfl rfl rfl rfl) (ZV 0 S31 rfl rfl rfl rfl rfl (Nat.le_of_ble_eq_true rfl) (ZA rfl rfl (ZE rfl) (ZD (ZC (ZS (ZQ (vs := [.agg #[.int .i64 (y_5.toNat : Int), .int .u32 (x_32.toNat : Int), .int .u32 (x_37.toNat : Int), .int .u32 (x_42.toNat : Int), .int .u32 (x_47.toNat : Int)], .int .i64 0]) (K := []) (rst := [_, _]) (.inl rfl) rfl rfl (Zn 0 rfl rfl S31 (ZO rfl rfl)) ZL ?_))))))))))
   obtain rfl := Option.some.inj hx
   exact ⟨rfl, rfl, rfl, trivial⟩

set_option maxHeartbeats 8000000 in
theorem ref10_Rows_ok (p_1 : List UInt8) (H : Heaplet) {aa_2 : Option Addr} {na_2 : Nat} {ca_2 : Nat} (ha_2 : IsSlice H RU8 1 (.slice aa_2 na_2 ca_2) p_1) (r : List Ptr × Int) (hx : ref10_Rows p_1 = some r) :
  Does Tryz.prog 63 #[.slice aa_2 na_2 ca_2] [] H (fun u K' H' => ∃ ao0 : Option Addr, ∃ n0 : Nat, ∃ cap0 : Nat, ∃ K0 : Own, u = .tuple #[.slice ao0 n0 cap0, .int .i64 r.2] ∧ K' = [K0] ∧ H = H' ∧ RowOf (New H H) R_Ptr 0 31 5 (.slice ao0 n0 cap0) r.1 K0 ∧ (∀ p ∈ K0, p.1 ∉ ids (List.flatten [])) ∧ True) := by
 refine Does.enterL (vs := [.slice aa_2 na_2 ca_2]) (l := [(0, .slice aa_2 na_2 ca_2)]) Tryz.func63 rfl rfl ⟨rfl, trivial⟩ (fun w hlt => ?_)
 unfold ref10_Rows at hx
 refine ZF (ZB (ZA rfl rfl (ZE rfl) (ZA rfl rfl (ZE rfl) (ZD (ZC (ZF (ZF (ZB (ZA rfl rfl (ZG rfl) (ZA rfl rfl (Zs U26 rfl (IsSlice.long ha_2)) (ZA rfl rfl (Zx rfl rfl) ?_)))))))))))
 refine ZD (ZC (ZW rfl (fun c_3 => ?_) (fun c_3 => ?_)))
 ·
  replace hx := ZT c_3 hx
  refine ZF (ZB (ZA rfl rfl (ZE rfl) (ZA rfl rfl (ZE rfl) (ZD (ZC (ZS (ZP (Z8 (ZQ (vs := [.slice none 0 0, .int .i64 3]) (K := [_]) (rst := []) (.inl rfl) rfl rfl (ZO rfl (ZO rfl rfl)) (Zf 0 rfl ZL) ?_)))))))))
  obtain rfl := Option.some.inj hx
  exact ⟨none, 0, 0, [], rfl, rfl, rfl, (Zi _ _ _ _ _), (fun p hp => by cases hp), trivial⟩
 ·
  replace hx := ZU c_3 hx
  refine ZX (ZC (ZF (ZB (ZA rfl rfl (ZE rfl) (ZD (ZC (ZF (ZF (ZB (ZA rfl rfl (ZE rfl) (ZD ?_)))))))))))
  refine ZC ?_
  obtain ⟨t_4, ht_6, hx⟩ := ZM hx
  refine Z1 (fun l o g => ∃ t_4a : List Ptr, ∃ ar_11 : Option Addr, ∃ nr_11 : Nat, ∃ cr_11 : Nat, ∃ Kr_11 : Own, l = [(4, .slice ar_11 nr_11 cr_11)] ∧ o = [Kr_11] ∧ H = g ∧ t_4 = .inl t_4a ∧ RowOf (New H H) R_Ptr w.heap.size 31 5 (.slice ar_11 nr_11 cr_11) t_4a Kr_11) ?_ ?_
  ·
   rintro _ _ _ ⟨t_4a, ar_11, nr_11, cr_11, Kr_11, rfl, rfl, rfl, rfl, hr_11⟩
   simp only [Sum.elim_inl] at hx
   refine ZC (ZF (ZB (ZA rfl rfl (ZG rfl) (ZA rfl rfl (ZE rfl) (ZA rfl rfl (ZE rfl) (ZD (ZC (ZS (ZQ (vs := [.slice ar_11 nr_11 cr_11, .int .i64 0]) (K := [_]) (rst := []) (.inl rfl) rfl rfl (ZO rfl (ZO rfl rfl)) (Zf 0 rfl ZL) ?_)))))))))
   obtain rfl := Option.some.inj hx
   exact ⟨ar_11, nr_11, cr_11, Kr_11, rfl, rfl, rfl, (Zt (Nat.zero_le _) hr_11), (new_ids hr_11 hlt), trivial⟩
  ·
   have hxo_5 := hx; clear hx; have hx := ht_6; clear ht_6
   refine JC.block (JC.seg0 (Z5 (fun n l o g => ∃ s_7 : List Ptr × Nat, ∃ ar_10 : Option Addr, ∃ nr_10 : Nat, ∃ cr_10 : Nat, ∃ Kr_10 : Own, l = [(0, .slice aa_2 na_2 ca_2), (4, .slice ar_10 nr_10 cr_10), (5, .int .i64 ((s_7.2 : Nat) : Int))] ∧ o = [Kr_10] ∧ H = g ∧ run (ref10_Rows_l1 p_1) n s_7 = some t_4 ∧ RowOf (New H H) R_Ptr w.heap.size 31 5 (.slice ar_10 nr_10 cr_10) s_7.1 Kr_10) FUEL ?_ ⟨(([] : List Ptr), 0), none, 0, 0, [], rfl, rfl, rfl, hx, (Zi _ _ _ _ _)⟩ ⟨rfl, rfl, rfl, trivial⟩ ?_))
   ·
    rintro _ _ _ ⟨s_7, ar_10, nr_10, cr_10, Kr_10, rfl, rfl, rfl, hn_8, hr_10⟩
    exact Z2 hn_8
   ·
    rintro n_9 _ _ _ ⟨s_7, ar_10, nr_10, cr_10, Kr_10, rfl, rfl, rfl, hn_8, hr_10⟩
    clear hx; obtain ⟨oo_12, hx, hd_11⟩ := Z4 hn_8
    unfold ref10_Rows_l1 at hx
    refine ZF (ZF (ZB (ZA rfl rfl (ZG rfl) (ZA rfl rfl (Zy rfl rfl) (ZD (ZC (ZW rfl (fun c_11 => ?_) (fun c_11 => ?_))))))))
    ·
     replace hx := ZT c_11 hx
     refine ZX (ZC (ZF (JC.block (ZF (ZB (ZA rfl rfl (ZG rfl) (ZA rfl rfl (ZG rfl) (ZA rfl rfl (R.mul_i rfl rfl) (ZA rfl rfl (ZG rfl) (ZA rfl rfl (R.mul_i rfl rfl) (ZA rfl rfl (YA rfl rfl) ?_)))))))))))
     obtain ⟨m_12, hm_14, hb_13, hx⟩ := slc_some hx
     obtain ⟨vv_15, cv_15, h1v_15, h2v_15, h3v_15, hsv_15⟩ := IsSlice.cutv ha_2 hm_14 hb_13
     refine ZA rfl rfl (R.slc (cap := cv_15) (a := w64 (16 * ((s_7.2 : Nat) : Int))) (b := w64 ((w64 (16 * ((s_7.2 : Nat) : Int))) + 16)) (c := (cv_15 : Int)) (m := p_1) (R := RU8) U26 S5 rfl ⟨_, rfl⟩ ⟨_, rfl⟩ (by obtain ⟨ao, n, e, _⟩ := h1v_15; exact ⟨ao, n, e, rfl⟩) ⟨hb_13.1, hb_13.2.1, h2v_15⟩ h3v_15 (.inl rfl)) ?_
     obtain ⟨av_15, cv_15', rfl⟩ := IsSlice.val hsv_15
     obtain ⟨x_16, hr_17, hx⟩ := ZM hx
     refine ZR (vs := [_]) (args := [_]) (K := []) (rst := [_]) E98 rfl rfl rfl ZL (ref10_Read_ok m_12 _ hsv_15 _ hr_17) rfl (fun u_18 Ku_18 Hu_18 hRu_18 hleu_18 hfu_18 => ?_)
     obtain ⟨rfl, rfl, rfl, -⟩ := hRu_18
     refine ZA rfl rfl (ZG rfl) (ZA rfl rfl (R.extract rfl rfl) (ZA rfl rfl (R.extract rfl rfl) (JL.alloc Z31 rfl (fun b_19 hb_19 => ZV 0 S31 rfl rfl rfl rfl rfl (Nat.le_of_ble_eq_true rfl) (ZA rfl rfl (ZE rfl) (ZD (ZC (ZF (ZF (ZB (ZA rfl rfl (ZG rfl) ?_)))))))))))
     refine ZA rfl rfl (Zx rfl rfl) (ZD (ZC (ZW rfl (fun c_20 => ?_) (fun c_20 => ?_))))
     ·
      replace hx := ZT c_20 hx
      refine ZF (ZB (ZA rfl rfl (ZG rfl) (ZA rfl rfl (ZE rfl) (ZA rfl rfl (ZE rfl) (ZD (ZC (ZS (ZP (Z9 (ZP ?_))))))))))
      obtain rfl := Zr hd_11 hx
      refine ZP (Z9 ?_)
      clear hx; have hx := hxo_5
      simp only [Sum.elim_inl, Sum.elim_inr] at hx
      refine ZP (ZP (Z8 (ZQ (vs := [.slice none 0 0, .int .i64 x_16.2]) (K := [_]) (rst := [_, _]) (.inl rfl) rfl rfl (ZO rfl (ZO rfl rfl)) (Zf 0 rfl ZL) ?_)))
      obtain rfl := Option.some.inj hx
      exact ⟨none, 0, 0, [], rfl, rfl, rfl, (Zi _ _ _ _ _), (fun p hp => by cases hp), trivial⟩
     ·
      replace hx := ZU c_20 hx
      refine ZX (ZC (ZB (ZA rfl rfl (ZG rfl) (ZA rfl rfl (Zg 0 (vs := [.int .i64 x_16.1.At, .int .u32 (x_16.1.Birth.toNat : Int), .int .u32 (x_16.1.Iv.toNat : Int), .int .u32 (x_16.1.Tag.toNat : Int), .int .u32 (x_16.1.Sum.toNat : Int)]) S31 rfl rfl rfl rfl) (JL.bslF (HF := (New H H)) (R := R_Ptr) (ls := [x_16.1]) (vs := [.agg #[.int .i64 x_16.1.At, .int .u32 (x_16.1.Birth.toNat : Int), .int .u32 (x_16.1.Iv.toNat : Int), .int .u32 (x_16.1.Tag.toNat : Int), .int .u32 (x_16.1.Sum.toNat : Int)]]) U34 I31 rfl rfl (⟨_, _, rfl, rfl, rfl, rfl⟩) R_Ptr.one rfl rfl rfl (by simp [maxLen]) rfl (fun vr_21 Kr_21 hr_21 => ?_))))))
      obtain ⟨ar_21, cr_21, rfl⟩ := RowOf.val hr_21
      obtain ⟨q_22, hm_23, hl_24, hx⟩ := YC hx
      refine JL.appF (HF := (New H H)) 2 U34 I31 rfl rfl hr_10 rfl (SrcF.row 0 U34 rfl hr_21) hm_23 hl_24 rfl (Nat.le_refl _) rfl (fun vr_25 Kr_25 hr_25 => ?_)
      obtain ⟨ar_25, cr_25, rfl⟩ := RowOf.val hr_25
      refine ZA rfl rfl (ZE rfl) (ZD (Zm (ZC (ZB (ZA rfl rfl (ZG rfl) (ZA rfl rfl (R.inc rfl rfl (of_decide_eq_true c_11) (by decide)) (ZA rfl rfl (ZE rfl) (ZD ?_))))))))
      replace hx := Zp hd_11 hx
      refine JN.forget 1 (JN.forget 0 ?_)
      exact ZZ ⟨(q_22, s_7.2 + 1), ar_25, q_22.length, cr_25, Kr_25, rfl, rfl, rfl, hx, hr_25⟩ ⟨rfl, rfl, rfl, trivial⟩ rfl rfl
    ·
     replace hx := ZU c_11 hx
     refine Z0 (Zc ?_)
     obtain rfl := Zr hd_11 hx
     refine Zc (Zh ?_)
     exact ZZ ⟨s_7.1, ar_10, nr_10, cr_10, Kr_10, rfl, rfl, rfl, rfl, hr_10⟩ ⟨rfl, trivial⟩ rfl rfl
end Go.Proofs.YtdoebbgjjlicjaaGreat
