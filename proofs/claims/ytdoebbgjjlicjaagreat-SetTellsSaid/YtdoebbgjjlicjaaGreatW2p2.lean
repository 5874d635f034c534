import Derived.Test.YtdoebbgjjlicjaaGreatW2p1
/- walks: what the code computes, function by function. -/
namespace Go.Proofs.YtdoebbgjjlicjaaGreat
open Go.Ow Go.RowKit Go.Proofs
set_option linter.unusedVariables false
set_option linter.unusedSimpArgs false
set_option maxHeartbeats 8000000 in
theorem ref15_Row_ok (p_1 : Store) (p_5 : Ptr) (H : Heaplet) {aa_2 : Option Addr} {na_2 : Nat} {ca_2 : Nat} {aa_3 : Option Addr} {na_3 : Nat} {ca_3 : Nat} {aa_4 : Option Addr} {na_4 : Nat} {ca_4 : Nat} (ha_2 : IsSlice H (RSl RU8 1) 1 (.slice aa_2 na_2 ca_2) p_1.Disk.Blocks) (ha_3 : IsSlice H R_Write 2 (.slice aa_3 na_3 ca_3) p_1.Disk.Waits) (ha_4 : IsSlice H RU8 1 (.slice aa_4 na_4 ca_4) p_1.Space) (r : List Ptr × Int) (hx : ref15_Row p_1 p_5 = some r) :
  Does Tryz.prog 32 #[.agg #[.slice aa_2 na_2 ca_2, .slice aa_3 na_3 ca_3, .slice aa_4 na_4 ca_4, .int .u32 (p_1.Epoch.toNat : Int), .int .u32 (p_1.Count.toNat : Int)], .agg #[.int .i64 p_5.At, .int .u32 (p_5.Birth.toNat : Int), .int .u32 (p_5.Iv.toNat : Int), .int .u32 (p_5.Tag.toNat : Int), .int .u32 (p_5.Sum.toNat : Int)]] [] H (fun u K' H' => ∃ ao0 : Option Addr, ∃ n0 : Nat, ∃ cap0 : Nat, ∃ K0 : Own, u = .tuple #[.slice ao0 n0 cap0, .int .i64 r.2] ∧ K' = [K0] ∧ H = H' ∧ RowOf (New H H) R_Ptr 0 31 5 (.slice ao0 n0 cap0) r.1 K0 ∧ (∀ p ∈ K0, p.1 ∉ ids (List.flatten [])) ∧ True) := by
 refine Does.enterL (vs := [.agg #[.slice aa_2 na_2 ca_2, .slice aa_3 na_3 ca_3, .slice aa_4 na_4 ca_4, .int .u32 (p_1.Epoch.toNat : Int), .int .u32 (p_1.Count.toNat : Int)], .agg #[.int .i64 p_5.At, .int .u32 (p_5.Birth.toNat : Int), .int .u32 (p_5.Iv.toNat : Int), .int .u32 (p_5.Tag.toNat : Int), .int .u32 (p_5.Sum.toNat : Int)]]) (l := [(0, .agg #[.slice aa_2 na_2 ca_2, .slice aa_3 na_3 ca_3, .slice aa_4 na_4 ca_4, .int .u32 (p_1.Epoch.toNat : Int), .int .u32 (p_1.Count.toNat : Int)]), (1, .agg #[.int .i64 p_5.At, .int .u32 (p_5.Birth.toNat : Int), .int .u32 (p_5.Iv.toNat : Int), .int .u32 (p_5.Tag.toNat : Int), .int .u32 (p_5.Sum.toNat : Int)])]) Tryz.func32 rfl rfl ⟨rfl, rfl, trivial⟩ (fun w hlt => ?_)
 unfold ref15_Row at hx
 refine ZF (ZB (Zv rfl rfl (fun b_6 hb_6 => Zv rfl rfl (fun b_7 hb_7 => ZA rfl rfl (ZE rfl) (ZA rfl rfl (ZE rfl) (ZD (ZC (ZF (ZF (ZB (ZA rfl rfl (Zg 0 (vs := [.int .i64 p_5.At, .int .u32 (p_5.Birth.toNat : Int), .int .u32 (p_5.Iv.toNat : Int), .int .u32 (p_5.Tag.toNat : Int), .int .u32 (p_5.Sum.toNat : Int)]) S31 rfl rfl rfl rfl) ?_)))))))))))
 obtain ⟨x_8, hr_9, hx⟩ := ZM hx
 refine ZR (vs := [_]) (args := [_]) (K := []) (rst := [_, _]) E61 rfl rfl rfl ZL (ref10_None_ok p_5 _ _ hr_9) rfl (fun u_10 Ku_10 Hu_10 hRu_10 hleu_10 hfu_10 => ?_)
 obtain ⟨rfl, rfl, rfl, -⟩ := hRu_10
 refine ZD (ZC (ZW rfl (fun c_11 => ?_) (fun c_11 => ?_)))
 ·
  replace hx := ZT c_11 hx
  refine ZF (ZB ?_)
  obtain ⟨x_14, hm_13, hc_12, hx⟩ := mks_some hx
  refine JL.mkF (HF := New H H) (R := R_Ptr) (y := Ptr.mk 0 (0 : UInt32) (0 : UInt32) (0 : UInt32) (0 : UInt32)) (n := 16) U34 I31 rfl rfl (fun _ => rfl) R_Ptr.one hm_13 hc_12 rfl rfl (fun vr_15 Kr_15 hr_15 => ?_)
  obtain ⟨ar_15, cr_15, rfl⟩ := RowOf.val hr_15
  refine ZA rfl rfl (ZE rfl) (ZA rfl rfl (ZE rfl) (ZD (ZC (ZS (ZP (ZQ (vs := [.slice ar_15 x_14.length cr_15, .int .i64 0]) (K := [_]) (rst := [_, _]) (.inl rfl) rfl rfl (ZO rfl (ZO rfl rfl)) (Zf 0 rfl ZL) ?_))))))
  obtain rfl := Option.some.inj hx
  exact ⟨ar_15, x_14.length, cr_15, Kr_15, rfl, rfl, rfl, (Zt (Nat.zero_le _) hr_15), (new_ids hr_15 hlt), trivial⟩
 ·
  replace hx := ZU c_11 hx
  refine ZX (ZC (ZF (ZB (ZA rfl rfl (Zg 1 (vs := [.slice aa_2 na_2 ca_2, .slice aa_3 na_3 ca_3, .slice aa_4 na_4 ca_4, .int .u32 (p_1.Epoch.toNat : Int), .int .u32 (p_1.Count.toNat : Int)]) S29 rfl rfl rfl rfl) (ZA rfl rfl (Zg 0 (vs := [.int .i64 p_5.At, .int .u32 (p_5.Birth.toNat : Int), .int .u32 (p_5.Iv.toNat : Int), .int .u32 (p_5.Tag.toNat : Int), .int .u32 (p_5.Sum.toNat : Int)]) S31 rfl rfl rfl rfl) ?_)))))
  obtain ⟨x_16, hr_17, hx⟩ := ZM hx
  refine ZR (vs := [_, _]) (args := [_, _]) (K := []) (rst := [_, _]) E62 rfl rfl rfl ZL (ref13_Seen_ok p_1 p_5 _ ha_2 ha_3 ha_4 _ hr_17) rfl (fun u_18 Ku_18 Hu_18 hRu_18 hleu_18 hfu_18 => ?_)
  obtain ⟨ar_19, nr_19, cr_19, Kr_19, rfl, rfl, rfl, hr_19, hnewr_19, -⟩ := hRu_18
  replace hr_19 := (RowOf.base (Zo (H2 := New H H) RU8.const hr_19) (fun p hp => (hfu_18 p (Zw 0 rfl hp)).resolve_left (hnewr_19 p hp)))
  refine ZA rfl rfl (ZG rfl) (ZA rfl rfl (R.extract rfl rfl) (ZA rfl rfl (R.extract rfl rfl) (ZA rfl rfl (ZE rfl) (ZA rfl rfl (ZE rfl) (ZD (ZC (ZF (ZF (ZB (ZA rfl rfl (ZG rfl) (ZA rfl rfl (Zx rfl rfl) ?_)))))))))))
  refine ZD (ZC (ZW rfl (fun c_20 => ?_) (fun c_20 => ?_)))
  ·
   replace hx := ZT c_20 hx
   refine ZF (ZB (ZA rfl rfl (ZG rfl) (ZA rfl rfl (ZE rfl) (ZA rfl rfl (ZE rfl) (ZD (ZC (ZS (ZP (Z8 (ZQ (vs := [.slice none 0 0, .int .i64 x_16.2]) (K := [_]) (rst := [_, _, _]) (.inl rfl) rfl rfl (ZO rfl (ZO rfl rfl)) (Zf 0 rfl ZL) ?_))))))))))
   obtain rfl := Option.some.inj hx
   exact ⟨none, 0, 0, [], rfl, rfl, rfl, (Zi _ _ _ _ _), (fun p hp => by cases hp), trivial⟩
  ·
   replace hx := ZU c_20 hx
   refine ZX (ZC (ZF (ZB (ZA rfl rfl (ZG rfl) ?_))))
   obtain ⟨x_24, hr_25, hx⟩ := ZM hx
   refine JL.callL3 (vs := [_]) E63 rfl rfl (fun H_23 hle_22 hl_21 => ref10_Rows_ok x_16.1 _ (Lent.row' 0 hl_21 RU8.mono hle_22 rfl (hr_19.old RU8.mono)) _ hr_25) rfl (fun _ _ _ _ hR_27 hf_28 => ?_)
   obtain ⟨ar_26, nr_26, cr_26, Kr_26, rfl, rfl, rfl, hr_26, -, -⟩ := hR_27
   replace hr_26 := RowOf.base (Zo (H2 := New H H) R_Ptr.const hr_26) (fun p hp => hf_28 p (Zw 0 rfl hp))
   refine ZA rfl rfl (ZG rfl) (ZA rfl rfl (R.extract rfl rfl) (ZA rfl rfl (R.extract rfl rfl) (ZA rfl rfl (ZE rfl) (ZA rfl rfl (ZE rfl) (ZD (ZC (ZF (ZF (ZB (ZA rfl rfl (ZG rfl) (ZA rfl rfl (Zx rfl rfl) ?_)))))))))))
   refine ZD (ZC (ZW rfl (fun c_29 => ?_) (fun c_29 => ?_)))
   ·
    replace hx := ZT c_29 hx
    refine ZF (ZB (ZA rfl rfl (ZE rfl) (ZA rfl rfl (ZE rfl) (ZD (ZC (ZS (ZP (Z8 (ZQ (vs := [.slice none 0 0, .int .i64 8]) (K := [_]) (rst := [_, _, _, _]) (.inl rfl) rfl rfl (ZO rfl (ZO rfl rfl)) (Zf 0 rfl ZL) ?_)))))))))
    obtain rfl := Option.some.inj hx
    exact ⟨none, 0, 0, [], rfl, rfl, rfl, (Zi _ _ _ _ _), (fun p hp => by cases hp), trivial⟩
   ·
    replace hx := ZU c_29 hx
    refine ZX (ZC (ZF (ZB (ZA rfl rfl (ZG rfl) (ZA rfl rfl (ZE rfl) (ZA rfl rfl (ZE rfl) (ZD (ZC (ZS (ZQ (vs := [.slice ar_26 nr_26 cr_26, .int .i64 0]) (K := [_]) (rst := [_, _, _]) (.inl rfl) rfl rfl (ZO rfl (ZO rfl rfl)) (Zf 0 rfl ZL) ?_))))))))))
    obtain rfl := Option.some.inj hx
    exact ⟨ar_26, nr_26, cr_26, Kr_26, rfl, rfl, rfl, (Zt (Nat.zero_le _) hr_26), (new_ids hr_26 hlt), trivial⟩

set_option maxHeartbeats 8000000 in
theorem ref15_Ptrs_ok (p_1 : Store) (p_5 : Ptr) (H : Heaplet) {aa_2 : Option Addr} {na_2 : Nat} {ca_2 : Nat} {aa_3 : Option Addr} {na_3 : Nat} {ca_3 : Nat} {aa_4 : Option Addr} {na_4 : Nat} {ca_4 : Nat} (ha_2 : IsSlice H (RSl RU8 1) 1 (.slice aa_2 na_2 ca_2) p_1.Disk.Blocks) (ha_3 : IsSlice H R_Write 2 (.slice aa_3 na_3 ca_3) p_1.Disk.Waits) (ha_4 : IsSlice H RU8 1 (.slice aa_4 na_4 ca_4) p_1.Space) (r : List Ptr × Int) (hx : ref15_Ptrs p_1 p_5 = some r) :
  Does Tryz.prog 9 #[.agg #[.slice aa_2 na_2 ca_2, .slice aa_3 na_3 ca_3, .slice aa_4 na_4 ca_4, .int .u32 (p_1.Epoch.toNat : Int), .int .u32 (p_1.Count.toNat : Int)], .agg #[.int .i64 p_5.At, .int .u32 (p_5.Birth.toNat : Int), .int .u32 (p_5.Iv.toNat : Int), .int .u32 (p_5.Tag.toNat : Int), .int .u32 (p_5.Sum.toNat : Int)]] [] H (fun u K' H' => ∃ ao0 : Option Addr, ∃ n0 : Nat, ∃ cap0 : Nat, ∃ K0 : Own, u = .tuple #[.slice ao0 n0 cap0, .int .i64 r.2] ∧ K' = [K0] ∧ H = H' ∧ RowOf (New H H) R_Ptr 0 31 5 (.slice ao0 n0 cap0) r.1 K0 ∧ (∀ p ∈ K0, p.1 ∉ ids (List.flatten [])) ∧ True) := by
 refine Does.enterL (vs := [.agg #[.slice aa_2 na_2 ca_2, .slice aa_3 na_3 ca_3, .slice aa_4 na_4 ca_4, .int .u32 (p_1.Epoch.toNat : Int), .int .u32 (p_1.Count.toNat : Int)], .agg #[.int .i64 p_5.At, .int .u32 (p_5.Birth.toNat : Int), .int .u32 (p_5.Iv.toNat : Int), .int .u32 (p_5.Tag.toNat : Int), .int .u32 (p_5.Sum.toNat : Int)]]) (l := [(0, .agg #[.slice aa_2 na_2 ca_2, .slice aa_3 na_3 ca_3, .slice aa_4 na_4 ca_4, .int .u32 (p_1.Epoch.toNat : Int), .int .u32 (p_1.Count.toNat : Int)]), (1, .agg #[.int .i64 p_5.At, .int .u32 (p_5.Birth.toNat : Int), .int .u32 (p_5.Iv.toNat : Int), .int .u32 (p_5.Tag.toNat : Int), .int .u32 (p_5.Sum.toNat : Int)])]) Tryz.func9 rfl rfl ⟨rfl, rfl, trivial⟩ (fun w hlt => ?_)
 unfold ref15_Ptrs at hx
 refine ZF (ZB (Zv rfl rfl (fun b_6 hb_6 => Zv rfl rfl (fun b_7 hb_7 => ZA rfl rfl (ZE rfl) (ZA rfl rfl (ZE rfl) (ZD (ZC (ZF (ZF (ZB (ZA rfl rfl (Zg 1 (vs := [.slice aa_2 na_2 ca_2, .slice aa_3 na_3 ca_3, .slice aa_4 na_4 ca_4, .int .u32 (p_1.Epoch.toNat : Int), .int .u32 (p_1.Count.toNat : Int)]) S29 rfl rfl rfl rfl) ?_)))))))))))
 refine ZA rfl rfl (Zg 0 (vs := [.int .i64 p_5.At, .int .u32 (p_5.Birth.toNat : Int), .int .u32 (p_5.Iv.toNat : Int), .int .u32 (p_5.Tag.toNat : Int), .int .u32 (p_5.Sum.toNat : Int)]) S31 rfl rfl rfl rfl) ?_
 obtain ⟨x_8, hr_9, hx⟩ := ZM hx
 refine ZR (vs := [_, _]) (args := [_, _]) (K := []) (rst := [_, _]) E31 rfl rfl rfl ZL (ref15_may_ok p_1 p_5 _ ha_2 ha_3 ha_4 _ hr_9) rfl (fun u_10 Ku_10 Hu_10 hRu_10 hleu_10 hfu_10 => ?_)
 obtain ⟨rfl, rfl, rfl, -⟩ := hRu_10
 refine ZA rfl rfl (R.not rfl) (ZD (ZC (ZW rfl (fun c_11 => ?_) (fun c_11 => ?_))))
 ·
  replace hx := ZT c_11 hx
  refine ZF (ZB (ZA rfl rfl (ZE rfl) (ZA rfl rfl (ZE rfl) (ZD (ZC (ZS (ZP (Z8 (ZQ (vs := [.slice none 0 0, .int .i64 8]) (K := [_]) (rst := [_, _]) (.inl rfl) rfl rfl (ZO rfl (ZO rfl rfl)) (Zf 0 rfl ZL) ?_)))))))))
  obtain rfl := Option.some.inj hx
  exact ⟨none, 0, 0, [], rfl, rfl, rfl, (Zi _ _ _ _ _), (fun p hp => by cases hp), trivial⟩
 ·
  replace hx := ZU c_11 hx
  refine ZX (ZC (ZF (ZB (ZA rfl rfl (Zg 1 (vs := [.slice aa_2 na_2 ca_2, .slice aa_3 na_3 ca_3, .slice aa_4 na_4 ca_4, .int .u32 (p_1.Epoch.toNat : Int), .int .u32 (p_1.Count.toNat : Int)]) S29 rfl rfl rfl rfl) (ZA rfl rfl (Zg 0 (vs := [.int .i64 p_5.At, .int .u32 (p_5.Birth.toNat : Int), .int .u32 (p_5.Iv.toNat : Int), .int .u32 (p_5.Tag.toNat : Int), .int .u32 (p_5.Sum.toNat : Int)]) S31 rfl rfl rfl rfl) ?_)))))
  obtain ⟨x_12, hr_13, hx⟩ := ZM hx
  refine ZR (vs := [_, _]) (args := [_, _]) (K := []) (rst := [_, _]) E32 rfl rfl rfl ZL (ref15_Row_ok p_1 p_5 _ ha_2 ha_3 ha_4 _ hr_13) rfl (fun u_14 Ku_14 Hu_14 hRu_14 hleu_14 hfu_14 => ?_)
  obtain ⟨ar_15, nr_15, cr_15, Kr_15, rfl, rfl, rfl, hr_15, hnewr_15, -⟩ := hRu_14
  replace hr_15 := (RowOf.base (Zo (H2 := New H H) R_Ptr.const hr_15) (fun p hp => (hfu_14 p (Zw 0 rfl hp)).resolve_left (hnewr_15 p hp)))
  refine ZA rfl rfl (R.extract rfl rfl) (ZA rfl rfl (R.extract rfl rfl) (ZA rfl rfl (ZE rfl) (ZA rfl rfl (ZE rfl) (ZD (ZC (ZS (ZQ (vs := [.slice ar_15 nr_15 cr_15, .int .i64 x_12.2]) (K := [_]) (rst := [_, _]) (.inl rfl) rfl rfl (ZO rfl (ZO rfl rfl)) (Zf 0 rfl ZL) ?_)))))))
  obtain rfl := Option.some.inj hx
  exact ⟨ar_15, nr_15, cr_15, Kr_15, rfl, rfl, rfl, (Zt (Nat.zero_le _) hr_15), (new_ids hr_15 hlt), trivial⟩

set_option maxHeartbeats 8000000 in
theorem obj_Check_1_ok (p_1 : Int) (p_2 : Int) (p_3 : Int) (H : Heaplet) (r : Bool) (hx : obj_Check_1 p_1 p_2 p_3 = some r) :
  Does Tryz.prog 132 #[.int .i64 p_1, .int .i64 p_2, .int .i64 p_3] [] H (fun u K' H' => u = .bool r ∧ K' = [] ∧ H = H' ∧ True) := by
 refine Does.enterL (vs := [.int .i64 p_1, .int .i64 p_2, .int .i64 p_3]) (l := [(0, .int .i64 p_1), (1, .int .i64 p_2), (2, .int .i64 p_3)]) Tryz.func132 rfl rfl ⟨rfl, rfl, rfl, trivial⟩ (fun w hlt => ?_)
 unfold obj_Check_1 at hx
 refine ZF (ZB (ZA rfl rfl (ZE rfl) (ZD (ZC (ZF ?_)))))
 obtain ⟨t_4, ht_6, hx⟩ := ZM hx
 refine Z1 (fun l o g => l = [(6, .bool t_4)] ∧ o = [] ∧ H = g) ?_ ?_
 ·
  rintro _ _ _ ⟨rfl, rfl, rfl⟩
  refine ZC (ZS (ZQ (vs := [.bool t_4]) (K := []) (rst := []) (.inl rfl) rfl rfl (ZO rfl rfl) ZL ?_))
  obtain rfl := Option.some.inj hx
  exact ⟨rfl, rfl, rfl, trivial⟩
 ·
  have hxo_5 := hx; clear hx; have hx := ht_6; clear ht_6
  refine ZB (ZA rfl rfl (ZG rfl) (ZA rfl rfl (ZG rfl) (ZA rfl rfl (R.geq_i rfl rfl) (ZA rfl rfl (ZG rfl) (Ze (t := 10) rfl (fun c_7 => ?_) (fun c_7 => ?_))))))
  ·
   replace hx := ZT c_7 hx
   refine ZK rfl rfl rfl (ZA rfl rfl (ZG rfl) (ZK rfl rfl rfl (ZA rfl rfl (ZG rfl) (ZK rfl rfl rfl (ZA rfl rfl (R.leq_i rfl rfl) (ZA rfl rfl (Zb rfl rfl) (ZA rfl rfl (ZE rfl) (ZD ?_))))))))
   obtain rfl := Option.some.inj hx
   exact ZZ ⟨rfl, rfl, rfl⟩ ⟨rfl, trivial⟩ rfl rfl
  ·
   replace hx := ZU c_7 hx
   refine ZH rfl rfl rfl rfl rfl (ZH rfl rfl rfl rfl rfl (ZH rfl rfl rfl rfl rfl (ZA rfl rfl (Za rfl rfl) (ZA rfl rfl (ZE rfl) (ZD ?_)))))
   obtain rfl := Option.some.inj hx
   exact ZZ ⟨rfl, rfl, rfl⟩ ⟨rfl, trivial⟩ rfl rfl

set_option maxHeartbeats 8000000 in
theorem obj_Check_2_ok (p_1 : Ptr) (H : Heaplet) (r : Bool) (hx : obj_Check_2 p_1 = some r) :
  Does Tryz.prog 133 #[.agg #[.int .i64 p_1.At, .int .u32 (p_1.Birth.toNat : Int), .int .u32 (p_1.Iv.toNat : Int), .int .u32 (p_1.Tag.toNat : Int), .int .u32 (p_1.Sum.toNat : Int)]] [] H (fun u K' H' => u = .bool r ∧ K' = [] ∧ H = H' ∧ True) := by
 refine Does.enterL (vs := [.agg #[.int .i64 p_1.At, .int .u32 (p_1.Birth.toNat : Int), .int .u32 (p_1.Iv.toNat : Int), .int .u32 (p_1.Tag.toNat : Int), .int .u32 (p_1.Sum.toNat : Int)]]) (l := [(0, .agg #[.int .i64 p_1.At, .int .u32 (p_1.Birth.toNat : Int), .int .u32 (p_1.Iv.toNat : Int), .int .u32 (p_1.Tag.toNat : Int), .int .u32 (p_1.Sum.toNat : Int)])]) Tryz.func133 rfl rfl ⟨rfl, trivial⟩ (fun w hlt => ?_)
 unfold obj_Check_2 at hx
 refine ZF (ZB (Zv rfl rfl (fun b_2 hb_2 => ZA rfl rfl (ZE rfl) (ZD (ZC (ZF (ZB (ZA rfl rfl (Zg 0 (vs := [.int .i64 p_1.At, .int .u32 (p_1.Birth.toNat : Int), .int .u32 (p_1.Iv.toNat : Int), .int .u32 (p_1.Tag.toNat : Int), .int .u32 (p_1.Sum.toNat : Int)]) S31 rfl rfl rfl rfl) ?_))))))))
 obtain ⟨x_3, hr_4, hx⟩ := ZM hx
 refine ZR (vs := [_]) (args := [_]) (K := []) (rst := [_]) E28 rfl rfl rfl ZL (ptr_Check_ok p_1 _ _ hr_4) rfl (fun u_5 Ku_5 Hu_5 hRu_5 hleu_5 hfu_5 => ?_)
 obtain ⟨rfl, rfl, rfl, -⟩ := hRu_5
 refine ZA rfl rfl (Zx rfl rfl) (ZA rfl rfl (ZE rfl) (ZD (ZC (ZS (ZQ (vs := [.bool (!decide (x_3 = 0))]) (K := []) (rst := [_]) (.inl rfl) rfl rfl (ZO rfl rfl) ZL ?_)))))
 obtain rfl := Option.some.inj hx
 exact ⟨rfl, rfl, rfl, trivial⟩

set_option maxHeartbeats 8000000 in
theorem slices_IndexFunc_Ptr_ok (p_1 : List Ptr) (H : Heaplet) {aa_2 : Option Addr} {na_2 : Nat} {ca_2 : Nat} (ha_2 : IsSlice H R_Ptr 5 (.slice aa_2 na_2 ca_2) p_1) (r : Int) (hx : slices_IndexFunc_Ptr p_1 = some r) :
  Does Tryz.prog 112 #[.slice aa_2 na_2 ca_2, .func (.func 133) #[] #[]] [] H (fun u K' H' => u = .int .i64 r ∧ K' = [] ∧ H = H' ∧ True) := by
 refine Does.enterL (vs := [.slice aa_2 na_2 ca_2, .func (.func 133) #[] #[]]) (l := [(0, .slice aa_2 na_2 ca_2), (1, .func (.func 133) #[] #[])]) Tryz.func112 rfl rfl ⟨rfl, rfl, trivial⟩ (fun w hlt => ?_)
 unfold slices_IndexFunc_Ptr at hx
 refine ZF (ZB (ZA rfl rfl (ZE rfl) (ZD (ZC (ZF (ZF (ZB (ZA rfl rfl (ZG rfl) (ZA rfl rfl (Zs U34 rfl (IsSlice.long ha_2)) (ZA rfl rfl (ZG rfl) (ZD ?_)))))))))))
 refine ZC ?_
 obtain ⟨t_3, ht_5, hx⟩ := ZM hx
 refine Z1 (fun l o g => ∃ t_3a : Unit, l = [] ∧ o = [] ∧ H = g ∧ t_3 = .inl t_3a) ?_ ?_
 ·
  rintro _ _ _ ⟨t_3a, rfl, rfl, rfl, rfl⟩
  simp only [Sum.elim_inl] at hx
  refine ZC (ZF (ZB (ZA rfl rfl (ZE rfl) (ZD (ZC (ZS (ZQ (vs := [.int .i64 (-1)]) (K := []) (rst := []) (.inl rfl) rfl rfl (ZO rfl rfl) ZL ?_)))))))
  obtain rfl := Option.some.inj hx
  exact ⟨rfl, rfl, rfl, trivial⟩
 ·
  have hxo_4 := hx; clear hx; have hx := ht_5; clear ht_5
  refine JC.block (Z5 (fun n l o g => ∃ s_6 : Nat, l = [(0, .slice aa_2 na_2 ca_2), (1, .func (.func 133) #[] #[]), (7, .int .i64 (p_1.length : Int)), (8, .int .i64 ((s_6 : Nat) : Int))] ∧ o = [] ∧ H = g ∧ run (slices_IndexFunc_Ptr_l1 p_1) n s_6 = some t_3) FUEL ?_ ⟨0, rfl, rfl, rfl, hx⟩ ⟨rfl, rfl, rfl, rfl, trivial⟩ ?_)
  ·
   rintro _ _ _ ⟨s_6, rfl, rfl, rfl, hn_7⟩
   exact Z2 hn_7
  ·
   rintro n_8 _ _ _ ⟨s_6, rfl, rfl, rfl, hn_7⟩
   clear hx; obtain ⟨oo_10, hx, hd_9⟩ := Z4 hn_7
   unfold slices_IndexFunc_Ptr_l1 at hx
   refine ZF (ZB (ZA rfl rfl (Zy rfl rfl) (ZD (ZC (ZF (ZW rfl (fun c_9 => ?_) (fun c_9 => ?_)))))))
   ·
    replace hx := ZT c_9 hx
    refine ZX (ZC (ZF (JC.block (ZF (ZB (ZA rfl rfl (ZG rfl) (ZA rfl rfl (ZE rfl) (ZD (ZC (ZF (ZB ?_)))))))))))
    refine ZA rfl rfl (ZG rfl) (ZA rfl rfl (ZG rfl) (ZA rfl rfl (ZG rfl) ?_))
    obtain ⟨y_10, hN_11, hx⟩ := Zl hx
    obtain ⟨b_12, o_13, cs_14, hE_15, hR_16, hl_17, hc_18⟩ := IsSlice.elem ha_2 hN_11
    obtain rfl := hR_16
    refine ZA rfl rfl (R.ix U34 S31 rfl rfl hE_15) (ZA rfl rfl (R.ldHE (cs := [.int .i64 y_10.At, .int .u32 (y_10.Birth.toNat : Int), .int .u32 (y_10.Iv.toNat : Int), .int .u32 (y_10.Tag.toNat : Int), .int .u32 (y_10.Sum.toNat : Int)]) (k := 0) (vs := [.int .i64 y_10.At, .int .u32 (y_10.Birth.toNat : Int), .int .u32 (y_10.Iv.toNat : Int), .int .u32 (y_10.Tag.toNat : Int), .int .u32 (y_10.Sum.toNat : Int)]) S31 rfl hc_18 rfl rfl) ?_)
    obtain ⟨x_19, hr_20, hx⟩ := ZM hx
    refine ZR (vs := [_]) (args := [_]) (K := []) (rst := []) E133 rfl rfl rfl ZL (obj_Check_2_ok y_10 _ _ hr_20) rfl (fun u_21 Ku_21 Hu_21 hRu_21 hleu_21 hfu_21 => ?_)
    obtain ⟨rfl, rfl, rfl, -⟩ := hRu_21
    refine ZD (ZC (ZW rfl (fun c_22 => ?_) (fun c_22 => ?_)))
    ·
     replace hx := ZT c_22 hx
     refine ZF (ZB (ZA rfl rfl (ZG rfl) (ZA rfl rfl (ZE rfl) (ZD (ZC (ZS (Z9 (ZP ?_))))))))
     obtain rfl := Zr hd_9 hx
     refine ZP (Z9 ?_)
     clear hx; have hx := hxo_4
     simp only [Sum.elim_inl, Sum.elim_inr] at hx
     refine ZP (ZP (ZQ (vs := [.int .i64 ((s_6 : Nat) : Int)]) (K := []) (rst := []) (.inl rfl) rfl rfl (ZO rfl rfl) ZL ?_))
     obtain rfl := Option.some.inj hx
     exact ⟨rfl, rfl, rfl, trivial⟩
    ·
     replace hx := ZU c_22 hx
     refine ZX (Zm (ZC (ZB (ZA rfl rfl (R.inc rfl rfl (of_decide_eq_true c_9) (IsSlice.lenI ha_2)) (ZA rfl rfl (ZG rfl) (ZD ?_))))))
     replace hx := Zp hd_9 hx
     exact ZZ ⟨s_6 + 1, rfl, rfl, rfl, hx⟩ ⟨rfl, rfl, rfl, rfl, trivial⟩ rfl rfl
   ·
    replace hx := ZU c_9 hx
    refine Z0 (Zc ?_)
    obtain rfl := Zr hd_9 hx
    refine Zc (Zh ?_)
    exact ZZ ⟨(), rfl, rfl, rfl, rfl⟩ trivial rfl rfl

set_option maxHeartbeats 8000000 in
theorem slices_ContainsFunc_Ptr_ok (p_1 : List Ptr) (H : Heaplet) {aa_2 : Option Addr} {na_2 : Nat} {ca_2 : Nat} (ha_2 : IsSlice H R_Ptr 5 (.slice aa_2 na_2 ca_2) p_1) (r : Bool) (hx : slices_ContainsFunc_Ptr p_1 = some r) :
  Does Tryz.prog 80 #[.slice aa_2 na_2 ca_2, .func (.func 133) #[] #[]] [] H (fun u K' H' => u = .bool r ∧ K' = [] ∧ H = H' ∧ True) := by
 refine Does.enterL (vs := [.slice aa_2 na_2 ca_2, .func (.func 133) #[] #[]]) (l := [(0, .slice aa_2 na_2 ca_2), (1, .func (.func 133) #[] #[])]) Tryz.func80 rfl rfl ⟨rfl, rfl, trivial⟩ (fun w hlt => ?_)
 unfold slices_ContainsFunc_Ptr at hx
 refine ZF (ZB (ZA rfl rfl (ZE rfl) (ZD (ZC (ZF (ZB (ZA rfl rfl (ZG rfl) (ZA rfl rfl (ZG rfl) ?_))))))))
 obtain ⟨x_3, hr_4, hx⟩ := ZM hx
 refine ZR (vs := [_, _]) (args := [_, _]) (K := []) (rst := []) E112 rfl rfl rfl ZL (slices_IndexFunc_Ptr_ok p_1 _ ha_2 _ hr_4) rfl (fun u_5 Ku_5 Hu_5 hRu_5 hleu_5 hfu_5 => ?_)
 obtain ⟨rfl, rfl, rfl, -⟩ := hRu_5
 refine ZA rfl rfl (R.geq_i rfl rfl) (ZA rfl rfl (ZE rfl) (ZD (ZC (ZS (ZQ (vs := [.bool (decide (0 ≤ x_3))]) (K := []) (rst := []) (.inl rfl) rfl rfl (ZO rfl rfl) ZL ?_)))))
 obtain rfl := Option.some.inj hx
 exact ⟨rfl, rfl, rfl, trivial⟩

set_option maxHeartbeats 8000000 in
theorem obj_Check_ok (p_1 : Object) (H : Heaplet) {aa_2 : Option Addr} {na_2 : Nat} {ca_2 : Nat} (ha_2 : IsSlice H R_Ptr 5 (.slice aa_2 na_2 ca_2) p_1.Data) (r : Int) (hx : obj_Check p_1 = some r) :
  Does Tryz.prog 99 #[.agg #[.int .u8 (p_1.Kind.toNat : Int), .int .i64 p_1.Links, .int .i64 p_1.Size, .slice aa_2 na_2 ca_2]] [] H (fun u K' H' => u = .int .i64 r ∧ K' = [] ∧ H = H' ∧ True) := by
 refine Does.enterL (vs := [.agg #[.int .u8 (p_1.Kind.toNat : Int), .int .i64 p_1.Links, .int .i64 p_1.Size, .slice aa_2 na_2 ca_2]]) (l := [(0, .agg #[.int .u8 (p_1.Kind.toNat : Int), .int .i64 p_1.Links, .int .i64 p_1.Size, .slice aa_2 na_2 ca_2])]) Tryz.func99 rfl rfl ⟨rfl, trivial⟩ (fun w hlt => ?_)
 unfold obj_Check at hx
 refine ZF (ZB (Zv rfl rfl (fun b_3 hb_3 => ZA rfl rfl (ZE rfl) (ZD (ZC (ZF (ZB (ZA rfl rfl (ZE rfl) (ZD (ZC (ZF ?_)))))))))))
 refine ZB (ZA rfl rfl (ZE rfl) (ZD (ZC (ZF (ZF (ZB (ZA rfl rfl (ZG rfl) (ZA rfl rfl (Zq F41_0 rfl) (ZA rfl rfl (Zd 0 S5 rfl rfl rfl) (ZA rfl rfl (R.cv_u8_i64 (a := p_1.Kind) U5 U3 rfl) ?_))))))))))
 obtain ⟨x_4, hr_5, hx⟩ := ZM hx
 refine ZR (vs := [_, _, _]) (args := [_, _, _]) (K := []) (rst := [_]) E132 rfl rfl rfl ZL (obj_Check_1_ok (p_1.Kind.toNat : Int) 1 7 _ _ hr_5) rfl (fun u_6 Ku_6 Hu_6 hRu_6 hleu_6 hfu_6 => ?_)
 obtain ⟨rfl, rfl, rfl, -⟩ := hRu_6
 refine ZA rfl rfl (R.not rfl) (ZA rfl rfl (ZG rfl) (Ze (t := 11) rfl (fun c_7 => ?_) (fun c_7 => ?_)))
 ·
  replace hx := ZT c_7 hx
  refine ZH rfl rfl rfl rfl rfl (ZH rfl rfl rfl rfl rfl (ZH rfl rfl rfl rfl rfl (ZH rfl rfl rfl rfl rfl (ZH rfl rfl rfl rfl rfl (ZA rfl rfl (Zb rfl rfl) (ZA rfl rfl (ZG rfl) (ZH rfl rfl rfl rfl rfl (ZH rfl rfl rfl rfl rfl (ZH rfl rfl rfl rfl rfl (ZH rfl rfl rfl rfl rfl (ZH rfl rfl rfl rfl rfl ?_)))))))))))
  refine ZA rfl rfl (Zb rfl rfl) (ZA rfl rfl (ZG rfl) (ZH rfl rfl rfl rfl rfl (ZH rfl rfl rfl rfl rfl (ZH rfl rfl rfl rfl rfl (ZH rfl rfl rfl rfl rfl (ZA rfl rfl (Zb rfl rfl) (ZA rfl rfl (ZG rfl) (ZH rfl rfl rfl rfl rfl (ZH rfl rfl rfl rfl rfl (ZH rfl rfl rfl rfl rfl (ZH rfl rfl rfl rfl rfl ?_)))))))))))
  refine ZA rfl rfl (Zb rfl rfl) (ZD (ZC (Zu rfl (ZF (ZB (ZA rfl rfl (ZE rfl) (ZD (ZC (ZS (ZP (ZQ (vs := [.int .i64 8]) (K := []) (rst := [_]) (.inl rfl) rfl rfl (ZO rfl rfl) ZL ?_)))))))))))
  obtain rfl := Option.some.inj hx
  exact ⟨rfl, rfl, rfl, trivial⟩
 ·
  replace hx := ZU c_7 hx
  refine ZK rfl rfl rfl (ZA rfl rfl (ZG rfl) (ZK rfl rfl rfl (ZA rfl rfl (Zq F41_1 rfl) (ZK rfl rfl rfl (ZA rfl rfl (Zd 0 S3 rfl rfl rfl) (ZK rfl rfl rfl ?_))))))
  obtain ⟨x_8, hr_9, hx⟩ := ZM hx
  refine ZR (vs := [_, _, _]) (args := [_, _, _]) (K := []) (rst := [_]) E132 rfl rfl rfl ZL (obj_Check_1_ok p_1.Links 0 255 _ _ hr_9) rfl (fun u_10 Ku_10 Hu_10 hRu_10 hleu_10 hfu_10 => ?_)
  obtain ⟨rfl, rfl, rfl, -⟩ := hRu_10
  refine ZK rfl rfl rfl (ZA rfl rfl (R.not rfl) (ZA rfl rfl (Za rfl rfl) (ZA rfl rfl (ZG rfl) (Ze (t := 18) rfl (fun c_11 => ?_) (fun c_11 => ?_)))))
  ·
   replace hx := ZT c_11 hx
   refine ZH rfl rfl rfl rfl rfl (ZH rfl rfl rfl rfl rfl (ZH rfl rfl rfl rfl rfl (ZH rfl rfl rfl rfl rfl (ZH rfl rfl rfl rfl rfl (ZA rfl rfl (Zb rfl rfl) (ZA rfl rfl (ZG rfl) (ZH rfl rfl rfl rfl rfl (ZH rfl rfl rfl rfl rfl (ZH rfl rfl rfl rfl rfl (ZH rfl rfl rfl rfl rfl (ZA rfl rfl (Zb rfl rfl) ?_)))))))))))
   refine ZA rfl rfl (ZG rfl) (ZH rfl rfl rfl rfl rfl (ZH rfl rfl rfl rfl rfl (ZH rfl rfl rfl rfl rfl (ZH rfl rfl rfl rfl rfl (ZA rfl rfl (Zb rfl rfl) (ZD (ZC (Zu rfl (ZF (ZB (ZA rfl rfl (ZE rfl) ?_)))))))))))
   refine ZD (ZC (ZS (ZP (ZQ (vs := [.int .i64 8]) (K := []) (rst := [_]) (.inl rfl) rfl rfl (ZO rfl rfl) ZL ?_))))
   obtain rfl := Option.some.inj hx
   exact ⟨rfl, rfl, rfl, trivial⟩
  ·
   replace hx := ZU c_11 hx
   refine ZK rfl rfl rfl (ZA rfl rfl (ZG rfl) (ZK rfl rfl rfl (ZA rfl rfl (Zq F41_2 rfl) (ZK rfl rfl rfl (ZA rfl rfl (Zd 0 S3 rfl rfl rfl) (ZK rfl rfl rfl ?_))))))
   obtain ⟨x_12, hr_13, hx⟩ := ZM hx
   refine ZR (vs := [_, _, _]) (args := [_, _, _]) (K := []) (rst := [_]) E132 rfl rfl rfl ZL (obj_Check_1_ok p_1.Size 0 3840 _ _ hr_13) rfl (fun u_14 Ku_14 Hu_14 hRu_14 hleu_14 hfu_14 => ?_)
   obtain ⟨rfl, rfl, rfl, -⟩ := hRu_14
   refine ZK rfl rfl rfl (ZA rfl rfl (R.not rfl) (ZA rfl rfl (Za rfl rfl) (ZA rfl rfl (ZG rfl) (Ze (t := 25) rfl (fun c_15 => ?_) (fun c_15 => ?_)))))
   ·
    replace hx := ZT c_15 hx
    refine ZH rfl rfl rfl rfl rfl (ZH rfl rfl rfl rfl rfl (ZH rfl rfl rfl rfl rfl (ZH rfl rfl rfl rfl rfl (ZA rfl rfl (Zb rfl rfl) (ZA rfl rfl (ZG rfl) (ZH rfl rfl rfl rfl rfl (ZH rfl rfl rfl rfl rfl (ZH rfl rfl rfl rfl rfl (ZH rfl rfl rfl rfl rfl (ZA rfl rfl (Zb rfl rfl) (ZD ?_)))))))))))
    refine ZC (Zu rfl (ZF (ZB (ZA rfl rfl (ZE rfl) (ZD (ZC (ZS (ZP (ZQ (vs := [.int .i64 8]) (K := []) (rst := [_]) (.inl rfl) rfl rfl (ZO rfl rfl) ZL ?_)))))))))
    obtain rfl := Option.some.inj hx
    exact ⟨rfl, rfl, rfl, trivial⟩
   ·
    replace hx := ZU c_15 hx
    refine ZK rfl rfl rfl (ZA rfl rfl (Zq F41_3 rfl) (ZK rfl rfl rfl (ZA rfl rfl (Zd 0 S34 rfl rfl rfl) (ZK rfl rfl rfl (ZA rfl rfl (Zs U34 rfl (IsSlice.long ha_2)) (ZK rfl rfl rfl (ZA rfl rfl (Zx rfl rfl) (ZA rfl rfl (Za rfl rfl) (ZA rfl rfl (ZG rfl) (Ze (t := 31) rfl (fun c_16 => ?_) (fun c_16 => ?_)))))))))))
    ·
     replace hx := ZT c_16 hx
     refine ZH rfl rfl rfl rfl rfl (ZH rfl rfl rfl rfl rfl (ZH rfl rfl rfl rfl rfl (ZH rfl rfl rfl rfl rfl (ZA rfl rfl (Zb rfl rfl) (ZD (ZC (Zu rfl (ZF (ZB (ZA rfl rfl (ZE rfl) (ZD ?_)))))))))))
     refine ZC (ZS (ZP (ZQ (vs := [.int .i64 8]) (K := []) (rst := [_]) (.inl rfl) rfl rfl (ZO rfl rfl) ZL ?_)))
     obtain rfl := Option.some.inj hx
     exact ⟨rfl, rfl, rfl, trivial⟩
    ·
     replace hx := ZU c_16 hx
     refine ZK rfl rfl rfl (ZA rfl rfl (Zq F41_3 rfl) (ZK rfl rfl rfl (ZA rfl rfl (Zd 0 S34 rfl rfl rfl) (ZK rfl rfl rfl (ZA rfl rfl (ZG rfl) (ZK rfl rfl rfl ?_))))))
     obtain ⟨x_17, hr_18, hx⟩ := ZM hx
     refine ZR (vs := [_, _]) (args := [_, _]) (K := []) (rst := [_]) E80 rfl rfl rfl ZL (slices_ContainsFunc_Ptr_ok p_1.Data _ ha_2 _ hr_18) rfl (fun u_19 Ku_19 Hu_19 hRu_19 hleu_19 hfu_19 => ?_)
     obtain ⟨rfl, rfl, rfl, -⟩ := hRu_19
     refine ZA rfl rfl (Za rfl rfl) (ZD (ZC (ZW rfl (fun c_20 => ?_) (fun c_20 => ?_))))
     ·
      replace hx := ZT c_20 hx
      refine ZF (ZB (ZA rfl rfl (ZE rfl) (ZD (ZC (ZS (ZP (ZQ (vs := [.int .i64 8]) (K := []) (rst := [_]) (.inl rfl) rfl rfl (ZO rfl rfl) ZL ?_)))))))
      obtain rfl := Option.some.inj hx
      exact ⟨rfl, rfl, rfl, trivial⟩
     ·
      replace hx := ZU c_20 hx
      refine ZX (ZC (ZF (ZB (ZA rfl rfl (ZE rfl) (ZD (ZC (ZS (ZQ (vs := [.int .i64 0]) (K := []) (rst := [_]) (.inl rfl) rfl rfl (ZO rfl rfl) ZL ?_))))))))
      obtain rfl := Option.some.inj hx
      exact ⟨rfl, rfl, rfl, trivial⟩

set_option maxHeartbeats 8000000 in
theorem obj_Read_ok (p_1 : List UInt8) (H : Heaplet) {aa_2 : Option Addr} {na_2 : Nat} {ca_2 : Nat} (ha_2 : IsSlice H RU8 1 (.slice aa_2 na_2 ca_2) p_1) (r : Object × Int) (hx : obj_Read p_1 = some r) :
  Does Tryz.prog 64 #[.slice aa_2 na_2 ca_2] [] H (fun u K' H' => ∃ ao0 : Option Addr, ∃ n0 : Nat, u = .tuple #[.agg #[.int .u8 (r.1.Kind.toNat : Int), .int .i64 r.1.Links, .int .i64 r.1.Size, .slice ao0 n0 n0], .int .i64 r.2] ∧ K' = [] ∧ IsSlice (New H H') R_Ptr 5 (.slice ao0 n0 n0) r.1.Data ∧ True) := by
 refine Does.enterL (vs := [.slice aa_2 na_2 ca_2]) (l := [(0, .slice aa_2 na_2 ca_2)]) Tryz.func64 rfl rfl ⟨rfl, trivial⟩ (fun w hlt => ?_)
 unfold obj_Read at hx
 refine ZF (ZB (JL.alloc Z41 rfl (fun b_3 hb_3 => ZA rfl rfl (ZE rfl) (ZD (ZC (ZF (ZF (ZB (ZA rfl rfl (ZG rfl) (ZA rfl rfl (Zs U26 rfl (IsSlice.long ha_2)) (ZA rfl rfl (Zx rfl rfl) ?_)))))))))))
 refine ZD (ZC (ZW rfl (fun c_4 => ?_) (fun c_4 => ?_)))
 ·
  replace hx := ZT c_4 hx
  refine ZF (ZB (ZA rfl rfl (YB (vs := []) (cs := [.int .u8 ((0 : UInt8).toNat : Int), .int .i64 0, .int .i64 0, .slice none 0 0]) Z41 B41 rfl rfl rfl) (ZV 0 S41 rfl rfl rfl rfl rfl (Nat.le_of_ble_eq_true rfl) (ZA rfl rfl (ZE rfl) (ZD (ZC (ZS (ZP (ZQ (vs := [.agg #[.int .u8 ((0 : UInt8).toNat : Int), .int .i64 0, .int .i64 0, .slice none 0 0], .int .i64 3]) (K := []) (rst := [_]) (.inl rfl) rfl rfl (Zn 0 rfl rfl S41 (ZO rfl rfl)) ZL ?_)))))))))
  obtain rfl := Option.some.inj hx
  exact ⟨none, 0, rfl, rfl, (IsSlice.nil _ _ _), trivial⟩
 ·
  replace hx := ZU c_4 hx
  refine ZX (ZC (ZF (ZB (ZA rfl rfl (ZG rfl) ?_))))
  obtain ⟨m_5, hm_6, hl_7, hx⟩ := A16.first_some hx
  obtain ⟨b_8, o_9, ha_10, hn_11, hc_12⟩ := IsSlice.first ha_2 hm_6 hl_7 (by decide)
  refine ZA rfl rfl (R.s2aH U147 rfl hn_11 ha_10) (ZA rfl rfl (R.ldHE (cs := [.int .u8 (m_5.e0.toNat : Int), .int .u8 (m_5.e1.toNat : Int), .int .u8 (m_5.e2.toNat : Int), .int .u8 (m_5.e3.toNat : Int), .int .u8 (m_5.e4.toNat : Int), .int .u8 (m_5.e5.toNat : Int), .int .u8 (m_5.e6.toNat : Int), .int .u8 (m_5.e7.toNat : Int), .int .u8 (m_5.e8.toNat : Int), .int .u8 (m_5.e9.toNat : Int), .int .u8 (m_5.e10.toNat : Int), .int .u8 (m_5.e11.toNat : Int), .int .u8 (m_5.e12.toNat : Int), .int .u8 (m_5.e13.toNat : Int), .int .u8 (m_5.e14.toNat : Int), .int .u8 (m_5.e15.toNat : Int)]) (k := 0) (vs := [.int .u8 (m_5.e0.toNat : Int), .int .u8 (m_5.e1.toNat : Int), .int .u8 (m_5.e2.toNat : Int), .int .u8 (m_5.e3.toNat : Int), .int .u8 (m_5.e4.toNat : Int), .int .u8 (m_5.e5.toNat : Int), .int .u8 (m_5.e6.toNat : Int), .int .u8 (m_5.e7.toNat : Int), .int .u8 (m_5.e8.toNat : Int), .int .u8 (m_5.e9.toNat : Int), .int .u8 (m_5.e10.toNat : Int), .int .u8 (m_5.e11.toNat : Int), .int .u8 (m_5.e12.toNat : Int), .int .u8 (m_5.e13.toNat : Int), .int .u8 (m_5.e14.toNat : Int), .int .u8 (m_5.e15.toNat : Int)]) S147 rfl hc_12 rfl rfl) (JL.alloc Z147 rfl (fun b_13 hb_13 => ZV 0 S147 rfl rfl rfl rfl rfl (Nat.le_of_ble_eq_true rfl) (ZD (ZC (ZF (ZB (ZA rfl rfl (ZG rfl) (ZA rfl rfl (ZG rfl) (ZA rfl rfl (Zs U26 rfl (IsSlice.long ha_2)) (ZA rfl rfl (ZG rfl) ?_)))))))))))
  refine ZA rfl rfl (Zs U26 rfl (IsSlice.long ha_2)) ?_
  obtain ⟨m_14, hm_16, hb_15, hx⟩ := slc_some hx
  obtain ⟨vv_17, cv_17, av_17, h1v_17, h2v_17, hsv_17⟩ := IsSlice.cutc ha_2 hm_16 hb_15
  refine ZA rfl rfl (R.slc (cap := cv_17) (a := 16) (b := (p_1.length : Int)) (c := (p_1.length : Int)) (m := p_1) (R := RU8) U26 S5 rfl ⟨_, rfl⟩ ⟨_, rfl⟩ ⟨_, rfl⟩ ⟨hb_15.1, hb_15.2.1, Int.le_refl _⟩ h1v_17 (.inr (fun h => by cases h))) ?_
  subst h2v_17
  obtain ⟨q_18, hm_19, hl_20, hx⟩ := YC hx
  refine JL.appZC (HF := (New H H)) (y := (0 : UInt8)) (N := 16) U26 U3 I5 rfl RU8.one (Hle.refl _) hsv_17 (fun _ _ h => RU8.const _ _ _ _ h) rfl (fun _ => rfl) rfl hm_19 (by simpa using hl_20) rfl rfl (fun vr_21 Kr_21 hr_21 => ?_)
  obtain ⟨ar_21, cr_21, rfl⟩ := RowOf.val hr_21
  obtain ⟨x_25, hr_26, hx⟩ := ZM hx
  refine JL.callL3 (vs := [_]) E30 rfl rfl (fun H_24 hle_23 hl_22 => ptr_Rows_ok q_18 _ (Lent.row' 0 hl_22 RU8.mono hle_23 rfl (hr_21.old RU8.mono)) _ hr_26) rfl (fun _ _ _ _ hR_28 hf_29 => ?_)
  obtain ⟨ar_27, nr_27, cr_27, Kr_27, rfl, rfl, hr_27, -, -⟩ := hR_28
  replace hr_27 := RowOf.base (Zo (H2 := New H H) R_Ptr.const hr_27) (fun p hp => hf_29 p (Zw 0 rfl hp))
  refine ZA rfl rfl (ZG rfl) (ZA rfl rfl (R.extract rfl rfl) (ZA rfl rfl (R.extract rfl rfl) (ZA rfl rfl (ZE rfl) (ZA rfl rfl (ZE rfl) (ZD (ZC (ZF (ZF (ZB (ZA rfl rfl (ZG rfl) (ZA rfl rfl (Zx rfl rfl) ?_)))))))))))
  refine ZA rfl rfl (ZG rfl) (Ze (t := 28) rfl (fun c_30 => ?_) (fun c_30 => ?_))
  ·
   replace hx := ZT c_30 hx
   refine ZH rfl rfl rfl rfl rfl (ZH rfl rfl rfl rfl rfl (ZH rfl rfl rfl rfl rfl (ZH rfl rfl rfl rfl rfl (ZH rfl rfl rfl rfl rfl (ZA rfl rfl (Zb rfl rfl) (ZD (ZC (Zu rfl (ZF (ZB (ZA rfl rfl (YB (vs := []) (cs := [.int .u8 ((0 : UInt8).toNat : Int), .int .i64 0, .int .i64 0, .slice none 0 0]) Z41 B41 rfl rfl rfl) ?_)))))))))))
   refine ZV 3 S41 rfl rfl rfl rfl rfl (Nat.le_of_ble_eq_true rfl) (ZA rfl rfl (ZE rfl) (ZD (ZC (ZS (ZP (ZQ (vs := [.agg #[.int .u8 ((0 : UInt8).toNat : Int), .int .i64 0, .int .i64 0, .slice none 0 0], .int .i64 8]) (K := []) (rst := [_, _, _, _]) (.inl rfl) rfl rfl (Zn 3 rfl rfl S41 (ZO rfl rfl)) ZL ?_))))))
   obtain rfl := Option.some.inj hx
   exact ⟨none, 0, rfl, rfl, (IsSlice.nil _ _ _), trivial⟩
  ·
   replace hx := ZU c_30 hx
   refine ZK rfl rfl rfl (ZA rfl rfl (R.slcA U147 S5 rfl ⟨_, _, rfl, rfl⟩ rfl rfl rfl rfl) (ZK rfl rfl rfl (ZA rfl rfl (R.s2aK U148 rfl rfl) (ZK rfl rfl rfl (ZA rfl rfl (Zg 2 (vs := [.int .u8 (m_5.e4.toNat : Int), .int .u8 (m_5.e5.toNat : Int), .int .u8 (m_5.e6.toNat : Int), .int .u8 (m_5.e7.toNat : Int), .int .u8 (m_5.e8.toNat : Int), .int .u8 (m_5.e9.toNat : Int), .int .u8 (m_5.e10.toNat : Int), .int .u8 (m_5.e11.toNat : Int), .int .u8 (m_5.e12.toNat : Int), .int .u8 (m_5.e13.toNat : Int), .int .u8 (m_5.e14.toNat : Int), .int .u8 (m_5.e15.toNat : Int)]) S148 rfl rfl rfl rfl) (ZK rfl rfl rfl (ZA rfl rfl (R.bldA (vs := []) (cells := #[.int .u8 ((0 : UInt8).toNat : Int), .int .u8 ((0 : UInt8).toNat : Int), .int .u8 ((0 : UInt8).toNat : Int), .int .u8 ((0 : UInt8).toNat : Int), .int .u8 ((0 : UInt8).toNat : Int), .int .u8 ((0 : UInt8).toNat : Int), .int .u8 ((0 : UInt8).toNat : Int), .int .u8 ((0 : UInt8).toNat : Int), .int .u8 ((0 : UInt8).toNat : Int), .int .u8 ((0 : UInt8).toNat : Int), .int .u8 ((0 : UInt8).toNat : Int), .int .u8 ((0 : UInt8).toNat : Int)]) Z148 B148 rfl rfl rfl rfl) (ZK rfl rfl rfl (ZA rfl rfl (R.neqArr [m_5.e4, m_5.e5, m_5.e6, m_5.e7, m_5.e8, m_5.e9, m_5.e10, m_5.e11, m_5.e12, m_5.e13, m_5.e14, m_5.e15] [(0 : UInt8), (0 : UInt8), (0 : UInt8), (0 : UInt8), (0 : UInt8), (0 : UInt8), (0 : UInt8), (0 : UInt8), (0 : UInt8), (0 : UInt8), (0 : UInt8), (0 : UInt8)] U148 U5 S5 C5 QG148 rfl rfl rfl rfl rfl rfl) (ZA rfl rfl (Za rfl rfl) (ZD ?_)))))))))))
   refine ZC (ZW rfl (fun c_31 => ?_) (fun c_31 => ?_))
   ·
    replace hx := ZT c_31 hx
    refine ZF (ZB (ZA rfl rfl (YB (vs := []) (cs := [.int .u8 ((0 : UInt8).toNat : Int), .int .i64 0, .int .i64 0, .slice none 0 0]) Z41 B41 rfl rfl rfl) (ZV 3 S41 rfl rfl rfl rfl rfl (Nat.le_of_ble_eq_true rfl) (ZA rfl rfl (ZE rfl) (ZD (ZC (ZS (ZP (ZQ (vs := [.agg #[.int .u8 ((0 : UInt8).toNat : Int), .int .i64 0, .int .i64 0, .slice none 0 0], .int .i64 8]) (K := []) (rst := [_, _, _, _]) (.inl rfl) rfl rfl (Zn 3 rfl rfl S41 (ZO rfl rfl)) ZL ?_)))))))))
    obtain rfl := Option.some.inj hx
    exact ⟨none, 0, rfl, rfl, (IsSlice.nil _ _ _), trivial⟩
   ·
    replace hx := ZU c_31 hx
    refine ZX (ZC (ZF (ZB (ZA rfl rfl (ZG rfl) ?_))))
    obtain ⟨x_32, hr_33, hx⟩ := ZM hx
    refine ZR (vs := [_, _, _]) (args := [_, _, _]) (K := []) (rst := [_, _, _, _]) E95 rfl rfl rfl ZL (code_Get_ok p_1 2 2 _ ha_2 _ hr_33) rfl (fun u_34 Ku_34 Hu_34 hRu_34 hleu_34 hfu_34 => ?_)
    obtain ⟨rfl, rfl, -⟩ := hRu_34
    refine ZA rfl rfl (ZG rfl) (ZA rfl rfl (R.extract rfl rfl) (ZA rfl rfl (R.extract rfl rfl) (ZA rfl rfl (ZE rfl) (ZA rfl rfl (ZE rfl) (ZD (ZC (ZF (JC.pubN 0 R_Ptr.mono rfl (hr_27.mono R_Ptr.mono (New.mono hleu_34)) (Nat.le_refl _) (fun H_35 hleH_35 hsH_35 => JC.forget 0 (JC.draw (so := [_, _]) 10 rfl Mixed ⟨⟨0, rfl⟩, ⟨1, rfl⟩, trivial⟩ (JA.val ⟨by kernel_rfl, by kernel_rfl⟩ (ZI _) (i := 0) rfl ⟨by kernel_rfl, by kernel_rfl, rfl⟩ trivial (ZJ (Hle.refl _) ⟨⟨0, rfl⟩, ⟨1, rfl⟩, trivial⟩) (R.ixA 0 U147 S5 rfl rfl rfl) rfl ?_)))))))))))
    refine JA.val ⟨by kernel_rfl, by kernel_rfl⟩ (ZI _) (i := 1) rfl ⟨by kernel_rfl, by kernel_rfl, rfl⟩ trivial (ZJ (Hle.refl _) ⟨⟨0, rfl⟩, ⟨1, rfl⟩, trivial⟩) (Zd 1 S5 rfl rfl rfl) rfl (JA.val ⟨by kernel_rfl, by kernel_rfl⟩ (ZI _) (i := 2) rfl ⟨by kernel_rfl, by kernel_rfl, rfl⟩ trivial (ZJ (Hle.refl _) ⟨⟨0, rfl⟩, ⟨1, rfl⟩, trivial⟩) (R.ixA 1 U147 S5 rfl rfl rfl) rfl (JA.val ⟨by kernel_rfl, by kernel_rfl⟩ (ZI _) (i := 3) rfl ⟨by kernel_rfl, by kernel_rfl, rfl⟩ trivial (ZJ (Hle.refl _) ⟨⟨0, rfl⟩, ⟨1, rfl⟩, trivial⟩) (Zd 1 S5 rfl rfl rfl) rfl (JA.val ⟨by kernel_rfl, by kernel_rfl⟩ (ZI _) (i := 4) rfl ⟨by kernel_rfl, by kernel_rfl, rfl⟩ trivial (ZJ (Hle.refl _) ⟨⟨0, rfl⟩, ⟨1, rfl⟩, trivial⟩) (R.cv_u8_i64 (a := m_5.e1) U5 U3 rfl) rfl (JA.val ⟨by kernel_rfl, by kernel_rfl⟩ (ZI _) (i := 5) rfl ⟨by kernel_rfl, by kernel_rfl, rfl⟩ trivial (ZJ (Hle.refl _) ⟨⟨0, rfl⟩, ⟨1, rfl⟩, trivial⟩) (ZG rfl) rfl (JA.val ⟨by kernel_rfl, by kernel_rfl⟩ (ZI _) (i := 6) rfl ⟨by kernel_rfl, by kernel_rfl, rfl⟩ trivial (ZJ (Hle.refl _) ⟨⟨0, rfl⟩, ⟨1, rfl⟩, trivial⟩) (ZG rfl) rfl ?_)))))
    obtain ⟨m_36, hm_38, hb_37, hx⟩ := slc_some hx
    obtain ⟨vv_39, cv_39, av_39, h1v_39, h2v_39, hsv_39⟩ := IsSlice.cutc hsH_35 hm_38 hb_37
    refine JA.val ⟨by kernel_rfl, by kernel_rfl⟩ (ZI _) (i := 7) rfl ⟨by kernel_rfl, by kernel_rfl, rfl⟩ trivial (ZJ (Hle.refl _) ⟨⟨0, rfl⟩, ⟨1, rfl⟩, trivial⟩) (R.slc (cap := cv_39) (a := 0) (b := 15) (c := 15) (m := x_25.1) (R := R_Ptr) U34 S31 rfl rfl ⟨_, rfl⟩ ⟨_, rfl⟩ ⟨hb_37.1, hb_37.2.1, Int.le_refl _⟩ h1v_39 (.inr (fun h => by cases h))) rfl ?_
    subst h2v_39
    refine JA.val ⟨by kernel_rfl, by kernel_rfl⟩ (ZI _) (i := 8) rfl ⟨by kernel_rfl, by kernel_rfl, rfl⟩ trivial (ZJ (Hle.refl _) ⟨⟨0, rfl⟩, ⟨1, rfl⟩, trivial⟩) (YB (vs := [(0, .int .u8 (m_5.e0.toNat : Int)), (1, .int .i64 (m_5.e1.toNat : Int)), (2, .int .i64 x_32.1), (3, .slice av_39 m_36.length m_36.length)]) (cs := [.int .u8 (m_5.e0.toNat : Int), .int .i64 (m_5.e1.toNat : Int), .int .i64 x_32.1, .slice av_39 m_36.length m_36.length]) Z41 B41 rfl rfl rfl) rfl (JA.one (i := 9) (by kernel_rfl) (JO.step rfl trivial rfl (fun K hK => ZV 2 S41 rfl rfl rfl rfl rfl (Nat.le_of_ble_eq_true rfl) (ZD (hK _ _ _ (ZJ (Hle.refl _) ⟨⟨0, rfl⟩, ⟨1, rfl⟩, trivial⟩) (Zz (by kernel_rfl) (ZC (JC.tidyP (l' := [(2, .pointer (some ⟨b_3, 0, none⟩)), (3, .int .i64 x_25.2)]) (own' := [[(b_3, .cells #[.int .u8 (m_5.e0.toNat : Int), .int .i64 (m_5.e1.toNat : Int), .int .i64 x_32.1, .slice av_39 m_36.length m_36.length] 41 (0, 0))]]) (rst := [_, _]) ⟨rfl, rfl, trivial⟩ (Zf 2 rfl ZL) (ZF (ZF (ZB ?_)))))))))))
    refine ZA rfl rfl (Zg 0 (vs := [.int .u8 (m_5.e0.toNat : Int), .int .i64 (m_5.e1.toNat : Int), .int .i64 x_32.1, .slice av_39 m_36.length m_36.length]) S41 rfl rfl rfl rfl) ?_
    obtain ⟨x_40, hr_41, hx⟩ := ZM hx
    refine ZR (vs := [_]) (args := [_]) (K := []) (rst := [_]) E99 rfl rfl rfl ZL (obj_Check_ok (Object.mk m_5.e0 (m_5.e1.toNat : Int) x_32.1 m_36) _ (hsv_39.old R_Ptr.mono) _ hr_41) rfl (fun u_42 Ku_42 Hu_42 hRu_42 hleu_42 hfu_42 => ?_)
    obtain ⟨rfl, rfl, rfl, -⟩ := hRu_42
    refine ZA rfl rfl (Zx rfl rfl) (ZD (ZC (ZW rfl (fun c_43 => ?_) (fun c_43 => ?_))))
    ·
     replace hx := ZT c_43 hx
     refine ZF (ZB (ZA rfl rfl (YB (vs := []) (cs := [.int .u8 ((0 : UInt8).toNat : Int), .int .i64 0, .int .i64 0, .slice none 0 0]) Z41 B41 rfl rfl rfl) (ZV 0 S41 rfl rfl rfl rfl rfl (Nat.le_of_ble_eq_true rfl) (ZA rfl rfl (ZE rfl) (ZD (ZC (ZS (ZP (ZQ (vs := [.agg #[.int .u8 ((0 : UInt8).toNat : Int), .int .i64 0, .int .i64 0, .slice none 0 0], .int .i64 8]) (K := []) (rst := [_]) (.inl rfl) rfl rfl (Zn 0 rfl rfl S41 (ZO rfl rfl)) ZL ?_)))))))))
     obtain rfl := Option.some.inj hx
     exact ⟨none, 0, rfl, rfl, (IsSlice.nil _ _ _), trivial⟩
    ·
     replace hx := ZU c_43 hx
     refine ZX (ZC (ZF (ZB (ZA rfl rfl (Zg 0 (vs := [.int .u8 (m_5.e0.toNat : Int), .int .i64 (m_5.e1.toNat : Int), .int .i64 x_32.1, .slice av_39 m_36.length m_36.length]) S41 rfl rfl rfl rfl) (ZV 0 S41 rfl rfl rfl rfl rfl (Nat.le_of_ble_eq_true rfl) (ZA rfl rfl (ZE rfl) (ZD (ZC (ZS (ZQ (vs := [.agg #[.int .u8 (m_5.e0.toNat : Int), .int .i64 (m_5.e1.toNat : Int), .int .i64 x_32.1, .slice av_39 m_36.length m_36.length], .int .i64 0]) (K := []) (rst := [_]) (.inl rfl) rfl rfl (Zn 0 rfl rfl S41 (ZO rfl rfl)) ZL ?_))))))))))
     obtain rfl := Option.some.inj hx
     exact ⟨av_39, m_36.length, rfl, rfl, hsv_39, trivial⟩

set_option maxHeartbeats 8000000 in
theorem set_one_ok (p_1 : Store) (p_5 : Ptr) (H : Heaplet) {aa_2 : Option Addr} {na_2 : Nat} {ca_2 : Nat} {aa_3 : Option Addr} {na_3 : Nat} {ca_3 : Nat} {aa_4 : Option Addr} {na_4 : Nat} {ca_4 : Nat} (ha_2 : IsSlice H (RSl RU8 1) 1 (.slice aa_2 na_2 ca_2) p_1.Disk.Blocks) (ha_3 : IsSlice H R_Write 2 (.slice aa_3 na_3 ca_3) p_1.Disk.Waits) (ha_4 : IsSlice H RU8 1 (.slice aa_4 na_4 ca_4) p_1.Space) (r : Object × Int) (hx : set_one p_1 p_5 = some r) :
  Does Tryz.prog 33 #[.agg #[.slice aa_2 na_2 ca_2, .slice aa_3 na_3 ca_3, .slice aa_4 na_4 ca_4, .int .u32 (p_1.Epoch.toNat : Int), .int .u32 (p_1.Count.toNat : Int)], .agg #[.int .i64 p_5.At, .int .u32 (p_5.Birth.toNat : Int), .int .u32 (p_5.Iv.toNat : Int), .int .u32 (p_5.Tag.toNat : Int), .int .u32 (p_5.Sum.toNat : Int)]] [] H (fun u K' H' => ∃ ao0 : Option Addr, ∃ n0 : Nat, u = .tuple #[.agg #[.int .u8 (r.1.Kind.toNat : Int), .int .i64 r.1.Links, .int .i64 r.1.Size, .slice ao0 n0 n0], .int .i64 r.2] ∧ K' = [] ∧ IsSlice (New H H') R_Ptr 5 (.slice ao0 n0 n0) r.1.Data ∧ True) := by
 refine Does.enterL (vs := [.agg #[.slice aa_2 na_2 ca_2, .slice aa_3 na_3 ca_3, .slice aa_4 na_4 ca_4, .int .u32 (p_1.Epoch.toNat : Int), .int .u32 (p_1.Count.toNat : Int)], .agg #[.int .i64 p_5.At, .int .u32 (p_5.Birth.toNat : Int), .int .u32 (p_5.Iv.toNat : Int), .int .u32 (p_5.Tag.toNat : Int), .int .u32 (p_5.Sum.toNat : Int)]]) (l := [(0, .agg #[.slice aa_2 na_2 ca_2, .slice aa_3 na_3 ca_3, .slice aa_4 na_4 ca_4, .int .u32 (p_1.Epoch.toNat : Int), .int .u32 (p_1.Count.toNat : Int)]), (1, .agg #[.int .i64 p_5.At, .int .u32 (p_5.Birth.toNat : Int), .int .u32 (p_5.Iv.toNat : Int), .int .u32 (p_5.Tag.toNat : Int), .int .u32 (p_5.Sum.toNat : Int)])]) Tryz.func33 rfl rfl ⟨rfl, rfl, trivial⟩ (fun w hlt => ?_)
 unfold set_one at hx
 refine ZF (ZB (Zv rfl rfl (fun b_6 hb_6 => Zv rfl rfl (fun b_7 hb_7 => JL.alloc Z41 rfl (fun b_8 hb_8 => ZA rfl rfl (ZE rfl) (ZD (ZC (ZF (ZB (ZA rfl rfl (Zg 2 (vs := [.slice aa_2 na_2 ca_2, .slice aa_3 na_3 ca_3, .slice aa_4 na_4 ca_4, .int .u32 (p_1.Epoch.toNat : Int), .int .u32 (p_1.Count.toNat : Int)]) S29 rfl rfl rfl rfl) (ZA rfl rfl (Zg 1 (vs := [.int .i64 p_5.At, .int .u32 (p_5.Birth.toNat : Int), .int .u32 (p_5.Iv.toNat : Int), .int .u32 (p_5.Tag.toNat : Int), .int .u32 (p_5.Sum.toNat : Int)]) S31 rfl rfl rfl rfl) ?_)))))))))))
 obtain ⟨x_9, hr_10, hx⟩ := ZM hx
 refine ZR (vs := [_, _]) (args := [_, _]) (K := []) (rst := [_, _, _]) E29 rfl rfl rfl ZL (store_Look_ok p_1 p_5 _ ha_2 ha_3 ha_4 _ hr_10) rfl (fun u_11 Ku_11 Hu_11 hRu_11 hleu_11 hfu_11 => ?_)
 obtain ⟨az_12, nz_12, cz_12, rfl, rfl, hz_12, -⟩ := hRu_11
 replace hz_12 := IsSlice.mono RU8.mono (New.call (Hle.refl _)) hz_12
 refine ZA rfl rfl (ZG rfl) (ZA rfl rfl (R.extract rfl rfl) (ZA rfl rfl (R.extract rfl rfl) (ZA rfl rfl (ZE rfl) (ZA rfl rfl (ZE rfl) (ZD (ZC (ZF (ZF (ZB (ZA rfl rfl (ZG rfl) (ZA rfl rfl (Zx rfl rfl) ?_)))))))))))
 refine ZD (ZC (ZW rfl (fun c_13 => ?_) (fun c_13 => ?_)))
 ·
  replace hx := ZT c_13 hx
  refine ZF (ZB (ZA rfl rfl (YB (vs := []) (cs := [.int .u8 ((0 : UInt8).toNat : Int), .int .i64 0, .int .i64 0, .slice none 0 0]) Z41 B41 rfl rfl rfl) (ZA rfl rfl (ZG rfl) (ZV 0 S41 rfl rfl rfl rfl rfl (Nat.le_of_ble_eq_true rfl) (ZA rfl rfl (ZE rfl) (ZD (ZC (ZS (ZP (ZQ (vs := [.agg #[.int .u8 ((0 : UInt8).toNat : Int), .int .i64 0, .int .i64 0, .slice none 0 0], .int .i64 x_9.2]) (K := []) (rst := [_, _, _]) (.inl rfl) rfl rfl (Zn 0 rfl rfl S41 (ZO rfl rfl)) ZL ?_))))))))))
  obtain rfl := Option.some.inj hx
  exact ⟨none, 0, rfl, rfl, (IsSlice.nil _ _ _), trivial⟩
 ·
  replace hx := ZU c_13 hx
  refine ZX (ZC (ZF (ZB (ZA rfl rfl (ZG rfl) ?_))))
  obtain ⟨x_14, hr_15, hx⟩ := ZM hx
  refine ZR (vs := [_]) (args := [_]) (K := []) (rst := [_, _, _]) E64 rfl rfl rfl ZL (obj_Read_ok x_9.1 _ (hz_12.old RU8.mono) _ hr_15) rfl (fun u_16 Ku_16 Hu_16 hRu_16 hleu_16 hfu_16 => ?_)
  obtain ⟨az_17, nz_17, rfl, rfl, hz_17, -⟩ := hRu_16
  replace hz_17 := IsSlice.mono R_Ptr.mono (New.call hleu_11) hz_17
  refine ZA rfl rfl (ZG rfl) (ZA rfl rfl (R.extract rfl rfl) (ZA rfl rfl (R.extract rfl rfl) (JL.alloc Z41 rfl (fun b_18 hb_18 => ZV 0 S41 rfl rfl rfl rfl rfl (Nat.le_of_ble_eq_true rfl) (ZA rfl rfl (ZE rfl) (ZD (ZC (ZF (ZF (ZB (ZA rfl rfl (ZG rfl) ?_)))))))))))
  refine ZA rfl rfl (Zx rfl rfl) (ZD (ZC (ZW rfl (fun c_19 => ?_) (fun c_19 => ?_))))
  ·
   replace hx := ZT c_19 hx
   refine ZF (ZB (ZA rfl rfl (YB (vs := []) (cs := [.int .u8 ((0 : UInt8).toNat : Int), .int .i64 0, .int .i64 0, .slice none 0 0]) Z41 B41 rfl rfl rfl) (ZV 1 S41 rfl rfl rfl rfl rfl (Nat.le_of_ble_eq_true rfl) (ZA rfl rfl (ZE rfl) (ZD (ZC (ZS (ZP (ZQ (vs := [.agg #[.int .u8 ((0 : UInt8).toNat : Int), .int .i64 0, .int .i64 0, .slice none 0 0], .int .i64 8]) (K := []) (rst := [_, _, _, _]) (.inl rfl) rfl rfl (Zn 1 rfl rfl S41 (ZO rfl rfl)) ZL ?_)))))))))
   obtain rfl := Option.some.inj hx
   exact ⟨none, 0, rfl, rfl, (IsSlice.nil _ _ _), trivial⟩
  ·
   replace hx := ZU c_19 hx
   refine ZX (ZC (ZF (ZB (ZA rfl rfl (Zg 0 (vs := [.int .u8 (x_14.1.Kind.toNat : Int), .int .i64 x_14.1.Links, .int .i64 x_14.1.Size, .slice az_17 nz_17 nz_17]) S41 rfl rfl rfl rfl) (ZV 1 S41 rfl rfl rfl rfl rfl (Nat.le_of_ble_eq_true rfl) (ZA rfl rfl (ZE rfl) (ZD (ZC (ZS (ZQ (vs := [.agg #[.int .u8 (x_14.1.Kind.toNat : Int), .int .i64 x_14.1.Links, .int .i64 x_14.1.Size, .slice az_17 nz_17 nz_17], .int .i64 0]) (K := []) (rst := [_, _, _, _]) (.inl rfl) rfl rfl (Zn 1 rfl rfl S41 (ZO rfl rfl)) ZL ?_))))))))))
   obtain rfl := Option.some.inj hx
   exact ⟨az_17, nz_17, rfl, rfl, hz_17, trivial⟩

set_option maxHeartbeats 8000000 in
theorem set_Object_ok (p_1 : Store) (p_5 : Ptr) (p_6 : Int) (H : Heaplet) {aa_2 : Option Addr} {na_2 : Nat} {ca_2 : Nat} {aa_3 : Option Addr} {na_3 : Nat} {ca_3 : Nat} {aa_4 : Option Addr} {na_4 : Nat} {ca_4 : Nat} (ha_2 : IsSlice H (RSl RU8 1) 1 (.slice aa_2 na_2 ca_2) p_1.Disk.Blocks) (ha_3 : IsSlice H R_Write 2 (.slice aa_3 na_3 ca_3) p_1.Disk.Waits) (ha_4 : IsSlice H RU8 1 (.slice aa_4 na_4 ca_4) p_1.Space) (r : Object × Int) (hx : set_Object p_1 p_5 p_6 = some r) :
  Does Tryz.prog 10 #[.agg #[.slice aa_2 na_2 ca_2, .slice aa_3 na_3 ca_3, .slice aa_4 na_4 ca_4, .int .u32 (p_1.Epoch.toNat : Int), .int .u32 (p_1.Count.toNat : Int)], .agg #[.int .i64 p_5.At, .int .u32 (p_5.Birth.toNat : Int), .int .u32 (p_5.Iv.toNat : Int), .int .u32 (p_5.Tag.toNat : Int), .int .u32 (p_5.Sum.toNat : Int)], .int .i64 p_6] [] H (fun u K' H' => ∃ ao0 : Option Addr, ∃ n0 : Nat, u = .tuple #[.agg #[.int .u8 (r.1.Kind.toNat : Int), .int .i64 r.1.Links, .int .i64 r.1.Size, .slice ao0 n0 n0], .int .i64 r.2] ∧ K' = [] ∧ IsSlice (New H H') R_Ptr 5 (.slice ao0 n0 n0) r.1.Data ∧ True) := by
 refine Does.enterL (vs := [.agg #[.slice aa_2 na_2 ca_2, .slice aa_3 na_3 ca_3, .slice aa_4 na_4 ca_4, .int .u32 (p_1.Epoch.toNat : Int), .int .u32 (p_1.Count.toNat : Int)], .agg #[.int .i64 p_5.At, .int .u32 (p_5.Birth.toNat : Int), .int .u32 (p_5.Iv.toNat : Int), .int .u32 (p_5.Tag.toNat : Int), .int .u32 (p_5.Sum.toNat : Int)], .int .i64 p_6]) (l := [(0, .agg #[.slice aa_2 na_2 ca_2, .slice aa_3 na_3 ca_3, .slice aa_4 na_4 ca_4, .int .u32 (p_1.Epoch.toNat : Int), .int .u32 (p_1.Count.toNat : Int)]), (1, .agg #[.int .i64 p_5.At, .int .u32 (p_5.Birth.toNat : Int), .int .u32 (p_5.Iv.toNat : Int), .int .u32 (p_5.Tag.toNat : Int), .int .u32 (p_5.Sum.toNat : Int)]), (2, .int .i64 p_6)]) Tryz.func10 rfl rfl ⟨rfl, rfl, rfl, trivial⟩ (fun w hlt => ?_)
 unfold set_Object at hx
 refine ZF (ZB (Zv rfl rfl (fun b_7 hb_7 => Zv rfl rfl (fun b_8 hb_8 => JL.alloc Z41 rfl (fun b_9 hb_9 => ZA rfl rfl (ZE rfl) (ZD (ZC (ZF (ZF (ZB (ZA rfl rfl (Zg 2 (vs := [.slice aa_2 na_2 ca_2, .slice aa_3 na_3 ca_3, .slice aa_4 na_4 ca_4, .int .u32 (p_1.Epoch.toNat : Int), .int .u32 (p_1.Count.toNat : Int)]) S29 rfl rfl rfl rfl) ?_)))))))))))
 obtain ⟨x_10, hr_11, hx⟩ := ZM hx
 refine ZR (vs := [_]) (args := [_]) (K := []) (rst := [_, _, _]) E27 rfl rfl rfl ZL (store_Check_ok p_1 _ ha_2 ha_3 ha_4 _ hr_11) rfl (fun u_12 Ku_12 Hu_12 hRu_12 hleu_12 hfu_12 => ?_)
 obtain ⟨rfl, rfl, rfl, -⟩ := hRu_12
 refine ZA rfl rfl (Zx rfl rfl) (ZA rfl rfl (ZG rfl) (Ze (t := 13) rfl (fun c_13 => ?_) (fun c_13 => ?_)))
 ·
  replace hx := ZT c_13 hx
  refine ZH rfl rfl rfl rfl rfl (ZH rfl rfl rfl rfl rfl (ZH rfl rfl rfl rfl rfl (ZA rfl rfl (Zb rfl rfl) (ZD (ZC (Zu rfl (ZF (ZB (ZA rfl rfl (YB (vs := []) (cs := [.int .u8 ((0 : UInt8).toNat : Int), .int .i64 0, .int .i64 0, .slice none 0 0]) Z41 B41 rfl rfl rfl) (ZV 0 S41 rfl rfl rfl rfl rfl (Nat.le_of_ble_eq_true rfl) (ZA rfl rfl (ZE rfl) ?_)))))))))))
  refine ZD (ZC (ZS (ZP (ZQ (vs := [.agg #[.int .u8 ((0 : UInt8).toNat : Int), .int .i64 0, .int .i64 0, .slice none 0 0], .int .i64 8]) (K := []) (rst := [_, _, _]) (.inl rfl) rfl rfl (Zn 0 rfl rfl S41 (ZO rfl rfl)) ZL ?_))))
  obtain rfl := Option.some.inj hx
  exact ⟨none, 0, rfl, rfl, (IsSlice.nil _ _ _), trivial⟩
 ·
  replace hx := ZU c_13 hx
  refine ZK rfl rfl rfl (ZA rfl rfl (Zg 1 (vs := [.int .i64 p_5.At, .int .u32 (p_5.Birth.toNat : Int), .int .u32 (p_5.Iv.toNat : Int), .int .u32 (p_5.Tag.toNat : Int), .int .u32 (p_5.Sum.toNat : Int)]) S31 rfl rfl rfl rfl) (ZK rfl rfl rfl ?_))
  obtain ⟨x_14, hr_15, hx⟩ := ZM hx
  refine ZR (vs := [_]) (args := [_]) (K := []) (rst := [_, _, _]) E28 rfl rfl rfl ZL (ptr_Check_ok p_5 _ _ hr_15) rfl (fun u_16 Ku_16 Hu_16 hRu_16 hleu_16 hfu_16 => ?_)
  obtain ⟨rfl, rfl, rfl, -⟩ := hRu_16
  refine ZK rfl rfl rfl (ZA rfl rfl (Zx rfl rfl) (ZA rfl rfl (Za rfl rfl) (ZD (ZC (ZW rfl (fun c_17 => ?_) (fun c_17 => ?_))))))
  ·
   replace hx := ZT c_17 hx
   refine ZF (ZB (ZA rfl rfl (YB (vs := []) (cs := [.int .u8 ((0 : UInt8).toNat : Int), .int .i64 0, .int .i64 0, .slice none 0 0]) Z41 B41 rfl rfl rfl) (ZV 0 S41 rfl rfl rfl rfl rfl (Nat.le_of_ble_eq_true rfl) (ZA rfl rfl (ZE rfl) (ZD (ZC (ZS (ZP (ZQ (vs := [.agg #[.int .u8 ((0 : UInt8).toNat : Int), .int .i64 0, .int .i64 0, .slice none 0 0], .int .i64 8]) (K := []) (rst := [_, _, _]) (.inl rfl) rfl rfl (Zn 0 rfl rfl S41 (ZO rfl rfl)) ZL ?_)))))))))
   obtain rfl := Option.some.inj hx
   exact ⟨none, 0, rfl, rfl, (IsSlice.nil _ _ _), trivial⟩
  ·
   replace hx := ZU c_17 hx
   refine ZX (ZC (ZF (ZF (ZB (ZA rfl rfl (ZG rfl) (ZA rfl rfl (Zy rfl rfl) (ZA rfl rfl (ZG rfl) (Ze (t := 21) rfl (fun c_18 => ?_) (fun c_18 => ?_)))))))))
   ·
    replace hx := ZT c_18 hx
    refine ZH rfl rfl rfl rfl rfl (ZH rfl rfl rfl rfl rfl (ZA rfl rfl (Zb rfl rfl) (ZD (ZC (Zu rfl (ZF (ZB (ZA rfl rfl (YB (vs := []) (cs := [.int .u8 ((0 : UInt8).toNat : Int), .int .i64 0, .int .i64 0, .slice none 0 0]) Z41 B41 rfl rfl rfl) (ZV 0 S41 rfl rfl rfl rfl rfl (Nat.le_of_ble_eq_true rfl) (ZA rfl rfl (ZE rfl) (ZD ?_)))))))))))
    refine ZC (ZS (ZP (ZQ (vs := [.agg #[.int .u8 ((0 : UInt8).toNat : Int), .int .i64 0, .int .i64 0, .slice none 0 0], .int .i64 2]) (K := []) (rst := [_, _, _]) (.inl rfl) rfl rfl (Zn 0 rfl rfl S41 (ZO rfl rfl)) ZL ?_)))
    obtain rfl := Option.some.inj hx
    exact ⟨none, 0, rfl, rfl, (IsSlice.nil _ _ _), trivial⟩
   ·
    replace hx := ZU c_18 hx
    refine ZK rfl rfl rfl (ZA rfl rfl (ZG rfl) (ZK rfl rfl rfl (ZA rfl rfl (R.geq_i rfl rfl) (ZA rfl rfl (Za rfl rfl) (ZD (ZC (ZW rfl (fun c_19 => ?_) (fun c_19 => ?_))))))))
    ·
     replace hx := ZT c_19 hx
     refine ZF (ZB (ZA rfl rfl (YB (vs := []) (cs := [.int .u8 ((0 : UInt8).toNat : Int), .int .i64 0, .int .i64 0, .slice none 0 0]) Z41 B41 rfl rfl rfl) (ZV 0 S41 rfl rfl rfl rfl rfl (Nat.le_of_ble_eq_true rfl) (ZA rfl rfl (ZE rfl) (ZD (ZC (ZS (ZP (ZQ (vs := [.agg #[.int .u8 ((0 : UInt8).toNat : Int), .int .i64 0, .int .i64 0, .slice none 0 0], .int .i64 2]) (K := []) (rst := [_, _, _]) (.inl rfl) rfl rfl (Zn 0 rfl rfl S41 (ZO rfl rfl)) ZL ?_)))))))))
     obtain rfl := Option.some.inj hx
     exact ⟨none, 0, rfl, rfl, (IsSlice.nil _ _ _), trivial⟩
    ·
     replace hx := ZU c_19 hx
     refine ZX (ZC (ZF (ZB (ZA rfl rfl (Zg 2 (vs := [.slice aa_2 na_2 ca_2, .slice aa_3 na_3 ca_3, .slice aa_4 na_4 ca_4, .int .u32 (p_1.Epoch.toNat : Int), .int .u32 (p_1.Count.toNat : Int)]) S29 rfl rfl rfl rfl) (ZA rfl rfl (Zg 1 (vs := [.int .i64 p_5.At, .int .u32 (p_5.Birth.toNat : Int), .int .u32 (p_5.Iv.toNat : Int), .int .u32 (p_5.Tag.toNat : Int), .int .u32 (p_5.Sum.toNat : Int)]) S31 rfl rfl rfl rfl) ?_)))))
     obtain ⟨x_20, hr_21, hx⟩ := ZM hx
     refine ZR (vs := [_, _]) (args := [_, _]) (K := []) (rst := [_, _, _]) E8 rfl rfl rfl ZL (set_Ptrs_ok p_1 p_5 _ ha_2 ha_3 ha_4 _ hr_21) rfl (fun u_22 Ku_22 Hu_22 hRu_22 hleu_22 hfu_22 => ?_)
     obtain ⟨ar_23, nr_23, cr_23, Kr_23, rfl, rfl, hr_23, hnewr_23, -⟩ := hRu_22
     replace hr_23 := (RowOf.base (Zo (H2 := New H Hu_22) R_Ptr.const hr_23) (fun p hp => (hfu_22 p (Zw 0 rfl hp)).resolve_left (hnewr_23 p hp)))
     refine ZA rfl rfl (ZG rfl) (ZA rfl rfl (R.extract rfl rfl) (ZA rfl rfl (R.extract rfl rfl) (ZA rfl rfl (ZE rfl) (ZA rfl rfl (ZE rfl) (ZD (ZC (ZF (ZF (ZB (ZA rfl rfl (ZG rfl) (ZA rfl rfl (Zx rfl rfl) ?_)))))))))))
     refine ZD (ZC (ZW rfl (fun c_24 => ?_) (fun c_24 => ?_)))
     ·
      replace hx := ZT c_24 hx
      refine ZF (ZB (ZA rfl rfl (YB (vs := []) (cs := [.int .u8 ((0 : UInt8).toNat : Int), .int .i64 0, .int .i64 0, .slice none 0 0]) Z41 B41 rfl rfl rfl) (ZA rfl rfl (ZG rfl) (ZV 1 S41 rfl rfl rfl rfl rfl (Nat.le_of_ble_eq_true rfl) (ZA rfl rfl (ZE rfl) (ZD (ZC (ZS (ZP (ZQ (vs := [.agg #[.int .u8 ((0 : UInt8).toNat : Int), .int .i64 0, .int .i64 0, .slice none 0 0], .int .i64 x_20.2]) (K := []) (rst := [_, _, _, _]) (.inl rfl) rfl rfl (Zn 1 rfl rfl S41 (ZO rfl rfl)) ZL ?_))))))))))
      obtain rfl := Option.some.inj hx
      exact ⟨none, 0, rfl, rfl, (IsSlice.nil _ _ _), trivial⟩
     ·
      replace hx := ZU c_24 hx
      refine ZX (ZC (ZF (JC.draw (so := [_, _, _]) 10 rfl Mixed ⟨⟨0, rfl⟩, ⟨2, rfl⟩, ⟨3, rfl⟩, trivial⟩ (JA.val ⟨by kernel_rfl, by kernel_rfl⟩ (ZI _) (i := 0) rfl ⟨by kernel_rfl, by kernel_rfl, rfl⟩ trivial (ZJ (Hle.refl _) ⟨⟨0, rfl⟩, ⟨2, rfl⟩, ⟨3, rfl⟩, trivial⟩) (Zg 2 (vs := [.slice aa_2 na_2 ca_2, .slice aa_3 na_3 ca_3, .slice aa_4 na_4 ca_4, .int .u32 (p_1.Epoch.toNat : Int), .int .u32 (p_1.Count.toNat : Int)]) S29 rfl rfl rfl rfl) rfl (JA.val ⟨by kernel_rfl, by kernel_rfl⟩ (ZI _) (i := 1) rfl ⟨by kernel_rfl, by kernel_rfl, rfl⟩ trivial (ZJ (Hle.refl _) ⟨⟨0, rfl⟩, ⟨2, rfl⟩, ⟨3, rfl⟩, trivial⟩) (ZG rfl) rfl (JA.val ⟨by kernel_rfl, by kernel_rfl⟩ (ZI _) (i := 2) rfl ⟨by kernel_rfl, by kernel_rfl, rfl⟩ trivial (ZJ (Hle.refl _) ⟨⟨0, rfl⟩, ⟨2, rfl⟩, ⟨3, rfl⟩, trivial⟩) (ZG rfl) rfl ?_))))))
      obtain ⟨y_25, hN_26, hx⟩ := Zl hx
      obtain ⟨b_27, o_28, cs_29, cur_34, hK_35, hE_30, hR_31, hl_32, hc_33⟩ := RowOf.elem hr_23 hN_26
      subst hK_35
      obtain rfl := hR_31
      refine JA.val ⟨by kernel_rfl, by kernel_rfl⟩ (ZI _) (i := 3) rfl ⟨by kernel_rfl, by kernel_rfl, rfl⟩ trivial (ZJ (Hle.refl _) ⟨⟨0, rfl⟩, ⟨2, rfl⟩, ⟨3, rfl⟩, trivial⟩) (R.ix U34 S31 rfl rfl hE_30) rfl (JA.val ⟨by kernel_rfl, by kernel_rfl⟩ (ZI _) (i := 4) rfl ⟨by kernel_rfl, by kernel_rfl, rfl⟩ trivial (ZJ (Hle.refl _) ⟨⟨0, rfl⟩, ⟨2, rfl⟩, ⟨3, rfl⟩, trivial⟩) (R.ldoE 0 (cs := [.int .i64 y_25.At, .int .u32 (y_25.Birth.toNat : Int), .int .u32 (y_25.Iv.toNat : Int), .int .u32 (y_25.Tag.toNat : Int), .int .u32 (y_25.Sum.toNat : Int)]) (k := 0) (vs := [.int .i64 y_25.At, .int .u32 (y_25.Birth.toNat : Int), .int .u32 (y_25.Iv.toNat : Int), .int .u32 (y_25.Tag.toNat : Int), .int .u32 (y_25.Sum.toNat : Int)]) S31 rfl rfl hc_33 rfl rfl) rfl (JA.one (i := 5) (by kernel_rfl) (JO.step rfl trivial rfl (fun K hK => ?_))))
      obtain ⟨x_36, hr_37, hx⟩ := ZM hx
      refine ZR (vs := [_, _]) (args := [_, _]) (K := []) (rst := [_, _, _, _]) E33 rfl rfl rfl ZL (set_one_ok p_1 y_25 _ (ha_2.mono (RSl.mono RU8.mono) hleu_22) (ha_3.mono R_Write.mono hleu_22) (ha_4.mono RU8.mono hleu_22) _ hr_37) rfl (fun u_38 Ku_38 Hu_38 hRu_38 hleu_38 hfu_38 => ?_)
      obtain ⟨az_39, nz_39, rfl, rfl, hz_39, -⟩ := hRu_38
      replace hz_39 := IsSlice.mono R_Ptr.mono (New.call hleu_22) hz_39
      refine ZD (hK _ _ _ (ZJ hleu_38 ⟨⟨0, rfl⟩, ⟨2, rfl⟩, ⟨3, rfl⟩, trivial⟩) (JA.val ⟨by kernel_rfl, by kernel_rfl⟩ (ZI _) (i := 6) rfl ⟨by kernel_rfl, by kernel_rfl, rfl⟩ trivial (ZJ hleu_38 ⟨⟨0, rfl⟩, ⟨2, rfl⟩, ⟨3, rfl⟩, trivial⟩) (R.extract rfl rfl) rfl (JA.val ⟨by kernel_rfl, by kernel_rfl⟩ (ZI _) (i := 7) rfl ⟨by kernel_rfl, by kernel_rfl, rfl⟩ trivial (ZJ hleu_38 ⟨⟨0, rfl⟩, ⟨2, rfl⟩, ⟨3, rfl⟩, trivial⟩) (R.extract rfl rfl) rfl (JA.one (i := 8) (by kernel_rfl) (JO.step rfl trivial rfl (fun K hK => ZV 1 S41 rfl rfl rfl rfl rfl (Nat.le_of_ble_eq_true rfl) (ZD (hK _ _ _ (ZJ hleu_38 ⟨⟨0, rfl⟩, ⟨2, rfl⟩, ⟨3, rfl⟩, trivial⟩) (JA.val ⟨by kernel_rfl, by kernel_rfl⟩ (ZI _) (i := 9) rfl ⟨by kernel_rfl, by kernel_rfl, rfl⟩ trivial (ZJ hleu_38 ⟨⟨0, rfl⟩, ⟨2, rfl⟩, ⟨3, rfl⟩, trivial⟩) (ZE rfl) rfl (Zz (by kernel_rfl) (ZC ?_)))))))))))
      refine ZS (ZQ (vs := [.agg #[.int .u8 (x_36.1.Kind.toNat : Int), .int .i64 x_36.1.Links, .int .i64 x_36.1.Size, .slice az_39 nz_39 nz_39], .int .i64 x_36.2]) (K := []) (rst := [_, _, _, _]) (.inl rfl) rfl rfl (Zn 1 rfl rfl S41 (ZO rfl rfl)) ZL ?_)
      obtain rfl := Option.some.inj hx
      exact ⟨az_39, nz_39, rfl, rfl, hz_39, trivial⟩

set_option maxHeartbeats 8000000 in
theorem ref14_May_ok (p_1 : Object) (H : Heaplet) {aa_2 : Option Addr} {na_2 : Nat} {ca_2 : Nat} (ha_2 : IsSlice H R_Ptr 5 (.slice aa_2 na_2 ca_2) p_1.Data) (r : Bool) (hx : ref14_May p_1 = some r) :
  Does Tryz.prog 100 #[.agg #[.int .u8 (p_1.Kind.toNat : Int), .int .i64 p_1.Links, .int .i64 p_1.Size, .slice aa_2 na_2 ca_2]] [] H (fun u K' H' => u = .bool r ∧ K' = [] ∧ H = H' ∧ True) := by
 refine Does.enterL (vs := [.agg #[.int .u8 (p_1.Kind.toNat : Int), .int .i64 p_1.Links, .int .i64 p_1.Size, .slice aa_2 na_2 ca_2]]) (l := [(0, .agg #[.int .u8 (p_1.Kind.toNat : Int), .int .i64 p_1.Links, .int .i64 p_1.Size, .slice aa_2 na_2 ca_2])]) Tryz.func100 rfl rfl ⟨rfl, trivial⟩ (fun w hlt => ?_)
 unfold ref14_May at hx
 refine ZF (ZB (Zv rfl rfl (fun b_3 hb_3 => ZA rfl rfl (ZE rfl) (ZD (ZC (ZF (ZF (ZB (ZA rfl rfl (Zq F41_0 rfl) (ZA rfl rfl (Zd 0 S5 rfl rfl rfl) (ZA rfl rfl (R.lss8 (a := p_1.Kind) (b := (1 : UInt8)) rfl rfl) ?_)))))))))))
 refine ZA rfl rfl (ZG rfl) (Ze (t := 7) rfl (fun c_4 => ?_) (fun c_4 => ?_))
 ·
  replace hx := ZT c_4 hx
  refine ZH rfl rfl rfl rfl rfl (ZH rfl rfl rfl rfl rfl (ZH rfl rfl rfl rfl rfl (ZA rfl rfl (Zb rfl rfl) (ZA rfl rfl (ZG rfl) (ZH rfl rfl rfl rfl rfl (ZH rfl rfl rfl rfl rfl (ZH rfl rfl rfl rfl rfl (ZA rfl rfl (Zb rfl rfl) (ZA rfl rfl (ZG rfl) (ZH rfl rfl rfl rfl rfl (ZH rfl rfl rfl rfl rfl ?_)))))))))))
  refine ZH rfl rfl rfl rfl rfl (ZA rfl rfl (Zb rfl rfl) (ZA rfl rfl (ZG rfl) (ZH rfl rfl rfl rfl rfl (ZH rfl rfl rfl rfl rfl (ZH rfl rfl rfl rfl rfl (ZA rfl rfl (Zb rfl rfl) (ZA rfl rfl (ZG rfl) (ZH rfl rfl rfl rfl rfl (ZH rfl rfl rfl rfl rfl (ZH rfl rfl rfl rfl rfl (ZA rfl rfl (Zb rfl rfl) ?_)))))))))))
  refine ZA rfl rfl (ZG rfl) (ZH rfl rfl rfl rfl rfl (ZH rfl rfl rfl rfl rfl (ZH rfl rfl rfl rfl rfl (ZH rfl rfl rfl rfl rfl (ZA rfl rfl (Zb rfl rfl) (ZD (ZC (Zu rfl (ZF (ZB (ZA rfl rfl (ZE rfl) ?_)))))))))))
  refine ZD (ZC (ZS (ZP (ZQ (vs := [.bool false]) (K := []) (rst := [_]) (.inl rfl) rfl rfl (ZO rfl rfl) ZL ?_))))
  obtain rfl := Option.some.inj hx
  exact ⟨rfl, rfl, rfl, trivial⟩
 ·
  replace hx := ZU c_4 hx
  refine ZK rfl rfl rfl (ZA rfl rfl (Zq F41_0 rfl) (ZK rfl rfl rfl (ZA rfl rfl (Zd 0 S5 rfl rfl rfl) (ZK rfl rfl rfl (ZA rfl rfl (R.gtr8 (a := p_1.Kind) (b := (7 : UInt8)) rfl rfl) (ZA rfl rfl (Za rfl rfl) (ZA rfl rfl (ZG rfl) (Ze (t := 12) rfl (fun c_5 => ?_) (fun c_5 => ?_)))))))))
  ·
   replace hx := ZT c_5 hx
   refine ZH rfl rfl rfl rfl rfl (ZH rfl rfl rfl rfl rfl (ZH rfl rfl rfl rfl rfl (ZA rfl rfl (Zb rfl rfl) (ZA rfl rfl (ZG rfl) (ZH rfl rfl rfl rfl rfl (ZH rfl rfl rfl rfl rfl (ZH rfl rfl rfl rfl rfl (ZA rfl rfl (Zb rfl rfl) (ZA rfl rfl (ZG rfl) (ZH rfl rfl rfl rfl rfl (ZH rfl rfl rfl rfl rfl ?_)))))))))))
   refine ZH rfl rfl rfl rfl rfl (ZA rfl rfl (Zb rfl rfl) (ZA rfl rfl (ZG rfl) (ZH rfl rfl rfl rfl rfl (ZH rfl rfl rfl rfl rfl (ZH rfl rfl rfl rfl rfl (ZA rfl rfl (Zb rfl rfl) (ZA rfl rfl (ZG rfl) (ZH rfl rfl rfl rfl rfl (ZH rfl rfl rfl rfl rfl (ZH rfl rfl rfl rfl rfl (ZH rfl rfl rfl rfl rfl ?_)))))))))))
   refine ZA rfl rfl (Zb rfl rfl) (ZD (ZC (Zu rfl (ZF (ZB (ZA rfl rfl (ZE rfl) (ZD (ZC (ZS (ZP (ZQ (vs := [.bool false]) (K := []) (rst := [_]) (.inl rfl) rfl rfl (ZO rfl rfl) ZL ?_)))))))))))
   obtain rfl := Option.some.inj hx
   exact ⟨rfl, rfl, rfl, trivial⟩
  ·
   replace hx := ZU c_5 hx
   refine ZK rfl rfl rfl (ZA rfl rfl (Zq F41_1 rfl) (ZK rfl rfl rfl (ZA rfl rfl (Zd 0 S3 rfl rfl rfl) (ZK rfl rfl rfl (ZA rfl rfl (Zy rfl rfl) (ZA rfl rfl (Za rfl rfl) (ZA rfl rfl (ZG rfl) (Ze (t := 17) rfl (fun c_6 => ?_) (fun c_6 => ?_)))))))))
   ·
    replace hx := ZT c_6 hx
    refine ZH rfl rfl rfl rfl rfl (ZH rfl rfl rfl rfl rfl (ZH rfl rfl rfl rfl rfl (ZA rfl rfl (Zb rfl rfl) (ZA rfl rfl (ZG rfl) (ZH rfl rfl rfl rfl rfl (ZH rfl rfl rfl rfl rfl (ZH rfl rfl rfl rfl rfl (ZA rfl rfl (Zb rfl rfl) (ZA rfl rfl (ZG rfl) (ZH rfl rfl rfl rfl rfl (ZH rfl rfl rfl rfl rfl ?_)))))))))))
    refine ZH rfl rfl rfl rfl rfl (ZA rfl rfl (Zb rfl rfl) (ZA rfl rfl (ZG rfl) (ZH rfl rfl rfl rfl rfl (ZH rfl rfl rfl rfl rfl (ZH rfl rfl rfl rfl rfl (ZH rfl rfl rfl rfl rfl (ZA rfl rfl (Zb rfl rfl) (ZD (ZC (Zu rfl (ZF ?_)))))))))))
    refine ZB (ZA rfl rfl (ZE rfl) (ZD (ZC (ZS (ZP (ZQ (vs := [.bool false]) (K := []) (rst := [_]) (.inl rfl) rfl rfl (ZO rfl rfl) ZL ?_))))))
    obtain rfl := Option.some.inj hx
    exact ⟨rfl, rfl, rfl, trivial⟩
   ·
    replace hx := ZU c_6 hx
    refine ZK rfl rfl rfl (ZA rfl rfl (Zq F41_1 rfl) (ZK rfl rfl rfl (ZA rfl rfl (Zd 0 S3 rfl rfl rfl) (ZK rfl rfl rfl (ZA rfl rfl (R.gtr_i rfl rfl) (ZA rfl rfl (Za rfl rfl) (ZA rfl rfl (ZG rfl) (Ze (t := 22) rfl (fun c_7 => ?_) (fun c_7 => ?_)))))))))
    ·
     replace hx := ZT c_7 hx
     refine ZH rfl rfl rfl rfl rfl (ZH rfl rfl rfl rfl rfl (ZH rfl rfl rfl rfl rfl (ZA rfl rfl (Zb rfl rfl) (ZA rfl rfl (ZG rfl) (ZH rfl rfl rfl rfl rfl (ZH rfl rfl rfl rfl rfl (ZH rfl rfl rfl rfl rfl (ZA rfl rfl (Zb rfl rfl) (ZA rfl rfl (ZG rfl) (ZH rfl rfl rfl rfl rfl (ZH rfl rfl rfl rfl rfl ?_)))))))))))
     refine ZH rfl rfl rfl rfl rfl (ZH rfl rfl rfl rfl rfl (ZA rfl rfl (Zb rfl rfl) (ZD (ZC (Zu rfl (ZF (ZB (ZA rfl rfl (ZE rfl) (ZD (ZC (ZS ?_)))))))))))
     refine ZP (ZQ (vs := [.bool false]) (K := []) (rst := [_]) (.inl rfl) rfl rfl (ZO rfl rfl) ZL ?_)
     obtain rfl := Option.some.inj hx
     exact ⟨rfl, rfl, rfl, trivial⟩
    ·
     replace hx := ZU c_7 hx
     refine ZK rfl rfl rfl (ZA rfl rfl (Zq F41_2 rfl) (ZK rfl rfl rfl (ZA rfl rfl (Zd 0 S3 rfl rfl rfl) (ZK rfl rfl rfl (ZA rfl rfl (Zy rfl rfl) (ZA rfl rfl (Za rfl rfl) (ZA rfl rfl (ZG rfl) (Ze (t := 27) rfl (fun c_8 => ?_) (fun c_8 => ?_)))))))))
     ·
      replace hx := ZT c_8 hx
      refine ZH rfl rfl rfl rfl rfl (ZH rfl rfl rfl rfl rfl (ZH rfl rfl rfl rfl rfl (ZA rfl rfl (Zb rfl rfl) (ZA rfl rfl (ZG rfl) (ZH rfl rfl rfl rfl rfl (ZH rfl rfl rfl rfl rfl (ZH rfl rfl rfl rfl rfl (ZH rfl rfl rfl rfl rfl (ZA rfl rfl (Zb rfl rfl) (ZD (ZC ?_)))))))))))
      refine Zu rfl (ZF (ZB (ZA rfl rfl (ZE rfl) (ZD (ZC (ZS (ZP (ZQ (vs := [.bool false]) (K := []) (rst := [_]) (.inl rfl) rfl rfl (ZO rfl rfl) ZL ?_))))))))
      obtain rfl := Option.some.inj hx
      exact ⟨rfl, rfl, rfl, trivial⟩
     ·
      replace hx := ZU c_8 hx
      refine ZK rfl rfl rfl (ZA rfl rfl (Zq F41_2 rfl) (ZK rfl rfl rfl (ZA rfl rfl (Zd 0 S3 rfl rfl rfl) (ZK rfl rfl rfl (ZA rfl rfl (R.gtr_i rfl rfl) (ZA rfl rfl (Za rfl rfl) (ZA rfl rfl (ZG rfl) (Ze (t := 32) rfl (fun c_9 => ?_) (fun c_9 => ?_)))))))))
      ·
       replace hx := ZT c_9 hx
       refine ZH rfl rfl rfl rfl rfl (ZH rfl rfl rfl rfl rfl (ZH rfl rfl rfl rfl rfl (ZH rfl rfl rfl rfl rfl (ZA rfl rfl (Zb rfl rfl) (ZD (ZC (Zu rfl (ZF (ZB (ZA rfl rfl (ZE rfl) (ZD ?_)))))))))))
       refine ZC (ZS (ZP (ZQ (vs := [.bool false]) (K := []) (rst := [_]) (.inl rfl) rfl rfl (ZO rfl rfl) ZL ?_)))
       obtain rfl := Option.some.inj hx
       exact ⟨rfl, rfl, rfl, trivial⟩
      ·
       replace hx := ZU c_9 hx
       refine ZK rfl rfl rfl (ZA rfl rfl (Zq F41_3 rfl) (ZK rfl rfl rfl (ZA rfl rfl (Zd 0 S34 rfl rfl rfl) (ZK rfl rfl rfl (ZA rfl rfl (Zs U34 rfl (IsSlice.long ha_2)) (ZK rfl rfl rfl (ZA rfl rfl (Zx rfl rfl) (ZA rfl rfl (Za rfl rfl) (ZD (ZC (ZW rfl (fun c_10 => ?_) (fun c_10 => ?_))))))))))))
       ·
        replace hx := ZT c_10 hx
        refine ZF (ZB (ZA rfl rfl (ZE rfl) (ZD (ZC (ZS (ZP (ZQ (vs := [.bool false]) (K := []) (rst := [_]) (.inl rfl) rfl rfl (ZO rfl rfl) ZL ?_)))))))
        obtain rfl := Option.some.inj hx
        exact ⟨rfl, rfl, rfl, trivial⟩
       ·
        replace hx := ZU c_10 hx
        refine ZX (ZC (ZF (ZF (ZB (ZA rfl rfl (ZE rfl) (ZD (ZC ?_)))))))
        obtain ⟨t_11, ht_13, hx⟩ := ZM hx
        refine Z1 (fun l o g => ∃ t_11a : Unit, l = [] ∧ o = [] ∧ H = g ∧ t_11 = .inl t_11a) ?_ ?_
        ·
         rintro _ _ _ ⟨t_11a, rfl, rfl, rfl, rfl⟩
         simp only [Sum.elim_inl] at hx
         refine ZC (ZF (ZB (ZA rfl rfl (ZE rfl) (ZD (ZC (ZS (ZQ (vs := [.bool true]) (K := []) (rst := []) (.inl rfl) rfl rfl (ZO rfl rfl) ZL ?_)))))))
         obtain rfl := Option.some.inj hx
         exact ⟨rfl, rfl, rfl, trivial⟩
        ·
         have hxo_12 := hx; clear hx; have hx := ht_13; clear ht_13
         refine JC.block (Z5 (fun n l o g => ∃ s_14 : Nat, l = [(1, .pointer (some ⟨b_3, 0, none⟩)), (3, .int .i64 ((s_14 : Nat) : Int))] ∧ o = [[(b_3, .cells #[.int .u8 (p_1.Kind.toNat : Int), .int .i64 p_1.Links, .int .i64 p_1.Size, .slice aa_2 na_2 ca_2] 41 (0, 0))]] ∧ H = g ∧ run (ref14_May_l1 p_1) n s_14 = some t_11) FUEL ?_ ⟨0, rfl, rfl, rfl, hx⟩ ⟨rfl, rfl, trivial⟩ ?_)
         ·
          rintro _ _ _ ⟨s_14, rfl, rfl, rfl, hn_15⟩
          exact Z2 hn_15
         ·
          rintro n_16 _ _ _ ⟨s_14, rfl, rfl, rfl, hn_15⟩
          clear hx; obtain ⟨oo_18, hx, hd_17⟩ := Z4 hn_15
          unfold ref14_May_l1 at hx
          refine ZF (ZF (ZB (ZA rfl rfl (ZG rfl) (ZA rfl rfl (Zy rfl rfl) (ZD (ZC (ZW rfl (fun c_17 => ?_) (fun c_17 => ?_))))))))
          ·
           replace hx := ZT c_17 hx
           refine ZX (ZC (ZF (JC.block (ZF (ZB (ZA rfl rfl (Zq F41_3 rfl) (ZA rfl rfl (Zd 0 S34 rfl rfl rfl) (ZA rfl rfl (ZG rfl) ?_))))))))
           obtain ⟨y_18, hN_19, hx⟩ := Zl hx
           obtain ⟨b_20, o_21, cs_22, hE_23, hR_24, hl_25, hc_26⟩ := IsSlice.elem ha_2 hN_19
           obtain rfl := hR_24
           refine ZA rfl rfl (R.ix U34 S31 rfl rfl hE_23) (ZA rfl rfl (R.ldHE (cs := [.int .i64 y_18.At, .int .u32 (y_18.Birth.toNat : Int), .int .u32 (y_18.Iv.toNat : Int), .int .u32 (y_18.Tag.toNat : Int), .int .u32 (y_18.Sum.toNat : Int)]) (k := 0) (vs := [.int .i64 y_18.At, .int .u32 (y_18.Birth.toNat : Int), .int .u32 (y_18.Iv.toNat : Int), .int .u32 (y_18.Tag.toNat : Int), .int .u32 (y_18.Sum.toNat : Int)]) S31 rfl hc_26 rfl rfl) ?_)
           obtain ⟨x_27, hr_28, hx⟩ := ZM hx
           refine ZR (vs := [_]) (args := [_]) (K := []) (rst := [_]) E51 rfl rfl rfl ZL (ref10_May_ok y_18 _ _ hr_28) rfl (fun u_29 Ku_29 Hu_29 hRu_29 hleu_29 hfu_29 => ?_)
           obtain ⟨rfl, rfl, rfl, -⟩ := hRu_29
           refine ZA rfl rfl (R.not rfl) (ZD (ZC (ZW rfl (fun c_30 => ?_) (fun c_30 => ?_))))
           ·
            replace hx := ZT c_30 hx
            refine ZF (ZB (ZA rfl rfl (ZE rfl) (ZD (ZC (ZS (Z9 (ZP ?_)))))))
            obtain rfl := Zr hd_17 hx
            refine ZP (Z9 ?_)
            clear hx; have hx := hxo_12
            simp only [Sum.elim_inl, Sum.elim_inr] at hx
            refine ZP (ZP (ZQ (vs := [.bool false]) (K := []) (rst := [_]) (.inl rfl) rfl rfl (ZO rfl rfl) ZL ?_))
            obtain rfl := Option.some.inj hx
            exact ⟨rfl, rfl, rfl, trivial⟩
           ·
            replace hx := ZU c_30 hx
            refine ZX (Zm (ZC (ZB (ZA rfl rfl (ZG rfl) (ZA rfl rfl (R.inc rfl rfl (of_decide_eq_true c_17) (by decide)) (ZA rfl rfl (ZE rfl) (ZD ?_)))))))
            replace hx := Zp hd_17 hx
            exact ZZ ⟨s_14 + 1, rfl, rfl, rfl, hx⟩ ⟨rfl, rfl, trivial⟩ rfl rfl
          ·
           replace hx := ZU c_17 hx
           refine Z0 (Zc ?_)
           obtain rfl := Zr hd_17 hx
           refine Zc (Zh (JN.forget 0 ?_))
           exact ZZ ⟨(), rfl, rfl, rfl, rfl⟩ trivial rfl rfl

set_option maxHeartbeats 8000000 in
theorem ref10_Number_ok (p_1 : UInt32) (p_2 : Int) (H : Heaplet) (r : List UInt8) (hx : ref10_Number p_1 p_2 = some r) :
  Does Tryz.prog 137 #[.int .u32 (p_1.toNat : Int), .int .i64 p_2] [] H (fun u K' H' => ∃ ao0 : Option Addr, ∃ n0 : Nat, ∃ cap0 : Nat, ∃ K0 : Own, u = .slice ao0 n0 cap0 ∧ K' = [K0] ∧ H = H' ∧ RowOf (New H H) RU8 0 5 1 (.slice ao0 n0 cap0) r K0 ∧ (∀ p ∈ K0, p.1 ∉ ids (List.flatten [])) ∧ True) := by
 refine Does.enterL (vs := [.int .u32 (p_1.toNat : Int), .int .i64 p_2]) (l := [(0, .int .u32 (p_1.toNat : Int)), (1, .int .i64 p_2)]) Tryz.func137 rfl rfl ⟨rfl, rfl, trivial⟩ (fun w hlt => ?_)
 unfold ref10_Number at hx
 refine ZF (ZB (ZA rfl rfl (ZE rfl) (ZD (ZC (ZF (ZB (ZA rfl rfl (ZE rfl) (ZD (ZC (ZF (ZF ?_)))))))))))
 refine ZB (ZA rfl rfl (ZE rfl) (ZD (ZC ?_)))
 obtain ⟨t_3, ht_5, hx⟩ := ZM hx
 refine Z1 (fun l o g => ∃ ar_10 : Option Addr, ∃ nr_10 : Nat, ∃ cr_10 : Nat, ∃ Kr_10 : Own, l = [(5, .slice ar_10 nr_10 cr_10)] ∧ o = [Kr_10] ∧ H = g ∧ RowOf (New H H) RU8 w.heap.size 5 1 (.slice ar_10 nr_10 cr_10) t_3 Kr_10) ?_ ?_
 ·
  rintro _ _ _ ⟨ar_10, nr_10, cr_10, Kr_10, rfl, rfl, rfl, hr_10⟩
  refine ZC (ZF (ZB (ZA rfl rfl (ZG rfl) (ZA rfl rfl (ZE rfl) (ZD (ZC (ZS (ZQ (vs := [.slice ar_10 nr_10 cr_10]) (K := [_]) (rst := []) (.inl rfl) rfl rfl (ZO rfl rfl) (Zf 0 rfl ZL) ?_))))))))
  obtain rfl := Option.some.inj hx
  exact ⟨ar_10, nr_10, cr_10, Kr_10, rfl, rfl, rfl, (Zt (Nat.zero_le _) hr_10), (new_ids hr_10 hlt), trivial⟩
 ·
  have hxo_4 := hx; clear hx; have hx := ht_5; clear ht_5
  refine JC.block (JC.seg0 (Z5 (fun n l o g => ∃ s_6 : UInt32 × List UInt8 × Int, ∃ ar_9 : Option Addr, ∃ nr_9 : Nat, ∃ cr_9 : Nat, ∃ Kr_9 : Own, l = [(0, .int .u32 (s_6.1.toNat : Int)), (1, .int .i64 p_2), (5, .slice ar_9 nr_9 cr_9), (6, .int .i64 s_6.2.2)] ∧ o = [Kr_9] ∧ H = g ∧ run (ref10_Number_l1 p_2) n s_6 = some t_3 ∧ RowOf (New H H) RU8 w.heap.size 5 1 (.slice ar_9 nr_9 cr_9) s_6.2.1 Kr_9) FUEL ?_ ⟨(p_1, ([] : List UInt8), 0), none, 0, 0, [], rfl, rfl, rfl, hx, (Zi _ _ _ _ _)⟩ ⟨rfl, rfl, rfl, rfl, trivial⟩ ?_))
  ·
   rintro _ _ _ ⟨s_6, ar_9, nr_9, cr_9, Kr_9, rfl, rfl, rfl, hn_7, hr_9⟩
   exact Z2 hn_7
  ·
   rintro n_8 _ _ _ ⟨s_6, ar_9, nr_9, cr_9, Kr_9, rfl, rfl, rfl, hn_7, hr_9⟩
   clear hx; obtain ⟨oo_11, hx, hd_10⟩ := Z4 hn_7
   unfold ref10_Number_l1 at hx
   refine ZF (ZF (ZB (ZA rfl rfl (ZG rfl) (ZA rfl rfl (ZG rfl) (ZA rfl rfl (Zy rfl rfl) (ZD (ZC (ZW rfl (fun c_10 => ?_) (fun c_10 => ?_)))))))))
   ·
    replace hx := ZT c_10 hx
    refine ZX (ZC (ZF (JC.block (ZF (ZB (ZA rfl rfl (ZG rfl) (ZA rfl rfl (ZG rfl) (ZA rfl rfl (R.rem32 (a := s_6.1) (b := (256 : UInt32)) rfl rfl (by decide)) (ZA rfl rfl (R.cv_u32_u8 (a := s_6.1 % (256 : UInt32)) U27 U5 rfl) (JL.bslF (HF := (New H H)) (R := RU8) (ls := [(s_6.1 % (256 : UInt32)).toUInt8]) (vs := [.int .u8 (((s_6.1 % (256 : UInt32)).toUInt8).toNat : Int)]) U26 I5 rfl rfl (⟨_, _, rfl, rfl, rfl, rfl⟩) RU8.one rfl rfl rfl (by simp [maxLen]) rfl (fun vr_11 Kr_11 hr_11 => ?_)))))))))))
    obtain ⟨ar_11, cr_11, rfl⟩ := RowOf.val hr_11
    obtain ⟨q_12, hm_13, hl_14, hx⟩ := YC hx
    refine JL.appF (HF := (New H H)) 1 U26 I5 rfl rfl hr_9 rfl (SrcF.row 0 U26 rfl hr_11) hm_13 hl_14 rfl (Nat.le_refl _) rfl (fun vr_15 Kr_15 hr_15 => ?_)
    obtain ⟨ar_15, cr_15, rfl⟩ := RowOf.val hr_15
    refine ZA rfl rfl (ZE rfl) (ZD (ZC (ZB (ZA rfl rfl (ZG rfl) (ZA rfl rfl (R.quo32 (a := s_6.1) (b := (256 : UInt32)) rfl rfl (by decide)) (ZA rfl rfl (ZE rfl) (ZD (Zm (ZC (ZB (ZA rfl rfl (ZG rfl) ?_)))))))))))
    refine ZA rfl rfl (YA rfl rfl) (ZA rfl rfl (ZE rfl) (ZD ?_))
    replace hx := Zp hd_10 hx
    refine JN.forget 0 ?_
    exact ZZ ⟨(s_6.1 / (256 : UInt32), q_12, w64 (s_6.2.2 + 1)), ar_15, q_12.length, cr_15, Kr_15, rfl, rfl, rfl, hx, hr_15⟩ ⟨rfl, rfl, rfl, rfl, trivial⟩ rfl rfl
   ·
    replace hx := ZU c_10 hx
    refine Z0 (Zc ?_)
    obtain rfl := Zr hd_10 hx
    refine Zc (Zh ?_)
    exact ZZ ⟨ar_9, nr_9, cr_9, Kr_9, rfl, rfl, rfl, hr_9⟩ ⟨rfl, trivial⟩ rfl rfl

set_option maxHeartbeats 8000000 in
theorem ref10_Bytes_ok (p_1 : Ptr) (H : Heaplet) (r : List UInt8) (hx : ref10_Bytes p_1 = some r) :
  Does Tryz.prog 111 #[.agg #[.int .i64 p_1.At, .int .u32 (p_1.Birth.toNat : Int), .int .u32 (p_1.Iv.toNat : Int), .int .u32 (p_1.Tag.toNat : Int), .int .u32 (p_1.Sum.toNat : Int)]] [] H (fun u K' H' => ∃ ao0 : Option Addr, ∃ n0 : Nat, ∃ cap0 : Nat, ∃ K0 : Own, u = .slice ao0 n0 cap0 ∧ K' = [K0] ∧ H = H' ∧ RowOf (New H H) RU8 0 5 1 (.slice ao0 n0 cap0) r K0 ∧ (∀ p ∈ K0, p.1 ∉ ids (List.flatten [])) ∧ True) := by
 refine Does.enterL (vs := [.agg #[.int .i64 p_1.At, .int .u32 (p_1.Birth.toNat : Int), .int .u32 (p_1.Iv.toNat : Int), .int .u32 (p_1.Tag.toNat : Int), .int .u32 (p_1.Sum.toNat : Int)]]) (l := [(0, .agg #[.int .i64 p_1.At, .int .u32 (p_1.Birth.toNat : Int), .int .u32 (p_1.Iv.toNat : Int), .int .u32 (p_1.Tag.toNat : Int), .int .u32 (p_1.Sum.toNat : Int)])]) Tryz.func111 rfl rfl ⟨rfl, trivial⟩ (fun w hlt => ?_)
 unfold ref10_Bytes at hx
 refine ZF (ZB (Zv rfl rfl (fun b_2 hb_2 => ZA rfl rfl (ZE rfl) (ZD (ZC (ZF ?_))))))
 obtain ⟨t_3, ht_5, hx⟩ := ZM hx
 refine Z1 (fun l o g => ∃ ar_15 : Option Addr, ∃ nr_15 : Nat, ∃ cr_15 : Nat, ∃ Kr_15 : Own, l = [(1, .pointer (some ⟨b_2, 0, none⟩)), (3, .slice ar_15 nr_15 cr_15)] ∧ o = [[(b_2, .cells #[.int .i64 p_1.At, .int .u32 (p_1.Birth.toNat : Int), .int .u32 (p_1.Iv.toNat : Int), .int .u32 (p_1.Tag.toNat : Int), .int .u32 (p_1.Sum.toNat : Int)] 31 (0, 0))], Kr_15] ∧ H = g ∧ RowOf (New H H) RU8 w.heap.size 5 1 (.slice ar_15 nr_15 cr_15) t_3 Kr_15) ?_ ?_
 ·
  rintro _ _ _ ⟨ar_15, nr_15, cr_15, Kr_15, rfl, rfl, rfl, hr_15⟩
  refine ZC (ZF (ZB (ZA rfl rfl (ZG rfl) (ZA rfl rfl (Zq F31_2 rfl) (ZA rfl rfl (Zd 0 S27 rfl rfl rfl) ?_)))))
  obtain ⟨x_16, hr_17, hx⟩ := ZM hx
  refine ZR (vs := [_, _]) (args := [_, _]) (K := []) (rst := [_, _]) E137 rfl rfl rfl ZL (ref10_Number_ok p_1.Iv 4 _ _ hr_17) rfl (fun u_18 Ku_18 Hu_18 hRu_18 hleu_18 hfu_18 => ?_)
  obtain ⟨ar_19, nr_19, cr_19, Kr_19, rfl, rfl, rfl, hr_19, hnewr_19, -⟩ := hRu_18
  replace hr_19 := (RowOf.base (Zo (H2 := New H H) RU8.const hr_19) (fun p hp => (hfu_18 p (Zw 0 rfl hp)).resolve_left (hnewr_19 p hp)))
  obtain ⟨q_20, hm_21, hl_22, hx⟩ := YC hx
  refine JL.appF (HF := (New H H)) 2 U26 I5 rfl rfl hr_15 rfl (SrcF.row 0 U26 rfl hr_19) hm_21 hl_22 rfl (Nat.le_refl _) rfl (fun vr_23 Kr_23 hr_23 => ?_)
  obtain ⟨ar_23, cr_23, rfl⟩ := RowOf.val hr_23
  refine ZA rfl rfl (ZE rfl) (ZD (ZC (ZF (ZB (ZA rfl rfl (ZG rfl) (ZA rfl rfl (Zq F31_3 rfl) (ZA rfl rfl (Zd 1 S27 rfl rfl rfl) ?_)))))))
  obtain ⟨x_24, hr_25, hx⟩ := ZM hx
  refine ZR (vs := [_, _]) (args := [_, _]) (K := []) (rst := [_, _, _]) E137 rfl rfl rfl ZL (ref10_Number_ok p_1.Tag 4 _ _ hr_25) rfl (fun u_26 Ku_26 Hu_26 hRu_26 hleu_26 hfu_26 => ?_)
  obtain ⟨ar_27, nr_27, cr_27, Kr_27, rfl, rfl, rfl, hr_27, hnewr_27, -⟩ := hRu_26
  replace hr_27 := (RowOf.base (Zo (H2 := New H H) RU8.const hr_27) (fun p hp => (hfu_26 p (Zw 0 rfl hp)).resolve_left (hnewr_27 p hp)))
  obtain ⟨q_28, hm_29, hl_30, hx⟩ := YC hx
  refine JL.appF (HF := (New H H)) 3 U26 I5 rfl rfl hr_23 rfl (SrcF.row 0 U26 rfl hr_27) hm_29 hl_30 rfl (Nat.le_refl _) rfl (fun vr_31 Kr_31 hr_31 => ?_)
  obtain ⟨ar_31, cr_31, rfl⟩ := RowOf.val hr_31
  refine ZA rfl rfl (ZE rfl) (ZD (ZC (ZF (ZB (ZA rfl rfl (ZG rfl) (ZA rfl rfl (Zq F31_4 rfl) (ZA rfl rfl (Zd 2 S27 rfl rfl rfl) ?_)))))))
  obtain ⟨x_32, hr_33, hx⟩ := ZM hx
  refine ZR (vs := [_, _]) (args := [_, _]) (K := []) (rst := [_, _, _, _]) E137 rfl rfl rfl ZL (ref10_Number_ok p_1.Sum 4 _ _ hr_33) rfl (fun u_34 Ku_34 Hu_34 hRu_34 hleu_34 hfu_34 => ?_)
  obtain ⟨ar_35, nr_35, cr_35, Kr_35, rfl, rfl, rfl, hr_35, hnewr_35, -⟩ := hRu_34
  replace hr_35 := (RowOf.base (Zo (H2 := New H H) RU8.const hr_35) (fun p hp => (hfu_34 p (Zw 0 rfl hp)).resolve_left (hnewr_35 p hp)))
  obtain ⟨q_36, hm_37, hl_38, hx⟩ := YC hx
  refine JL.appF (HF := (New H H)) 4 U26 I5 rfl rfl hr_31 rfl (SrcF.row 0 U26 rfl hr_35) hm_37 hl_38 rfl (Nat.le_refl _) rfl (fun vr_39 Kr_39 hr_39 => ?_)
  obtain ⟨ar_39, cr_39, rfl⟩ := RowOf.val hr_39
  refine ZA rfl rfl (ZE rfl) (ZD (ZC (ZS (ZQ (vs := [.slice ar_39 q_36.length cr_39]) (K := [_]) (rst := [_, _, _, _]) (.inl rfl) rfl rfl (ZO rfl rfl) (Zf 4 rfl ZL) ?_))))
  obtain rfl := Option.some.inj hx
  exact ⟨ar_39, q_36.length, cr_39, Kr_39, rfl, rfl, rfl, (Zt (Nat.zero_le _) hr_39), (new_ids hr_39 hlt), trivial⟩
 ·
  have hxo_4 := hx; clear hx; have hx := ht_5; clear ht_5
  refine JC.draw (so := [_]) 9 rfl Mixed ⟨⟨0, rfl⟩, trivial⟩ (JA.val ⟨by kernel_rfl, by kernel_rfl⟩ (ZI _) (i := 0) rfl ⟨by kernel_rfl, by kernel_rfl, rfl⟩ trivial (ZJ (Hle.refl _) ⟨⟨0, rfl⟩, trivial⟩) (Zq F31_0 rfl) rfl (JA.val ⟨by kernel_rfl, by kernel_rfl⟩ (ZI _) (i := 1) rfl ⟨by kernel_rfl, by kernel_rfl, rfl⟩ trivial (ZJ (Hle.refl _) ⟨⟨0, rfl⟩, trivial⟩) (Zd 0 S3 rfl rfl rfl) rfl (JA.val ⟨by kernel_rfl, by kernel_rfl⟩ (ZI _) (i := 2) rfl ⟨by kernel_rfl, by kernel_rfl, rfl⟩ trivial (ZJ (Hle.refl _) ⟨⟨0, rfl⟩, trivial⟩) (R.cv_i64_u8 U3 U5 rfl) rfl (JA.val ⟨by kernel_rfl, by kernel_rfl⟩ (ZI _) (i := 4) rfl ⟨by kernel_rfl, by kernel_rfl, rfl⟩ trivial (ZJ (Hle.refl _) ⟨⟨0, rfl⟩, trivial⟩) (Zq F31_1 rfl) rfl (JA.val ⟨by kernel_rfl, by kernel_rfl⟩ (ZI _) (i := 5) rfl ⟨by kernel_rfl, by kernel_rfl, rfl⟩ trivial (ZJ (Hle.refl _) ⟨⟨0, rfl⟩, trivial⟩) (Zd 0 S27 rfl rfl rfl) rfl ?_)))))
  obtain ⟨x_7, hr_8, hx⟩ := ZM hx
  obtain ⟨q_11, hm_12, hl_13, hx⟩ := YC hx
  refine JA.two (i := 3) (j := 6) (by kernel_rfl) ?_ ?_
  ·
   refine JO.step rfl trivial rfl (fun K hK => JL.bslF (HF := (New H H)) (R := RU8) (ls := [u8i p_1.At]) (vs := [.int .u8 ((u8i p_1.At).toNat : Int)]) U26 I5 rfl rfl (⟨_, _, rfl, rfl, rfl, rfl⟩) RU8.one rfl rfl rfl (by simp [maxLen]) rfl (fun vr_6 Kr_6 hr_6 => ?_))
   obtain ⟨ar_6, cr_6, rfl⟩ := RowOf.val hr_6
   refine ZD (hK _ _ _ (ZJ (Hle.refl _) ⟨⟨1, rfl⟩, trivial⟩) (JA.one (i := 6) (by kernel_rfl) (JO.step rfl trivial rfl (fun K hK => ZR (vs := [_, _]) (args := [_, _]) (K := []) (rst := [_, _]) E137 rfl rfl rfl ZL (ref10_Number_ok p_1.Birth 3 _ _ hr_8) rfl (fun u_9 Ku_9 Hu_9 hRu_9 hleu_9 hfu_9 => ?_)))))
   obtain ⟨ar_10, nr_10, cr_10, Kr_10, rfl, rfl, rfl, hr_10, hnewr_10, -⟩ := hRu_9
   replace hr_10 := (RowOf.base (Zo (H2 := New H H) RU8.const hr_10) (fun p hp => (hfu_9 p (Zw 0 rfl hp)).resolve_left (hnewr_10 p hp)))
   refine ZD (hK _ _ _ (ZJ (Hle.refl _) ⟨⟨2, rfl⟩, trivial⟩) (JA.one (i := 7) (by kernel_rfl) (JO.step rfl trivial rfl (fun K hK => JL.appF (HF := (New H H)) 1 U26 I5 rfl rfl hr_6 rfl (SrcF.row 0 U26 rfl hr_10) hm_12 hl_13 rfl (Nat.le_refl _) rfl (fun vr_14 Kr_14 hr_14 => ?_)))))
   obtain ⟨ar_14, cr_14, rfl⟩ := RowOf.val hr_14
   refine ZD (hK _ _ _ (ZJ (Hle.refl _) ⟨⟨2, rfl⟩, trivial⟩) (JA.val ⟨by kernel_rfl, by kernel_rfl⟩ (ZI _) (i := 8) rfl ⟨by kernel_rfl, by kernel_rfl, rfl⟩ trivial (ZJ (Hle.refl _) ⟨⟨2, rfl⟩, trivial⟩) (ZE rfl) rfl (Zz (by kernel_rfl) ?_)))
   obtain rfl := Option.some.inj hx
   refine JN.forget 0 (ZN 1 rfl ?_)
   exact ZZ ⟨ar_14, q_11.length, cr_14, Kr_14, rfl, rfl, rfl, hr_14⟩ ⟨rfl, rfl, trivial⟩ rfl rfl
  ·
   refine JO.step rfl trivial rfl (fun K hK => ZR (vs := [_, _]) (args := [_, _]) (K := []) (rst := [_]) E137 rfl rfl rfl ZL (ref10_Number_ok p_1.Birth 3 _ _ hr_8) rfl (fun u_9 Ku_9 Hu_9 hRu_9 hleu_9 hfu_9 => ?_))
   obtain ⟨ar_10, nr_10, cr_10, Kr_10, rfl, rfl, rfl, hr_10, hnewr_10, -⟩ := hRu_9
   replace hr_10 := (RowOf.base (Zo (H2 := New H H) RU8.const hr_10) (fun p hp => (hfu_9 p (Zw 0 rfl hp)).resolve_left (hnewr_10 p hp)))
   refine ZD (hK _ _ _ (ZJ (Hle.refl _) ⟨⟨1, rfl⟩, trivial⟩) (JA.one (i := 3) (by kernel_rfl) (JO.step rfl trivial rfl (fun K hK => JL.bslF (HF := (New H H)) (R := RU8) (ls := [u8i p_1.At]) (vs := [.int .u8 ((u8i p_1.At).toNat : Int)]) U26 I5 rfl rfl (⟨_, _, rfl, rfl, rfl, rfl⟩) RU8.one rfl rfl rfl (by simp [maxLen]) rfl (fun vr_6 Kr_6 hr_6 => ?_)))))
   obtain ⟨ar_6, cr_6, rfl⟩ := RowOf.val hr_6
   refine ZD (hK _ _ _ (ZJ (Hle.refl _) ⟨⟨2, rfl⟩, trivial⟩) (JA.one (i := 7) (by kernel_rfl) (JO.step rfl trivial rfl (fun K hK => JL.appF (HF := (New H H)) 0 U26 I5 rfl rfl hr_6 rfl (SrcF.row 1 U26 rfl hr_10) hm_12 hl_13 rfl (Nat.le_refl _) rfl (fun vr_14 Kr_14 hr_14 => ?_)))))
   obtain ⟨ar_14, cr_14, rfl⟩ := RowOf.val hr_14
   refine ZD (hK _ _ _ (ZJ (Hle.refl _) ⟨⟨2, rfl⟩, trivial⟩) (JA.val ⟨by kernel_rfl, by kernel_rfl⟩ (ZI _) (i := 8) rfl ⟨by kernel_rfl, by kernel_rfl, rfl⟩ trivial (ZJ (Hle.refl _) ⟨⟨2, rfl⟩, trivial⟩) (ZE rfl) rfl (Zz (by kernel_rfl) ?_)))
   obtain rfl := Option.some.inj hx
   refine JN.forget 1 (ZN 1 rfl ?_)
   exact ZZ ⟨ar_14, q_11.length, cr_14, Kr_14, rfl, rfl, rfl, hr_14⟩ ⟨rfl, rfl, trivial⟩ rfl rfl

set_option maxHeartbeats 8000000 in
theorem ref14_Block_ok (p_1 : Object) (H : Heaplet) {aa_2 : Option Addr} {na_2 : Nat} {ca_2 : Nat} (ha_2 : IsSlice H R_Ptr 5 (.slice aa_2 na_2 ca_2) p_1.Data) (r : List UInt8) (hx : ref14_Block p_1 = some r) :
  Does Tryz.prog 101 #[.agg #[.int .u8 (p_1.Kind.toNat : Int), .int .i64 p_1.Links, .int .i64 p_1.Size, .slice aa_2 na_2 ca_2]] [] H (fun u K' H' => ∃ ao0 : Option Addr, ∃ n0 : Nat, ∃ cap0 : Nat, ∃ K0 : Own, u = .slice ao0 n0 cap0 ∧ K' = [K0] ∧ H = H' ∧ RowOf (New H H) RU8 0 5 1 (.slice ao0 n0 cap0) r K0 ∧ (∀ p ∈ K0, p.1 ∉ ids (List.flatten [])) ∧ True) := by
 refine Does.enterL (vs := [.agg #[.int .u8 (p_1.Kind.toNat : Int), .int .i64 p_1.Links, .int .i64 p_1.Size, .slice aa_2 na_2 ca_2]]) (l := [(0, .agg #[.int .u8 (p_1.Kind.toNat : Int), .int .i64 p_1.Links, .int .i64 p_1.Size, .slice aa_2 na_2 ca_2])]) Tryz.func101 rfl rfl ⟨rfl, trivial⟩ (fun w hlt => ?_)
 unfold ref14_Block at hx
 refine ZF (ZB (Zv rfl rfl (fun b_3 hb_3 => ZA rfl rfl (ZE rfl) (ZD (ZC (ZF (ZB (ZA rfl rfl (Zq F41_0 rfl) (ZA rfl rfl (Zd 0 S5 rfl rfl rfl) (ZA rfl rfl (Zq F41_1 rfl) (ZA rfl rfl (Zd 0 S3 rfl rfl rfl) ?_)))))))))))
 refine ZA rfl rfl (R.cv_i64_u8 U3 U5 rfl) (ZA rfl rfl (Zq F41_2 rfl) (ZA rfl rfl (Zd 0 S3 rfl rfl rfl) (ZA rfl rfl (R.rem_i rfl rfl (by decide)) (ZA rfl rfl (R.cv_i64_u8 U3 U5 rfl) (ZA rfl rfl (Zq F41_2 rfl) (ZA rfl rfl (Zd 0 S3 rfl rfl rfl) (ZA rfl rfl (R.quo_i rfl rfl (by decide)) (ZA rfl rfl (R.cv_i64_u8 U3 U5 rfl) (JL.bslF (HF := (New H H)) (R := RU8) (ls := [p_1.Kind, u8i p_1.Links, u8i (p_1.Size.tmod 256), u8i (w64 (p_1.Size.tdiv 256))]) (vs := [.int .u8 (p_1.Kind.toNat : Int), .int .u8 ((u8i p_1.Links).toNat : Int), .int .u8 ((u8i (p_1.Size.tmod 256)).toNat : Int), .int .u8 ((u8i (w64 (p_1.Size.tdiv 256))).toNat : Int)]) U26 I5 rfl rfl (⟨_, _, rfl, rfl, rfl, ⟨_, _, rfl, rfl, rfl, ⟨_, _, rfl, rfl, rfl, ⟨_, _, rfl, rfl, rfl, rfl⟩⟩⟩⟩) RU8.one rfl rfl rfl (by simp [maxLen]) rfl (fun vr_4 Kr_4 hr_4 => ?_))))))))))
 obtain ⟨ar_4, cr_4, rfl⟩ := RowOf.val hr_4
 refine ZA rfl rfl (ZE rfl) (ZD (ZC (ZF (ZB (ZA rfl rfl (ZG rfl) ?_)))))
 obtain ⟨z_7, hz_6, hc_5, hx⟩ := mks_some hx
 obtain ⟨q_8, hm_9, hl_10, hx⟩ := YC hx
 refine JL.appZR (HF := (New H H)) (y := (0 : UInt8)) 0 U26 U3 I5 rfl rfl hr_4 rfl (fun _ => rfl) RU8.one hz_6 hc_5 hm_9 hl_10 rfl (Nat.le_refl _) rfl (fun vr_11 Kr_11 hr_11 => ?_)
 obtain ⟨ar_11, cr_11, rfl⟩ := RowOf.val hr_11
 refine ZA rfl rfl (ZE rfl) (ZD (ZC (ZF (ZF (ZB (ZA rfl rfl (ZE rfl) (ZD (ZC ?_))))))))
 obtain ⟨t_12, ht_14, hx⟩ := ZM hx
 refine Z1 (fun l o g => ∃ ar_19 : Option Addr, ∃ nr_19 : Nat, ∃ cr_19 : Nat, ∃ Kr_19 : Own, l = [(3, .slice ar_19 nr_19 cr_19)] ∧ o = [Kr_19] ∧ H = g ∧ RowOf (New H H) RU8 w.heap.size 5 1 (.slice ar_19 nr_19 cr_19) t_12 Kr_19) ?_ ?_
 ·
  rintro _ _ _ ⟨ar_19, nr_19, cr_19, Kr_19, rfl, rfl, rfl, hr_19⟩
  refine ZC (ZF (ZB (ZA rfl rfl (ZG rfl) (ZA rfl rfl (ZE rfl) (ZD (ZC (ZS (ZQ (vs := [.slice ar_19 nr_19 cr_19]) (K := [_]) (rst := []) (.inl rfl) rfl rfl (ZO rfl rfl) (Zf 0 rfl ZL) ?_))))))))
  obtain rfl := Option.some.inj hx
  exact ⟨ar_19, nr_19, cr_19, Kr_19, rfl, rfl, rfl, (Zt (Nat.zero_le _) hr_19), (new_ids hr_19 hlt), trivial⟩
 ·
  have hxo_13 := hx; clear hx; have hx := ht_14; clear ht_14
  refine JC.block (Zj 1 rfl (Z5 (fun n l o g => ∃ s_15 : List UInt8 × Nat, ∃ ar_18 : Option Addr, ∃ nr_18 : Nat, ∃ cr_18 : Nat, ∃ Kr_18 : Own, l = [(1, .pointer (some ⟨b_3, 0, none⟩)), (3, .slice ar_18 nr_18 cr_18), (4, .int .i64 ((s_15.2 : Nat) : Int))] ∧ o = [[(b_3, .cells #[.int .u8 (p_1.Kind.toNat : Int), .int .i64 p_1.Links, .int .i64 p_1.Size, .slice aa_2 na_2 ca_2] 41 (0, 0))], Kr_18] ∧ H = g ∧ run (ref14_Block_l1 p_1) n s_15 = some t_12 ∧ RowOf (New H H) RU8 w.heap.size 5 1 (.slice ar_18 nr_18 cr_18) s_15.1 Kr_18) FUEL ?_ ⟨(q_8, 0), ar_11, q_8.length, cr_11, Kr_11, rfl, rfl, rfl, hx, hr_11⟩ ⟨rfl, rfl, rfl, trivial⟩ ?_))
  ·
   rintro _ _ _ ⟨s_15, ar_18, nr_18, cr_18, Kr_18, rfl, rfl, rfl, hn_16, hr_18⟩
   exact Z2 hn_16
  ·
   rintro n_17 _ _ _ ⟨s_15, ar_18, nr_18, cr_18, Kr_18, rfl, rfl, rfl, hn_16, hr_18⟩
   clear hx; obtain ⟨oo_20, hx, hd_19⟩ := Z4 hn_16
   unfold ref14_Block_l1 at hx
   refine ZF (ZF (ZB (ZA rfl rfl (ZG rfl) (ZA rfl rfl (Zy rfl rfl) (ZD (ZC (ZW rfl (fun c_19 => ?_) (fun c_19 => ?_))))))))
   ·
    replace hx := ZT c_19 hx
    refine ZX (ZC (ZF (JC.block (ZB (ZA rfl rfl (ZG rfl) (ZA rfl rfl (Zq F41_3 rfl) (ZA rfl rfl (Zd 0 S34 rfl rfl rfl) (ZA rfl rfl (ZG rfl) ?_))))))))
    obtain ⟨y_20, hN_21, hx⟩ := Zl hx
    obtain ⟨b_22, o_23, cs_24, hE_25, hR_26, hl_27, hc_28⟩ := IsSlice.elem ha_2 hN_21
    obtain rfl := hR_26
    refine ZA rfl rfl (R.ix U34 S31 rfl rfl hE_25) (ZA rfl rfl (R.ldHE (cs := [.int .i64 y_20.At, .int .u32 (y_20.Birth.toNat : Int), .int .u32 (y_20.Iv.toNat : Int), .int .u32 (y_20.Tag.toNat : Int), .int .u32 (y_20.Sum.toNat : Int)]) (k := 0) (vs := [.int .i64 y_20.At, .int .u32 (y_20.Birth.toNat : Int), .int .u32 (y_20.Iv.toNat : Int), .int .u32 (y_20.Tag.toNat : Int), .int .u32 (y_20.Sum.toNat : Int)]) S31 rfl hc_28 rfl rfl) ?_)
    obtain ⟨x_29, hr_30, hx⟩ := ZM hx
    refine ZR (vs := [_]) (args := [_]) (K := []) (rst := [_, _]) E111 rfl rfl rfl ZL (ref10_Bytes_ok y_20 _ _ hr_30) rfl (fun u_31 Ku_31 Hu_31 hRu_31 hleu_31 hfu_31 => ?_)
    obtain ⟨ar_32, nr_32, cr_32, Kr_32, rfl, rfl, rfl, hr_32, hnewr_32, -⟩ := hRu_31
    replace hr_32 := (RowOf.base (Zo (H2 := New H H) RU8.const hr_32) (fun p hp => (hfu_31 p (Zw 0 rfl hp)).resolve_left (hnewr_32 p hp)))
    obtain ⟨q_33, hm_34, hl_35, hx⟩ := YC hx
    refine JL.appF (HF := (New H H)) 2 U26 I5 rfl rfl hr_18 rfl (SrcF.row 0 U26 rfl hr_32) hm_34 hl_35 rfl (Nat.le_refl _) rfl (fun vr_36 Kr_36 hr_36 => ?_)
    obtain ⟨ar_36, cr_36, rfl⟩ := RowOf.val hr_36
    refine ZA rfl rfl (ZE rfl) (ZD (Zm (ZC (ZB (ZA rfl rfl (ZG rfl) (ZA rfl rfl (R.inc rfl rfl (of_decide_eq_true c_19) (by decide)) (ZA rfl rfl (ZE rfl) (ZD ?_))))))))
    replace hx := Zp hd_19 hx
    refine JN.forget 0 (ZN 1 rfl (ZN 1 rfl ?_))
    exact ZZ ⟨(q_33, s_15.2 + 1), ar_36, q_33.length, cr_36, Kr_36, rfl, rfl, rfl, hx, hr_36⟩ ⟨rfl, rfl, rfl, trivial⟩ rfl rfl
   ·
    replace hx := ZU c_19 hx
    refine Z0 (Zc ?_)
    obtain rfl := Zr hd_19 hx
    refine Zc (Zh (JN.forget 0 ?_))
    exact ZZ ⟨ar_18, nr_18, cr_18, Kr_18, rfl, rfl, rfl, hr_18⟩ ⟨rfl, trivial⟩ rfl rfl

set_option maxHeartbeats 8000000 in
theorem ref14_Read_ok (p_1 : List UInt8) (H : Heaplet) {aa_2 : Option Addr} {na_2 : Nat} {ca_2 : Nat} (ha_2 : IsSlice H RU8 1 (.slice aa_2 na_2 ca_2) p_1) (r : Object × Int) (hx : ref14_Read p_1 = some r) :
  Does Tryz.prog 65 #[.slice aa_2 na_2 ca_2] [] H (fun u K' H' => ∃ ao0 : Option Addr, ∃ n0 : Nat, ∃ cap0 : Nat, ∃ K0 : Own, u = .tuple #[.agg #[.int .u8 (r.1.Kind.toNat : Int), .int .i64 r.1.Links, .int .i64 r.1.Size, .slice ao0 n0 cap0], .int .i64 r.2] ∧ K' = [K0] ∧ RowOf (New H H') R_Ptr 0 31 5 (.slice ao0 n0 cap0) r.1.Data K0 ∧ (∀ p ∈ K0, p.1 ∉ ids (List.flatten [])) ∧ True) := by
 refine Does.enterL (vs := [.slice aa_2 na_2 ca_2]) (l := [(0, .slice aa_2 na_2 ca_2)]) Tryz.func65 rfl rfl ⟨rfl, trivial⟩ (fun w hlt => ?_)
 unfold ref14_Read at hx
 refine ZF (ZB (JL.alloc Z41 rfl (fun b_3 hb_3 => ZA rfl rfl (ZE rfl) (ZD (ZC (ZF (ZF (ZB (ZA rfl rfl (ZG rfl) (ZA rfl rfl (Zs U26 rfl (IsSlice.long ha_2)) (ZA rfl rfl (Zx rfl rfl) ?_)))))))))))
 refine ZD (ZC (ZW rfl (fun c_4 => ?_) (fun c_4 => ?_)))
 ·
  replace hx := ZT c_4 hx
  refine ZF (ZB (ZA rfl rfl (YB (vs := []) (cs := [.int .u8 ((0 : UInt8).toNat : Int), .int .i64 0, .int .i64 0, .slice none 0 0]) Z41 B41 rfl rfl rfl) (ZV 0 S41 rfl rfl rfl rfl rfl (Nat.le_of_ble_eq_true rfl) (ZA rfl rfl (ZE rfl) (ZD (ZC (ZS (ZP (Z8 (ZQ (vs := [.agg #[.int .u8 ((0 : UInt8).toNat : Int), .int .i64 0, .int .i64 0, .slice none 0 0], .int .i64 3]) (K := [_]) (rst := [_]) (.inl rfl) rfl rfl (Zn 1 rfl rfl S41 (ZO rfl rfl)) (Zf 0 rfl ZL) ?_))))))))))
  obtain rfl := Option.some.inj hx
  exact ⟨none, 0, 0, [], rfl, rfl, (Zi _ _ _ _ _), (fun p hp => by cases hp), trivial⟩
 ·
  replace hx := ZU c_4 hx
  refine ZX (ZC (ZF (JC.draw (so := [_]) 20 rfl Mixed ⟨⟨0, rfl⟩, trivial⟩ (JA.val ⟨by kernel_rfl, by kernel_rfl⟩ (ZI _) (i := 0) rfl ⟨by kernel_rfl, by kernel_rfl, rfl⟩ trivial (ZJ (Hle.refl _) ⟨⟨0, rfl⟩, trivial⟩) (ZG rfl) rfl ?_))))
  obtain ⟨y_5, hN_6, hx⟩ := Zl hx
  obtain ⟨b_7, o_8, cs_9, hE_10, hR_11, hl_12, hc_13⟩ := IsSlice.elem ha_2 hN_6
  obtain rfl := hR_11
  refine JA.val ⟨by kernel_rfl, by kernel_rfl⟩ (ZI _) (i := 1) rfl ⟨by kernel_rfl, by kernel_rfl, rfl⟩ trivial (ZJ (Hle.refl _) ⟨⟨0, rfl⟩, trivial⟩) (R.ix U26 S5 rfl rfl hE_10) rfl (JA.val ⟨by kernel_rfl, by kernel_rfl⟩ (ZI _) (i := 2) rfl ⟨by kernel_rfl, by kernel_rfl, rfl⟩ trivial (ZJ (Hle.refl _) ⟨⟨0, rfl⟩, trivial⟩) (R.ldH S5 rfl (hc_13 0 _ rfl)) rfl (JA.val ⟨by kernel_rfl, by kernel_rfl⟩ (ZI _) (i := 3) rfl ⟨by kernel_rfl, by kernel_rfl, rfl⟩ trivial (ZJ (Hle.refl _) ⟨⟨0, rfl⟩, trivial⟩) (ZG rfl) rfl ?_))
  obtain ⟨y_14, hN_15, hx⟩ := Zl hx
  obtain ⟨b_16, o_17, cs_18, hE_19, hR_20, hl_21, hc_22⟩ := IsSlice.elem ha_2 hN_15
  obtain rfl := hR_20
  refine JA.val ⟨by kernel_rfl, by kernel_rfl⟩ (ZI _) (i := 4) rfl ⟨by kernel_rfl, by kernel_rfl, rfl⟩ trivial (ZJ (Hle.refl _) ⟨⟨0, rfl⟩, trivial⟩) (R.ix U26 S5 rfl rfl hE_19) rfl (JA.val ⟨by kernel_rfl, by kernel_rfl⟩ (ZI _) (i := 5) rfl ⟨by kernel_rfl, by kernel_rfl, rfl⟩ trivial (ZJ (Hle.refl _) ⟨⟨0, rfl⟩, trivial⟩) (R.ldH S5 rfl (hc_22 0 _ rfl)) rfl (JA.val ⟨by kernel_rfl, by kernel_rfl⟩ (ZI _) (i := 6) rfl ⟨by kernel_rfl, by kernel_rfl, rfl⟩ trivial (ZJ (Hle.refl _) ⟨⟨0, rfl⟩, trivial⟩) (R.cv_u8_i64 (a := y_14) U5 U3 rfl) rfl (JA.val ⟨by kernel_rfl, by kernel_rfl⟩ (ZI _) (i := 7) rfl ⟨by kernel_rfl, by kernel_rfl, rfl⟩ trivial (ZJ (Hle.refl _) ⟨⟨0, rfl⟩, trivial⟩) (ZG rfl) rfl ?_)))
  obtain ⟨y_23, hN_24, hx⟩ := Zl hx
  obtain ⟨b_25, o_26, cs_27, hE_28, hR_29, hl_30, hc_31⟩ := IsSlice.elem ha_2 hN_24
  obtain rfl := hR_29
  refine JA.val ⟨by kernel_rfl, by kernel_rfl⟩ (ZI _) (i := 8) rfl ⟨by kernel_rfl, by kernel_rfl, rfl⟩ trivial (ZJ (Hle.refl _) ⟨⟨0, rfl⟩, trivial⟩) (R.ix U26 S5 rfl rfl hE_28) rfl (JA.val ⟨by kernel_rfl, by kernel_rfl⟩ (ZI _) (i := 9) rfl ⟨by kernel_rfl, by kernel_rfl, rfl⟩ trivial (ZJ (Hle.refl _) ⟨⟨0, rfl⟩, trivial⟩) (R.ldH S5 rfl (hc_31 0 _ rfl)) rfl (JA.val ⟨by kernel_rfl, by kernel_rfl⟩ (ZI _) (i := 10) rfl ⟨by kernel_rfl, by kernel_rfl, rfl⟩ trivial (ZJ (Hle.refl _) ⟨⟨0, rfl⟩, trivial⟩) (R.cv_u8_i64 (a := y_23) U5 U3 rfl) rfl (JA.val ⟨by kernel_rfl, by kernel_rfl⟩ (ZI _) (i := 11) rfl ⟨by kernel_rfl, by kernel_rfl, rfl⟩ trivial (ZJ (Hle.refl _) ⟨⟨0, rfl⟩, trivial⟩) (ZG rfl) rfl ?_)))
  obtain ⟨y_32, hN_33, hx⟩ := Zl hx
  obtain ⟨b_34, o_35, cs_36, hE_37, hR_38, hl_39, hc_40⟩ := IsSlice.elem ha_2 hN_33
  obtain rfl := hR_38
  refine JA.val ⟨by kernel_rfl, by kernel_rfl⟩ (ZI _) (i := 12) rfl ⟨by kernel_rfl, by kernel_rfl, rfl⟩ trivial (ZJ (Hle.refl _) ⟨⟨0, rfl⟩, trivial⟩) (R.ix U26 S5 rfl rfl hE_37) rfl (JA.val ⟨by kernel_rfl, by kernel_rfl⟩ (ZI _) (i := 13) rfl ⟨by kernel_rfl, by kernel_rfl, rfl⟩ trivial (ZJ (Hle.refl _) ⟨⟨0, rfl⟩, trivial⟩) (R.ldH S5 rfl (hc_40 0 _ rfl)) rfl (JA.val ⟨by kernel_rfl, by kernel_rfl⟩ (ZI _) (i := 14) rfl ⟨by kernel_rfl, by kernel_rfl, rfl⟩ trivial (ZJ (Hle.refl _) ⟨⟨0, rfl⟩, trivial⟩) (R.cv_u8_i64 (a := y_32) U5 U3 rfl) rfl (JA.val ⟨by kernel_rfl, by kernel_rfl⟩ (ZI _) (i := 15) rfl ⟨by kernel_rfl, by kernel_rfl, rfl⟩ trivial (ZJ (Hle.refl _) ⟨⟨0, rfl⟩, trivial⟩) (R.mul_i rfl rfl) rfl (JA.val ⟨by kernel_rfl, by kernel_rfl⟩ (ZI _) (i := 16) rfl ⟨by kernel_rfl, by kernel_rfl, rfl⟩ trivial (ZJ (Hle.refl _) ⟨⟨0, rfl⟩, trivial⟩) (YA rfl rfl) rfl (JA.val ⟨by kernel_rfl, by kernel_rfl⟩ (ZI _) (i := 17) rfl ⟨by kernel_rfl, by kernel_rfl, rfl⟩ trivial (ZJ (Hle.refl _) ⟨⟨0, rfl⟩, trivial⟩) (YB (vs := [(0, .int .u8 (y_5.toNat : Int)), (1, .int .i64 (y_14.toNat : Int)), (2, .int .i64 (w64 ((y_23.toNat : Int) + (w64 (256 * (y_32.toNat : Int))))))]) (cs := [.int .u8 (y_5.toNat : Int), .int .i64 (y_14.toNat : Int), .int .i64 (w64 ((y_23.toNat : Int) + (w64 (256 * (y_32.toNat : Int))))), .slice none 0 0]) Z41 B41 rfl rfl rfl) rfl (JA.one (i := 18) (by kernel_rfl) (JO.step rfl trivial rfl (fun K hK => JL.alloc Z41 rfl (fun b_41 hb_41 => ZD (hK _ _ _ (ZJ (Hle.refl _) ⟨⟨1, rfl⟩, trivial⟩) (JA.one (i := 19) (by kernel_rfl) ?_)))))))))))
  refine JO.step rfl trivial rfl (fun K hK => ZV 0 S41 rfl rfl rfl rfl rfl (Nat.le_of_ble_eq_true rfl) (ZD (hK _ _ _ (ZJ (Hle.refl _) ⟨⟨1, rfl⟩, trivial⟩) (Zz (by kernel_rfl) (ZC (ZF (ZF (ZB (ZA rfl rfl (ZE rfl) (ZD (ZC ?_)))))))))))
  obtain ⟨t_42, ht_44, hx⟩ := ZM hx
  refine Z1 (fun l o g => ∃ t_42a : List Ptr, ∃ ar_49 : Option Addr, ∃ nr_49 : Nat, ∃ cr_49 : Nat, ∃ Kr_49 : Own, l = [(0, .slice aa_2 na_2 ca_2), (2, .pointer (some ⟨b_3, 0, none⟩)), (4, .pointer (some ⟨b_41, 0, none⟩))] ∧ o = [[(b_3, .cells #[.int .u8 ((0 : UInt8).toNat : Int), .int .i64 0, .int .i64 0, .slice none 0 0] 41 (0, 0))], [(b_41, .cells #[.int .u8 (y_5.toNat : Int), .int .i64 (y_14.toNat : Int), .int .i64 (w64 ((y_23.toNat : Int) + (w64 (256 * (y_32.toNat : Int))))), .slice ar_49 nr_49 cr_49] 41 (0, 0))], Kr_49] ∧ H = g ∧ t_42 = .inl t_42a ∧ RowOf (New H H) R_Ptr w.heap.size 31 5 (.slice ar_49 nr_49 cr_49) t_42a Kr_49) ?_ ?_
  ·
   rintro _ _ _ ⟨t_42a, ar_49, nr_49, cr_49, Kr_49, rfl, rfl, rfl, rfl, hr_49⟩
   simp only [Sum.elim_inl] at hx
   refine ZC (ZF (ZF (JC.draw (so := [_, _, _]) 11 rfl Mixed ⟨⟨0, rfl⟩, ⟨1, rfl⟩, ⟨2, rfl⟩, trivial⟩ (JA.val ⟨by kernel_rfl, by kernel_rfl⟩ (ZI _) (i := 0) rfl ⟨by kernel_rfl, by kernel_rfl, rfl⟩ trivial (ZJ (Hle.refl _) ⟨⟨0, rfl⟩, ⟨1, rfl⟩, ⟨2, rfl⟩, trivial⟩) (Zg 1 (vs := [.int .u8 (y_5.toNat : Int), .int .i64 (y_14.toNat : Int), .int .i64 (w64 ((y_23.toNat : Int) + (w64 (256 * (y_32.toNat : Int))))), .slice ar_49 nr_49 cr_49]) S41 rfl rfl rfl rfl) rfl (JA.one (i := 1) (by kernel_rfl) (JO.step rfl trivial rfl (fun K hK => ?_)))))))
   obtain ⟨x_53, hr_54, hx⟩ := ZM hx
   refine JL.callL2 (vs := [_]) (v := .bool x_53) E100 rfl rfl (fun H_52 hle_51 hl_50 => Does.mono (ref14_May_ok (Object.mk y_5 (y_14.toNat : Int) (w64 ((y_23.toNat : Int) + (w64 (256 * (y_32.toNat : Int))))) t_42a) _ (Lent.row' 2 hl_50 R_Ptr.mono hle_51 rfl (hr_49.old R_Ptr.mono)) _ hr_54) (fun _ _ _ h => h.1)) rfl (ZD (hK _ _ _ (ZJ (Hle.refl _) ⟨⟨0, rfl⟩, ⟨1, rfl⟩, ⟨2, rfl⟩, trivial⟩) (JA.val ⟨by kernel_rfl, by kernel_rfl⟩ (ZI _) (i := 2) rfl ⟨by kernel_rfl, by kernel_rfl, rfl⟩ trivial (ZJ (Hle.refl _) ⟨⟨0, rfl⟩, ⟨1, rfl⟩, ⟨2, rfl⟩, trivial⟩) (R.not rfl) rfl (JA.val ⟨by kernel_rfl, by kernel_rfl⟩ (ZI _) (i := 3) rfl ⟨by kernel_rfl, by kernel_rfl, rfl⟩ trivial (ZJ (Hle.refl _) ⟨⟨0, rfl⟩, ⟨1, rfl⟩, ⟨2, rfl⟩, trivial⟩) (ZG rfl) rfl (JA.gSplit (t := 58) rfl (fun c_55 => ?_) (fun c_55 => ?_))))))
   ·
    replace hx := ZT c_55 hx
    refine JA.no ⟨by kernel_rfl, by kernel_rfl⟩ (ZI _) (i := 4) rfl ⟨by kernel_rfl, by kernel_rfl, rfl⟩ rfl rfl rfl rfl (ZJ (Hle.refl _) ⟨⟨0, rfl⟩, ⟨1, rfl⟩, ⟨2, rfl⟩, trivial⟩) rfl (JA.no ⟨by kernel_rfl, by kernel_rfl⟩ (ZI _) (i := 5) rfl ⟨by kernel_rfl, by kernel_rfl, rfl⟩ rfl rfl rfl rfl (ZJ (Hle.refl _) ⟨⟨0, rfl⟩, ⟨1, rfl⟩, ⟨2, rfl⟩, trivial⟩) rfl (JA.no ⟨by kernel_rfl, by kernel_rfl⟩ (ZI _) (i := 6) rfl ⟨by kernel_rfl, by kernel_rfl, rfl⟩ rfl rfl rfl rfl (ZJ (Hle.refl _) ⟨⟨0, rfl⟩, ⟨1, rfl⟩, ⟨2, rfl⟩, trivial⟩) rfl (JA.no ⟨by kernel_rfl, by kernel_rfl⟩ (ZI _) (i := 7) rfl ⟨by kernel_rfl, by kernel_rfl, rfl⟩ rfl rfl rfl rfl (ZJ (Hle.refl _) ⟨⟨0, rfl⟩, ⟨1, rfl⟩, ⟨2, rfl⟩, trivial⟩) rfl (JA.no ⟨by kernel_rfl, by kernel_rfl⟩ (ZI _) (i := 8) rfl ⟨by kernel_rfl, by kernel_rfl, rfl⟩ rfl rfl rfl rfl (ZJ (Hle.refl _) ⟨⟨0, rfl⟩, ⟨1, rfl⟩, ⟨2, rfl⟩, trivial⟩) rfl (JA.no ⟨by kernel_rfl, by kernel_rfl⟩ (ZI _) (i := 9) rfl ⟨by kernel_rfl, by kernel_rfl, rfl⟩ rfl rfl rfl rfl (ZJ (Hle.refl _) ⟨⟨0, rfl⟩, ⟨1, rfl⟩, ⟨2, rfl⟩, trivial⟩) rfl (JA.val ⟨by kernel_rfl, by kernel_rfl⟩ (ZI _) (i := 10) rfl ⟨by kernel_rfl, by kernel_rfl, rfl⟩ trivial (ZJ (Hle.refl _) ⟨⟨0, rfl⟩, ⟨1, rfl⟩, ⟨2, rfl⟩, trivial⟩) (Zb rfl rfl) rfl (Zz (by kernel_rfl) (ZC (Zu rfl (ZF (ZB ?_)))))))))))
    refine ZA rfl rfl (YB (vs := []) (cs := [.int .u8 ((0 : UInt8).toNat : Int), .int .i64 0, .int .i64 0, .slice none 0 0]) Z41 B41 rfl rfl rfl) (ZV 0 S41 rfl rfl rfl rfl rfl (Nat.le_of_ble_eq_true rfl) (ZA rfl rfl (ZE rfl) (ZD (ZC (ZS (ZP (Z8 (ZQ (vs := [.agg #[.int .u8 ((0 : UInt8).toNat : Int), .int .i64 0, .int .i64 0, .slice none 0 0], .int .i64 8]) (K := [_]) (rst := [_, _, _]) (.inl rfl) rfl rfl (Zn 1 rfl rfl S41 (ZO rfl rfl)) (Zf 0 rfl ZL) ?_))))))))
    obtain rfl := Option.some.inj hx
    exact ⟨none, 0, 0, [], rfl, rfl, (Zi _ _ _ _ _), (fun p hp => by cases hp), trivial⟩
   ·
    replace hx := ZU c_55 hx
    refine JA.val ⟨by kernel_rfl, by kernel_rfl⟩ (ZI _) (i := 4) rfl ⟨by kernel_rfl, by kernel_rfl, rfl⟩ ⟨_, _, rfl, rfl, rfl⟩ (ZJ (Hle.refl _) ⟨⟨0, rfl⟩, ⟨1, rfl⟩, ⟨2, rfl⟩, trivial⟩) (Zg 1 (vs := [.int .u8 (y_5.toNat : Int), .int .i64 (y_14.toNat : Int), .int .i64 (w64 ((y_23.toNat : Int) + (w64 (256 * (y_32.toNat : Int))))), .slice ar_49 nr_49 cr_49]) S41 rfl rfl rfl rfl) rfl (JA.val ⟨by kernel_rfl, by kernel_rfl⟩ (ZI _) (i := 7) rfl ⟨by kernel_rfl, by kernel_rfl, rfl⟩ ⟨_, _, rfl, rfl, rfl⟩ (ZJ (Hle.refl _) ⟨⟨0, rfl⟩, ⟨1, rfl⟩, ⟨2, rfl⟩, trivial⟩) (ZG rfl) rfl (JA.val ⟨by kernel_rfl, by kernel_rfl⟩ (ZI _) (i := 8) rfl ⟨by kernel_rfl, by kernel_rfl, rfl⟩ ⟨_, _, rfl, rfl, rfl⟩ (ZJ (Hle.refl _) ⟨⟨0, rfl⟩, ⟨1, rfl⟩, ⟨2, rfl⟩, trivial⟩) (R.toStr U26 U5 U9 rfl ha_2) rfl (JA.one (i := 5) (by kernel_rfl) (JO.step rfl ⟨_, _, rfl, rfl, rfl⟩ rfl (fun K hK => ?_)))))
    obtain ⟨x_59, hr_60, hx⟩ := ZM hx
    refine JL.callL3 (vs := [_]) E101 rfl rfl (fun H_58 hle_57 hl_56 => ref14_Block_ok (Object.mk y_5 (y_14.toNat : Int) (w64 ((y_23.toNat : Int) + (w64 (256 * (y_32.toNat : Int))))) t_42a) _ (Lent.row' 2 hl_56 R_Ptr.mono hle_57 rfl (hr_49.old R_Ptr.mono)) _ hr_60) rfl (fun _ _ _ _ hR_62 hf_63 => ?_)
    obtain ⟨ar_61, nr_61, cr_61, Kr_61, rfl, rfl, rfl, hr_61, -, -⟩ := hR_62
    replace hr_61 := RowOf.base (Zo (H2 := New H H) RU8.const hr_61) (fun p hp => hf_63 p (Zw 0 rfl hp))
    refine ZD (hK _ _ _ (ZJ (Hle.refl _) ⟨⟨1, rfl⟩, ⟨2, rfl⟩, ⟨3, rfl⟩, trivial⟩) (JA.one (i := 6) (by kernel_rfl) (JO.step rfl ⟨_, _, rfl, rfl, rfl⟩ rfl (fun K hK => JL.pubN 0 RU8.mono rfl hr_61 (Nat.le_refl _) (fun H_64 hleH_64 hsH_64 => JL.forget 0 (ZA rfl rfl (R.toStr U26 U5 U9 rfl (hsH_64.old RU8.mono)) (ZD (hK _ _ _ (ZJ hleH_64 ⟨⟨0, rfl⟩, ⟨1, rfl⟩, ⟨2, rfl⟩, trivial⟩) (JA.val ⟨by kernel_rfl, by kernel_rfl⟩ (ZI _) (i := 9) rfl ⟨by kernel_rfl, by kernel_rfl, rfl⟩ ⟨_, _, rfl, rfl, rfl⟩ (ZJ hleH_64 ⟨⟨0, rfl⟩, ⟨1, rfl⟩, ⟨2, rfl⟩, trivial⟩) (R.neqStr (a := x_59) (b := p_1) rfl rfl) rfl (JA.val ⟨by kernel_rfl, by kernel_rfl⟩ (ZI _) (i := 10) rfl ⟨by kernel_rfl, by kernel_rfl, rfl⟩ trivial (ZJ hleH_64 ⟨⟨0, rfl⟩, ⟨1, rfl⟩, ⟨2, rfl⟩, trivial⟩) (Za rfl rfl) rfl (Zz (by kernel_rfl) ?_)))))))))))
    refine ZC (ZW rfl (fun c_65 => ?_) (fun c_65 => ?_))
    ·
     replace hx := ZT c_65 hx
     refine ZF (ZB (ZA rfl rfl (YB (vs := []) (cs := [.int .u8 ((0 : UInt8).toNat : Int), .int .i64 0, .int .i64 0, .slice none 0 0]) Z41 B41 rfl rfl rfl) (ZV 0 S41 rfl rfl rfl rfl rfl (Nat.le_of_ble_eq_true rfl) (ZA rfl rfl (ZE rfl) (ZD (ZC (ZS (ZP (Z8 (ZQ (vs := [.agg #[.int .u8 ((0 : UInt8).toNat : Int), .int .i64 0, .int .i64 0, .slice none 0 0], .int .i64 8]) (K := [_]) (rst := [_, _, _]) (.inl rfl) rfl rfl (Zn 1 rfl rfl S41 (ZO rfl rfl)) (Zf 0 rfl ZL) ?_))))))))))
     obtain rfl := Option.some.inj hx
     exact ⟨none, 0, 0, [], rfl, rfl, (Zi _ _ _ _ _), (fun p hp => by cases hp), trivial⟩
    ·
     replace hx := ZU c_65 hx
     refine ZX (ZC (ZF (ZB (ZA rfl rfl (Zg 1 (vs := [.int .u8 (y_5.toNat : Int), .int .i64 (y_14.toNat : Int), .int .i64 (w64 ((y_23.toNat : Int) + (w64 (256 * (y_32.toNat : Int))))), .slice ar_49 nr_49 cr_49]) S41 rfl rfl rfl rfl) (ZV 0 S41 rfl rfl rfl rfl rfl (Nat.le_of_ble_eq_true rfl) (ZA rfl rfl (ZE rfl) (ZD (ZC (ZS (ZQ (vs := [.agg #[.int .u8 (y_5.toNat : Int), .int .i64 (y_14.toNat : Int), .int .i64 (w64 ((y_23.toNat : Int) + (w64 (256 * (y_32.toNat : Int))))), .slice ar_49 nr_49 cr_49], .int .i64 0]) (K := [_]) (rst := [_, _]) (.inl rfl) rfl rfl (Zn 0 rfl rfl S41 (ZO rfl rfl)) (Zf 2 rfl ZL) ?_))))))))))
     obtain rfl := Option.some.inj hx
     exact ⟨ar_49, nr_49, cr_49, Kr_49, rfl, rfl, (Zt (Nat.zero_le _) (hr_49.mono R_Ptr.mono (New.mono hleH_64))), (new_ids (hr_49.mono R_Ptr.mono (New.mono hleH_64)) hlt), trivial⟩
  ·
   have hxo_43 := hx; clear hx; have hx := ht_44; clear ht_44
   refine JC.block (JC.seg0 (Zj 1 rfl (Zj 2 rfl (Z5 (fun n l o g => ∃ s_45 : List Ptr × Nat, ∃ ar_48 : Option Addr, ∃ nr_48 : Nat, ∃ cr_48 : Nat, ∃ Kr_48 : Own, l = [(0, .slice aa_2 na_2 ca_2), (2, .pointer (some ⟨b_3, 0, none⟩)), (4, .pointer (some ⟨b_41, 0, none⟩)), (5, .int .i64 ((s_45.2 : Nat) : Int))] ∧ o = [[(b_3, .cells #[.int .u8 ((0 : UInt8).toNat : Int), .int .i64 0, .int .i64 0, .slice none 0 0] 41 (0, 0))], [(b_41, .cells #[.int .u8 (y_5.toNat : Int), .int .i64 (y_14.toNat : Int), .int .i64 (w64 ((y_23.toNat : Int) + (w64 (256 * (y_32.toNat : Int))))), .slice ar_48 nr_48 cr_48] 41 (0, 0))], Kr_48] ∧ H = g ∧ run (ref14_Read_l1 p_1) n s_45 = some t_42 ∧ RowOf (New H H) R_Ptr w.heap.size 31 5 (.slice ar_48 nr_48 cr_48) s_45.1 Kr_48) FUEL ?_ ⟨(([] : List Ptr), 0), none, 0, 0, [], rfl, rfl, rfl, hx, (Zi _ _ _ _ _)⟩ ⟨rfl, rfl, rfl, rfl, trivial⟩ ?_))))
   ·
    rintro _ _ _ ⟨s_45, ar_48, nr_48, cr_48, Kr_48, rfl, rfl, rfl, hn_46, hr_48⟩
    exact Z2 hn_46
   ·
    rintro n_47 _ _ _ ⟨s_45, ar_48, nr_48, cr_48, Kr_48, rfl, rfl, rfl, hn_46, hr_48⟩
    clear hx; obtain ⟨oo_50, hx, hd_49⟩ := Z4 hn_46
    unfold ref14_Read_l1 at hx
    refine ZF (ZF (ZB (ZA rfl rfl (ZG rfl) (ZA rfl rfl (Zy rfl rfl) (ZD (ZC (ZW rfl (fun c_49 => ?_) (fun c_49 => ?_))))))))
    ·
     replace hx := ZT c_49 hx
     refine ZX (ZC (ZF (JC.block (ZF (ZB (ZA rfl rfl (ZG rfl) (ZA rfl rfl (ZG rfl) (ZA rfl rfl (R.mul_i rfl rfl) (ZA rfl rfl (YA rfl rfl) (ZA rfl rfl (ZG rfl) (ZA rfl rfl (R.mul_i rfl rfl) ?_)))))))))))
     refine ZA rfl rfl (YA rfl rfl) ?_
     obtain ⟨m_50, hm_52, hb_51, hx⟩ := slc_some hx
     obtain ⟨vv_53, cv_53, h1v_53, h2v_53, h3v_53, hsv_53⟩ := IsSlice.cutv ha_2 hm_52 hb_51
     refine ZA rfl rfl (R.slc (cap := cv_53) (a := w64 (16 + (w64 (16 * ((s_45.2 : Nat) : Int))))) (b := w64 (32 + (w64 (16 * ((s_45.2 : Nat) : Int))))) (c := (cv_53 : Int)) (m := p_1) (R := RU8) U26 S5 rfl ⟨_, rfl⟩ ⟨_, rfl⟩ (by obtain ⟨ao, n, e, _⟩ := h1v_53; exact ⟨ao, n, e, rfl⟩) ⟨hb_51.1, hb_51.2.1, h2v_53⟩ h3v_53 (.inl rfl)) ?_
     obtain ⟨av_53, cv_53', rfl⟩ := IsSlice.val hsv_53
     obtain ⟨x_54, hr_55, hx⟩ := ZM hx
     refine ZR (vs := [_]) (args := [_]) (K := []) (rst := [_, _, _]) E98 rfl rfl rfl ZL (ref10_Read_ok m_50 _ hsv_53 _ hr_55) rfl (fun u_56 Ku_56 Hu_56 hRu_56 hleu_56 hfu_56 => ?_)
     obtain ⟨rfl, rfl, rfl, -⟩ := hRu_56
     refine ZA rfl rfl (ZG rfl) (ZA rfl rfl (R.extract rfl rfl) (ZA rfl rfl (R.extract rfl rfl) (JL.alloc Z31 rfl (fun b_57 hb_57 => ZV 0 S31 rfl rfl rfl rfl rfl (Nat.le_of_ble_eq_true rfl) (ZA rfl rfl (ZE rfl) (ZD (ZC (ZF (ZF (ZB (ZA rfl rfl (ZG rfl) ?_)))))))))))
     refine ZA rfl rfl (Zx rfl rfl) (ZD (ZC (ZW rfl (fun c_58 => ?_) (fun c_58 => ?_))))
     ·
      replace hx := ZT c_58 hx
      refine ZF (ZB (ZA rfl rfl (YB (vs := []) (cs := [.int .u8 ((0 : UInt8).toNat : Int), .int .i64 0, .int .i64 0, .slice none 0 0]) Z41 B41 rfl rfl rfl) (ZV 1 S41 rfl rfl rfl rfl rfl (Nat.le_of_ble_eq_true rfl) (ZA rfl rfl (ZE rfl) (ZD (ZC (ZS (ZP (Z9 (ZP ?_))))))))))
      obtain rfl := Zr hd_49 hx
      refine ZP (Z9 ?_)
      clear hx; have hx := hxo_43
      simp only [Sum.elim_inl, Sum.elim_inr] at hx
      refine ZP (ZP (Z8 (ZQ (vs := [.agg #[.int .u8 ((0 : UInt8).toNat : Int), .int .i64 0, .int .i64 0, .slice none 0 0], .int .i64 8]) (K := [_]) (rst := [_, _, _, _]) (.inl rfl) rfl rfl (Zn 2 rfl rfl S41 (ZO rfl rfl)) (Zf 0 rfl ZL) ?_)))
      obtain rfl := Option.some.inj hx
      exact ⟨none, 0, 0, [], rfl, rfl, (Zi _ _ _ _ _), (fun p hp => by cases hp), trivial⟩
     ·
      replace hx := ZU c_58 hx
      refine ZX (ZC (ZB (ZA rfl rfl (Zq F41_3 rfl) (ZA rfl rfl (Zd 2 S34 rfl rfl rfl) (ZA rfl rfl (Zg 0 (vs := [.int .i64 x_54.1.At, .int .u32 (x_54.1.Birth.toNat : Int), .int .u32 (x_54.1.Iv.toNat : Int), .int .u32 (x_54.1.Tag.toNat : Int), .int .u32 (x_54.1.Sum.toNat : Int)]) S31 rfl rfl rfl rfl) (JL.bslF (HF := (New H H)) (R := R_Ptr) (ls := [x_54.1]) (vs := [.agg #[.int .i64 x_54.1.At, .int .u32 (x_54.1.Birth.toNat : Int), .int .u32 (x_54.1.Iv.toNat : Int), .int .u32 (x_54.1.Tag.toNat : Int), .int .u32 (x_54.1.Sum.toNat : Int)]]) U34 I31 rfl rfl (⟨_, _, rfl, rfl, rfl, rfl⟩) R_Ptr.one rfl rfl rfl (by simp [maxLen]) rfl (fun vr_59 Kr_59 hr_59 => ?_)))))))
      obtain ⟨ar_59, cr_59, rfl⟩ := RowOf.val hr_59
      obtain ⟨q_60, hm_61, hl_62, hx⟩ := YC hx
      refine JL.appF (HF := (New H H)) 4 U34 I31 rfl rfl hr_48 rfl (SrcF.row 0 U34 rfl hr_59) hm_61 hl_62 rfl (Nat.le_refl _) rfl (fun vr_63 Kr_63 hr_63 => ?_)
      obtain ⟨ar_63, cr_63, rfl⟩ := RowOf.val hr_63
      refine ZA rfl rfl (Zq F41_3 rfl) (ZV 3 S34 rfl rfl rfl rfl rfl (Nat.le_of_ble_eq_true rfl) (ZD (Zm (ZC (ZB (ZA rfl rfl (ZG rfl) (ZA rfl rfl (R.inc rfl rfl (of_decide_eq_true c_49) (by decide)) (ZA rfl rfl (ZE rfl) (ZD ?_)))))))))
      replace hx := Zp hd_49 hx
      refine JN.forget 1 (JN.forget 0 (ZN 2 rfl (ZN 2 rfl (ZN 2 rfl ?_))))
      exact ZZ ⟨(q_60, s_45.2 + 1), ar_63, q_60.length, cr_63, Kr_63, rfl, rfl, rfl, hx, hr_63⟩ ⟨rfl, rfl, rfl, rfl, trivial⟩ rfl rfl
    ·
     replace hx := ZU c_49 hx
     refine Z0 (Zc ?_)
     obtain rfl := Zr hd_49 hx
     refine Zc (Zh (ZN 2 rfl (ZN 2 rfl (ZN 2 rfl ?_))))
     exact ZZ ⟨s_45.1, ar_48, nr_48, cr_48, Kr_48, rfl, rfl, rfl, rfl, hr_48⟩ ⟨rfl, rfl, rfl, trivial⟩ rfl rfl

set_option maxHeartbeats 8000000 in
theorem ref15_One_ok (p_1 : Store) (p_5 : Ptr) (H : Heaplet) {aa_2 : Option Addr} {na_2 : Nat} {ca_2 : Nat} {aa_3 : Option Addr} {na_3 : Nat} {ca_3 : Nat} {aa_4 : Option Addr} {na_4 : Nat} {ca_4 : Nat} (ha_2 : IsSlice H (RSl RU8 1) 1 (.slice aa_2 na_2 ca_2) p_1.Disk.Blocks) (ha_3 : IsSlice H R_Write 2 (.slice aa_3 na_3 ca_3) p_1.Disk.Waits) (ha_4 : IsSlice H RU8 1 (.slice aa_4 na_4 ca_4) p_1.Space) (r : Object × Int) (hx : ref15_One p_1 p_5 = some r) :
  Does Tryz.prog 34 #[.agg #[.slice aa_2 na_2 ca_2, .slice aa_3 na_3 ca_3, .slice aa_4 na_4 ca_4, .int .u32 (p_1.Epoch.toNat : Int), .int .u32 (p_1.Count.toNat : Int)], .agg #[.int .i64 p_5.At, .int .u32 (p_5.Birth.toNat : Int), .int .u32 (p_5.Iv.toNat : Int), .int .u32 (p_5.Tag.toNat : Int), .int .u32 (p_5.Sum.toNat : Int)]] [] H (fun u K' H' => ∃ ao0 : Option Addr, ∃ n0 : Nat, ∃ cap0 : Nat, ∃ K0 : Own, u = .tuple #[.agg #[.int .u8 (r.1.Kind.toNat : Int), .int .i64 r.1.Links, .int .i64 r.1.Size, .slice ao0 n0 cap0], .int .i64 r.2] ∧ K' = [K0] ∧ RowOf (New H H') R_Ptr 0 31 5 (.slice ao0 n0 cap0) r.1.Data K0 ∧ (∀ p ∈ K0, p.1 ∉ ids (List.flatten [])) ∧ True) := by
 refine Does.enterL (vs := [.agg #[.slice aa_2 na_2 ca_2, .slice aa_3 na_3 ca_3, .slice aa_4 na_4 ca_4, .int .u32 (p_1.Epoch.toNat : Int), .int .u32 (p_1.Count.toNat : Int)], .agg #[.int .i64 p_5.At, .int .u32 (p_5.Birth.toNat : Int), .int .u32 (p_5.Iv.toNat : Int), .int .u32 (p_5.Tag.toNat : Int), .int .u32 (p_5.Sum.toNat : Int)]]) (l := [(0, .agg #[.slice aa_2 na_2 ca_2, .slice aa_3 na_3 ca_3, .slice aa_4 na_4 ca_4, .int .u32 (p_1.Epoch.toNat : Int), .int .u32 (p_1.Count.toNat : Int)]), (1, .agg #[.int .i64 p_5.At, .int .u32 (p_5.Birth.toNat : Int), .int .u32 (p_5.Iv.toNat : Int), .int .u32 (p_5.Tag.toNat : Int), .int .u32 (p_5.Sum.toNat : Int)])]) Tryz.func34 rfl rfl ⟨rfl, rfl, trivial⟩ (fun w hlt => ?_)
 unfold ref15_One at hx
 refine ZF (ZB (Zv rfl rfl (fun b_6 hb_6 => Zv rfl rfl (fun b_7 hb_7 => JL.alloc Z41 rfl (fun b_8 hb_8 => ZA rfl rfl (ZE rfl) (ZD (ZC (ZF (ZB (ZA rfl rfl (Zg 2 (vs := [.slice aa_2 na_2 ca_2, .slice aa_3 na_3 ca_3, .slice aa_4 na_4 ca_4, .int .u32 (p_1.Epoch.toNat : Int), .int .u32 (p_1.Count.toNat : Int)]) S29 rfl rfl rfl rfl) (ZA rfl rfl (Zg 1 (vs := [.int .i64 p_5.At, .int .u32 (p_5.Birth.toNat : Int), .int .u32 (p_5.Iv.toNat : Int), .int .u32 (p_5.Tag.toNat : Int), .int .u32 (p_5.Sum.toNat : Int)]) S31 rfl rfl rfl rfl) ?_)))))))))))
 obtain ⟨x_9, hr_10, hx⟩ := ZM hx
 refine ZR (vs := [_, _]) (args := [_, _]) (K := []) (rst := [_, _, _]) E62 rfl rfl rfl ZL (ref13_Seen_ok p_1 p_5 _ ha_2 ha_3 ha_4 _ hr_10) rfl (fun u_11 Ku_11 Hu_11 hRu_11 hleu_11 hfu_11 => ?_)
 obtain ⟨ar_12, nr_12, cr_12, Kr_12, rfl, rfl, rfl, hr_12, hnewr_12, -⟩ := hRu_11
 replace hr_12 := (RowOf.base (Zo (H2 := New H H) RU8.const hr_12) (fun p hp => (hfu_11 p (Zw 0 rfl hp)).resolve_left (hnewr_12 p hp)))
 refine ZA rfl rfl (ZG rfl) (ZA rfl rfl (R.extract rfl rfl) (ZA rfl rfl (R.extract rfl rfl) (ZA rfl rfl (ZE rfl) (ZA rfl rfl (ZE rfl) (ZD (ZC (ZF (ZF (ZB (ZA rfl rfl (ZG rfl) (ZA rfl rfl (Zx rfl rfl) ?_)))))))))))
 refine ZD (ZC (ZW rfl (fun c_13 => ?_) (fun c_13 => ?_)))
 ·
  replace hx := ZT c_13 hx
  refine ZF (ZB (ZA rfl rfl (YB (vs := []) (cs := [.int .u8 ((0 : UInt8).toNat : Int), .int .i64 0, .int .i64 0, .slice none 0 0]) Z41 B41 rfl rfl rfl) (ZA rfl rfl (ZG rfl) (ZV 1 S41 rfl rfl rfl rfl rfl (Nat.le_of_ble_eq_true rfl) (ZA rfl rfl (ZE rfl) (ZD (ZC (ZS (ZP (Z8 (ZQ (vs := [.agg #[.int .u8 ((0 : UInt8).toNat : Int), .int .i64 0, .int .i64 0, .slice none 0 0], .int .i64 x_9.2]) (K := [_]) (rst := [_, _, _, _]) (.inl rfl) rfl rfl (Zn 2 rfl rfl S41 (ZO rfl rfl)) (Zf 0 rfl ZL) ?_)))))))))))
  obtain rfl := Option.some.inj hx
  exact ⟨none, 0, 0, [], rfl, rfl, (Zi _ _ _ _ _), (fun p hp => by cases hp), trivial⟩
 ·
  replace hx := ZU c_13 hx
  refine ZX (ZC (ZF (ZB (ZA rfl rfl (ZG rfl) (JL.pubN 0 RU8.mono rfl hr_12 (Nat.le_refl _) (fun H_14 hleH_14 hsH_14 => JL.forget 0 ?_))))))
  obtain ⟨x_15, hr_16, hx⟩ := ZM hx
  refine ZR (vs := [_]) (args := [_]) (K := []) (rst := [_, _, _]) E65 rfl rfl rfl ZL (ref14_Read_ok x_9.1 _ (hsH_14.old RU8.mono) _ hr_16) rfl (fun u_17 Ku_17 Hu_17 hRu_17 hleu_17 hfu_17 => ?_)
  obtain ⟨ar_18, nr_18, cr_18, Kr_18, rfl, rfl, hr_18, hnewr_18, -⟩ := hRu_17
  replace hr_18 := (RowOf.base (Zo (H2 := New H Hu_17) R_Ptr.const hr_18) (fun p hp => (hfu_17 p (Zw 0 rfl hp)).resolve_left (hnewr_18 p hp)))
  refine ZA rfl rfl (ZG rfl) (ZA rfl rfl (R.extract rfl rfl) (ZA rfl rfl (R.extract rfl rfl) (JL.alloc Z41 rfl (fun b_19 hb_19 => ZV 0 S41 rfl rfl rfl rfl rfl (Nat.le_of_ble_eq_true rfl) (ZA rfl rfl (ZE rfl) (ZD (ZC (ZF (ZF (ZB (ZA rfl rfl (ZG rfl) ?_)))))))))))
  refine ZA rfl rfl (Zx rfl rfl) (ZD (ZC (ZW rfl (fun c_20 => ?_) (fun c_20 => ?_))))
  ·
   replace hx := ZT c_20 hx
   refine ZF (ZB (ZA rfl rfl (YB (vs := []) (cs := [.int .u8 ((0 : UInt8).toNat : Int), .int .i64 0, .int .i64 0, .slice none 0 0]) Z41 B41 rfl rfl rfl) (ZV 2 S41 rfl rfl rfl rfl rfl (Nat.le_of_ble_eq_true rfl) (ZA rfl rfl (ZE rfl) (ZD (ZC (ZS (ZP (Z8 (ZQ (vs := [.agg #[.int .u8 ((0 : UInt8).toNat : Int), .int .i64 0, .int .i64 0, .slice none 0 0], .int .i64 8]) (K := [_]) (rst := [_, _, _, _, _]) (.inl rfl) rfl rfl (Zn 3 rfl rfl S41 (ZO rfl rfl)) (Zf 0 rfl ZL) ?_))))))))))
   obtain rfl := Option.some.inj hx
   exact ⟨none, 0, 0, [], rfl, rfl, (Zi _ _ _ _ _), (fun p hp => by cases hp), trivial⟩
  ·
   replace hx := ZU c_20 hx
   refine ZX (ZC (ZF (ZB (ZA rfl rfl (Zg 0 (vs := [.int .u8 (x_15.1.Kind.toNat : Int), .int .i64 x_15.1.Links, .int .i64 x_15.1.Size, .slice ar_18 nr_18 cr_18]) S41 rfl rfl rfl rfl) (ZV 2 S41 rfl rfl rfl rfl rfl (Nat.le_of_ble_eq_true rfl) (ZA rfl rfl (ZE rfl) (ZD (ZC (ZS (ZQ (vs := [.agg #[.int .u8 (x_15.1.Kind.toNat : Int), .int .i64 x_15.1.Links, .int .i64 x_15.1.Size, .slice ar_18 nr_18 cr_18], .int .i64 0]) (K := [_]) (rst := [_, _, _, _]) (.inl rfl) rfl rfl (Zn 2 rfl rfl S41 (ZO rfl rfl)) (Zf 1 rfl ZL) ?_))))))))))
   obtain rfl := Option.some.inj hx
   exact ⟨ar_18, nr_18, cr_18, Kr_18, rfl, rfl, (Zt (Nat.zero_le _) hr_18), (new_ids hr_18 hlt), trivial⟩

set_option maxHeartbeats 8000000 in
theorem ref15_Object_ok (p_1 : Store) (p_5 : Ptr) (p_6 : Int) (H : Heaplet) {aa_2 : Option Addr} {na_2 : Nat} {ca_2 : Nat} {aa_3 : Option Addr} {na_3 : Nat} {ca_3 : Nat} {aa_4 : Option Addr} {na_4 : Nat} {ca_4 : Nat} (ha_2 : IsSlice H (RSl RU8 1) 1 (.slice aa_2 na_2 ca_2) p_1.Disk.Blocks) (ha_3 : IsSlice H R_Write 2 (.slice aa_3 na_3 ca_3) p_1.Disk.Waits) (ha_4 : IsSlice H RU8 1 (.slice aa_4 na_4 ca_4) p_1.Space) (r : Object × Int) (hx : ref15_Object p_1 p_5 p_6 = some r) :
  Does Tryz.prog 11 #[.agg #[.slice aa_2 na_2 ca_2, .slice aa_3 na_3 ca_3, .slice aa_4 na_4 ca_4, .int .u32 (p_1.Epoch.toNat : Int), .int .u32 (p_1.Count.toNat : Int)], .agg #[.int .i64 p_5.At, .int .u32 (p_5.Birth.toNat : Int), .int .u32 (p_5.Iv.toNat : Int), .int .u32 (p_5.Tag.toNat : Int), .int .u32 (p_5.Sum.toNat : Int)], .int .i64 p_6] [] H (fun u K' H' => ∃ ao0 : Option Addr, ∃ n0 : Nat, ∃ cap0 : Nat, ∃ K0 : Own, u = .tuple #[.agg #[.int .u8 (r.1.Kind.toNat : Int), .int .i64 r.1.Links, .int .i64 r.1.Size, .slice ao0 n0 cap0], .int .i64 r.2] ∧ K' = [K0] ∧ RowOf (New H H') R_Ptr 0 31 5 (.slice ao0 n0 cap0) r.1.Data K0 ∧ (∀ p ∈ K0, p.1 ∉ ids (List.flatten [])) ∧ True) := by
 refine Does.enterL (vs := [.agg #[.slice aa_2 na_2 ca_2, .slice aa_3 na_3 ca_3, .slice aa_4 na_4 ca_4, .int .u32 (p_1.Epoch.toNat : Int), .int .u32 (p_1.Count.toNat : Int)], .agg #[.int .i64 p_5.At, .int .u32 (p_5.Birth.toNat : Int), .int .u32 (p_5.Iv.toNat : Int), .int .u32 (p_5.Tag.toNat : Int), .int .u32 (p_5.Sum.toNat : Int)], .int .i64 p_6]) (l := [(0, .agg #[.slice aa_2 na_2 ca_2, .slice aa_3 na_3 ca_3, .slice aa_4 na_4 ca_4, .int .u32 (p_1.Epoch.toNat : Int), .int .u32 (p_1.Count.toNat : Int)]), (1, .agg #[.int .i64 p_5.At, .int .u32 (p_5.Birth.toNat : Int), .int .u32 (p_5.Iv.toNat : Int), .int .u32 (p_5.Tag.toNat : Int), .int .u32 (p_5.Sum.toNat : Int)]), (2, .int .i64 p_6)]) Tryz.func11 rfl rfl ⟨rfl, rfl, rfl, trivial⟩ (fun w hlt => ?_)
 unfold ref15_Object at hx
 refine ZF (ZB (Zv rfl rfl (fun b_7 hb_7 => Zv rfl rfl (fun b_8 hb_8 => JL.alloc Z41 rfl (fun b_9 hb_9 => ZA rfl rfl (ZE rfl) (ZD (ZC (ZF (ZF (ZB (ZA rfl rfl (Zg 2 (vs := [.slice aa_2 na_2 ca_2, .slice aa_3 na_3 ca_3, .slice aa_4 na_4 ca_4, .int .u32 (p_1.Epoch.toNat : Int), .int .u32 (p_1.Count.toNat : Int)]) S29 rfl rfl rfl rfl) ?_)))))))))))
 refine ZA rfl rfl (Zg 1 (vs := [.int .i64 p_5.At, .int .u32 (p_5.Birth.toNat : Int), .int .u32 (p_5.Iv.toNat : Int), .int .u32 (p_5.Tag.toNat : Int), .int .u32 (p_5.Sum.toNat : Int)]) S31 rfl rfl rfl rfl) ?_
 obtain ⟨x_10, hr_11, hx⟩ := ZM hx
 refine ZR (vs := [_, _]) (args := [_, _]) (K := []) (rst := [_, _, _]) E31 rfl rfl rfl ZL (ref15_may_ok p_1 p_5 _ ha_2 ha_3 ha_4 _ hr_11) rfl (fun u_12 Ku_12 Hu_12 hRu_12 hleu_12 hfu_12 => ?_)
 obtain ⟨rfl, rfl, rfl, -⟩ := hRu_12
 refine ZA rfl rfl (R.not rfl) (ZD (ZC (ZW rfl (fun c_13 => ?_) (fun c_13 => ?_))))
 ·
  replace hx := ZT c_13 hx
  refine ZF (ZB (ZA rfl rfl (YB (vs := []) (cs := [.int .u8 ((0 : UInt8).toNat : Int), .int .i64 0, .int .i64 0, .slice none 0 0]) Z41 B41 rfl rfl rfl) (ZV 0 S41 rfl rfl rfl rfl rfl (Nat.le_of_ble_eq_true rfl) (ZA rfl rfl (ZE rfl) (ZD (ZC (ZS (ZP (Z8 (ZQ (vs := [.agg #[.int .u8 ((0 : UInt8).toNat : Int), .int .i64 0, .int .i64 0, .slice none 0 0], .int .i64 8]) (K := [_]) (rst := [_, _, _]) (.inl rfl) rfl rfl (Zn 1 rfl rfl S41 (ZO rfl rfl)) (Zf 0 rfl ZL) ?_))))))))))
  obtain rfl := Option.some.inj hx
  exact ⟨none, 0, 0, [], rfl, rfl, (Zi _ _ _ _ _), (fun p hp => by cases hp), trivial⟩
 ·
  replace hx := ZU c_13 hx
  refine ZX (ZC (ZF (ZF (ZB (ZA rfl rfl (ZG rfl) (ZA rfl rfl (Zy rfl rfl) (ZA rfl rfl (ZG rfl) (Ze (t := 17) rfl (fun c_14 => ?_) (fun c_14 => ?_)))))))))
  ·
   replace hx := ZT c_14 hx
   refine ZH rfl rfl rfl rfl rfl (ZH rfl rfl rfl rfl rfl (ZA rfl rfl (Zb rfl rfl) (ZD (ZC (Zu rfl (ZF (ZB (ZA rfl rfl (YB (vs := []) (cs := [.int .u8 ((0 : UInt8).toNat : Int), .int .i64 0, .int .i64 0, .slice none 0 0]) Z41 B41 rfl rfl rfl) (ZV 0 S41 rfl rfl rfl rfl rfl (Nat.le_of_ble_eq_true rfl) (ZA rfl rfl (ZE rfl) (ZD ?_)))))))))))
   refine ZC (ZS (ZP (Z8 (ZQ (vs := [.agg #[.int .u8 ((0 : UInt8).toNat : Int), .int .i64 0, .int .i64 0, .slice none 0 0], .int .i64 2]) (K := [_]) (rst := [_, _, _]) (.inl rfl) rfl rfl (Zn 1 rfl rfl S41 (ZO rfl rfl)) (Zf 0 rfl ZL) ?_))))
   obtain rfl := Option.some.inj hx
   exact ⟨none, 0, 0, [], rfl, rfl, (Zi _ _ _ _ _), (fun p hp => by cases hp), trivial⟩
  ·
   replace hx := ZU c_14 hx
   refine ZK rfl rfl rfl (ZA rfl rfl (ZG rfl) (ZK rfl rfl rfl (ZA rfl rfl (R.geq_i rfl rfl) (ZA rfl rfl (Za rfl rfl) (ZD (ZC (ZW rfl (fun c_15 => ?_) (fun c_15 => ?_))))))))
   ·
    replace hx := ZT c_15 hx
    refine ZF (ZB (ZA rfl rfl (YB (vs := []) (cs := [.int .u8 ((0 : UInt8).toNat : Int), .int .i64 0, .int .i64 0, .slice none 0 0]) Z41 B41 rfl rfl rfl) (ZV 0 S41 rfl rfl rfl rfl rfl (Nat.le_of_ble_eq_true rfl) (ZA rfl rfl (ZE rfl) (ZD (ZC (ZS (ZP (Z8 (ZQ (vs := [.agg #[.int .u8 ((0 : UInt8).toNat : Int), .int .i64 0, .int .i64 0, .slice none 0 0], .int .i64 2]) (K := [_]) (rst := [_, _, _]) (.inl rfl) rfl rfl (Zn 1 rfl rfl S41 (ZO rfl rfl)) (Zf 0 rfl ZL) ?_))))))))))
    obtain rfl := Option.some.inj hx
    exact ⟨none, 0, 0, [], rfl, rfl, (Zi _ _ _ _ _), (fun p hp => by cases hp), trivial⟩
   ·
    replace hx := ZU c_15 hx
    refine ZX (ZC (ZF (ZB (ZA rfl rfl (Zg 2 (vs := [.slice aa_2 na_2 ca_2, .slice aa_3 na_3 ca_3, .slice aa_4 na_4 ca_4, .int .u32 (p_1.Epoch.toNat : Int), .int .u32 (p_1.Count.toNat : Int)]) S29 rfl rfl rfl rfl) (ZA rfl rfl (Zg 1 (vs := [.int .i64 p_5.At, .int .u32 (p_5.Birth.toNat : Int), .int .u32 (p_5.Iv.toNat : Int), .int .u32 (p_5.Tag.toNat : Int), .int .u32 (p_5.Sum.toNat : Int)]) S31 rfl rfl rfl rfl) ?_)))))
    obtain ⟨x_16, hr_17, hx⟩ := ZM hx
    refine ZR (vs := [_, _]) (args := [_, _]) (K := []) (rst := [_, _, _]) E32 rfl rfl rfl ZL (ref15_Row_ok p_1 p_5 _ ha_2 ha_3 ha_4 _ hr_17) rfl (fun u_18 Ku_18 Hu_18 hRu_18 hleu_18 hfu_18 => ?_)
    obtain ⟨ar_19, nr_19, cr_19, Kr_19, rfl, rfl, rfl, hr_19, hnewr_19, -⟩ := hRu_18
    replace hr_19 := (RowOf.base (Zo (H2 := New H H) R_Ptr.const hr_19) (fun p hp => (hfu_18 p (Zw 0 rfl hp)).resolve_left (hnewr_19 p hp)))
    refine ZA rfl rfl (ZG rfl) (ZA rfl rfl (R.extract rfl rfl) (ZA rfl rfl (R.extract rfl rfl) (ZA rfl rfl (ZE rfl) (ZA rfl rfl (ZE rfl) (ZD (ZC (ZF (ZF (ZB (ZA rfl rfl (ZG rfl) (ZA rfl rfl (Zx rfl rfl) ?_)))))))))))
    refine ZD (ZC (ZW rfl (fun c_20 => ?_) (fun c_20 => ?_)))
    ·
     replace hx := ZT c_20 hx
     refine ZF (ZB (ZA rfl rfl (YB (vs := []) (cs := [.int .u8 ((0 : UInt8).toNat : Int), .int .i64 0, .int .i64 0, .slice none 0 0]) Z41 B41 rfl rfl rfl) (ZA rfl rfl (ZG rfl) (ZV 1 S41 rfl rfl rfl rfl rfl (Nat.le_of_ble_eq_true rfl) (ZA rfl rfl (ZE rfl) (ZD (ZC (ZS (ZP (Z8 (ZQ (vs := [.agg #[.int .u8 ((0 : UInt8).toNat : Int), .int .i64 0, .int .i64 0, .slice none 0 0], .int .i64 x_16.2]) (K := [_]) (rst := [_, _, _, _]) (.inl rfl) rfl rfl (Zn 2 rfl rfl S41 (ZO rfl rfl)) (Zf 0 rfl ZL) ?_)))))))))))
     obtain rfl := Option.some.inj hx
     exact ⟨none, 0, 0, [], rfl, rfl, (Zi _ _ _ _ _), (fun p hp => by cases hp), trivial⟩
    ·
     replace hx := ZU c_20 hx
     refine ZX (ZC (ZF (JC.draw (so := [_, _, _]) 10 rfl Mixed ⟨⟨0, rfl⟩, ⟨2, rfl⟩, ⟨3, rfl⟩, trivial⟩ (JA.val ⟨by kernel_rfl, by kernel_rfl⟩ (ZI _) (i := 0) rfl ⟨by kernel_rfl, by kernel_rfl, rfl⟩ trivial (ZJ (Hle.refl _) ⟨⟨0, rfl⟩, ⟨2, rfl⟩, ⟨3, rfl⟩, trivial⟩) (Zg 2 (vs := [.slice aa_2 na_2 ca_2, .slice aa_3 na_3 ca_3, .slice aa_4 na_4 ca_4, .int .u32 (p_1.Epoch.toNat : Int), .int .u32 (p_1.Count.toNat : Int)]) S29 rfl rfl rfl rfl) rfl (JA.val ⟨by kernel_rfl, by kernel_rfl⟩ (ZI _) (i := 1) rfl ⟨by kernel_rfl, by kernel_rfl, rfl⟩ trivial (ZJ (Hle.refl _) ⟨⟨0, rfl⟩, ⟨2, rfl⟩, ⟨3, rfl⟩, trivial⟩) (ZG rfl) rfl (JA.val ⟨by kernel_rfl, by kernel_rfl⟩ (ZI _) (i := 2) rfl ⟨by kernel_rfl, by kernel_rfl, rfl⟩ trivial (ZJ (Hle.refl _) ⟨⟨0, rfl⟩, ⟨2, rfl⟩, ⟨3, rfl⟩, trivial⟩) (ZG rfl) rfl ?_))))))
     obtain ⟨y_21, hN_22, hx⟩ := Zl hx
     obtain ⟨b_23, o_24, cs_25, cur_30, hK_31, hE_26, hR_27, hl_28, hc_29⟩ := RowOf.elem hr_19 hN_22
     subst hK_31
     obtain rfl := hR_27
     refine JA.val ⟨by kernel_rfl, by kernel_rfl⟩ (ZI _) (i := 3) rfl ⟨by kernel_rfl, by kernel_rfl, rfl⟩ trivial (ZJ (Hle.refl _) ⟨⟨0, rfl⟩, ⟨2, rfl⟩, ⟨3, rfl⟩, trivial⟩) (R.ix U34 S31 rfl rfl hE_26) rfl (JA.val ⟨by kernel_rfl, by kernel_rfl⟩ (ZI _) (i := 4) rfl ⟨by kernel_rfl, by kernel_rfl, rfl⟩ trivial (ZJ (Hle.refl _) ⟨⟨0, rfl⟩, ⟨2, rfl⟩, ⟨3, rfl⟩, trivial⟩) (R.ldoE 0 (cs := [.int .i64 y_21.At, .int .u32 (y_21.Birth.toNat : Int), .int .u32 (y_21.Iv.toNat : Int), .int .u32 (y_21.Tag.toNat : Int), .int .u32 (y_21.Sum.toNat : Int)]) (k := 0) (vs := [.int .i64 y_21.At, .int .u32 (y_21.Birth.toNat : Int), .int .u32 (y_21.Iv.toNat : Int), .int .u32 (y_21.Tag.toNat : Int), .int .u32 (y_21.Sum.toNat : Int)]) S31 rfl rfl hc_29 rfl rfl) rfl (JA.one (i := 5) (by kernel_rfl) (JO.step rfl trivial rfl (fun K hK => ?_))))
     obtain ⟨x_32, hr_33, hx⟩ := ZM hx
     refine ZR (vs := [_, _]) (args := [_, _]) (K := []) (rst := [_, _, _, _]) E34 rfl rfl rfl ZL (ref15_One_ok p_1 y_21 _ ha_2 ha_3 ha_4 _ hr_33) rfl (fun u_34 Ku_34 Hu_34 hRu_34 hleu_34 hfu_34 => ?_)
     obtain ⟨ar_35, nr_35, cr_35, Kr_35, rfl, rfl, hr_35, hnewr_35, -⟩ := hRu_34
     replace hr_35 := (RowOf.base (Zo (H2 := New H Hu_34) R_Ptr.const hr_35) (fun p hp => (hfu_34 p (Zw 0 rfl hp)).resolve_left (hnewr_35 p hp)))
     refine ZD (hK _ _ _ (ZJ hleu_34 ⟨⟨1, rfl⟩, ⟨3, rfl⟩, ⟨4, rfl⟩, trivial⟩) (JA.val ⟨by kernel_rfl, by kernel_rfl⟩ (ZI _) (i := 6) rfl ⟨by kernel_rfl, by kernel_rfl, rfl⟩ trivial (ZJ hleu_34 ⟨⟨1, rfl⟩, ⟨3, rfl⟩, ⟨4, rfl⟩, trivial⟩) (R.extract rfl rfl) rfl (JA.val ⟨by kernel_rfl, by kernel_rfl⟩ (ZI _) (i := 7) rfl ⟨by kernel_rfl, by kernel_rfl, rfl⟩ trivial (ZJ hleu_34 ⟨⟨1, rfl⟩, ⟨3, rfl⟩, ⟨4, rfl⟩, trivial⟩) (R.extract rfl rfl) rfl (JA.one (i := 8) (by kernel_rfl) (JO.step rfl trivial rfl (fun K hK => ZV 2 S41 rfl rfl rfl rfl rfl (Nat.le_of_ble_eq_true rfl) (ZD (hK _ _ _ (ZJ hleu_34 ⟨⟨1, rfl⟩, ⟨3, rfl⟩, ⟨4, rfl⟩, trivial⟩) (JA.val ⟨by kernel_rfl, by kernel_rfl⟩ (ZI _) (i := 9) rfl ⟨by kernel_rfl, by kernel_rfl, rfl⟩ trivial (ZJ hleu_34 ⟨⟨1, rfl⟩, ⟨3, rfl⟩, ⟨4, rfl⟩, trivial⟩) (ZE rfl) rfl (Zz (by kernel_rfl) (ZC ?_)))))))))))
     refine ZS (ZQ (vs := [.agg #[.int .u8 (x_32.1.Kind.toNat : Int), .int .i64 x_32.1.Links, .int .i64 x_32.1.Size, .slice ar_35 nr_35 cr_35], .int .i64 x_32.2]) (K := [_]) (rst := [_, _, _, _]) (.inl rfl) rfl rfl (Zn 2 rfl rfl S41 (ZO rfl rfl)) (Zf 0 rfl ZL) ?_)
     obtain rfl := Option.some.inj hx
     exact ⟨ar_35, nr_35, cr_35, Kr_35, rfl, rfl, (Zt (Nat.zero_le _) hr_35), (new_ids hr_35 hlt), trivial⟩

set_option maxHeartbeats 8000000 in
theorem set_young_ok (p_1 : Store) (p_5 : Ptr) (p_6 : UInt32) (p_8 : Int) (H : Heaplet) {aa_2 : Option Addr} {na_2 : Nat} {ca_2 : Nat} {aa_3 : Option Addr} {na_3 : Nat} {ca_3 : Nat} {aa_4 : Option Addr} {na_4 : Nat} {ca_4 : Nat} {b_7 : Nat} (ha_2 : IsSlice H (RSl RU8 1) 1 (.slice aa_2 na_2 ca_2) p_1.Disk.Blocks) (ha_3 : IsSlice H R_Write 2 (.slice aa_3 na_3 ca_3) p_1.Disk.Waits) (ha_4 : IsSlice H RU8 1 (.slice aa_4 na_4 ca_4) p_1.Space) (r : (Int × UInt32 × UInt32 × UInt32 × UInt32 × UInt32 × List (List UInt8) × List Write × List UInt8 × UInt32 × UInt32) × Int) (hx : set_young p_1 p_5 p_6 p_8 = some r) :
  Does Tryz.prog 36 #[.agg #[.slice aa_2 na_2 ca_2, .slice aa_3 na_3 ca_3, .slice aa_4 na_4 ca_4, .int .u32 (p_1.Epoch.toNat : Int), .int .u32 (p_1.Count.toNat : Int)], .agg #[.int .i64 p_5.At, .int .u32 (p_5.Birth.toNat : Int), .int .u32 (p_5.Iv.toNat : Int), .int .u32 (p_5.Tag.toNat : Int), .int .u32 (p_5.Sum.toNat : Int)], .int .u32 (p_6.toNat : Int), .pointer (some ⟨b_7, 0, none⟩)] [[(b_7, .cells #[.int .i64 p_8] 35 (0, 0))]] H (fun u K' H' => ∃ b0 : Nat, ∃ b1 : Nat, ∃ b2 : Nat, ∃ ao3 : Option Addr, ∃ n3 : Nat, ∃ cap3 : Nat, ∃ ao4 : Option Addr, ∃ n4 : Nat, ∃ cap4 : Nat, ∃ ao5 : Option Addr, ∃ n5 : Nat, ∃ cap5 : Nat, ∃ b6 : Nat, u = .func (.func 67) #[] #[.pointer (some ⟨b0, 0, none⟩), .pointer (some ⟨b1, 0, none⟩), .pointer (some ⟨b2, 0, none⟩), .pointer (some ⟨b6, 0, none⟩)] ∧ K' = [[(b_7, .cells #[.int .i64 r.2] 35 (0, 0))], [(b0, .cells #[.int .i64 r.1.1, .int .u32 (r.1.2.1.toNat : Int), .int .u32 (r.1.2.2.1.toNat : Int), .int .u32 (r.1.2.2.2.1.toNat : Int), .int .u32 (r.1.2.2.2.2.1.toNat : Int)] 31 (0, 0))], [(b1, .cells #[.int .u32 (r.1.2.2.2.2.2.1.toNat : Int)] 27 (0, 0))], [(b2, .cells #[.slice ao3 n3 cap3, .slice ao4 n4 cap4, .slice ao5 n5 cap5, .int .u32 (r.1.2.2.2.2.2.2.2.2.2.1.toNat : Int), .int .u32 (r.1.2.2.2.2.2.2.2.2.2.2.toNat : Int)] 29 (0, 0))], [(b6, .cells #[.pointer (some ⟨b_7, 0, none⟩)] 80 (0, 0))]] ∧ H = H' ∧ (b0 ∉ ids (List.flatten [[(b_7, .cells #[.int .i64 p_8] 35 (0, 0))]])) ∧ (b1 ∉ ids (List.flatten [[(b_7, .cells #[.int .i64 p_8] 35 (0, 0))]])) ∧ IsSlice H (RSl RU8 1) 1 (.slice ao3 n3 cap3) r.1.2.2.2.2.2.2.1 ∧ IsSlice H R_Write 2 (.slice ao4 n4 cap4) r.1.2.2.2.2.2.2.2.1 ∧ IsSlice H RU8 1 (.slice ao5 n5 cap5) r.1.2.2.2.2.2.2.2.2.1 ∧ (b2 ∉ ids (List.flatten [[(b_7, .cells #[.int .i64 p_8] 35 (0, 0))]])) ∧ (b6 ∉ ids (List.flatten [[(b_7, .cells #[.int .i64 p_8] 35 (0, 0))]])) ∧ True) := by
 refine Does.enterL (vs := [.agg #[.slice aa_2 na_2 ca_2, .slice aa_3 na_3 ca_3, .slice aa_4 na_4 ca_4, .int .u32 (p_1.Epoch.toNat : Int), .int .u32 (p_1.Count.toNat : Int)], .agg #[.int .i64 p_5.At, .int .u32 (p_5.Birth.toNat : Int), .int .u32 (p_5.Iv.toNat : Int), .int .u32 (p_5.Tag.toNat : Int), .int .u32 (p_5.Sum.toNat : Int)], .int .u32 (p_6.toNat : Int), .pointer (some ⟨b_7, 0, none⟩)]) (l := [(0, .agg #[.slice aa_2 na_2 ca_2, .slice aa_3 na_3 ca_3, .slice aa_4 na_4 ca_4, .int .u32 (p_1.Epoch.toNat : Int), .int .u32 (p_1.Count.toNat : Int)]), (1, .agg #[.int .i64 p_5.At, .int .u32 (p_5.Birth.toNat : Int), .int .u32 (p_5.Iv.toNat : Int), .int .u32 (p_5.Tag.toNat : Int), .int .u32 (p_5.Sum.toNat : Int)]), (2, .int .u32 (p_6.toNat : Int)), (3, .pointer (some ⟨b_7, 0, none⟩))]) Tryz.func36 rfl rfl ⟨rfl, rfl, rfl, rfl, trivial⟩ (fun w hlt => ?_)
 unfold set_young at hx
 refine ZF (ZB (Zv rfl rfl (fun b_9 hb_9 => Zv rfl rfl (fun b_10 hb_10 => Zv rfl rfl (fun b_11 hb_11 => Zv rfl rfl (fun b_12 hb_12 => ZA rfl rfl (ZE rfl) (ZD (ZC (ZF (ZB (ZA rfl rfl (R.func (vf := []) (vc := [_, _, _, _]) rfl rfl) ?_)))))))))))
 refine ZA rfl rfl (ZE rfl) (ZD (ZC (ZS (ZQ (vs := [.func (.func 67) #[] #[.pointer (some ⟨b_10, 0, none⟩), .pointer (some ⟨b_11, 0, none⟩), .pointer (some ⟨b_9, 0, none⟩), .pointer (some ⟨b_12, 0, none⟩)]]) (K := [_, _, _, _, _]) (rst := []) (.inl rfl) rfl rfl (ZO rfl rfl) (Zf 4 rfl (Zf 2 rfl (Zf 1 rfl (Zf 1 rfl (Zf 0 rfl ZL))))) ?_))))
 obtain rfl := Option.some.inj hx
 exact ⟨b_10, b_11, b_9, aa_2, na_2, ca_2, aa_3, na_3, ca_3, aa_4, na_4, ca_4, b_12, rfl, rfl, rfl, (fun h => absurd (hlt _ h) (Nat.not_lt.2 hb_10)), (fun h => absurd (hlt _ h) (Nat.not_lt.2 hb_11)), ha_2, ha_3, ha_4, (fun h => absurd (hlt _ h) (Nat.not_lt.2 hb_9)), (fun h => absurd (hlt _ h) (Nat.not_lt.2 hb_12)), trivial⟩

set_option maxHeartbeats 8000000 in
theorem set_young_1_ok {σ τ : Type} (p_1 : Ptr → σ → Option (σ ⊕ τ)) (p_2 : σ) (p_4 : Ptr) (p_6 : UInt32) (p_8 : Store) (p_14 : Int) (H : Heaplet) {lr_ : Nat} {I_ : σ → Own → Heaplet → Prop} {X_ : τ → Own → Heaplet → Prop} {O_ : Own} {b_3 : Nat} {b_5 : Nat} {b_7 : Nat} {aa_9 : Option Addr} {na_9 : Nat} {ca_9 : Nat} {aa_10 : Option Addr} {na_10 : Nat} {ca_10 : Nat} {aa_11 : Option Addr} {na_11 : Nat} {ca_11 : Nat} {b_12 : Nat} {b_13 : Nat} (hY_ : YSpecG Tryz.prog lr_ (fun (H : Heaplet) (args : Array Value) (y : Ptr) => args = #[.agg #[.int .i64 y.At, .int .u32 (y.Birth.toNat : Int), .int .u32 (y.Iv.toNat : Int), .int .u32 (y.Tag.toNat : Int), .int .u32 (y.Sum.toNat : Int)]]) p_1 I_ X_) (hI_ : IX I_ X_ (.inl p_2) O_ H) (ha_9 : IsSlice H (RSl RU8 1) 1 (.slice aa_9 na_9 ca_9) p_8.Disk.Blocks) (ha_10 : IsSlice H R_Write 2 (.slice aa_10 na_10 ca_10) p_8.Disk.Waits) (ha_11 : IsSlice H RU8 1 (.slice aa_11 na_11 ca_11) p_8.Space) (r : (σ ⊕ τ) × Int) (hx : set_young_1 p_1 p_2 p_4 p_6 p_8 p_14 = some r) :
  Does Tryz.prog 67 #[.func (.yield lr_) #[] #[], .pointer (some ⟨b_3, 0, none⟩), .pointer (some ⟨b_5, 0, none⟩), .pointer (some ⟨b_7, 0, none⟩), .pointer (some ⟨b_12, 0, none⟩)] [[(b_3, .cells #[.int .i64 p_4.At, .int .u32 (p_4.Birth.toNat : Int), .int .u32 (p_4.Iv.toNat : Int), .int .u32 (p_4.Tag.toNat : Int), .int .u32 (p_4.Sum.toNat : Int)] 31 (0, 0))], [(b_5, .cells #[.int .u32 (p_6.toNat : Int)] 27 (0, 0))], [(b_7, .cells #[.slice aa_9 na_9 ca_9, .slice aa_10 na_10 ca_10, .slice aa_11 na_11 ca_11, .int .u32 (p_8.Epoch.toNat : Int), .int .u32 (p_8.Count.toNat : Int)] 29 (0, 0))], [(b_12, .cells #[.pointer (some ⟨b_13, 0, none⟩)] 80 (0, 0))], [(b_13, .cells #[.int .i64 p_14] 35 (0, 0))], O_] H (fun u K' H' => ∃ O' : Own, u = .tuple #[] ∧ K' = [[(b_3, .cells #[.int .i64 p_4.At, .int .u32 (p_4.Birth.toNat : Int), .int .u32 (p_4.Iv.toNat : Int), .int .u32 (p_4.Tag.toNat : Int), .int .u32 (p_4.Sum.toNat : Int)] 31 (0, 0))], [(b_5, .cells #[.int .u32 (p_6.toNat : Int)] 27 (0, 0))], [(b_7, .cells #[.slice aa_9 na_9 ca_9, .slice aa_10 na_10 ca_10, .slice aa_11 na_11 ca_11, .int .u32 (p_8.Epoch.toNat : Int), .int .u32 (p_8.Count.toNat : Int)] 29 (0, 0))], [(b_12, .cells #[.pointer (some ⟨b_13, 0, none⟩)] 80 (0, 0))], [(b_13, .cells #[.int .i64 r.2] 35 (0, 0))], O'] ∧ IX I_ X_ r.1 O' H' ∧ True) := by
 refine Does.enterL (vs := [.func (.yield lr_) #[] #[], .pointer (some ⟨b_3, 0, none⟩), .pointer (some ⟨b_5, 0, none⟩), .pointer (some ⟨b_7, 0, none⟩), .pointer (some ⟨b_12, 0, none⟩)]) (l := [(0, .func (.yield lr_) #[] #[]), (1, .pointer (some ⟨b_3, 0, none⟩)), (2, .pointer (some ⟨b_5, 0, none⟩)), (3, .pointer (some ⟨b_7, 0, none⟩)), (4, .pointer (some ⟨b_12, 0, none⟩))]) Tryz.func67 rfl rfl ⟨rfl, rfl, rfl, rfl, rfl, trivial⟩ (fun w hlt => ?_)
 unfold set_young_1 at hx
 refine ZF (ZB (ZA rfl rfl (ZE rfl) (ZD (ZC (ZF (ZF (ZB (ZA rfl rfl (Zq F31_1 rfl) (ZA rfl rfl (Zd 0 S27 rfl rfl rfl) (ZA rfl rfl (Zd 1 S27 rfl rfl rfl) (ZA rfl rfl (R.leq32 (a := p_4.Birth) (b := p_6) rfl rfl) ?_)))))))))))
 refine ZD (ZC (ZW rfl (fun c_15 => ?_) (fun c_15 => ?_)))
 ·
  replace hx := ZT c_15 hx
  refine ZS (ZP (ZQ (vs := []) (K := [_, _, _, _, _, _]) (rst := []) (.inl rfl) rfl rfl rfl (Zf 0 rfl (Zf 0 rfl (Zf 0 rfl (Zf 0 rfl (Zf 0 rfl (Zf 0 rfl ZL)))))) ?_))
  obtain rfl := Option.some.inj hx
  exact ⟨O_, rfl, rfl, hI_, trivial⟩
 ·
  replace hx := ZU c_15 hx
  refine ZX (ZC (ZF (ZF (JC.draw (so := [_, _, _, _, _]) 10 rfl Mixed ⟨⟨0, rfl⟩, ⟨1, rfl⟩, ⟨2, rfl⟩, ⟨3, rfl⟩, ⟨5, rfl⟩, trivial⟩ (JA.val ⟨by kernel_rfl, by kernel_rfl⟩ (ZI _) (i := 0) rfl ⟨by kernel_rfl, by kernel_rfl, rfl⟩ trivial (ZJ (Hle.refl _) ⟨⟨0, rfl⟩, ⟨1, rfl⟩, ⟨2, rfl⟩, ⟨3, rfl⟩, ⟨5, rfl⟩, trivial⟩) (Zd 3 S80 rfl rfl rfl) rfl (JA.val ⟨by kernel_rfl, by kernel_rfl⟩ (ZI _) (i := 1) rfl ⟨by kernel_rfl, by kernel_rfl, rfl⟩ trivial (ZJ (Hle.refl _) ⟨⟨0, rfl⟩, ⟨1, rfl⟩, ⟨2, rfl⟩, ⟨3, rfl⟩, ⟨5, rfl⟩, trivial⟩) (Zg 2 (vs := [.slice aa_9 na_9 ca_9, .slice aa_10 na_10 ca_10, .slice aa_11 na_11 ca_11, .int .u32 (p_8.Epoch.toNat : Int), .int .u32 (p_8.Count.toNat : Int)]) S29 rfl rfl rfl rfl) rfl (JA.val ⟨by kernel_rfl, by kernel_rfl⟩ (ZI _) (i := 2) rfl ⟨by kernel_rfl, by kernel_rfl, rfl⟩ trivial (ZJ (Hle.refl _) ⟨⟨0, rfl⟩, ⟨1, rfl⟩, ⟨2, rfl⟩, ⟨3, rfl⟩, ⟨5, rfl⟩, trivial⟩) (Zg 0 (vs := [.int .i64 p_4.At, .int .u32 (p_4.Birth.toNat : Int), .int .u32 (p_4.Iv.toNat : Int), .int .u32 (p_4.Tag.toNat : Int), .int .u32 (p_4.Sum.toNat : Int)]) S31 rfl rfl rfl rfl) rfl (JA.one (i := 3) (by kernel_rfl) (JO.step rfl trivial rfl (fun K hK => ?_))))))))))
  obtain ⟨x_16, hr_17, hx⟩ := ZM hx
  refine ZR (vs := [_, _]) (args := [_, _]) (K := []) (rst := [_, _, _, _, _, _]) E8 rfl rfl rfl ZL (set_Ptrs_ok p_8 p_4 _ ha_9 ha_10 ha_11 _ hr_17) rfl (fun u_18 Ku_18 Hu_18 hRu_18 hleu_18 hfu_18 => ?_)
  obtain ⟨ar_19, nr_19, cr_19, Kr_19, rfl, rfl, hr_19, hnewr_19, -⟩ := hRu_18
  replace hr_19 := (RowOf.base (Zo (H2 := New H Hu_18) R_Ptr.const hr_19) (fun p hp => (hfu_18 p (Zw 0 rfl hp)).resolve_left (hnewr_19 p hp)))
  refine ZD (hK _ _ _ (ZJ hleu_18 ⟨⟨1, rfl⟩, ⟨2, rfl⟩, ⟨3, rfl⟩, ⟨4, rfl⟩, ⟨6, rfl⟩, trivial⟩) (JA.val ⟨by kernel_rfl, by kernel_rfl⟩ (ZI _) (i := 4) rfl ⟨by kernel_rfl, by kernel_rfl, rfl⟩ trivial (ZJ hleu_18 ⟨⟨1, rfl⟩, ⟨2, rfl⟩, ⟨3, rfl⟩, ⟨4, rfl⟩, ⟨6, rfl⟩, trivial⟩) (ZG rfl) rfl (JA.val ⟨by kernel_rfl, by kernel_rfl⟩ (ZI _) (i := 5) rfl ⟨by kernel_rfl, by kernel_rfl, rfl⟩ trivial (ZJ hleu_18 ⟨⟨1, rfl⟩, ⟨2, rfl⟩, ⟨3, rfl⟩, ⟨4, rfl⟩, ⟨6, rfl⟩, trivial⟩) (R.extract rfl rfl) rfl (JA.val ⟨by kernel_rfl, by kernel_rfl⟩ (ZI _) (i := 6) rfl ⟨by kernel_rfl, by kernel_rfl, rfl⟩ trivial (ZJ hleu_18 ⟨⟨1, rfl⟩, ⟨2, rfl⟩, ⟨3, rfl⟩, ⟨4, rfl⟩, ⟨6, rfl⟩, trivial⟩) (R.extract rfl rfl) rfl (JA.val ⟨by kernel_rfl, by kernel_rfl⟩ (ZI _) (i := 7) rfl ⟨by kernel_rfl, by kernel_rfl, rfl⟩ trivial (ZJ hleu_18 ⟨⟨1, rfl⟩, ⟨2, rfl⟩, ⟨3, rfl⟩, ⟨4, rfl⟩, ⟨6, rfl⟩, trivial⟩) (ZE rfl) rfl (JA.val ⟨by kernel_rfl, by kernel_rfl⟩ (ZI _) (i := 8) rfl ⟨by kernel_rfl, by kernel_rfl, rfl⟩ trivial (ZJ hleu_18 ⟨⟨1, rfl⟩, ⟨2, rfl⟩, ⟨3, rfl⟩, ⟨4, rfl⟩, ⟨6, rfl⟩, trivial⟩) (R.nilCheck rfl) rfl (JA.one (i := 9) (by kernel_rfl) (JO.step rfl trivial rfl (fun K hK => ZV 5 S35 rfl rfl rfl rfl rfl (Nat.le_of_ble_eq_true rfl) (ZD (hK _ _ _ (ZJ hleu_18 ⟨⟨1, rfl⟩, ⟨2, rfl⟩, ⟨3, rfl⟩, ⟨4, rfl⟩, ⟨6, rfl⟩, trivial⟩) ?_)))))))))))
  refine Zz (by kernel_rfl) (ZC (ZF (ZB (ZA rfl rfl (Zd 4 S80 rfl rfl rfl) (ZA rfl rfl (R.nilCheck rfl) (ZA rfl rfl (Zd 5 S35 rfl rfl rfl) (ZA rfl rfl (Zx rfl rfl) (ZA rfl rfl (ZG rfl) (Ze (t := 28) rfl (fun c_20 => ?_) (fun c_20 => ?_))))))))))
  ·
   replace hx := ZT c_20 hx
   refine ZH rfl rfl rfl rfl rfl (ZH rfl rfl rfl rfl rfl (ZH rfl rfl rfl rfl rfl (ZH rfl rfl rfl rfl rfl (ZA rfl rfl (Zb rfl rfl) (ZD (ZC (Zu rfl (ZS (ZP (ZQ (vs := []) (K := [_, _, _, _, _, _]) (rst := [_]) (.inl rfl) rfl rfl rfl (Zf 1 rfl (Zf 1 rfl (Zf 1 rfl (Zf 1 rfl (Zf 1 rfl (Zf 1 rfl ZL)))))) ?_))))))))))
   obtain rfl := Option.some.inj hx
   exact ⟨O_, rfl, rfl, (hI_.mono hleu_18), trivial⟩
  ·
   replace hx := ZU c_20 hx
   refine ZK rfl rfl rfl (ZA rfl rfl (ZG rfl) (ZK rfl rfl rfl (ZA rfl rfl (Zg 1 (vs := [.int .i64 p_4.At, .int .u32 (p_4.Birth.toNat : Int), .int .u32 (p_4.Iv.toNat : Int), .int .u32 (p_4.Tag.toNat : Int), .int .u32 (p_4.Sum.toNat : Int)]) S31 rfl rfl rfl rfl) (ZK rfl rfl rfl ?_))))
   obtain ⟨out_21, hb_22, hx⟩ := ZM hx
   refine JL.yieldG 6 p_4 hb_22 hY_ rfl rfl rfl (hI_.mono hleu_18) rfl rfl (fun s_23 O_25 H_26 hleH_26 hIH_26 he_27 => ?_) (fun t_24 O_25 H_26 hleH_26 hIH_26 he_27 => ?_)
   ·
    subst he_27
    simp only [Sum.elim_inl] at hx
    refine ZK rfl rfl rfl (ZA rfl rfl (R.not rfl) (ZA rfl rfl (Za rfl rfl) (ZD (ZC (JC.condF rfl (ZX (ZC (ZF (ZB (ZA rfl rfl (ZG rfl) (ZA rfl rfl (Zs U34 rfl (RowOf.long hr_19)) ?_)))))))))))
    refine ZA rfl rfl (ZG rfl) (ZD (ZC ?_))
    obtain ⟨t_28, ht_30, hx⟩ := ZM hx
    refine Z1 (fun l o g => ∃ t_28a : σ × Int, ∃ H_37 : Heaplet, ∃ O_38 : Own, l = [(1, .pointer (some ⟨b_3, 0, none⟩)), (2, .pointer (some ⟨b_5, 0, none⟩)), (3, .pointer (some ⟨b_7, 0, none⟩)), (4, .pointer (some ⟨b_12, 0, none⟩))] ∧ o = [O_38, [(b_3, .cells #[.int .i64 p_4.At, .int .u32 (p_4.Birth.toNat : Int), .int .u32 (p_4.Iv.toNat : Int), .int .u32 (p_4.Tag.toNat : Int), .int .u32 (p_4.Sum.toNat : Int)] 31 (0, 0))], [(b_5, .cells #[.int .u32 (p_6.toNat : Int)] 27 (0, 0))], [(b_7, .cells #[.slice aa_9 na_9 ca_9, .slice aa_10 na_10 ca_10, .slice aa_11 na_11 ca_11, .int .u32 (p_8.Epoch.toNat : Int), .int .u32 (p_8.Count.toNat : Int)] 29 (0, 0))], [(b_12, .cells #[.pointer (some ⟨b_13, 0, none⟩)] 80 (0, 0))], [(b_13, .cells #[.int .i64 t_28a.2] 35 (0, 0))]] ∧ H_37 = g ∧ t_28 = .inl t_28a ∧ Hle H_26 H_37 ∧ IX I_ X_ (.inl (t_28a.1)) O_38 H_37) ?_ ?_
    ·
     rintro _ _ _ ⟨t_28a, H_37, O_38, rfl, rfl, rfl, rfl, hleH_37, hI_39⟩
     simp only [Sum.elim_inl] at hx
     refine ZQ (vs := []) (K := [_, _, _, _, _, _]) (rst := []) (.inr rfl) rfl rfl rfl (Zf 1 rfl (Zf 1 rfl (Zf 1 rfl (Zf 1 rfl (Zf 1 rfl (Zf 0 rfl ZL)))))) ?_
     obtain rfl := Option.some.inj hx
     exact ⟨O_38, rfl, rfl, hI_39, trivial⟩
    ·
     have hxo_29 := hx; clear hx; have hx := ht_30; clear ht_30
     refine JC.block (Zj 5 rfl (Zj 5 rfl (Zj 5 rfl (Zj 5 rfl (Zj 5 rfl (Zj 6 rfl (Z5 (fun n l o g => ∃ s_31 : σ × Int × Nat, ∃ H_34 : Heaplet, ∃ O_35 : Own, l = [(0, .func (.yield lr_) #[] #[]), (1, .pointer (some ⟨b_3, 0, none⟩)), (2, .pointer (some ⟨b_5, 0, none⟩)), (3, .pointer (some ⟨b_7, 0, none⟩)), (4, .pointer (some ⟨b_12, 0, none⟩)), (34, .slice ar_19 nr_19 cr_19), (35, .int .i64 (x_16.1.length : Int)), (36, .int .i64 ((s_31.2.2 : Nat) : Int))] ∧ o = [O_35, [(b_3, .cells #[.int .i64 p_4.At, .int .u32 (p_4.Birth.toNat : Int), .int .u32 (p_4.Iv.toNat : Int), .int .u32 (p_4.Tag.toNat : Int), .int .u32 (p_4.Sum.toNat : Int)] 31 (0, 0))], [(b_5, .cells #[.int .u32 (p_6.toNat : Int)] 27 (0, 0))], [(b_7, .cells #[.slice aa_9 na_9 ca_9, .slice aa_10 na_10 ca_10, .slice aa_11 na_11 ca_11, .int .u32 (p_8.Epoch.toNat : Int), .int .u32 (p_8.Count.toNat : Int)] 29 (0, 0))], [(b_12, .cells #[.pointer (some ⟨b_13, 0, none⟩)] 80 (0, 0))], [(b_13, .cells #[.int .i64 s_31.2.1] 35 (0, 0))], Kr_19] ∧ H_34 = g ∧ run (set_young_1_l2 p_1 p_6 p_8 x_16) n s_31 = some t_28 ∧ Hle H_26 H_34 ∧ IX I_ X_ (.inl (s_31.1)) O_35 H_34) FUEL ?_ ⟨(s_23, x_16.2, 0), H_26, O_25, rfl, rfl, rfl, hx, (Hle.refl _), hIH_26⟩ ⟨rfl, rfl, rfl, rfl, rfl, rfl, rfl, rfl, trivial⟩ ?_)))))))
     ·
      rintro _ _ _ ⟨s_31, H_34, O_35, rfl, rfl, rfl, hn_32, hleH_34, hI_36⟩
      exact Z2 hn_32
     ·
      rintro n_33 _ _ _ ⟨s_31, H_34, O_35, rfl, rfl, rfl, hn_32, hleH_34, hI_36⟩
      clear hx; obtain ⟨oo_38, hx, hd_37⟩ := Z4 hn_32
      unfold set_young_1_l2 at hx
      refine ZF (ZB (ZA rfl rfl (Zy rfl rfl) (ZD (ZC (ZF (ZW rfl (fun c_37 => ?_) (fun c_37 => ?_)))))))
      ·
       replace hx := ZT c_37 hx
       refine ZX (ZC (ZF (JC.block (ZF (ZB ?_)))))
       obtain ⟨y_38, hN_39, hx⟩ := Zl hx
       obtain ⟨b_40, o_41, cs_42, cur_47, hK_48, hE_43, hR_44, hl_45, hc_46⟩ := RowOf.elem (hr_19.mono R_Ptr.mono (New.mono (hleH_26.trans hleH_34))) hN_39
       subst hK_48
       obtain rfl := hR_44
       refine ZA rfl rfl (R.ix U34 S31 rfl rfl hE_43) (ZA rfl rfl (R.ldoE 6 (cs := [.int .i64 y_38.At, .int .u32 (y_38.Birth.toNat : Int), .int .u32 (y_38.Iv.toNat : Int), .int .u32 (y_38.Tag.toNat : Int), .int .u32 (y_38.Sum.toNat : Int)]) (k := 0) (vs := [.int .i64 y_38.At, .int .u32 (y_38.Birth.toNat : Int), .int .u32 (y_38.Iv.toNat : Int), .int .u32 (y_38.Tag.toNat : Int), .int .u32 (y_38.Sum.toNat : Int)]) S31 rfl rfl hc_46 rfl rfl) (JL.alloc Z31 rfl (fun b_49 hb_49 => ZV 0 S31 rfl rfl rfl rfl rfl (Nat.le_of_ble_eq_true rfl) (ZD (ZC (ZF (ZF (ZB (ZA rfl rfl (Zq F31_1 rfl) (ZA rfl rfl (Zd 0 S27 rfl rfl rfl) (ZA rfl rfl (Zd 3 S27 rfl rfl rfl) ?_)))))))))))
       refine ZA rfl rfl (R.leq32 (a := y_38.Birth) (b := p_6) rfl rfl) (ZD (ZC (ZW rfl (fun c_50 => ?_) (fun c_50 => ?_))))
       ·
        replace hx := ZT c_50 hx
        refine Z0 (Zc (Zh (ZC (ZB (ZA rfl rfl (R.inc rfl rfl (of_decide_eq_true c_37) (RowOf.lenI hr_19)) (ZA rfl rfl (ZG rfl) (ZD ?_)))))))
        replace hx := Zp hd_37 hx
        refine JN.forget 0 (ZN 6 rfl (ZN 6 rfl (ZN 6 rfl (ZN 6 rfl (ZN 6 rfl (ZN 6 rfl (ZN 6 rfl ?_)))))))
        exact ZZ ⟨((s_31.1), s_31.2.1, s_31.2.2 + 1), H_34, O_35, rfl, rfl, rfl, hx, (hleH_34), hI_36⟩ ⟨rfl, rfl, rfl, rfl, rfl, rfl, rfl, rfl, trivial⟩ rfl rfl
       ·
        replace hx := ZU c_50 hx
        refine ZX (ZC (ZF (ZB (JL.alloc Z41 rfl (fun b_51 hb_51 => ZD (ZC (ZF (ZF (JC.draw (so := [_, _, _, _, _, _, _]) 10 rfl Mixed ⟨⟨1, rfl⟩, ⟨2, rfl⟩, ⟨3, rfl⟩, ⟨4, rfl⟩, ⟨5, rfl⟩, ⟨6, rfl⟩, ⟨8, rfl⟩, trivial⟩ (JA.val ⟨by kernel_rfl, by kernel_rfl⟩ (ZI _) (i := 0) rfl ⟨by kernel_rfl, by kernel_rfl, rfl⟩ trivial (ZJ (Hle.refl _) ⟨⟨1, rfl⟩, ⟨2, rfl⟩, ⟨3, rfl⟩, ⟨4, rfl⟩, ⟨5, rfl⟩, ⟨6, rfl⟩, ⟨8, rfl⟩, trivial⟩) (Zd 5 S80 rfl rfl rfl) rfl (JA.val ⟨by kernel_rfl, by kernel_rfl⟩ (ZI _) (i := 1) rfl ⟨by kernel_rfl, by kernel_rfl, rfl⟩ trivial (ZJ (Hle.refl _) ⟨⟨1, rfl⟩, ⟨2, rfl⟩, ⟨3, rfl⟩, ⟨4, rfl⟩, ⟨5, rfl⟩, ⟨6, rfl⟩, ⟨8, rfl⟩, trivial⟩) (Zg 4 (vs := [.slice aa_9 na_9 ca_9, .slice aa_10 na_10 ca_10, .slice aa_11 na_11 ca_11, .int .u32 (p_8.Epoch.toNat : Int), .int .u32 (p_8.Count.toNat : Int)]) S29 rfl rfl rfl rfl) rfl ?_)))))))))))
        refine JA.val ⟨by kernel_rfl, by kernel_rfl⟩ (ZI _) (i := 2) rfl ⟨by kernel_rfl, by kernel_rfl, rfl⟩ trivial (ZJ (Hle.refl _) ⟨⟨1, rfl⟩, ⟨2, rfl⟩, ⟨3, rfl⟩, ⟨4, rfl⟩, ⟨5, rfl⟩, ⟨6, rfl⟩, ⟨8, rfl⟩, trivial⟩) (Zg 0 (vs := [.int .i64 y_38.At, .int .u32 (y_38.Birth.toNat : Int), .int .u32 (y_38.Iv.toNat : Int), .int .u32 (y_38.Tag.toNat : Int), .int .u32 (y_38.Sum.toNat : Int)]) S31 rfl rfl rfl rfl) rfl (JA.one (i := 3) (by kernel_rfl) (JO.step rfl trivial rfl (fun K hK => ?_)))
        obtain ⟨x_52, hr_53, hx⟩ := ZM hx
        refine ZR (vs := [_, _]) (args := [_, _]) (K := []) (rst := [_, _, _, _, _, _, _, _, _]) E33 rfl rfl rfl ZL (set_one_ok p_8 y_38 _ (ha_9.mono (RSl.mono RU8.mono) (hleu_18.trans (hleH_26.trans hleH_34))) (ha_10.mono R_Write.mono (hleu_18.trans (hleH_26.trans hleH_34))) (ha_11.mono RU8.mono (hleu_18.trans (hleH_26.trans hleH_34))) _ hr_53) rfl (fun u_54 Ku_54 Hu_54 hRu_54 hleu_54 hfu_54 => ?_)
        obtain ⟨az_55, nz_55, rfl, rfl, hz_55, -⟩ := hRu_54
        replace hz_55 := IsSlice.mono R_Ptr.mono (New.call (hleu_18.trans (hleH_26.trans hleH_34))) hz_55
        refine ZD (hK _ _ _ (ZJ hleu_54 ⟨⟨1, rfl⟩, ⟨2, rfl⟩, ⟨3, rfl⟩, ⟨4, rfl⟩, ⟨5, rfl⟩, ⟨6, rfl⟩, ⟨8, rfl⟩, trivial⟩) (JA.val ⟨by kernel_rfl, by kernel_rfl⟩ (ZI _) (i := 4) rfl ⟨by kernel_rfl, by kernel_rfl, rfl⟩ trivial (ZJ hleu_54 ⟨⟨1, rfl⟩, ⟨2, rfl⟩, ⟨3, rfl⟩, ⟨4, rfl⟩, ⟨5, rfl⟩, ⟨6, rfl⟩, ⟨8, rfl⟩, trivial⟩) (ZG rfl) rfl (JA.val ⟨by kernel_rfl, by kernel_rfl⟩ (ZI _) (i := 5) rfl ⟨by kernel_rfl, by kernel_rfl, rfl⟩ trivial (ZJ hleu_54 ⟨⟨1, rfl⟩, ⟨2, rfl⟩, ⟨3, rfl⟩, ⟨4, rfl⟩, ⟨5, rfl⟩, ⟨6, rfl⟩, ⟨8, rfl⟩, trivial⟩) (R.extract rfl rfl) rfl (JA.val ⟨by kernel_rfl, by kernel_rfl⟩ (ZI _) (i := 6) rfl ⟨by kernel_rfl, by kernel_rfl, rfl⟩ trivial (ZJ hleu_54 ⟨⟨1, rfl⟩, ⟨2, rfl⟩, ⟨3, rfl⟩, ⟨4, rfl⟩, ⟨5, rfl⟩, ⟨6, rfl⟩, ⟨8, rfl⟩, trivial⟩) (R.extract rfl rfl) rfl (JA.one (i := 7) (by kernel_rfl) (JO.step rfl trivial rfl (fun K hK => ZV 0 S41 rfl rfl rfl rfl rfl (Nat.le_of_ble_eq_true rfl) (ZD (hK _ _ _ (ZJ hleu_54 ⟨⟨1, rfl⟩, ⟨2, rfl⟩, ⟨3, rfl⟩, ⟨4, rfl⟩, ⟨5, rfl⟩, ⟨6, rfl⟩, ⟨8, rfl⟩, trivial⟩) (JA.val ⟨by kernel_rfl, by kernel_rfl⟩ (ZI _) (i := 8) rfl ⟨by kernel_rfl, by kernel_rfl, rfl⟩ trivial (ZJ hleu_54 ⟨⟨1, rfl⟩, ⟨2, rfl⟩, ⟨3, rfl⟩, ⟨4, rfl⟩, ⟨5, rfl⟩, ⟨6, rfl⟩, ⟨8, rfl⟩, trivial⟩) (R.nilCheck rfl) rfl (JA.one (i := 9) (by kernel_rfl) ?_)))))))))))
        refine JO.step rfl trivial rfl (fun K hK => ZV 7 S35 rfl rfl rfl rfl rfl (Nat.le_of_ble_eq_true rfl) (ZD (hK _ _ _ (ZJ hleu_54 ⟨⟨1, rfl⟩, ⟨2, rfl⟩, ⟨3, rfl⟩, ⟨4, rfl⟩, ⟨5, rfl⟩, ⟨6, rfl⟩, ⟨8, rfl⟩, trivial⟩) (Zz (by kernel_rfl) (ZC (ZF (ZB (ZA rfl rfl (Zd 6 S80 rfl rfl rfl) (ZA rfl rfl (R.nilCheck rfl) (ZA rfl rfl (Zd 7 S35 rfl rfl rfl) (ZA rfl rfl (Zx rfl rfl) ?_)))))))))))
        refine ZA rfl rfl (ZG rfl) (Ze (t := 56) rfl (fun c_56 => ?_) (fun c_56 => ?_))
        ·
         replace hx := ZT c_56 hx
         refine ZH rfl rfl rfl rfl rfl (ZH rfl rfl rfl rfl rfl (ZH rfl rfl rfl rfl rfl (ZH rfl rfl rfl rfl rfl (ZA rfl rfl (Zb rfl rfl) (ZD (ZC (Zu rfl (ZS (ZP (Z9 (ZP ?_)))))))))))
         obtain rfl := Zr hd_37 hx
         refine ZP (Z9 ?_)
         clear hx; have hx := hxo_29
         simp only [Sum.elim_inl, Sum.elim_inr] at hx
         refine ZP (ZQ (vs := []) (K := [_, _, _, _, _, _]) (rst := [_, _, _]) (.inl rfl) rfl rfl rfl (Zf 3 rfl (Zf 3 rfl (Zf 3 rfl (Zf 3 rfl (Zf 3 rfl (Zf 2 rfl ZL)))))) ?_)
         obtain rfl := Option.some.inj hx
         exact ⟨O_35, rfl, rfl, (hI_36.mono hleu_54), trivial⟩
        ·
         replace hx := ZU c_56 hx
         refine ZK rfl rfl rfl (ZA rfl rfl (ZG rfl) (ZK rfl rfl rfl (ZA rfl rfl (Zg 1 (vs := [.int .i64 y_38.At, .int .u32 (y_38.Birth.toNat : Int), .int .u32 (y_38.Iv.toNat : Int), .int .u32 (y_38.Tag.toNat : Int), .int .u32 (y_38.Sum.toNat : Int)]) S31 rfl rfl rfl rfl) (ZK rfl rfl rfl ?_))))
         obtain ⟨out_57, hb_58, hx⟩ := ZM hx
         refine JL.yieldG 2 y_38 hb_58 hY_ rfl rfl rfl (hI_36.mono hleu_54) rfl rfl (fun s_59 O_61 H_62 hleH_62 hIH_62 he_63 => ?_) (fun t_60 O_61 H_62 hleH_62 hIH_62 he_63 => ?_)
         ·
          subst he_63
          simp only [Sum.elim_inl] at hx
          refine ZK rfl rfl rfl (ZA rfl rfl (R.not rfl) (ZA rfl rfl (Za rfl rfl) (ZD (ZC (JC.condF rfl (ZX (ZC (ZF (ZB (ZA rfl rfl (Zq F41_3 rfl) (ZA rfl rfl (Zd 0 S34 rfl rfl rfl) ?_)))))))))))
          refine ZA rfl rfl (Zs U34 rfl (IsSlice.long hz_55)) (ZA rfl rfl (ZG rfl) (ZD (ZC ?_)))
          obtain ⟨t_64, ht_66, hx⟩ := ZM hx
          refine Z1 (fun l o g => ∃ t_64a : σ, ∃ H_73 : Heaplet, ∃ O_74 : Own, l = [(0, .func (.yield lr_) #[] #[]), (1, .pointer (some ⟨b_3, 0, none⟩)), (2, .pointer (some ⟨b_5, 0, none⟩)), (3, .pointer (some ⟨b_7, 0, none⟩)), (4, .pointer (some ⟨b_12, 0, none⟩)), (34, .slice ar_19 nr_19 cr_19), (35, .int .i64 (x_16.1.length : Int)), (36, .int .i64 ((s_31.2.2 : Nat) : Int))] ∧ o = [O_74, [(b_3, .cells #[.int .i64 p_4.At, .int .u32 (p_4.Birth.toNat : Int), .int .u32 (p_4.Iv.toNat : Int), .int .u32 (p_4.Tag.toNat : Int), .int .u32 (p_4.Sum.toNat : Int)] 31 (0, 0))], [(b_5, .cells #[.int .u32 (p_6.toNat : Int)] 27 (0, 0))], [(b_7, .cells #[.slice aa_9 na_9 ca_9, .slice aa_10 na_10 ca_10, .slice aa_11 na_11 ca_11, .int .u32 (p_8.Epoch.toNat : Int), .int .u32 (p_8.Count.toNat : Int)] 29 (0, 0))], [(b_12, .cells #[.pointer (some ⟨b_13, 0, none⟩)] 80 (0, 0))], [(b_13, .cells #[.int .i64 x_52.2] 35 (0, 0))], [(b_40, .cells cur_47 31 (0, 0))]] ∧ H_73 = g ∧ t_64 = .inl t_64a ∧ Hle H_62 H_73 ∧ IX I_ X_ (.inl (t_64a)) O_74 H_73) ?_ ?_
          ·
           rintro _ _ _ ⟨t_64a, H_73, O_74, rfl, rfl, rfl, rfl, hleH_73, hI_75⟩
           simp only [Sum.elim_inl] at hx
           refine Zm (ZC (ZB (ZA rfl rfl (R.inc rfl rfl (of_decide_eq_true c_37) (RowOf.lenI hr_19)) (ZA rfl rfl (ZG rfl) (ZD ?_)))))
           replace hx := Zp hd_37 hx
           refine ZN 6 rfl (ZN 6 rfl (ZN 6 rfl (ZN 6 rfl (ZN 6 rfl (ZN 6 rfl (ZN 6 rfl ?_))))))
           exact ZZ ⟨((t_64a), x_52.2, s_31.2.2 + 1), H_73, O_74, rfl, rfl, rfl, hx, ((hleH_34.trans (hleu_54.trans (hleH_62.trans hleH_73)))), hI_75⟩ ⟨rfl, rfl, rfl, rfl, rfl, rfl, rfl, rfl, trivial⟩ rfl rfl
          ·
           have hxo_65 := hx; clear hx; have hx := ht_66; clear ht_66
           refine JC.block (JC.forget 1 (JC.forget 0 (Zj 6 rfl (Zj 6 rfl (Zj 6 rfl (Zj 6 rfl (Zj 6 rfl (Zj 6 rfl (Zj 6 rfl (Z5 (fun n l o g => ∃ s_67 : σ × Nat, ∃ H_70 : Heaplet, ∃ O_71 : Own, l = [(0, .func (.yield lr_) #[] #[]), (1, .pointer (some ⟨b_3, 0, none⟩)), (2, .pointer (some ⟨b_5, 0, none⟩)), (3, .pointer (some ⟨b_7, 0, none⟩)), (4, .pointer (some ⟨b_12, 0, none⟩)), (34, .slice ar_19 nr_19 cr_19), (35, .int .i64 (x_16.1.length : Int)), (36, .int .i64 ((s_31.2.2 : Nat) : Int)), (63, .slice az_55 nz_55 nz_55), (64, .int .i64 (x_52.1.Data.length : Int)), (65, .int .i64 ((s_67.2 : Nat) : Int))] ∧ o = [O_71, [(b_3, .cells #[.int .i64 p_4.At, .int .u32 (p_4.Birth.toNat : Int), .int .u32 (p_4.Iv.toNat : Int), .int .u32 (p_4.Tag.toNat : Int), .int .u32 (p_4.Sum.toNat : Int)] 31 (0, 0))], [(b_5, .cells #[.int .u32 (p_6.toNat : Int)] 27 (0, 0))], [(b_7, .cells #[.slice aa_9 na_9 ca_9, .slice aa_10 na_10 ca_10, .slice aa_11 na_11 ca_11, .int .u32 (p_8.Epoch.toNat : Int), .int .u32 (p_8.Count.toNat : Int)] 29 (0, 0))], [(b_12, .cells #[.pointer (some ⟨b_13, 0, none⟩)] 80 (0, 0))], [(b_13, .cells #[.int .i64 x_52.2] 35 (0, 0))], [(b_40, .cells cur_47 31 (0, 0))]] ∧ H_70 = g ∧ run (set_young_1_l1 p_1 p_6 x_52) n s_67 = some t_64 ∧ Hle H_62 H_70 ∧ IX I_ X_ (.inl (s_67.1)) O_71 H_70) FUEL ?_ ⟨(s_59, 0), H_62, O_61, rfl, rfl, rfl, hx, (Hle.refl _), hIH_62⟩ ⟨rfl, rfl, rfl, rfl, rfl, rfl, rfl, rfl, rfl, rfl, rfl, trivial⟩ ?_))))))))))
           ·
            rintro _ _ _ ⟨s_67, H_70, O_71, rfl, rfl, rfl, hn_68, hleH_70, hI_72⟩
            exact Z2 hn_68
           ·
            rintro n_69 _ _ _ ⟨s_67, H_70, O_71, rfl, rfl, rfl, hn_68, hleH_70, hI_72⟩
            clear hx; obtain ⟨oo_74, hx, hd_73⟩ := Z4 hn_68
            unfold set_young_1_l1 at hx
            refine ZF (ZB (ZA rfl rfl (Zy rfl rfl) (ZD (ZC (ZF (ZW rfl (fun c_73 => ?_) (fun c_73 => ?_)))))))
            ·
             replace hx := ZT c_73 hx
             refine ZX (ZC (ZF (JC.block (ZF (ZB ?_)))))
             obtain ⟨y_74, hN_75, hx⟩ := Zl hx
             obtain ⟨b_76, o_77, cs_78, hE_79, hR_80, hl_81, hc_82⟩ := IsSlice.elem (hz_55.mono R_Ptr.mono (New.mono (hleH_62.trans hleH_70))) hN_75
             obtain rfl := hR_80
             refine ZA rfl rfl (R.ix U34 S31 rfl rfl hE_79) (ZA rfl rfl (R.ldHE (cs := [.int .i64 y_74.At, .int .u32 (y_74.Birth.toNat : Int), .int .u32 (y_74.Iv.toNat : Int), .int .u32 (y_74.Tag.toNat : Int), .int .u32 (y_74.Sum.toNat : Int)]) (k := 0) (vs := [.int .i64 y_74.At, .int .u32 (y_74.Birth.toNat : Int), .int .u32 (y_74.Iv.toNat : Int), .int .u32 (y_74.Tag.toNat : Int), .int .u32 (y_74.Sum.toNat : Int)]) S31 rfl (fun j u e => New.le _ _ _ _ _ (hc_82 j u e)) rfl rfl) (JL.alloc Z31 rfl (fun b_83 hb_83 => ZV 0 S31 rfl rfl rfl rfl rfl (Nat.le_of_ble_eq_true rfl) (ZD (ZC (ZF (ZB (ZA rfl rfl (Zq F31_1 rfl) (ZA rfl rfl (Zd 0 S27 rfl rfl rfl) (ZA rfl rfl (Zd 3 S27 rfl rfl rfl) (ZA rfl rfl (R.gtr32 (a := y_74.Birth) (b := p_6) rfl rfl) ?_)))))))))))
             refine ZA rfl rfl (ZG rfl) (Ze (t := 73) rfl (fun c_84 => ?_) (fun c_84 => ?_))
             ·
              replace hx := ZT c_84 hx
              refine ZK rfl rfl rfl (ZA rfl rfl (ZG rfl) (ZK rfl rfl rfl (ZA rfl rfl (Zg 0 (vs := [.int .i64 y_74.At, .int .u32 (y_74.Birth.toNat : Int), .int .u32 (y_74.Iv.toNat : Int), .int .u32 (y_74.Tag.toNat : Int), .int .u32 (y_74.Sum.toNat : Int)]) S31 rfl rfl rfl rfl) (ZK rfl rfl rfl ?_))))
              obtain ⟨out_85, hb_86, hx⟩ := ZM hx
              refine JL.yieldG 1 y_74 hb_86 hY_ rfl rfl rfl hI_72 rfl rfl (fun s_87 O_89 H_90 hleH_90 hIH_90 he_91 => ?_) (fun t_88 O_89 H_90 hleH_90 hIH_90 he_91 => ?_)
              ·
               subst he_91
               simp only [Sum.elim_inl] at hx
               refine ZK rfl rfl rfl (ZA rfl rfl (R.not rfl) (ZA rfl rfl (Zb rfl rfl) (ZD (ZC (JC.condF rfl (ZX (Zm (ZC (ZB (ZA rfl rfl (R.inc rfl rfl (of_decide_eq_true c_73) (IsSlice.lenI hz_55)) (ZA rfl rfl (ZG rfl) ?_)))))))))))
               refine ZD ?_
               replace hx := Zp hd_73 hx
               refine JN.forget 0 (ZN 6 rfl (ZN 6 rfl (ZN 6 rfl (ZN 6 rfl (ZN 6 rfl (ZN 6 rfl (ZN 6 rfl ?_)))))))
               exact ZZ ⟨(s_87, s_67.2 + 1), H_90, O_89, rfl, rfl, rfl, hx, ((hleH_70.trans hleH_90)), hIH_90⟩ ⟨rfl, rfl, rfl, rfl, rfl, rfl, rfl, rfl, rfl, rfl, rfl, trivial⟩ rfl rfl
              ·
               subst he_91
               simp only [Sum.elim_inr] at hx
               refine ZK rfl rfl rfl (ZA rfl rfl (R.not rfl) (ZA rfl rfl (Zb rfl rfl) (ZD (ZC (Zu rfl (ZS (Z9 (ZP ?_))))))))
               obtain rfl := Zr hd_73 hx
               refine ZP (Z9 ?_)
               clear hx; have hx := hxo_65
               simp only [Sum.elim_inl, Sum.elim_inr] at hx
               refine ZP (Z9 (ZP ?_))
               obtain rfl := Zr hd_37 hx
               refine ZP (Z9 ?_)
               clear hx; have hx := hxo_29
               simp only [Sum.elim_inl, Sum.elim_inr] at hx
               refine ZP (ZQ (vs := []) (K := [_, _, _, _, _, _]) (rst := [_, _]) (.inl rfl) rfl rfl rfl (Zf 2 rfl (Zf 2 rfl (Zf 2 rfl (Zf 2 rfl (Zf 2 rfl (Zf 1 rfl ZL)))))) ?_)
               obtain rfl := Option.some.inj hx
               exact ⟨O_89, rfl, rfl, hIH_90, trivial⟩
             ·
              replace hx := ZU c_84 hx
              refine ZH rfl rfl rfl rfl rfl (ZH rfl rfl rfl rfl rfl (ZH rfl rfl rfl rfl rfl (ZH rfl rfl rfl rfl rfl (ZA rfl rfl (Za rfl rfl) (ZD (ZC (JC.condF rfl (ZX (Zm (ZC (ZB ?_)))))))))))
              refine ZA rfl rfl (R.inc rfl rfl (of_decide_eq_true c_73) (IsSlice.lenI hz_55)) (ZA rfl rfl (ZG rfl) (ZD ?_))
              replace hx := Zp hd_73 hx
              refine JN.forget 0 (ZN 6 rfl (ZN 6 rfl (ZN 6 rfl (ZN 6 rfl (ZN 6 rfl (ZN 6 rfl (ZN 6 rfl ?_)))))))
              exact ZZ ⟨((s_67.1), s_67.2 + 1), H_70, O_71, rfl, rfl, rfl, hx, (hleH_70), hI_72⟩ ⟨rfl, rfl, rfl, rfl, rfl, rfl, rfl, rfl, rfl, rfl, rfl, trivial⟩ rfl rfl
            ·
             replace hx := ZU c_73 hx
             refine Z0 (Zc ?_)
             obtain rfl := Zr hd_73 hx
             refine Zc (Zh (ZN 6 rfl (ZN 6 rfl (ZN 6 rfl (ZN 6 rfl (ZN 6 rfl (ZN 6 rfl (ZN 6 rfl ?_))))))))
             exact ZZ ⟨(s_67.1), H_70, O_71, rfl, rfl, rfl, rfl, (hleH_70), hI_72⟩ ⟨rfl, rfl, rfl, rfl, rfl, rfl, rfl, rfl, trivial⟩ rfl rfl
         ·
          subst he_63
          simp only [Sum.elim_inr] at hx
          refine ZK rfl rfl rfl (ZA rfl rfl (R.not rfl) (ZA rfl rfl (Za rfl rfl) (ZD (ZC (Zu rfl (ZS (ZP (Z9 (ZP ?_)))))))))
          obtain rfl := Zr hd_37 hx
          refine ZP (Z9 ?_)
          clear hx; have hx := hxo_29
          simp only [Sum.elim_inl, Sum.elim_inr] at hx
          refine ZP (ZQ (vs := []) (K := [_, _, _, _, _, _]) (rst := [_, _, _]) (.inl rfl) rfl rfl rfl (Zf 3 rfl (Zf 3 rfl (Zf 3 rfl (Zf 3 rfl (Zf 3 rfl (Zf 2 rfl ZL)))))) ?_)
          obtain rfl := Option.some.inj hx
          exact ⟨O_61, rfl, rfl, hIH_62, trivial⟩
      ·
       replace hx := ZU c_37 hx
       refine Z0 (Zc ?_)
       obtain rfl := Zr hd_37 hx
       refine Zc (Zh (JN.forget 6 (ZN 5 rfl (ZN 5 rfl (ZN 5 rfl (ZN 5 rfl (ZN 5 rfl (ZN 5 rfl ?_))))))))
       exact ZZ ⟨((s_31.1), s_31.2.1), H_34, O_35, rfl, rfl, rfl, rfl, (hleH_34), hI_36⟩ ⟨rfl, rfl, rfl, rfl, trivial⟩ rfl rfl
   ·
    subst he_27
    simp only [Sum.elim_inr] at hx
    refine ZK rfl rfl rfl (ZA rfl rfl (R.not rfl) (ZA rfl rfl (Za rfl rfl) (ZD (ZC (Zu rfl (ZS (ZP (ZQ (vs := []) (K := [_, _, _, _, _, _]) (rst := [_]) (.inl rfl) rfl rfl rfl (Zf 1 rfl (Zf 1 rfl (Zf 1 rfl (Zf 1 rfl (Zf 1 rfl (Zf 1 rfl ZL)))))) ?_))))))))
    obtain rfl := Option.some.inj hx
    exact ⟨O_25, rfl, rfl, hIH_26, trivial⟩

set_option maxHeartbeats 8000000 in
theorem slices_AppendSeq_Ptr_ok (p_1 : List Ptr) (p_4 : Ptr) (p_6 : UInt32) (p_8 : Store) (p_14 : Int) (H : Heaplet) {ar_2 : Option Addr} {nr_2 : Nat} {cr_2 : Nat} {Kr_2 : Own} {b_3 : Nat} {b_5 : Nat} {b_7 : Nat} {aa_9 : Option Addr} {na_9 : Nat} {ca_9 : Nat} {aa_10 : Option Addr} {na_10 : Nat} {ca_10 : Nat} {aa_11 : Option Addr} {na_11 : Nat} {ca_11 : Nat} {b_12 : Nat} {b_13 : Nat} (hr_2 : RowOf H R_Ptr 0 31 5 (.slice ar_2 nr_2 cr_2) p_1 Kr_2) (ha_9 : IsSlice H (RSl RU8 1) 1 (.slice aa_9 na_9 ca_9) p_8.Disk.Blocks) (ha_10 : IsSlice H R_Write 2 (.slice aa_10 na_10 ca_10) p_8.Disk.Waits) (ha_11 : IsSlice H RU8 1 (.slice aa_11 na_11 ca_11) p_8.Space) (r : List Ptr × Ptr × UInt32 × Store × Int) (hx : slices_AppendSeq_Ptr p_1 p_4 p_6 p_8 p_14 = some r) :
  Does Tryz.prog 66 #[.slice ar_2 nr_2 cr_2, .func (.func 67) #[] #[.pointer (some ⟨b_3, 0, none⟩), .pointer (some ⟨b_5, 0, none⟩), .pointer (some ⟨b_7, 0, none⟩), .pointer (some ⟨b_12, 0, none⟩)]] [Kr_2, [(b_3, .cells #[.int .i64 p_4.At, .int .u32 (p_4.Birth.toNat : Int), .int .u32 (p_4.Iv.toNat : Int), .int .u32 (p_4.Tag.toNat : Int), .int .u32 (p_4.Sum.toNat : Int)] 31 (0, 0))], [(b_5, .cells #[.int .u32 (p_6.toNat : Int)] 27 (0, 0))], [(b_7, .cells #[.slice aa_9 na_9 ca_9, .slice aa_10 na_10 ca_10, .slice aa_11 na_11 ca_11, .int .u32 (p_8.Epoch.toNat : Int), .int .u32 (p_8.Count.toNat : Int)] 29 (0, 0))], [(b_12, .cells #[.pointer (some ⟨b_13, 0, none⟩)] 80 (0, 0))], [(b_13, .cells #[.int .i64 p_14] 35 (0, 0))]] H (fun u K' H' => ∃ ao0 : Option Addr, ∃ n0 : Nat, ∃ cap0 : Nat, ∃ ao1 : Option Addr, ∃ n1 : Nat, ∃ cap1 : Nat, ∃ ao2 : Option Addr, ∃ n2 : Nat, ∃ cap2 : Nat, ∃ ao3 : Option Addr, ∃ n3 : Nat, ∃ cap3 : Nat, ∃ K3 : Own, u = .slice ao3 n3 cap3 ∧ K' = [[(b_3, .cells #[.int .i64 r.2.1.At, .int .u32 (r.2.1.Birth.toNat : Int), .int .u32 (r.2.1.Iv.toNat : Int), .int .u32 (r.2.1.Tag.toNat : Int), .int .u32 (r.2.1.Sum.toNat : Int)] 31 (0, 0))], [(b_5, .cells #[.int .u32 (r.2.2.1.toNat : Int)] 27 (0, 0))], [(b_7, .cells #[.slice ao0 n0 cap0, .slice ao1 n1 cap1, .slice ao2 n2 cap2, .int .u32 (r.2.2.2.1.Epoch.toNat : Int), .int .u32 (r.2.2.2.1.Count.toNat : Int)] 29 (0, 0))], [(b_12, .cells #[.pointer (some ⟨b_13, 0, none⟩)] 80 (0, 0))], [(b_13, .cells #[.int .i64 r.2.2.2.2] 35 (0, 0))], K3] ∧ IsSlice H' (RSl RU8 1) 1 (.slice ao0 n0 cap0) r.2.2.2.1.Disk.Blocks ∧ IsSlice H' R_Write 2 (.slice ao1 n1 cap1) r.2.2.2.1.Disk.Waits ∧ IsSlice H' RU8 1 (.slice ao2 n2 cap2) r.2.2.2.1.Space ∧ RowOf (New H H') R_Ptr 0 31 5 (.slice ao3 n3 cap3) r.1 K3 ∧ True) := by
 refine Does.enterML (vs := [.slice ar_2 nr_2 cr_2, .func (.func 67) #[] #[.pointer (some ⟨b_3, 0, none⟩), .pointer (some ⟨b_5, 0, none⟩), .pointer (some ⟨b_7, 0, none⟩), .pointer (some ⟨b_12, 0, none⟩)]]) (l := [(0, .slice ar_2 nr_2 cr_2), (1, .func (.func 67) #[] #[.pointer (some ⟨b_3, 0, none⟩), .pointer (some ⟨b_5, 0, none⟩), .pointer (some ⟨b_7, 0, none⟩), .pointer (some ⟨b_12, 0, none⟩)])]) Tryz.func66 rfl rfl ⟨rfl, rfl, trivial⟩ (fun w hlt => ?_)
 replace hr_2 := Zo (H2 := New H H) R_Ptr.const hr_2
 unfold slices_AppendSeq_Ptr at hx
 refine ZF (ZB (Zv rfl rfl (fun b_15 hb_15 => ZA rfl rfl (ZE rfl) (ZD (ZC (ZF (ZF (ZB (ZA rfl rfl (ZG rfl) (ZD (ZC ?_)))))))))))
 refine JC.block (Zj 1 rfl (Zj 1 rfl (Zj 6 rfl (Zj 6 rfl (Zj 6 rfl (Zj 6 rfl (Zj 6 rfl ?_)))))))
 obtain ⟨t_16, ht_18, hx⟩ := ZM hx
 refine JC.rangeG2 (RA := (fun (H : Heaplet) (args : Array Value) (y : Ptr) => args = #[.agg #[.int .i64 y.At, .int .u32 (y.Birth.toNat : Int), .int .u32 (y.Iv.toNat : Int), .int .u32 (y.Tag.toNat : Int), .int .u32 (y.Sum.toNat : Int)]])) rfl slices_AppendSeq_Ptr_r1 p_1 t_16.1 (fun s_19 o g => ∃ H_29 : Heaplet, ∃ ar_30 : Option Addr, ∃ nr_30 : Nat, ∃ cr_30 : Nat, ∃ Kr_30 : Own, o = [[(b_15, .cells #[.slice ar_30 nr_30 cr_30] 34 (0, 0))], Kr_30] ∧ H_29 = g ∧ Hle H H_29 ∧ RowOf (New H H_29) R_Ptr 0 31 5 (.slice ar_30 nr_30 cr_30) s_19 Kr_30) (fun e c o g => False) (fun mm g => mm = [[(b_3, .cells #[.int .i64 p_4.At, .int .u32 (p_4.Birth.toNat : Int), .int .u32 (p_4.Iv.toNat : Int), .int .u32 (p_4.Tag.toNat : Int), .int .u32 (p_4.Sum.toNat : Int)] 31 (0, 0))], [(b_5, .cells #[.int .u32 (p_6.toNat : Int)] 27 (0, 0))], [(b_7, .cells #[.slice aa_9 na_9 ca_9, .slice aa_10 na_10 ca_10, .slice aa_11 na_11 ca_11, .int .u32 (p_8.Epoch.toNat : Int), .int .u32 (p_8.Count.toNat : Int)] 29 (0, 0))], [(b_12, .cells #[.pointer (some ⟨b_13, 0, none⟩)] 80 (0, 0))], [(b_13, .cells #[.int .i64 t_16.2] 35 (0, 0))]]) [_, _, _, _, _] [_, _] rfl E67 rfl (fun lr' I' X' O' hY' hI' => Does.mono (set_young_1_ok slices_AppendSeq_Ptr_r1 p_1 p_4 p_6 p_8 p_14 _ hY' hI' ha_9 ha_10 ha_11 _ ht_18) (fun u K' H' h => by obtain ⟨Oo, -, hK, hIX, -⟩ := h; exact ⟨_, _, hK, rfl, hIX⟩)) (fun _ _ _ h => by first | rfl | (subst h; rfl)) rfl ⟨H, ar_2, nr_2, cr_2, Kr_2, rfl, rfl, (Hle.refl _), hr_2⟩ ?_ ?_ ?_
 ·
  rintro lr_21 y_20 s_19 args o g H_25 out_23 hleH_25 ⟨H_29, ar_30, nr_30, cr_30, Kr_30, rfl, rfl, hleH_29, hr_30⟩ hA hx2
  clear hx; have hx := hx2; clear hx2; unfold slices_AppendSeq_Ptr_r1 at hx
  obtain rfl := hA
  refine ⟨fun L' o' => ∃ b_31 : Nat, L' = [(2, .pointer (some ⟨b_15, 0, none⟩)), (5, .pointer (some ⟨b_31, 0, none⟩))] ∧ o' = [[(b_31, .cells #[.int .i64 y_20.At, .int .u32 (y_20.Birth.toNat : Int), .int .u32 (y_20.Iv.toNat : Int), .int .u32 (y_20.Tag.toNat : Int), .int .u32 (y_20.Sum.toNat : Int)] 31 (0, 0))], [(b_15, .cells #[.slice ar_30 nr_30 cr_30] 34 (0, 0))], Kr_30], fun wb_22 hwb_22 => ?_, fun wb_22 L' o' hJ hwb_22 => ?_⟩
  ·
   refine ZB (JL.alloc Z31 rfl (fun b_31 hb_31 => ZV 0 S31 rfl rfl rfl rfl rfl (Nat.le_of_ble_eq_true rfl) (ZD ?_)))
   exact JN.assigned2 ⟨_, rfl, rfl⟩ ⟨rfl, rfl, trivial⟩ rfl
  ·
   obtain ⟨b_31, rfl, rfl⟩ := hJ
   refine JC.block (ZB (ZA rfl rfl (Zd 1 S34 rfl rfl rfl) (ZA rfl rfl (Zg 0 (vs := [.int .i64 y_20.At, .int .u32 (y_20.Birth.toNat : Int), .int .u32 (y_20.Iv.toNat : Int), .int .u32 (y_20.Tag.toNat : Int), .int .u32 (y_20.Sum.toNat : Int)]) S31 rfl rfl rfl rfl) (JL.bslF (HF := (New H H_25)) (R := R_Ptr) (ls := [y_20]) (vs := [.agg #[.int .i64 y_20.At, .int .u32 (y_20.Birth.toNat : Int), .int .u32 (y_20.Iv.toNat : Int), .int .u32 (y_20.Tag.toNat : Int), .int .u32 (y_20.Sum.toNat : Int)]]) U34 I31 rfl rfl (⟨_, _, rfl, rfl, rfl, rfl⟩) R_Ptr.one rfl rfl rfl (by simp [maxLen]) rfl (fun vr_32 Kr_32 hr_32 => ?_)))))
   obtain ⟨ar_32, cr_32, rfl⟩ := RowOf.val hr_32
   obtain ⟨q_33, hm_34, hl_35, hx⟩ := YC hx
   refine JL.appF (HF := (New H H_25)) 3 U34 I31 rfl rfl (hr_30.mono R_Ptr.mono (New.mono hleH_25)) rfl (SrcF.row 0 U34 rfl hr_32) hm_34 hl_35 rfl (Nat.zero_le _) rfl (fun vr_36 Kr_36 hr_36 => ?_)
   obtain ⟨ar_36, cr_36, rfl⟩ := RowOf.val hr_36
   refine ZV 2 S34 rfl rfl rfl rfl rfl (Nat.le_of_ble_eq_true rfl) (ZD (Zm ?_))
   obtain rfl := Option.some.inj hx
   refine JN.forget 1 (JN.forget 0 (ZN 1 rfl (ZN 1 rfl ?_)))
   exact JN.rN ⟨H_25, ar_36, q_33.length, cr_36, Kr_36, rfl, rfl, ((hleH_29.trans hleH_25)), hr_36⟩
 ·
  rintro D_24 s_19 m_26 o g H_25 hD_24 htt_27 hM_28 hleH_25 ⟨H_29, ar_30, nr_30, cr_30, Kr_30, rfl, rfl, hleH_29, hr_30⟩ hle2
  obtain rfl := hM_28
  rw [htt_27] at hx; simp only [Sum.elim_inl] at hx
  refine Zm (ZC (ZF (ZB (ZA rfl rfl (Zd 6 S34 rfl rfl rfl) (ZA rfl rfl (ZE rfl) (ZD (ZC (ZS (JN.outMP (vs := [.slice ar_30 nr_30 cr_30]) (K := [_, _, _, _, _, _]) (rst := [_]) (own2 := [_, _, _, _, _, _, _]) [D_24] (.inl rfl) ⟨rfl, rfl, rfl, rfl⟩ rfl rfl (Zf 0 rfl ZL) (ZO rfl rfl) (Zf 0 rfl (Zf 0 rfl (Zf 0 rfl (Zf 0 rfl (Zf 0 rfl (Zf 1 rfl ZL)))))) ?_)))))))))
  obtain rfl := Option.some.inj hx
  exact ⟨aa_9, na_9, ca_9, aa_10, na_10, ca_10, aa_11, na_11, ca_11, ar_30, nr_30, cr_30, Kr_30, rfl, rfl, (ha_9.mono (RSl.mono RU8.mono) (hleH_29.trans hleH_25)), (ha_10.mono R_Write.mono (hleH_29.trans hleH_25)), (ha_11.mono RU8.mono (hleH_29.trans hleH_25)), (Zt (Nat.zero_le _) (hr_30.mono R_Ptr.mono (New.mono hleH_25))), trivial⟩
 ·
  rintro D c e m o g H9 hD htt hM h9 hX; exact hX.elim

set_option maxHeartbeats 8000000 in
theorem slices_Collect_Ptr_ok (p_2 : Ptr) (p_4 : UInt32) (p_6 : Store) (p_12 : Int) (H : Heaplet) {b_1 : Nat} {b_3 : Nat} {b_5 : Nat} {aa_7 : Option Addr} {na_7 : Nat} {ca_7 : Nat} {aa_8 : Option Addr} {na_8 : Nat} {ca_8 : Nat} {aa_9 : Option Addr} {na_9 : Nat} {ca_9 : Nat} {b_10 : Nat} {b_11 : Nat} (ha_7 : IsSlice H (RSl RU8 1) 1 (.slice aa_7 na_7 ca_7) p_6.Disk.Blocks) (ha_8 : IsSlice H R_Write 2 (.slice aa_8 na_8 ca_8) p_6.Disk.Waits) (ha_9 : IsSlice H RU8 1 (.slice aa_9 na_9 ca_9) p_6.Space) (r : List Ptr × Ptr × UInt32 × Store × Int) (hx : slices_Collect_Ptr p_2 p_4 p_6 p_12 = some r) :
  Does Tryz.prog 35 #[.func (.func 67) #[] #[.pointer (some ⟨b_1, 0, none⟩), .pointer (some ⟨b_3, 0, none⟩), .pointer (some ⟨b_5, 0, none⟩), .pointer (some ⟨b_10, 0, none⟩)]] [[(b_1, .cells #[.int .i64 p_2.At, .int .u32 (p_2.Birth.toNat : Int), .int .u32 (p_2.Iv.toNat : Int), .int .u32 (p_2.Tag.toNat : Int), .int .u32 (p_2.Sum.toNat : Int)] 31 (0, 0))], [(b_3, .cells #[.int .u32 (p_4.toNat : Int)] 27 (0, 0))], [(b_5, .cells #[.slice aa_7 na_7 ca_7, .slice aa_8 na_8 ca_8, .slice aa_9 na_9 ca_9, .int .u32 (p_6.Epoch.toNat : Int), .int .u32 (p_6.Count.toNat : Int)] 29 (0, 0))], [(b_10, .cells #[.pointer (some ⟨b_11, 0, none⟩)] 80 (0, 0))], [(b_11, .cells #[.int .i64 p_12] 35 (0, 0))]] H (fun u K' H' => ∃ ao0 : Option Addr, ∃ n0 : Nat, ∃ cap0 : Nat, ∃ ao1 : Option Addr, ∃ n1 : Nat, ∃ cap1 : Nat, ∃ ao2 : Option Addr, ∃ n2 : Nat, ∃ cap2 : Nat, ∃ ao3 : Option Addr, ∃ n3 : Nat, ∃ cap3 : Nat, ∃ K3 : Own, u = .slice ao3 n3 cap3 ∧ K' = [[(b_1, .cells #[.int .i64 r.2.1.At, .int .u32 (r.2.1.Birth.toNat : Int), .int .u32 (r.2.1.Iv.toNat : Int), .int .u32 (r.2.1.Tag.toNat : Int), .int .u32 (r.2.1.Sum.toNat : Int)] 31 (0, 0))], [(b_3, .cells #[.int .u32 (r.2.2.1.toNat : Int)] 27 (0, 0))], [(b_5, .cells #[.slice ao0 n0 cap0, .slice ao1 n1 cap1, .slice ao2 n2 cap2, .int .u32 (r.2.2.2.1.Epoch.toNat : Int), .int .u32 (r.2.2.2.1.Count.toNat : Int)] 29 (0, 0))], [(b_10, .cells #[.pointer (some ⟨b_11, 0, none⟩)] 80 (0, 0))], [(b_11, .cells #[.int .i64 r.2.2.2.2] 35 (0, 0))], K3] ∧ IsSlice H' (RSl RU8 1) 1 (.slice ao0 n0 cap0) r.2.2.2.1.Disk.Blocks ∧ IsSlice H' R_Write 2 (.slice ao1 n1 cap1) r.2.2.2.1.Disk.Waits ∧ IsSlice H' RU8 1 (.slice ao2 n2 cap2) r.2.2.2.1.Space ∧ RowOf (New H H') R_Ptr 0 31 5 (.slice ao3 n3 cap3) r.1 K3 ∧ True) := by
 refine Does.enterL (vs := [.func (.func 67) #[] #[.pointer (some ⟨b_1, 0, none⟩), .pointer (some ⟨b_3, 0, none⟩), .pointer (some ⟨b_5, 0, none⟩), .pointer (some ⟨b_10, 0, none⟩)]]) (l := [(0, .func (.func 67) #[] #[.pointer (some ⟨b_1, 0, none⟩), .pointer (some ⟨b_3, 0, none⟩), .pointer (some ⟨b_5, 0, none⟩), .pointer (some ⟨b_10, 0, none⟩)])]) Tryz.func35 rfl rfl ⟨rfl, trivial⟩ (fun w hlt => ?_)
 unfold slices_Collect_Ptr at hx
 refine ZF (ZB (ZA rfl rfl (ZE rfl) (ZD (ZC (ZF (ZB (ZA rfl rfl (ZG rfl) (JL.seg0 ?_))))))))
 obtain ⟨x_14, hr_15, hx⟩ := ZM hx
 refine ZR (vs := [_, _]) (args := [_, _]) (K := [_, _, _, _, _, _]) (rst := []) E66 rfl rfl rfl (Zf 0 rfl (Zf 0 rfl (Zf 0 rfl (Zf 0 rfl (Zf 0 rfl (Zf 0 rfl ZL)))))) (slices_AppendSeq_Ptr_ok ([] : List Ptr) p_2 p_4 p_6 p_12 _ (Zi _ R_Ptr _ _ _) ha_7 ha_8 ha_9 _ hr_15) rfl (fun u_16 Ku_16 Hu_16 hRu_16 hleu_16 hfu_16 => ?_)
 obtain ⟨az_17, nz_17, cz_17, az_18, nz_18, cz_18, az_19, nz_19, cz_19, ar_20, nr_20, cr_20, Kr_20, rfl, rfl, hz_17, hz_18, hz_19, hr_20, -⟩ := hRu_16
 replace hr_20 := (Zo (H2 := New H Hu_16) R_Ptr.const hr_20)
 refine ZA rfl rfl (ZE rfl) (ZD (ZC (ZS (ZQ (vs := [.slice ar_20 nr_20 cr_20]) (K := [_, _, _, _, _, _]) (rst := []) (.inl rfl) rfl rfl (ZO rfl rfl) (Zf 0 rfl (Zf 0 rfl (Zf 0 rfl (Zf 0 rfl (Zf 0 rfl (Zf 0 rfl ZL)))))) ?_))))
 obtain rfl := Option.some.inj hx
 exact ⟨az_17, nz_17, cz_17, az_18, nz_18, cz_18, az_19, nz_19, cz_19, ar_20, nr_20, cr_20, Kr_20, rfl, rfl, hz_17, hz_18, hz_19, (Zt (Nat.zero_le _) hr_20), trivial⟩

set_option maxHeartbeats 8000000 in
theorem set_Walk_ok (p_1 : Store) (p_5 : Ptr) (p_6 : UInt32) (H : Heaplet) {aa_2 : Option Addr} {na_2 : Nat} {ca_2 : Nat} {aa_3 : Option Addr} {na_3 : Nat} {ca_3 : Nat} {aa_4 : Option Addr} {na_4 : Nat} {ca_4 : Nat} (ha_2 : IsSlice H (RSl RU8 1) 1 (.slice aa_2 na_2 ca_2) p_1.Disk.Blocks) (ha_3 : IsSlice H R_Write 2 (.slice aa_3 na_3 ca_3) p_1.Disk.Waits) (ha_4 : IsSlice H RU8 1 (.slice aa_4 na_4 ca_4) p_1.Space) (r : List Ptr × Int) (hx : set_Walk p_1 p_5 p_6 = some r) :
  Does Tryz.prog 12 #[.agg #[.slice aa_2 na_2 ca_2, .slice aa_3 na_3 ca_3, .slice aa_4 na_4 ca_4, .int .u32 (p_1.Epoch.toNat : Int), .int .u32 (p_1.Count.toNat : Int)], .agg #[.int .i64 p_5.At, .int .u32 (p_5.Birth.toNat : Int), .int .u32 (p_5.Iv.toNat : Int), .int .u32 (p_5.Tag.toNat : Int), .int .u32 (p_5.Sum.toNat : Int)], .int .u32 (p_6.toNat : Int)] [] H (fun u K' H' => ∃ ao0 : Option Addr, ∃ n0 : Nat, ∃ cap0 : Nat, ∃ K0 : Own, u = .tuple #[.slice ao0 n0 cap0, .int .i64 r.2] ∧ K' = [K0] ∧ RowOf (New H H') R_Ptr 0 31 5 (.slice ao0 n0 cap0) r.1 K0 ∧ (∀ p ∈ K0, p.1 ∉ ids (List.flatten [])) ∧ True) := by
 refine Does.enterL (vs := [.agg #[.slice aa_2 na_2 ca_2, .slice aa_3 na_3 ca_3, .slice aa_4 na_4 ca_4, .int .u32 (p_1.Epoch.toNat : Int), .int .u32 (p_1.Count.toNat : Int)], .agg #[.int .i64 p_5.At, .int .u32 (p_5.Birth.toNat : Int), .int .u32 (p_5.Iv.toNat : Int), .int .u32 (p_5.Tag.toNat : Int), .int .u32 (p_5.Sum.toNat : Int)], .int .u32 (p_6.toNat : Int)]) (l := [(0, .agg #[.slice aa_2 na_2 ca_2, .slice aa_3 na_3 ca_3, .slice aa_4 na_4 ca_4, .int .u32 (p_1.Epoch.toNat : Int), .int .u32 (p_1.Count.toNat : Int)]), (1, .agg #[.int .i64 p_5.At, .int .u32 (p_5.Birth.toNat : Int), .int .u32 (p_5.Iv.toNat : Int), .int .u32 (p_5.Tag.toNat : Int), .int .u32 (p_5.Sum.toNat : Int)]), (2, .int .u32 (p_6.toNat : Int))]) Tryz.func12 rfl rfl ⟨rfl, rfl, rfl, trivial⟩ (fun w hlt => ?_)
 unfold set_Walk at hx
 refine ZF (ZB (Zv rfl rfl (fun b_7 hb_7 => Zv rfl rfl (fun b_8 hb_8 => ZA rfl rfl (ZE rfl) (ZA rfl rfl (ZE rfl) (ZD (ZC (ZF (ZF (ZB (ZA rfl rfl (Zg 1 (vs := [.slice aa_2 na_2 ca_2, .slice aa_3 na_3 ca_3, .slice aa_4 na_4 ca_4, .int .u32 (p_1.Epoch.toNat : Int), .int .u32 (p_1.Count.toNat : Int)]) S29 rfl rfl rfl rfl) ?_)))))))))))
 obtain ⟨x_9, hr_10, hx⟩ := ZM hx
 refine ZR (vs := [_]) (args := [_]) (K := []) (rst := [_, _]) E27 rfl rfl rfl ZL (store_Check_ok p_1 _ ha_2 ha_3 ha_4 _ hr_10) rfl (fun u_11 Ku_11 Hu_11 hRu_11 hleu_11 hfu_11 => ?_)
 obtain ⟨rfl, rfl, rfl, -⟩ := hRu_11
 refine ZA rfl rfl (Zx rfl rfl) (ZA rfl rfl (ZG rfl) (Ze (t := 13) rfl (fun c_12 => ?_) (fun c_12 => ?_)))
 ·
  replace hx := ZT c_12 hx
  refine ZH rfl rfl rfl rfl rfl (ZH rfl rfl rfl rfl rfl (ZH rfl rfl rfl rfl rfl (ZA rfl rfl (Zb rfl rfl) (ZD (ZC (Zu rfl (ZF (ZB (ZA rfl rfl (ZE rfl) (ZA rfl rfl (ZE rfl) (ZD ?_)))))))))))
  refine ZC (ZS (ZP (Z8 (ZQ (vs := [.slice none 0 0, .int .i64 8]) (K := [_]) (rst := [_, _]) (.inl rfl) rfl rfl (ZO rfl (ZO rfl rfl)) (Zf 0 rfl ZL) ?_))))
  obtain rfl := Option.some.inj hx
  exact ⟨none, 0, 0, [], rfl, rfl, (Zi _ _ _ _ _), (fun p hp => by cases hp), trivial⟩
 ·
  replace hx := ZU c_12 hx
  refine ZK rfl rfl rfl (ZA rfl rfl (Zg 0 (vs := [.int .i64 p_5.At, .int .u32 (p_5.Birth.toNat : Int), .int .u32 (p_5.Iv.toNat : Int), .int .u32 (p_5.Tag.toNat : Int), .int .u32 (p_5.Sum.toNat : Int)]) S31 rfl rfl rfl rfl) (ZK rfl rfl rfl ?_))
  obtain ⟨x_13, hr_14, hx⟩ := ZM hx
  refine ZR (vs := [_]) (args := [_]) (K := []) (rst := [_, _]) E28 rfl rfl rfl ZL (ptr_Check_ok p_5 _ _ hr_14) rfl (fun u_15 Ku_15 Hu_15 hRu_15 hleu_15 hfu_15 => ?_)
  obtain ⟨rfl, rfl, rfl, -⟩ := hRu_15
  refine ZK rfl rfl rfl (ZA rfl rfl (Zx rfl rfl) (ZA rfl rfl (Za rfl rfl) (ZD (ZC (ZW rfl (fun c_16 => ?_) (fun c_16 => ?_))))))
  ·
   replace hx := ZT c_16 hx
   refine ZF (ZB (ZA rfl rfl (ZE rfl) (ZA rfl rfl (ZE rfl) (ZD (ZC (ZS (ZP (Z8 (ZQ (vs := [.slice none 0 0, .int .i64 8]) (K := [_]) (rst := [_, _]) (.inl rfl) rfl rfl (ZO rfl (ZO rfl rfl)) (Zf 0 rfl ZL) ?_)))))))))
   obtain rfl := Option.some.inj hx
   exact ⟨none, 0, 0, [], rfl, rfl, (Zi _ _ _ _ _), (fun p hp => by cases hp), trivial⟩
  ·
   replace hx := ZU c_16 hx
   refine ZX (ZC (ZF (ZB (JL.alloc Z35 rfl (fun b_17 hb_17 => ZV 0 S35 rfl rfl rfl rfl rfl (Nat.le_of_ble_eq_true rfl) (ZD (ZC (ZF (ZB (ZA rfl rfl (Zg 2 (vs := [.slice aa_2 na_2 ca_2, .slice aa_3 na_3 ca_3, .slice aa_4 na_4 ca_4, .int .u32 (p_1.Epoch.toNat : Int), .int .u32 (p_1.Count.toNat : Int)]) S29 rfl rfl rfl rfl) (ZA rfl rfl (Zg 1 (vs := [.int .i64 p_5.At, .int .u32 (p_5.Birth.toNat : Int), .int .u32 (p_5.Iv.toNat : Int), .int .u32 (p_5.Tag.toNat : Int), .int .u32 (p_5.Sum.toNat : Int)]) S31 rfl rfl rfl rfl) ?_)))))))))))
   refine ZA rfl rfl (ZG rfl) ?_
   obtain ⟨x_18, hr_19, hx⟩ := ZM hx
   refine ZR (vs := [_, _, _, _]) (args := [_, _, _, _]) (K := [_]) (rst := [_, _]) E36 rfl rfl rfl (Zf 0 rfl ZL) (set_young_ok p_1 p_5 p_6 0 _ ha_2 ha_3 ha_4 _ hr_19) rfl (fun u_20 Ku_20 Hu_20 hRu_20 hleu_20 hfu_20 => ?_)
   obtain ⟨b_21, b_22, b_23, az_24, nz_24, cz_24, az_25, nz_25, cz_25, az_26, nz_26, cz_26, b_27, rfl, rfl, rfl, hnb_21, hnb_22, hz_24, hz_25, hz_26, hnb_23, hnb_27, -⟩ := hRu_20
   have hb_21 := (hfu_20 _ (Zw 1 rfl (List.mem_singleton.2 rfl))).resolve_left hnb_21
   have hb_22 := (hfu_20 _ (Zw 2 rfl (List.mem_singleton.2 rfl))).resolve_left hnb_22
   have hb_23 := (hfu_20 _ (Zw 3 rfl (List.mem_singleton.2 rfl))).resolve_left hnb_23
   have hb_27 := (hfu_20 _ (Zw 4 rfl (List.mem_singleton.2 rfl))).resolve_left hnb_27
   obtain ⟨x_28, hr_29, hx⟩ := ZM hx
   refine ZR (vs := [_]) (args := [_]) (K := [_, _, _, _, _]) (rst := [_, _]) E35 rfl rfl rfl (Zf 1 rfl (Zf 1 rfl (Zf 1 rfl (Zf 1 rfl (Zf 0 rfl ZL))))) (slices_Collect_Ptr_ok (Ptr.mk x_18.1.1 x_18.1.2.1 x_18.1.2.2.1 x_18.1.2.2.2.1 x_18.1.2.2.2.2.1) x_18.1.2.2.2.2.2.1 (Store.mk (Disk.mk x_18.1.2.2.2.2.2.2.1 x_18.1.2.2.2.2.2.2.2.1) x_18.1.2.2.2.2.2.2.2.2.1 x_18.1.2.2.2.2.2.2.2.2.2.1 x_18.1.2.2.2.2.2.2.2.2.2.2) x_18.2 _ hz_24 hz_25 hz_26 _ hr_29) rfl (fun u_30 Ku_30 Hu_30 hRu_30 hleu_30 hfu_30 => ?_)
   obtain ⟨az_31, nz_31, cz_31, az_32, nz_32, cz_32, az_33, nz_33, cz_33, ar_34, nr_34, cr_34, Kr_34, rfl, rfl, hz_31, hz_32, hz_33, hr_34, -⟩ := hRu_30
   replace hr_34 := (RowOf.up (Zo (H2 := New H Hu_30) R_Ptr.const hr_34) (fun p hp => hfu_30 p (Zw 5 rfl hp)) (ids_cons (ids_one hb_21) (ids_cons (ids_one hb_22) (ids_cons (ids_one hb_23) (ids_cons (ids_one hb_27) (ids_cons (ids_one hb_17) ids_nil))))))
   refine ZA rfl rfl (ZE rfl) (ZD (ZC (ZF (ZF (ZB (ZA rfl rfl (Zd 4 S35 rfl rfl rfl) (ZA rfl rfl (Zx rfl rfl) (ZD (ZC (ZW rfl (fun c_35 => ?_) (fun c_35 => ?_)))))))))))
   ·
    replace hx := ZT c_35 hx
    refine ZF (JC.draw (so := [_, _, _, _, _, _, _, _]) 3 rfl Mixed ⟨⟨0, rfl⟩, ⟨1, rfl⟩, ⟨2, rfl⟩, ⟨3, rfl⟩, ⟨4, rfl⟩, ⟨5, rfl⟩, ⟨6, rfl⟩, ⟨7, rfl⟩, trivial⟩ (JA.val ⟨by kernel_rfl, by kernel_rfl⟩ (ZI _) (i := 0) rfl ⟨by kernel_rfl, by kernel_rfl, rfl⟩ trivial (ZJ (Hle.refl _) ⟨⟨0, rfl⟩, ⟨1, rfl⟩, ⟨2, rfl⟩, ⟨3, rfl⟩, ⟨4, rfl⟩, ⟨5, rfl⟩, ⟨6, rfl⟩, ⟨7, rfl⟩, trivial⟩) (Zd 4 S35 rfl rfl rfl) rfl (JA.val ⟨by kernel_rfl, by kernel_rfl⟩ (ZI _) (i := 1) rfl ⟨by kernel_rfl, by kernel_rfl, rfl⟩ trivial (ZJ (Hle.refl _) ⟨⟨0, rfl⟩, ⟨1, rfl⟩, ⟨2, rfl⟩, ⟨3, rfl⟩, ⟨4, rfl⟩, ⟨5, rfl⟩, ⟨6, rfl⟩, ⟨7, rfl⟩, trivial⟩) (ZE rfl) rfl (JA.val ⟨by kernel_rfl, by kernel_rfl⟩ (ZI _) (i := 2) rfl ⟨by kernel_rfl, by kernel_rfl, rfl⟩ trivial (ZJ (Hle.refl _) ⟨⟨0, rfl⟩, ⟨1, rfl⟩, ⟨2, rfl⟩, ⟨3, rfl⟩, ⟨4, rfl⟩, ⟨5, rfl⟩, ⟨6, rfl⟩, ⟨7, rfl⟩, trivial⟩) (ZE rfl) rfl (Zz (by kernel_rfl) (ZC (ZS (ZP (Z8 (ZQ (vs := [.slice none 0 0, .int .i64 x_28.2.2.2.2]) (K := [_]) (rst := [_, _, _, _, _, _, _, _]) (.inl rfl) rfl rfl (ZO rfl (ZO rfl rfl)) (Zf 0 rfl ZL) ?_))))))))))
    obtain rfl := Option.some.inj hx
    exact ⟨none, 0, 0, [], rfl, rfl, (Zi _ _ _ _ _), (fun p hp => by cases hp), trivial⟩
   ·
    replace hx := ZU c_35 hx
    refine ZX (ZC (ZF (ZB (ZA rfl rfl (ZG rfl) (ZA rfl rfl (ZE rfl) (ZA rfl rfl (ZE rfl) (ZD (ZC (ZS (ZQ (vs := [.slice ar_34 nr_34 cr_34, .int .i64 0]) (K := [_]) (rst := [_, _, _, _, _, _, _]) (.inl rfl) rfl rfl (ZO rfl (ZO rfl rfl)) (Zf 5 rfl ZL) ?_))))))))))
    obtain rfl := Option.some.inj hx
    exact ⟨ar_34, nr_34, cr_34, Kr_34, rfl, rfl, (Zt (Nat.zero_le _) hr_34), (new_ids hr_34 hlt), trivial⟩
end Go.Proofs.YtdoebbgjjlicjaaGreat
