import Derived.Test.YtdoebbgjjlicjaaW2p1
/- walks: what the code computes, function by function. -/
namespace Go.Proofs.Ytdoebbgjjlicjaa
open Go.Ow Go.RowKit Go.Proofs
set_option linter.unusedVariables false
set_option linter.unusedSimpArgs false
set_option maxHeartbeats 8000000 in
theorem store_Raw_ok (p_1 : Store) (p_5 : UInt32) (p_6 : UInt32) (p_7 : UInt32) (p_8 : List UInt8) (H : Heaplet) {aa_2 : Option Addr} {na_2 : Nat} {ca_2 : Nat} {aa_3 : Option Addr} {na_3 : Nat} {ca_3 : Nat} {aa_4 : Option Addr} {na_4 : Nat} {ca_4 : Nat} {aa_9 : Option Addr} {na_9 : Nat} {ca_9 : Nat} (ha_2 : IsSlice H (RSl RU8 1) 1 (.slice aa_2 na_2 ca_2) p_1.Disk.Blocks) (ha_3 : IsSlice H R_Write 2 (.slice aa_3 na_3 ca_3) p_1.Disk.Waits) (ha_4 : IsSlice H RU8 1 (.slice aa_4 na_4 ca_4) p_1.Space) (ha_9 : IsSlice H RU8 1 (.slice aa_9 na_9 ca_9) p_8) (r : Store × Ptr × Int) (hx : store_Raw p_1 p_5 p_6 p_7 p_8 = some r) :
  Does Try.prog 58 #[.agg #[.slice aa_2 na_2 ca_2, .slice aa_3 na_3 ca_3, .slice aa_4 na_4 ca_4, .int .u32 (p_1.Epoch.toNat : Int), .int .u32 (p_1.Count.toNat : Int)], .int .u32 (p_5.toNat : Int), .int .u32 (p_6.toNat : Int), .int .u32 (p_7.toNat : Int), .slice aa_9 na_9 ca_9] [] H (fun u K' H' => ∃ ao0 : Option Addr, ∃ n0 : Nat, ∃ cap0 : Nat, ∃ ao1 : Option Addr, ∃ n1 : Nat, ∃ cap1 : Nat, ∃ K1 : Own, ∃ ao2 : Option Addr, ∃ n2 : Nat, ∃ cap2 : Nat, ∃ K2 : Own, u = .tuple #[.agg #[.slice ao0 n0 cap0, .slice ao1 n1 cap1, .slice ao2 n2 cap2, .int .u32 (r.1.Epoch.toNat : Int), .int .u32 (r.1.Count.toNat : Int)], .agg #[.int .i64 r.2.1.At, .int .u32 (r.2.1.Birth.toNat : Int), .int .u32 (r.2.1.Iv.toNat : Int), .int .u32 (r.2.1.Tag.toNat : Int), .int .u32 (r.2.1.Sum.toNat : Int)], .int .i64 r.2.2] ∧ K' = [K1, K2] ∧ IsSlice (New H H') (RSl RU8 1) 1 (.slice ao0 n0 cap0) r.1.Disk.Blocks ∧ RowOf (New H H') R_Write 0 47 2 (.slice ao1 n1 cap1) r.1.Disk.Waits K1 ∧ (∀ p ∈ K1, p.1 ∉ ids (List.flatten [])) ∧ RowOf (New H H') RU8 0 5 1 (.slice ao2 n2 cap2) r.1.Space K2 ∧ (∀ p ∈ K2, p.1 ∉ ids (List.flatten [])) ∧ True) := by
 refine Does.enterL (vs := [.agg #[.slice aa_2 na_2 ca_2, .slice aa_3 na_3 ca_3, .slice aa_4 na_4 ca_4, .int .u32 (p_1.Epoch.toNat : Int), .int .u32 (p_1.Count.toNat : Int)], .int .u32 (p_5.toNat : Int), .int .u32 (p_6.toNat : Int), .int .u32 (p_7.toNat : Int), .slice aa_9 na_9 ca_9]) (l := [(0, .agg #[.slice aa_2 na_2 ca_2, .slice aa_3 na_3 ca_3, .slice aa_4 na_4 ca_4, .int .u32 (p_1.Epoch.toNat : Int), .int .u32 (p_1.Count.toNat : Int)]), (1, .int .u32 (p_5.toNat : Int)), (2, .int .u32 (p_6.toNat : Int)), (3, .int .u32 (p_7.toNat : Int)), (4, .slice aa_9 na_9 ca_9)]) Try.func58 rfl rfl ⟨rfl, rfl, rfl, rfl, rfl, trivial⟩ (fun w hlt => ?_)
 unfold store_Raw at hx
 refine ZG (ZB (JL.box rfl rfl (fun b_10 hb_10 => JL.alloc Z50 rfl (fun b_11 hb_11 => JL.alloc Z28 rfl (fun b_12 hb_12 => ZA rfl rfl (ZH rfl) (ZD (ZC (ZG (ZG (ZB (ZA rfl rfl (Z1 2 (vs := [.slice aa_2 na_2 ca_2, .slice aa_3 na_3 ca_3, .slice aa_4 na_4 ca_4, .int .u32 (p_1.Epoch.toNat : Int), .int .u32 (p_1.Count.toNat : Int)]) S50 rfl rfl rfl rfl) ?_)))))))))))
 refine ZA rfl rfl (ZF rfl) (ZA rfl rfl (ZF rfl) (Zz (HF := H) (R := (RSl RU8 1)) (ls := [p_8]) (vs := [.slice aa_9 na_9 ca_9]) U22 I45 rfl rfl (⟨_, _, rfl, rfl, ⟨_, rfl, ha_9⟩, rfl⟩) RSl.one rfl rfl rfl (by simp [maxLen]) rfl (fun vr_13 Kr_13 hr_13 => ?_)))
 obtain ⟨ar_13, cr_13, rfl⟩ := RowOf.val hr_13
 obtain ⟨x_17, hr_18, hx⟩ := ZM hx
 refine JL.callL2 (vs := [_, _, _, _]) (v := .int .i64 x_17) E98 rfl rfl (fun H_16 hle_15 hl_14 => Does.mono (store_asked_ok p_1 p_5 256 ([p_8]) _ (IsSlice.mono (RSl.mono RU8.mono) hle_15 ha_2) (IsSlice.mono R_Write.mono hle_15 ha_3) (IsSlice.mono RU8.mono hle_15 ha_4) (Lent.row' 0 hl_14 (RSl.mono RU8.mono) hle_15 rfl hr_13) _ hr_18) (fun _ _ _ h => h.1)) rfl (ZA rfl rfl (ZH rfl) (ZD (ZC (ZG (ZB (ZA rfl rfl (ZF rfl) (ZA rfl rfl (R.neq_i rfl rfl) (ZD (ZC (ZU rfl (fun c_19 => ?_) (fun c_19 => ?_)))))))))))
 ·
  replace hx := ZW c_19 hx
  refine ZV (ZR (Zn (Zn (ZT (vs := [.agg #[.slice none 0 0, .slice none 0 0, .slice none 0 0, .int .u32 ((0 : UInt32).toNat : Int), .int .u32 ((0 : UInt32).toNat : Int)], .agg #[.int .i64 0, .int .u32 ((0 : UInt32).toNat : Int), .int .u32 ((0 : UInt32).toNat : Int), .int .u32 ((0 : UInt32).toNat : Int), .int .u32 ((0 : UInt32).toNat : Int)], .int .i64 x_17]) (K := [_, _]) (rst := [_, _, _, _]) (.inl rfl) rfl rfl (Zf 4 rfl rfl S50 (Zf 3 rfl rfl S28 (ZQ rfl rfl))) (Za 0 rfl (Za 0 rfl ZK)) ?_))))
  obtain rfl := Option.some.inj hx
  exact ⟨none, 0, 0, none, 0, 0, [], none, 0, 0, [], rfl, rfl, (IsSlice.nil _ _ _), (Zb _ _ _ _ _), (fun p hp => by cases hp), (Zb _ _ _ _ _), (fun p hp => by cases hp), trivial⟩
 ·
  replace hx := ZX c_19 hx
  refine JC.skip (ZC (ZG (ZB (ZA rfl rfl (Z1 3 (vs := [.slice aa_2 na_2 ca_2, .slice aa_3 na_3 ca_3, .slice aa_4 na_4 ca_4, .int .u32 (p_1.Epoch.toNat : Int), .int .u32 (p_1.Count.toNat : Int)]) S50 rfl rfl rfl rfl) (ZA rfl rfl (ZF rfl) (ZA rfl rfl (ZF rfl) (ZA rfl rfl (ZF rfl) (ZA rfl rfl (R.bldP (vs := [(1, .int .u32 (p_5.toNat : Int)), (2, .int .u32 (p_6.toNat : Int)), (3, .int .u32 (p_7.toNat : Int))]) (cs := [.int .i64 0, .int .u32 (p_5.toNat : Int), .int .u32 (p_6.toNat : Int), .int .u32 (p_7.toNat : Int), .int .u32 ((0 : UInt32).toNat : Int)]) Z28 B28 rfl rfl rfl) (ZA rfl rfl (ZF rfl) ?_)))))))))
  obtain ⟨x_20, hr_21, hx⟩ := ZM hx
  refine ZS (vs := [_, _, _]) (args := [_, _, _]) (K := []) (rst := [_, _, _, _]) E99 rfl rfl rfl ZK (store_put_ok p_1 (Ptr.mk 0 p_5 p_6 p_7 (0 : UInt32)) p_8 _ ha_2 ha_3 ha_4 ha_9 _ hr_21) rfl (fun u_22 Ku_22 Hu_22 hRu_22 hleu_22 hfu_22 => ?_)
  obtain ⟨az_23, nz_23, cz_23, ar_24, nr_24, cr_24, Kr_24, ar_25, nr_25, cr_25, Kr_25, rfl, rfl, hz_23, hr_24, hnewr_24, hr_25, hnewr_25, -⟩ := hRu_22
  replace hr_24 := (RowOf.base (RowOf.mono R_Write.mono (New.call (Hle.refl _)) hr_24) (fun p hp => (hfu_22 p (Zg 0 rfl hp)).resolve_left (hnewr_24 p hp)))
  replace hr_25 := (RowOf.base (Zc (H2 := New H Hu_22) RU8.const hr_25) (fun p hp => (hfu_22 p (Zg 1 rfl hp)).resolve_left (hnewr_25 p hp)))
  replace hz_23 := IsSlice.mono (RSl.mono RU8.mono) (New.call (Hle.refl _)) hz_23
  refine ZA rfl rfl (R.extract rfl rfl) (ZA rfl rfl (R.extract rfl rfl) (ZA rfl rfl (R.extract rfl rfl) (ZN 4 S50 rfl rfl rfl rfl rfl (Nat.le_of_ble_eq_true rfl) (ZN 3 S28 rfl rfl rfl rfl rfl (Nat.le_of_ble_eq_true rfl) (ZA rfl rfl (ZH rfl) (ZD (ZC (ZV (ZT (vs := [.agg #[.slice az_23 nz_23 cz_23, .slice ar_24 nr_24 cr_24, .slice ar_25 nr_25 cr_25, .int .u32 (x_20.1.Epoch.toNat : Int), .int .u32 (x_20.1.Count.toNat : Int)], .agg #[.int .i64 x_20.2.1.At, .int .u32 (x_20.2.1.Birth.toNat : Int), .int .u32 (x_20.2.1.Iv.toNat : Int), .int .u32 (x_20.2.1.Tag.toNat : Int), .int .u32 (x_20.2.1.Sum.toNat : Int)], .int .i64 x_20.2.2]) (K := [_, _]) (rst := [_, _, _, _]) (.inl rfl) rfl rfl (Zf 4 rfl rfl S50 (Zf 3 rfl rfl S28 (ZQ rfl rfl))) (Za 0 rfl (Za 0 rfl ZK)) ?_)))))))))
  obtain rfl := Option.some.inj hx
  exact ⟨az_23, nz_23, cz_23, ar_24, nr_24, cr_24, Kr_24, ar_25, nr_25, cr_25, Kr_25, rfl, rfl, hz_23, (Zd (Nat.zero_le _) hr_24), (Zx hr_24 hlt), (Zd (Nat.zero_le _) hr_25), (Zx hr_25 hlt), trivial⟩

set_option maxHeartbeats 8000000 in
theorem store_Lay_ok (p_1 : Store) (p_5 : UInt32) (p_6 : List UInt8) (H : Heaplet) {aa_2 : Option Addr} {na_2 : Nat} {ca_2 : Nat} {aa_3 : Option Addr} {na_3 : Nat} {ca_3 : Nat} {aa_4 : Option Addr} {na_4 : Nat} {ca_4 : Nat} {aa_7 : Option Addr} {na_7 : Nat} {ca_7 : Nat} (ha_2 : IsSlice H (RSl RU8 1) 1 (.slice aa_2 na_2 ca_2) p_1.Disk.Blocks) (ha_3 : IsSlice H R_Write 2 (.slice aa_3 na_3 ca_3) p_1.Disk.Waits) (ha_4 : IsSlice H RU8 1 (.slice aa_4 na_4 ca_4) p_1.Space) (ha_7 : IsSlice H RU8 1 (.slice aa_7 na_7 ca_7) p_6) (r : Store × Ptr × Int) (hx : store_Lay p_1 p_5 p_6 = some r) :
  Does Try.prog 27 #[.agg #[.slice aa_2 na_2 ca_2, .slice aa_3 na_3 ca_3, .slice aa_4 na_4 ca_4, .int .u32 (p_1.Epoch.toNat : Int), .int .u32 (p_1.Count.toNat : Int)], .int .u32 (p_5.toNat : Int), .slice aa_7 na_7 ca_7] [] H (fun u K' H' => ∃ ao0 : Option Addr, ∃ n0 : Nat, ∃ cap0 : Nat, ∃ ao1 : Option Addr, ∃ n1 : Nat, ∃ cap1 : Nat, ∃ K1 : Own, ∃ ao2 : Option Addr, ∃ n2 : Nat, ∃ cap2 : Nat, ∃ K2 : Own, u = .tuple #[.agg #[.slice ao0 n0 cap0, .slice ao1 n1 cap1, .slice ao2 n2 cap2, .int .u32 (r.1.Epoch.toNat : Int), .int .u32 (r.1.Count.toNat : Int)], .agg #[.int .i64 r.2.1.At, .int .u32 (r.2.1.Birth.toNat : Int), .int .u32 (r.2.1.Iv.toNat : Int), .int .u32 (r.2.1.Tag.toNat : Int), .int .u32 (r.2.1.Sum.toNat : Int)], .int .i64 r.2.2] ∧ K' = [K1, K2] ∧ IsSlice (New H H') (RSl RU8 1) 1 (.slice ao0 n0 cap0) r.1.Disk.Blocks ∧ RowOf (New H H') R_Write 0 47 2 (.slice ao1 n1 cap1) r.1.Disk.Waits K1 ∧ (∀ p ∈ K1, p.1 ∉ ids (List.flatten [])) ∧ RowOf (New H H') RU8 0 5 1 (.slice ao2 n2 cap2) r.1.Space K2 ∧ (∀ p ∈ K2, p.1 ∉ ids (List.flatten [])) ∧ True) := by
 refine Does.enterL (vs := [.agg #[.slice aa_2 na_2 ca_2, .slice aa_3 na_3 ca_3, .slice aa_4 na_4 ca_4, .int .u32 (p_1.Epoch.toNat : Int), .int .u32 (p_1.Count.toNat : Int)], .int .u32 (p_5.toNat : Int), .slice aa_7 na_7 ca_7]) (l := [(0, .agg #[.slice aa_2 na_2 ca_2, .slice aa_3 na_3 ca_3, .slice aa_4 na_4 ca_4, .int .u32 (p_1.Epoch.toNat : Int), .int .u32 (p_1.Count.toNat : Int)]), (1, .int .u32 (p_5.toNat : Int)), (2, .slice aa_7 na_7 ca_7)]) Try.func27 rfl rfl ⟨rfl, rfl, rfl, trivial⟩ (fun w hlt => ?_)
 unfold store_Lay at hx
 refine ZG (ZB (JL.box rfl rfl (fun b_8 hb_8 => JL.alloc Z50 rfl (fun b_9 hb_9 => JL.alloc Z28 rfl (fun b_10 hb_10 => ZA rfl rfl (ZH rfl) (ZD (ZC (ZG (ZB (ZA rfl rfl (Z1 2 (vs := [.slice aa_2 na_2 ca_2, .slice aa_3 na_3 ca_3, .slice aa_4 na_4 ca_4, .int .u32 (p_1.Epoch.toNat : Int), .int .u32 (p_1.Count.toNat : Int)]) S50 rfl rfl rfl rfl) (ZA rfl rfl (ZF rfl) ?_)))))))))))
 refine ZA rfl rfl (ZF rfl) ?_
 obtain ⟨x_11, hr_12, hx⟩ := ZM hx
 refine ZS (vs := [_, _, _, _, _]) (args := [_, _, _, _, _]) (K := []) (rst := [_, _, _]) E58 rfl rfl rfl ZK (store_Raw_ok p_1 p_5 (0 : UInt32) (0 : UInt32) p_6 _ ha_2 ha_3 ha_4 ha_7 _ hr_12) rfl (fun u_13 Ku_13 Hu_13 hRu_13 hleu_13 hfu_13 => ?_)
 obtain ⟨az_14, nz_14, cz_14, ar_15, nr_15, cr_15, Kr_15, ar_16, nr_16, cr_16, Kr_16, rfl, rfl, hz_14, hr_15, hnewr_15, hr_16, hnewr_16, -⟩ := hRu_13
 replace hr_15 := (RowOf.base (RowOf.mono R_Write.mono (New.call (Hle.refl _)) hr_15) (fun p hp => (hfu_13 p (Zg 0 rfl hp)).resolve_left (hnewr_15 p hp)))
 replace hr_16 := (RowOf.base (Zc (H2 := New H Hu_13) RU8.const hr_16) (fun p hp => (hfu_13 p (Zg 1 rfl hp)).resolve_left (hnewr_16 p hp)))
 replace hz_14 := IsSlice.mono (RSl.mono RU8.mono) (New.call (Hle.refl _)) hz_14
 refine ZA rfl rfl (R.extract rfl rfl) (ZA rfl rfl (R.extract rfl rfl) (ZA rfl rfl (R.extract rfl rfl) (ZN 3 S50 rfl rfl rfl rfl rfl (Nat.le_of_ble_eq_true rfl) (ZN 2 S28 rfl rfl rfl rfl rfl (Nat.le_of_ble_eq_true rfl) (ZA rfl rfl (ZH rfl) (ZD (ZC (ZV (ZT (vs := [.agg #[.slice az_14 nz_14 cz_14, .slice ar_15 nr_15 cr_15, .slice ar_16 nr_16 cr_16, .int .u32 (x_11.1.Epoch.toNat : Int), .int .u32 (x_11.1.Count.toNat : Int)], .agg #[.int .i64 x_11.2.1.At, .int .u32 (x_11.2.1.Birth.toNat : Int), .int .u32 (x_11.2.1.Iv.toNat : Int), .int .u32 (x_11.2.1.Tag.toNat : Int), .int .u32 (x_11.2.1.Sum.toNat : Int)], .int .i64 x_11.2.2]) (K := [_, _]) (rst := [_, _, _]) (.inl rfl) rfl rfl (Zf 3 rfl rfl S50 (Zf 2 rfl rfl S28 (ZQ rfl rfl))) (Za 0 rfl (Za 0 rfl ZK)) ?_)))))))))
 obtain rfl := Option.some.inj hx
 exact ⟨az_14, nz_14, cz_14, ar_15, nr_15, cr_15, Kr_15, ar_16, nr_16, cr_16, Kr_16, rfl, rfl, hz_14, (Zd (Nat.zero_le _) hr_15), (Zx hr_15 hlt), (Zd (Nat.zero_le _) hr_16), (Zx hr_16 hlt), trivial⟩

set_option maxHeartbeats 8000000 in
theorem dead_Lay_1_ok (p_1 : List Ptr) (p_4 : Store) (p_9 : UInt32) (p_11 : Ptr) (p_13 : Int) (p_15 : List Int) (H : Heaplet) {aa_2 : Option Addr} {na_2 : Nat} {ca_2 : Nat} {b_3 : Nat} {aa_5 : Option Addr} {na_5 : Nat} {ca_5 : Nat} {aa_6 : Option Addr} {na_6 : Nat} {ca_6 : Nat} {aa_7 : Option Addr} {na_7 : Nat} {ca_7 : Nat} {b_8 : Nat} {b_10 : Nat} {b_12 : Nat} {b_14 : Nat} {ar_16 : Option Addr} {nr_16 : Nat} {cr_16 : Nat} {Kr_16 : Own} (ha_2 : IsSlice H R_Ptr 5 (.slice aa_2 na_2 ca_2) p_1) (ha_5 : IsSlice H (RSl RU8 1) 1 (.slice aa_5 na_5 ca_5) p_4.Disk.Blocks) (ha_6 : IsSlice H R_Write 2 (.slice aa_6 na_6 ca_6) p_4.Disk.Waits) (ha_7 : IsSlice H RU8 1 (.slice aa_7 na_7 ca_7) p_4.Space) (hr_16 : RowOf H RInt 0 3 1 (.slice ar_16 nr_16 cr_16) p_15 Kr_16) (r : Store × UInt32 × Ptr × Int × List Int) (hx : dead_Lay_1 p_1 p_4 p_9 p_11 p_13 p_15 = some r) :
  Does Try.prog 62 #[.slice aa_2 na_2 ca_2, .pointer (some ⟨b_3, 0, none⟩), .pointer (some ⟨b_8, 0, none⟩), .pointer (some ⟨b_10, 0, none⟩), .pointer (some ⟨b_12, 0, none⟩), .pointer (some ⟨b_14, 0, none⟩)] [[(b_3, .cells #[.slice aa_5 na_5 ca_5, .slice aa_6 na_6 ca_6, .slice aa_7 na_7 ca_7, .int .u32 (p_4.Epoch.toNat : Int), .int .u32 (p_4.Count.toNat : Int)] 50 (0, 0))], [(b_8, .cells #[.int .u32 (p_9.toNat : Int)] 26 (0, 0))], [(b_10, .cells #[.int .i64 p_11.At, .int .u32 (p_11.Birth.toNat : Int), .int .u32 (p_11.Iv.toNat : Int), .int .u32 (p_11.Tag.toNat : Int), .int .u32 (p_11.Sum.toNat : Int)] 28 (0, 0))], [(b_12, .cells #[.int .i64 p_13] 33 (0, 0))], [(b_14, .cells #[.slice ar_16 nr_16 cr_16] 75 (0, 0))], Kr_16] H (fun u K' H' => ∃ ao0 : Option Addr, ∃ n0 : Nat, ∃ cap0 : Nat, ∃ ao1 : Option Addr, ∃ n1 : Nat, ∃ cap1 : Nat, ∃ K1 : Own, ∃ ao2 : Option Addr, ∃ n2 : Nat, ∃ cap2 : Nat, ∃ K2 : Own, ∃ ao3 : Option Addr, ∃ n3 : Nat, ∃ cap3 : Nat, ∃ K3 : Own, u = .tuple #[] ∧ K' = [[(b_3, .cells #[.slice ao0 n0 cap0, .slice ao1 n1 cap1, .slice ao2 n2 cap2, .int .u32 (r.1.Epoch.toNat : Int), .int .u32 (r.1.Count.toNat : Int)] 50 (0, 0))], K1, K2, [(b_8, .cells #[.int .u32 (r.2.1.toNat : Int)] 26 (0, 0))], [(b_10, .cells #[.int .i64 r.2.2.1.At, .int .u32 (r.2.2.1.Birth.toNat : Int), .int .u32 (r.2.2.1.Iv.toNat : Int), .int .u32 (r.2.2.1.Tag.toNat : Int), .int .u32 (r.2.2.1.Sum.toNat : Int)] 28 (0, 0))], [(b_12, .cells #[.int .i64 r.2.2.2.1] 33 (0, 0))], [(b_14, .cells #[.slice ao3 n3 cap3] 75 (0, 0))], K3] ∧ IsSlice (New H H') (RSl RU8 1) 1 (.slice ao0 n0 cap0) r.1.Disk.Blocks ∧ RowOf (New H H') R_Write 0 47 2 (.slice ao1 n1 cap1) r.1.Disk.Waits K1 ∧ (∀ p ∈ K1, p.1 ∉ ids (List.flatten [[(b_3, .cells #[.slice aa_5 na_5 ca_5, .slice aa_6 na_6 ca_6, .slice aa_7 na_7 ca_7, .int .u32 (p_4.Epoch.toNat : Int), .int .u32 (p_4.Count.toNat : Int)] 50 (0, 0))], [(b_8, .cells #[.int .u32 (p_9.toNat : Int)] 26 (0, 0))], [(b_10, .cells #[.int .i64 p_11.At, .int .u32 (p_11.Birth.toNat : Int), .int .u32 (p_11.Iv.toNat : Int), .int .u32 (p_11.Tag.toNat : Int), .int .u32 (p_11.Sum.toNat : Int)] 28 (0, 0))], [(b_12, .cells #[.int .i64 p_13] 33 (0, 0))], [(b_14, .cells #[.slice ar_16 nr_16 cr_16] 75 (0, 0))], Kr_16])) ∧ RowOf (New H H') RU8 0 5 1 (.slice ao2 n2 cap2) r.1.Space K2 ∧ (∀ p ∈ K2, p.1 ∉ ids (List.flatten [[(b_3, .cells #[.slice aa_5 na_5 ca_5, .slice aa_6 na_6 ca_6, .slice aa_7 na_7 ca_7, .int .u32 (p_4.Epoch.toNat : Int), .int .u32 (p_4.Count.toNat : Int)] 50 (0, 0))], [(b_8, .cells #[.int .u32 (p_9.toNat : Int)] 26 (0, 0))], [(b_10, .cells #[.int .i64 p_11.At, .int .u32 (p_11.Birth.toNat : Int), .int .u32 (p_11.Iv.toNat : Int), .int .u32 (p_11.Tag.toNat : Int), .int .u32 (p_11.Sum.toNat : Int)] 28 (0, 0))], [(b_12, .cells #[.int .i64 p_13] 33 (0, 0))], [(b_14, .cells #[.slice ar_16 nr_16 cr_16] 75 (0, 0))], Kr_16])) ∧ RowOf (New H H') RInt 0 3 1 (.slice ao3 n3 cap3) r.2.2.2.2 K3 ∧ True) := by
 refine Does.enterL (vs := [.slice aa_2 na_2 ca_2, .pointer (some ⟨b_3, 0, none⟩), .pointer (some ⟨b_8, 0, none⟩), .pointer (some ⟨b_10, 0, none⟩), .pointer (some ⟨b_12, 0, none⟩), .pointer (some ⟨b_14, 0, none⟩)]) (l := [(0, .slice aa_2 na_2 ca_2), (1, .pointer (some ⟨b_3, 0, none⟩)), (2, .pointer (some ⟨b_8, 0, none⟩)), (3, .pointer (some ⟨b_10, 0, none⟩)), (4, .pointer (some ⟨b_12, 0, none⟩)), (5, .pointer (some ⟨b_14, 0, none⟩))]) Try.func62 rfl rfl ⟨rfl, rfl, rfl, rfl, rfl, rfl, trivial⟩ (fun w hlt => ?_)
 replace hr_16 := Zc (H2 := New H H) RInt.const hr_16
 unfold dead_Lay_1 at hx
 refine ZG (ZB (ZA rfl rfl (ZF rfl) ?_))
 obtain ⟨x_17, hr_18, hx⟩ := ZM hx
 refine ZS (vs := [_]) (args := [_]) (K := []) (rst := [_, _, _, _, _, _]) E53 rfl rfl rfl ZK (ptr_Row_ok p_1 _ ha_2 _ hr_18) rfl (fun u_19 Ku_19 Hu_19 hRu_19 hleu_19 hfu_19 => ?_)
 obtain ⟨ar_20, nr_20, cr_20, Kr_20, rfl, rfl, rfl, hr_20, hnewr_20, -⟩ := hRu_19
 replace hr_20 := (RowOf.base (Zc (H2 := New H H) RU8.const hr_20) (fun p hp => (hfu_19 p (Zg 0 rfl hp)).resolve_left (hnewr_20 p hp)))
 refine ZA rfl rfl (ZF rfl) (ZA rfl rfl (R.extract rfl rfl) (ZA rfl rfl (R.extract rfl rfl) (ZA rfl rfl (ZH rfl) (ZA rfl rfl (ZH rfl) (ZD (ZC (ZG (ZB (ZA rfl rfl (Z1 1 (vs := [.slice aa_5 na_5 ca_5, .slice aa_6 na_6 ca_6, .slice aa_7 na_7 ca_7, .int .u32 (p_4.Epoch.toNat : Int), .int .u32 (p_4.Count.toNat : Int)]) S50 rfl rfl rfl rfl) (ZA rfl rfl (Zi 2 S26 rfl rfl rfl) (ZA rfl rfl (ZF rfl) ?_)))))))))))
 refine JL.pubN 0 RU8.mono rfl hr_20 (Nat.le_refl _) (fun H_21 hleH_21 hsH_21 => JL.forget 0 ?_)
 obtain ⟨x_22, hr_23, hx⟩ := ZM hx
 refine ZS (vs := [_, _, _]) (args := [_, _, _]) (K := []) (rst := [_, _, _, _, _, _]) E27 rfl rfl rfl ZK (store_Lay_ok p_4 p_9 x_17.1 _ (ha_5.mono (RSl.mono RU8.mono) hleH_21) (ha_6.mono R_Write.mono hleH_21) (ha_7.mono RU8.mono hleH_21) (hsH_21.old RU8.mono) _ hr_23) rfl (fun u_24 Ku_24 Hu_24 hRu_24 hleu_24 hfu_24 => ?_)
 obtain ⟨az_25, nz_25, cz_25, ar_26, nr_26, cr_26, Kr_26, ar_27, nr_27, cr_27, Kr_27, rfl, rfl, hz_25, hr_26, hnewr_26, hr_27, hnewr_27, -⟩ := hRu_24
 replace hr_26 := (RowOf.base (RowOf.mono R_Write.mono (New.call hleH_21) hr_26) (fun p hp => (hfu_24 p (Zg 0 rfl hp)).resolve_left (hnewr_26 p hp)))
 replace hr_27 := (RowOf.base (Zc (H2 := New H Hu_24) RU8.const hr_27) (fun p hp => (hfu_24 p (Zg 1 rfl hp)).resolve_left (hnewr_27 p hp)))
 replace hz_25 := IsSlice.mono (RSl.mono RU8.mono) (New.call hleH_21) hz_25
 refine ZA rfl rfl (ZF rfl) (ZA rfl rfl (R.extract rfl rfl) (ZA rfl rfl (R.extract rfl rfl) (ZA rfl rfl (R.extract rfl rfl) (ZN 2 S50 rfl rfl rfl rfl rfl (Nat.le_of_ble_eq_true rfl) (ZN 4 S28 rfl rfl rfl rfl rfl (Nat.le_of_ble_eq_true rfl) (ZN 5 S33 rfl rfl rfl rfl rfl (Nat.le_of_ble_eq_true rfl) (ZD (ZC (ZG (ZB (ZA rfl rfl (Zi 5 S33 rfl rfl rfl) ?_)))))))))))
 refine ZA rfl rfl (Zy rfl rfl) (ZD (ZC (ZU rfl (fun c_28 => ?_) (fun c_28 => ?_))))
 ·
  replace hx := ZW c_28 hx
  refine ZB (ZA rfl rfl (Zi 6 S75 rfl rfl rfl) (ZA rfl rfl (R.fa F28_0 rfl) (ZA rfl rfl (Zi 4 S3 rfl rfl rfl) (Zz (HF := (New H Hu_24)) (R := RInt) (ls := [x_22.2.1.At]) (vs := [.int .i64 x_22.2.1.At]) U75 I3 rfl rfl (⟨_, _, rfl, rfl, rfl, rfl⟩) RInt.one rfl rfl rfl (by simp [maxLen]) rfl (fun vr_29 Kr_29 hr_29 => ?_)))))
  obtain ⟨ar_29, cr_29, rfl⟩ := RowOf.val hr_29
  obtain ⟨q_30, hm_31, hl_32, hx⟩ := app_some hx
  refine JL.appF (HF := (New H Hu_24)) 8 U75 I3 rfl rfl (hr_16.mono RInt.mono (New.mono (hleH_21.trans hleu_24))) rfl (SrcF.row 0 U75 rfl hr_29) hm_31 hl_32 rfl (Nat.zero_le _) rfl (fun vr_33 Kr_33 hr_33 => ?_)
  obtain ⟨ar_33, cr_33, rfl⟩ := RowOf.val hr_33
  refine ZN 7 S75 rfl rfl rfl rfl rfl (Nat.le_of_ble_eq_true rfl) (ZD (ZT (vs := []) (K := [_, _, _, _, _, _, _, _]) (rst := [_]) (.inr rfl) rfl rfl rfl (Za 3 rfl (Za 1 rfl (Za 1 rfl (Za 1 rfl (Za 1 rfl (Za 1 rfl (Za 1 rfl (Za 1 rfl ZK)))))))) ?_))
  obtain rfl := Option.some.inj hx
  exact ⟨az_25, nz_25, cz_25, ar_26, nr_26, cr_26, Kr_26, ar_27, nr_27, cr_27, Kr_27, ar_33, q_30.length, cr_33, Kr_33, rfl, rfl, hz_25, (Zd (Nat.zero_le _) hr_26), (Zx hr_26 hlt), (Zd (Nat.zero_le _) hr_27), (Zx hr_27 hlt), (Zd (Nat.zero_le _) hr_33), trivial⟩
 ·
  replace hx := ZX c_28 hx
  refine JC.skip (ZT (vs := []) (K := [_, _, _, _, _, _, _, _]) (rst := []) (.inr rfl) rfl rfl rfl (Za 2 rfl (Za 0 rfl (Za 0 rfl (Za 0 rfl (Za 0 rfl (Za 0 rfl (Za 0 rfl (Za 0 rfl ZK)))))))) ?_)
  obtain rfl := Option.some.inj hx
  exact ⟨az_25, nz_25, cz_25, ar_26, nr_26, cr_26, Kr_26, ar_27, nr_27, cr_27, Kr_27, ar_16, nr_16, cr_16, Kr_16, rfl, rfl, hz_25, (Zd (Nat.zero_le _) hr_26), (Zx hr_26 hlt), (Zd (Nat.zero_le _) hr_27), (Zx hr_27 hlt), (Zd (Nat.zero_le _) (hr_16.mono RInt.mono (New.mono (hleH_21.trans hleu_24)))), trivial⟩

set_option maxHeartbeats 8000000 in
theorem dead_Lay_v2_ok (p_1 : Store) (p_5 : UInt32) (p_6 : List Ptr) (H : Heaplet) {aa_2 : Option Addr} {na_2 : Nat} {ca_2 : Nat} {aa_3 : Option Addr} {na_3 : Nat} {ca_3 : Nat} {aa_4 : Option Addr} {na_4 : Nat} {ca_4 : Nat} {aa_7 : Option Addr} {na_7 : Nat} {ca_7 : Nat} (ha_2 : IsSlice H (RSl RU8 1) 1 (.slice aa_2 na_2 ca_2) p_1.Disk.Blocks) (ha_3 : IsSlice H R_Write 2 (.slice aa_3 na_3 ca_3) p_1.Disk.Waits) (ha_4 : IsSlice H RU8 1 (.slice aa_4 na_4 ca_4) p_1.Space) (ha_7 : IsSlice H R_Ptr 5 (.slice aa_7 na_7 ca_7) p_6) (r : Store × Ptr × List Int × Int) (hx : dead_Lay_v2 p_1 p_5 p_6 = some r) :
  Does Try.prog 32 #[.agg #[.slice aa_2 na_2 ca_2, .slice aa_3 na_3 ca_3, .slice aa_4 na_4 ca_4, .int .u32 (p_1.Epoch.toNat : Int), .int .u32 (p_1.Count.toNat : Int)], .int .u32 (p_5.toNat : Int), .slice aa_7 na_7 ca_7] [] H (fun u K' H' => ∃ ao0 : Option Addr, ∃ n0 : Nat, ∃ cap0 : Nat, ∃ ao1 : Option Addr, ∃ n1 : Nat, ∃ cap1 : Nat, ∃ K1 : Own, ∃ ao2 : Option Addr, ∃ n2 : Nat, ∃ cap2 : Nat, ∃ K2 : Own, ∃ ao3 : Option Addr, ∃ n3 : Nat, ∃ cap3 : Nat, ∃ K3 : Own, u = .tuple #[.agg #[.slice ao0 n0 cap0, .slice ao1 n1 cap1, .slice ao2 n2 cap2, .int .u32 (r.1.Epoch.toNat : Int), .int .u32 (r.1.Count.toNat : Int)], .agg #[.int .i64 r.2.1.At, .int .u32 (r.2.1.Birth.toNat : Int), .int .u32 (r.2.1.Iv.toNat : Int), .int .u32 (r.2.1.Tag.toNat : Int), .int .u32 (r.2.1.Sum.toNat : Int)], .slice ao3 n3 cap3, .int .i64 r.2.2.2] ∧ K' = [K1, K2, K3] ∧ IsSlice (New H H') (RSl RU8 1) 1 (.slice ao0 n0 cap0) r.1.Disk.Blocks ∧ RowOf (New H H') R_Write 0 47 2 (.slice ao1 n1 cap1) r.1.Disk.Waits K1 ∧ (∀ p ∈ K1, p.1 ∉ ids (List.flatten [])) ∧ RowOf (New H H') RU8 0 5 1 (.slice ao2 n2 cap2) r.1.Space K2 ∧ (∀ p ∈ K2, p.1 ∉ ids (List.flatten [])) ∧ RowOf (New H H') RInt 0 3 1 (.slice ao3 n3 cap3) r.2.2.1 K3 ∧ True) := by
 refine Does.enterML (vs := [.agg #[.slice aa_2 na_2 ca_2, .slice aa_3 na_3 ca_3, .slice aa_4 na_4 ca_4, .int .u32 (p_1.Epoch.toNat : Int), .int .u32 (p_1.Count.toNat : Int)], .int .u32 (p_5.toNat : Int), .slice aa_7 na_7 ca_7]) (l := [(0, .agg #[.slice aa_2 na_2 ca_2, .slice aa_3 na_3 ca_3, .slice aa_4 na_4 ca_4, .int .u32 (p_1.Epoch.toNat : Int), .int .u32 (p_1.Count.toNat : Int)]), (1, .int .u32 (p_5.toNat : Int)), (2, .slice aa_7 na_7 ca_7)]) Try.func32 rfl rfl ⟨rfl, rfl, rfl, trivial⟩ (fun w hlt => ?_)
 unfold dead_Lay_v2 at hx
 refine ZG (ZB (JL.box rfl rfl (fun b_8 hb_8 => JL.box rfl rfl (fun b_9 hb_9 => JL.alloc Z50 rfl (fun b_10 hb_10 => JL.alloc Z28 rfl (fun b_11 hb_11 => JL.alloc Z75 rfl (fun b_12 hb_12 => JL.alloc Z33 rfl (fun b_13 hb_13 => ZD (ZC (ZG (ZG ?_)))))))))))
 refine ZB (ZA rfl rfl (Z1 5 (vs := [.slice aa_2 na_2 ca_2, .slice aa_3 na_3 ca_3, .slice aa_4 na_4 ca_4, .int .u32 (p_1.Epoch.toNat : Int), .int .u32 (p_1.Count.toNat : Int)]) S50 rfl rfl rfl rfl) ?_)
 obtain ⟨x_14, hr_15, hx⟩ := ZM hx
 refine ZS (vs := [_]) (args := [_]) (K := []) (rst := [_, _, _, _, _, _]) E26 rfl rfl rfl ZK (store_Check_ok p_1 _ ha_2 ha_3 ha_4 _ hr_15) rfl (fun u_16 Ku_16 Hu_16 hRu_16 hleu_16 hfu_16 => ?_)
 obtain ⟨rfl, rfl, rfl, -⟩ := hRu_16
 refine ZA rfl rfl (R.neq_i rfl rfl) (ZA rfl rfl (ZF rfl) (Zh (t := 16) rfl (fun c_17 => ?_) (fun c_17 => ?_)))
 ·
  replace hx := ZW c_17 hx
  refine ZE rfl rfl rfl rfl rfl (ZE rfl rfl rfl rfl rfl (ZE rfl rfl rfl rfl rfl (ZA rfl rfl (Zj rfl rfl) (ZD (ZC (Z2 rfl (ZG (ZB (ZA rfl rfl (R.bldP (vs := []) (cs := [.slice none 0 0, .slice none 0 0, .slice none 0 0, .int .u32 ((0 : UInt32).toNat : Int), .int .u32 ((0 : UInt32).toNat : Int)]) Z50 B50 rfl rfl rfl) (ZA rfl rfl (R.bldP (vs := []) (cs := [.int .i64 0, .int .u32 ((0 : UInt32).toNat : Int), .int .u32 ((0 : UInt32).toNat : Int), .int .u32 ((0 : UInt32).toNat : Int), .int .u32 ((0 : UInt32).toNat : Int)]) Z28 B28 rfl rfl rfl) (ZN 3 S50 rfl rfl rfl rfl rfl (Nat.le_of_ble_eq_true rfl) ?_)))))))))))
  refine ZN 2 S28 rfl rfl rfl rfl rfl (Nat.le_of_ble_eq_true rfl) (ZN 1 S75 rfl rfl rfl rfl rfl (Nat.le_of_ble_eq_true rfl) (ZN 0 S33 rfl rfl rfl rfl rfl (Nat.le_of_ble_eq_true rfl) (ZD (ZC (ZV (ZR (Zn (Zn (Zn (JN.outMP (vs := [.agg #[.slice none 0 0, .slice none 0 0, .slice none 0 0, .int .u32 ((0 : UInt32).toNat : Int), .int .u32 ((0 : UInt32).toNat : Int)], .agg #[.int .i64 0, .int .u32 ((0 : UInt32).toNat : Int), .int .u32 ((0 : UInt32).toNat : Int), .int .u32 ((0 : UInt32).toNat : Int), .int .u32 ((0 : UInt32).toNat : Int)], .slice none 0 0, .int .i64 8]) (K := [_, _, _]) (rst := [_, _, _, _, _, _]) (own2 := [_, _, _, _, _, _, _, _, _]) [] (.inl rfl) ⟨rfl, rfl, rfl, rfl⟩ rfl rfl ZK (Zf 6 rfl rfl S50 (Zf 5 rfl rfl S28 (Res.cell1 4 rfl rfl S75 rfl (Res.cell1 3 rfl rfl S33 rfl rfl)))) (Za 0 rfl (Za 0 rfl (Za 0 rfl ZK))) ?_))))))))))
  obtain rfl := Option.some.inj hx
  exact ⟨none, 0, 0, none, 0, 0, [], none, 0, 0, [], none, 0, 0, [], rfl, rfl, (IsSlice.nil _ _ _), (Zb _ _ _ _ _), (fun p hp => by cases hp), (Zb _ _ _ _ _), (fun p hp => by cases hp), (Zb _ _ _ _ _), trivial⟩
 ·
  replace hx := ZX c_17 hx
  refine ZP rfl rfl rfl (ZA rfl rfl (ZF rfl) (ZP rfl rfl rfl ?_))
  obtain ⟨x_18, hr_19, hx⟩ := ZM hx
  refine ZS (vs := [_]) (args := [_]) (K := []) (rst := [_, _, _, _, _, _]) E35 rfl rfl rfl ZK (dead_Check_ok p_6 _ ha_7 _ hr_19) rfl (fun u_20 Ku_20 Hu_20 hRu_20 hleu_20 hfu_20 => ?_)
  obtain ⟨rfl, rfl, rfl, -⟩ := hRu_20
  refine ZP rfl rfl rfl (ZA rfl rfl (R.neq_i rfl rfl) (ZA rfl rfl (ZL rfl rfl) (ZD (ZC (ZU rfl (fun c_21 => ?_) (fun c_21 => ?_))))))
  ·
   replace hx := ZW c_21 hx
   refine ZG (ZB (ZA rfl rfl (R.bldP (vs := []) (cs := [.slice none 0 0, .slice none 0 0, .slice none 0 0, .int .u32 ((0 : UInt32).toNat : Int), .int .u32 ((0 : UInt32).toNat : Int)]) Z50 B50 rfl rfl rfl) (ZA rfl rfl (R.bldP (vs := []) (cs := [.int .i64 0, .int .u32 ((0 : UInt32).toNat : Int), .int .u32 ((0 : UInt32).toNat : Int), .int .u32 ((0 : UInt32).toNat : Int), .int .u32 ((0 : UInt32).toNat : Int)]) Z28 B28 rfl rfl rfl) (ZN 3 S50 rfl rfl rfl rfl rfl (Nat.le_of_ble_eq_true rfl) (ZN 2 S28 rfl rfl rfl rfl rfl (Nat.le_of_ble_eq_true rfl) (ZN 1 S75 rfl rfl rfl rfl rfl (Nat.le_of_ble_eq_true rfl) (ZN 0 S33 rfl rfl rfl rfl rfl (Nat.le_of_ble_eq_true rfl) (ZD (ZC (ZV (ZR ?_)))))))))))
   refine Zn (Zn (Zn (JN.outMP (vs := [.agg #[.slice none 0 0, .slice none 0 0, .slice none 0 0, .int .u32 ((0 : UInt32).toNat : Int), .int .u32 ((0 : UInt32).toNat : Int)], .agg #[.int .i64 0, .int .u32 ((0 : UInt32).toNat : Int), .int .u32 ((0 : UInt32).toNat : Int), .int .u32 ((0 : UInt32).toNat : Int), .int .u32 ((0 : UInt32).toNat : Int)], .slice none 0 0, .int .i64 8]) (K := [_, _, _]) (rst := [_, _, _, _, _, _]) (own2 := [_, _, _, _, _, _, _, _, _]) [] (.inl rfl) ⟨rfl, rfl, rfl, rfl⟩ rfl rfl ZK (Zf 6 rfl rfl S50 (Zf 5 rfl rfl S28 (Res.cell1 4 rfl rfl S75 rfl (Res.cell1 3 rfl rfl S33 rfl rfl)))) (Za 0 rfl (Za 0 rfl (Za 0 rfl ZK))) ?_)))
   obtain rfl := Option.some.inj hx
   exact ⟨none, 0, 0, none, 0, 0, [], none, 0, 0, [], none, 0, 0, [], rfl, rfl, (IsSlice.nil _ _ _), (Zb _ _ _ _ _), (fun p hp => by cases hp), (Zb _ _ _ _ _), (fun p hp => by cases hp), (Zb _ _ _ _ _), trivial⟩
  ·
   replace hx := ZX c_21 hx
   refine JC.skip (ZC (ZG (ZG (ZB (ZA rfl rfl (Zi 4 S26 rfl rfl rfl) (ZA rfl rfl (R.lss32 (a := p_5) (b := (1 : UInt32)) rfl rfl) (ZA rfl rfl (ZF rfl) (Zh (t := 25) rfl (fun c_22 => ?_) (fun c_22 => ?_)))))))))
   ·
    replace hx := ZW c_22 hx
    refine ZE rfl rfl rfl rfl rfl (ZE rfl rfl rfl rfl rfl (ZA rfl rfl (Zj rfl rfl) (ZD (ZC (Z2 rfl (ZG (ZB (ZA rfl rfl (R.bldP (vs := []) (cs := [.slice none 0 0, .slice none 0 0, .slice none 0 0, .int .u32 ((0 : UInt32).toNat : Int), .int .u32 ((0 : UInt32).toNat : Int)]) Z50 B50 rfl rfl rfl) (ZA rfl rfl (R.bldP (vs := []) (cs := [.int .i64 0, .int .u32 ((0 : UInt32).toNat : Int), .int .u32 ((0 : UInt32).toNat : Int), .int .u32 ((0 : UInt32).toNat : Int), .int .u32 ((0 : UInt32).toNat : Int)]) Z28 B28 rfl rfl rfl) (ZN 3 S50 rfl rfl rfl rfl rfl (Nat.le_of_ble_eq_true rfl) (ZN 2 S28 rfl rfl rfl rfl rfl (Nat.le_of_ble_eq_true rfl) ?_)))))))))))
    refine ZN 1 S75 rfl rfl rfl rfl rfl (Nat.le_of_ble_eq_true rfl) (ZN 0 S33 rfl rfl rfl rfl rfl (Nat.le_of_ble_eq_true rfl) (ZD (ZC (ZV (ZR (Zn (Zn (Zn (JN.outMP (vs := [.agg #[.slice none 0 0, .slice none 0 0, .slice none 0 0, .int .u32 ((0 : UInt32).toNat : Int), .int .u32 ((0 : UInt32).toNat : Int)], .agg #[.int .i64 0, .int .u32 ((0 : UInt32).toNat : Int), .int .u32 ((0 : UInt32).toNat : Int), .int .u32 ((0 : UInt32).toNat : Int), .int .u32 ((0 : UInt32).toNat : Int)], .slice none 0 0, .int .i64 2]) (K := [_, _, _]) (rst := [_, _, _, _, _, _]) (own2 := [_, _, _, _, _, _, _, _, _]) [] (.inl rfl) ⟨rfl, rfl, rfl, rfl⟩ rfl rfl ZK (Zf 6 rfl rfl S50 (Zf 5 rfl rfl S28 (Res.cell1 4 rfl rfl S75 rfl (Res.cell1 3 rfl rfl S33 rfl rfl)))) (Za 0 rfl (Za 0 rfl (Za 0 rfl ZK))) ?_)))))))))
    obtain rfl := Option.some.inj hx
    exact ⟨none, 0, 0, none, 0, 0, [], none, 0, 0, [], none, 0, 0, [], rfl, rfl, (IsSlice.nil _ _ _), (Zb _ _ _ _ _), (fun p hp => by cases hp), (Zb _ _ _ _ _), (fun p hp => by cases hp), (Zb _ _ _ _ _), trivial⟩
   ·
    replace hx := ZX c_22 hx
    refine ZP rfl rfl rfl (ZA rfl rfl (Zi 4 S26 rfl rfl rfl) (ZP rfl rfl rfl (ZA rfl rfl (R.gtr32 (a := p_5) (b := (16777215 : UInt32)) rfl rfl) (ZA rfl rfl (ZL rfl rfl) (ZD (ZC (ZU rfl (fun c_23 => ?_) (fun c_23 => ?_))))))))
    ·
     replace hx := ZW c_23 hx
     refine ZG (ZB (ZA rfl rfl (R.bldP (vs := []) (cs := [.slice none 0 0, .slice none 0 0, .slice none 0 0, .int .u32 ((0 : UInt32).toNat : Int), .int .u32 ((0 : UInt32).toNat : Int)]) Z50 B50 rfl rfl rfl) (ZA rfl rfl (R.bldP (vs := []) (cs := [.int .i64 0, .int .u32 ((0 : UInt32).toNat : Int), .int .u32 ((0 : UInt32).toNat : Int), .int .u32 ((0 : UInt32).toNat : Int), .int .u32 ((0 : UInt32).toNat : Int)]) Z28 B28 rfl rfl rfl) (ZN 3 S50 rfl rfl rfl rfl rfl (Nat.le_of_ble_eq_true rfl) (ZN 2 S28 rfl rfl rfl rfl rfl (Nat.le_of_ble_eq_true rfl) (ZN 1 S75 rfl rfl rfl rfl rfl (Nat.le_of_ble_eq_true rfl) (ZN 0 S33 rfl rfl rfl rfl rfl (Nat.le_of_ble_eq_true rfl) (ZD (ZC (ZV (ZR ?_)))))))))))
     refine Zn (Zn (Zn (JN.outMP (vs := [.agg #[.slice none 0 0, .slice none 0 0, .slice none 0 0, .int .u32 ((0 : UInt32).toNat : Int), .int .u32 ((0 : UInt32).toNat : Int)], .agg #[.int .i64 0, .int .u32 ((0 : UInt32).toNat : Int), .int .u32 ((0 : UInt32).toNat : Int), .int .u32 ((0 : UInt32).toNat : Int), .int .u32 ((0 : UInt32).toNat : Int)], .slice none 0 0, .int .i64 2]) (K := [_, _, _]) (rst := [_, _, _, _, _, _]) (own2 := [_, _, _, _, _, _, _, _, _]) [] (.inl rfl) ⟨rfl, rfl, rfl, rfl⟩ rfl rfl ZK (Zf 6 rfl rfl S50 (Zf 5 rfl rfl S28 (Res.cell1 4 rfl rfl S75 rfl (Res.cell1 3 rfl rfl S33 rfl rfl)))) (Za 0 rfl (Za 0 rfl (Za 0 rfl ZK))) ?_)))
     obtain rfl := Option.some.inj hx
     exact ⟨none, 0, 0, none, 0, 0, [], none, 0, 0, [], none, 0, 0, [], rfl, rfl, (IsSlice.nil _ _ _), (Zb _ _ _ _ _), (fun p hp => by cases hp), (Zb _ _ _ _ _), (fun p hp => by cases hp), (Zb _ _ _ _ _), trivial⟩
    ·
     replace hx := ZX c_23 hx
     refine JC.skip (ZC (ZG (ZG (ZB (ZA rfl rfl (ZF rfl) (ZA rfl rfl (Zm U53 rfl (IsSlice.long ha_7)) (ZA rfl rfl (Zy rfl rfl) (ZD (ZC (ZU rfl (fun c_24 => ?_) (fun c_24 => ?_)))))))))))
     ·
      replace hx := ZW c_24 hx
      refine ZG (ZB (ZA rfl rfl (Z1 5 (vs := [.slice aa_2 na_2 ca_2, .slice aa_3 na_3 ca_3, .slice aa_4 na_4 ca_4, .int .u32 (p_1.Epoch.toNat : Int), .int .u32 (p_1.Count.toNat : Int)]) S50 rfl rfl rfl rfl) ?_))
      obtain ⟨x_25, hr_26, hx⟩ := ZM hx
      refine ZS (vs := [_]) (args := [_]) (K := []) (rst := [_, _, _, _, _, _]) E61 rfl rfl rfl ZK (store_Twin_ok p_1 _ ha_2 ha_3 ha_4 _ hr_26) rfl (fun u_27 Ku_27 Hu_27 hRu_27 hleu_27 hfu_27 => ?_)
      obtain ⟨ar_28, nr_28, cr_28, Kr_28, ar_29, nr_29, cr_29, Kr_29, ar_30, nr_30, cr_30, Kr_30, rfl, rfl, hr_28, hnewr_28, hr_29, hnewr_29, hr_30, hnewr_30, -⟩ := hRu_27
      replace hr_28 := (Pcs.base hr_28 (fun p hp => (hfu_27 p (Zg 0 rfl hp)).resolve_left (hnewr_28 p hp)))
      replace hr_29 := (RowOf.base (RowOf.mono R_Write.mono (New.call (Hle.refl _)) hr_29) (fun p hp => (hfu_27 p (Zg 1 rfl hp)).resolve_left (hnewr_29 p hp)))
      replace hr_30 := (RowOf.base (Zc (H2 := New H Hu_27) RU8.const hr_30) (fun p hp => (hfu_27 p (Zg 2 rfl hp)).resolve_left (hnewr_30 p hp)))
      refine ZA rfl rfl (R.bldP (vs := []) (cs := [.int .i64 0, .int .u32 ((0 : UInt32).toNat : Int), .int .u32 ((0 : UInt32).toNat : Int), .int .u32 ((0 : UInt32).toNat : Int), .int .u32 ((0 : UInt32).toNat : Int)]) Z28 B28 rfl rfl rfl) (ZN 6 S50 rfl rfl rfl rfl rfl (Nat.le_of_ble_eq_true rfl) (ZN 5 S28 rfl rfl rfl rfl rfl (Nat.le_of_ble_eq_true rfl) (ZN 4 S75 rfl rfl rfl rfl rfl (Nat.le_of_ble_eq_true rfl) (ZN 3 S33 rfl rfl rfl rfl rfl (Nat.le_of_ble_eq_true rfl) (ZD (ZC (ZV (ZR (JN.pubPcs 0  rfl hr_28 (Nat.le_refl _) (fun H_31 hleH_31 hsH_31 => JN.forget 0 (Zn ?_)))))))))))
      refine JN.outMP (vs := [.agg #[.slice ar_28 nr_28 cr_28, .slice ar_29 nr_29 cr_29, .slice ar_30 nr_30 cr_30, .int .u32 (x_25.Epoch.toNat : Int), .int .u32 (x_25.Count.toNat : Int)], .agg #[.int .i64 0, .int .u32 ((0 : UInt32).toNat : Int), .int .u32 ((0 : UInt32).toNat : Int), .int .u32 ((0 : UInt32).toNat : Int), .int .u32 ((0 : UInt32).toNat : Int)], .slice none 0 0, .int .i64 0]) (K := [_, _, _]) (rst := [_, _, _, _, _, _]) (own2 := [_, _, _, _, _, _, _, _, _]) [] (.inl rfl) ⟨rfl, rfl, rfl, rfl⟩ rfl rfl ZK (Zf 6 rfl rfl S50 (Zf 5 rfl rfl S28 (Res.cell1 4 rfl rfl S75 rfl (Res.cell1 3 rfl rfl S33 rfl rfl)))) (Za 1 rfl (Za 1 rfl (Za 0 rfl ZK))) ?_
      obtain rfl := Option.some.inj hx
      exact ⟨ar_28, nr_28, cr_28, ar_29, nr_29, cr_29, Kr_29, ar_30, nr_30, cr_30, Kr_30, none, 0, 0, [], rfl, rfl, hsH_31, (Zd (Nat.zero_le _) (hr_29.mono R_Write.mono (New.mono hleH_31))), (Zx (hr_29.mono R_Write.mono (New.mono hleH_31)) hlt), (Zd (Nat.zero_le _) (hr_30.mono RU8.mono (New.mono hleH_31))), (Zx (hr_30.mono RU8.mono (New.mono hleH_31)) hlt), (Zb _ _ _ _ _), trivial⟩
     ·
      replace hx := ZX c_24 hx
      refine JC.skip (ZC (ZG (ZB (ZA rfl rfl (R.func (vf := []) (vc := [_, _, _, _, _]) rfl rfl) (JL.alloc Z110 rfl (fun b_32 hb_32 => ZN 0 S110 rfl rfl rfl rfl rfl (Nat.le_of_ble_eq_true rfl) (ZD (ZC (ZG (ZB (JL.alloc Z53 rfl (fun b_33 hb_33 => ?_))))))))))))
      refine ZD (ZC (ZG (ZG (ZB (ZA rfl rfl (ZF rfl) ?_)))))
      obtain ⟨x_34, hr_35, hx⟩ := ZM hx
      refine ZS (vs := [_, _]) (args := [_, _]) (K := []) (rst := [_, _, _, _, _, _, _, _]) E63 rfl rfl rfl ZK (slices_Chunk_Ptr_ok p_6 16 _ ha_7 _ hr_35) rfl (fun u_36 Ku_36 Hu_36 hRu_36 hleu_36 hfu_36 => ?_)
      obtain ⟨bit_37, cit_37, rfl, rfl, hit_37, kit_37, pit_37, -⟩ := hRu_36
      refine ZD (ZC (JC.block ?_))
      obtain ⟨t_38, ht_40, hx⟩ := ZM hx
      refine JC.seg0 (JC.seg0 (Zv 2 rfl (Zv 8 rfl (Zv 4 rfl (Zv 5 rfl (Zv 5 rfl (Zv 6 rfl (Zv 7 rfl (Zv 8 rfl (Zv 9 rfl (JC.rangeL (RA := fun H' args (y : List Ptr) => ∃ ao : Option Addr, args = #[.slice ao y.length y.length] ∧ IsSlice H' R_Ptr 5 (.slice ao y.length y.length) y) rfl dead_Lay_v2_r1 (p_1, Ptr.mk 0 (0 : UInt32) (0 : UInt32) (0 : UInt32) (0 : UInt32), ([] : List Int), 0, p_5, ([] : List Ptr)) t_38 ht_40 (fun s_41 o g => ∃ H_52 : Heaplet, ∃ az_53 : Option Addr, ∃ nz_53 : Nat, ∃ cz_53 : Nat, ∃ az_54 : Option Addr, ∃ nz_54 : Nat, ∃ cz_54 : Nat, ∃ az_55 : Option Addr, ∃ nz_55 : Nat, ∃ cz_55 : Nat, ∃ ar_56 : Option Addr, ∃ nr_56 : Nat, ∃ cr_56 : Nat, ∃ Kr_56 : Own, ∃ ar_57 : Option Addr, ∃ nr_57 : Nat, ∃ cr_57 : Nat, ∃ Kr_57 : Own, o = [[(b_8, .cells #[.slice az_53 nz_53 cz_53, .slice az_54 nz_54 cz_54, .slice az_55 nz_55 cz_55, .int .u32 (s_41.1.Epoch.toNat : Int), .int .u32 (s_41.1.Count.toNat : Int)] 50 (0, 0))], [(b_10, .cells #[.slice none 0 0, .slice none 0 0, .slice none 0 0, .int .u32 ((0 : UInt32).toNat : Int), .int .u32 ((0 : UInt32).toNat : Int)] 50 (0, 0))], [(b_11, .cells #[.int .i64 s_41.2.1.At, .int .u32 (s_41.2.1.Birth.toNat : Int), .int .u32 (s_41.2.1.Iv.toNat : Int), .int .u32 (s_41.2.1.Tag.toNat : Int), .int .u32 (s_41.2.1.Sum.toNat : Int)] 28 (0, 0))], [(b_12, .cells #[.slice ar_56 nr_56 cr_56] 75 (0, 0))], Kr_56, [(b_13, .cells #[.int .i64 s_41.2.2.2.1] 33 (0, 0))], [(b_32, .cells #[.func (.func 62) #[] #[.pointer (some ⟨b_8, 0, none⟩), .pointer (some ⟨b_9, 0, none⟩), .pointer (some ⟨b_11, 0, none⟩), .pointer (some ⟨b_13, 0, none⟩), .pointer (some ⟨b_12, 0, none⟩)]] 110 (0, 0))], [(b_9, .cells #[.int .u32 (s_41.2.2.2.2.1.toNat : Int)] 26 (0, 0))], [(b_33, .cells #[.slice ar_57 nr_57 cr_57] 53 (0, 0))], Kr_57] ∧ H_52 = g ∧ Hle Hu_36 H_52 ∧ IsSlice H_52 (RSl RU8 1) 1 (.slice az_53 nz_53 cz_53) s_41.1.Disk.Blocks ∧ IsSlice H_52 R_Write 2 (.slice az_54 nz_54 cz_54) s_41.1.Disk.Waits ∧ IsSlice H_52 RU8 1 (.slice az_55 nz_55 cz_55) s_41.1.Space ∧ RowOf (New H H_52) RInt 0 3 1 (.slice ar_56 nr_56 cr_56) s_41.2.2.1 Kr_56 ∧ RowOf (New H H_52) R_Ptr w.heap.size 28 5 (.slice ar_57 nr_57 cr_57) s_41.2.2.2.2.2 Kr_57) (fun e c o g => (c = .ret ∧ ∃ t_38e0 : Int, t_38e0 = e ∧ ∃ H_58 : Heaplet, o = [[(b_10, .cells #[.slice none 0 0, .slice none 0 0, .slice none 0 0, .int .u32 ((0 : UInt32).toNat : Int), .int .u32 ((0 : UInt32).toNat : Int)] 50 (0, 0))], [(b_11, .cells #[.int .i64 0, .int .u32 ((0 : UInt32).toNat : Int), .int .u32 ((0 : UInt32).toNat : Int), .int .u32 ((0 : UInt32).toNat : Int), .int .u32 ((0 : UInt32).toNat : Int)] 28 (0, 0))], [(b_12, .cells #[.slice none 0 0] 75 (0, 0))], [(b_13, .cells #[.int .i64 t_38e0] 33 (0, 0))]] ∧ H_58 = g ∧ Hle Hu_36 H_58)) rfl E106 (slices_Chunk_Ptr_it p_6 16 pit_37 _ (ha_7.mono R_Ptr.mono hleu_36) hit_37 kit_37) (fun _ _ _ h => by obtain ⟨_, h, _⟩ := h; rw [h]; rfl) rfl ⟨Hu_36, aa_2, na_2, ca_2, aa_3, na_3, ca_3, aa_4, na_4, ca_4, none, 0, 0, [], none, 0, 0, [], rfl, rfl, (Hle.refl _), (ha_2.mono (RSl.mono RU8.mono) hleu_36), (ha_3.mono R_Write.mono hleu_36), (ha_4.mono RU8.mono hleu_36), (Zb _ _ _ _ _), (Zb _ _ _ _ _)⟩ ?_ ?_ ?_)))))))))))
      ·
       rintro lr_43 y_42 s_41 args o g out_45 ⟨H_52, az_53, nz_53, cz_53, az_54, nz_54, cz_54, az_55, nz_55, cz_55, ar_56, nr_56, cr_56, Kr_56, ar_57, nr_57, cr_57, Kr_57, rfl, rfl, hleH_52, hz_53, hz_54, hz_55, hr_56, hr_57⟩ hA hx2
       clear hx; have hx := hx2; clear hx2; unfold dead_Lay_v2_r1 at hx
       obtain ⟨aoit_37, rfl, hyit_37⟩ := hA
       refine ⟨[(3, .pointer (some ⟨b_8, 0, none⟩)), (6, .pointer (some ⟨b_10, 0, none⟩)), (7, .pointer (some ⟨b_11, 0, none⟩)), (8, .pointer (some ⟨b_12, 0, none⟩)), (9, .pointer (some ⟨b_13, 0, none⟩)), (10, .pointer (some ⟨b_32, 0, none⟩)), (11, .pointer (some ⟨b_33, 0, none⟩)), (12, .slice aoit_37 y_42.length y_42.length)], fun wb_44 hwb_44 => ?_, fun wb_44 hwb_44 => ?_⟩
       ·
        refine ZB (ZA rfl rfl (ZH rfl) (ZD ?_))
        exact JN.assigned ⟨rfl, rfl, rfl, rfl, rfl, rfl, rfl, rfl, trivial⟩
       ·
        refine JC.block (ZG (ZG (ZB (ZA rfl rfl (Zi 6 S110 rfl rfl rfl) (ZA rfl rfl (ZF rfl) ?_)))))
        obtain ⟨x_58, hr_59, hx⟩ := ZM hx
        refine ZS (vs := [_]) (args := [_, _, _, _, _, _]) (K := [_, _, _, _, _, _]) (rst := [_, _, _, _]) E62 rfl rfl rfl (Za 0 rfl (Za 6 rfl (Za 1 rfl (Za 3 rfl (Za 1 rfl (Za 1 rfl ZK)))))) (dead_Lay_1_ok y_42 s_41.1 s_41.2.2.2.2.1 s_41.2.1 s_41.2.2.2.1 s_41.2.2.1 _ hyit_37 hz_53 hz_54 hz_55 (Zd (Nat.zero_le _) (Zc RInt.const hr_56)) _ hr_59) rfl (fun u_60 Ku_60 Hu_60 hRu_60 hleu_60 hfu_60 => ?_)
        obtain ⟨az_61, nz_61, cz_61, ar_62, nr_62, cr_62, Kr_62, ar_63, nr_63, cr_63, Kr_63, ar_64, nr_64, cr_64, Kr_64, rfl, rfl, hz_61, hr_62, hnewr_62, hr_63, hnewr_63, hr_64, -⟩ := hRu_60
        replace hr_62 := (RowOf.base (RowOf.mono R_Write.mono (New.call (hleu_36.trans hleH_52)) hr_62) (fun p hp => (hfu_60 p (Zg 1 rfl hp)).resolve_left (hnewr_62 p hp)))
        replace hr_63 := (RowOf.base (Zc (H2 := New H Hu_60) RU8.const hr_63) (fun p hp => (hfu_60 p (Zg 2 rfl hp)).resolve_left (hnewr_63 p hp)))
        replace hr_64 := (Zc (H2 := New H Hu_60) RInt.const hr_64)
        replace hz_61 := IsSlice.mono (RSl.mono RU8.mono) (New.call (hleu_36.trans hleH_52)) hz_61
        refine ZD (ZC (ZG (ZB (ZA rfl rfl (Zi 5 S33 rfl rfl rfl) (ZA rfl rfl (R.neq_i rfl rfl) (ZD (ZC (ZU rfl (fun c_65 => ?_) (fun c_65 => ?_)))))))))
        ·
         replace hx := ZW c_65 hx
         refine ZG (JC.drawB (so := [(_, []), (_, []), (_, []), (_, []), (_, [4]), (_, [6]), (_, [5]), (_, []), (_, [3]), (_, []), (_, []), (_, [])]) 7 rfl Mixed ⟨by kernel_rfl, by kernel_rfl⟩ (kept0 [0, 1, 2, 3, 4, 5, 6, 7, 8, 9, 10, 11] rfl) ?_)
         refine JB.val (i := 0) [] rfl (R.bldP (vs := []) (cs := [.slice none 0 0, .slice none 0 0, .slice none 0 0, .int .u32 ((0 : UInt32).toNat : Int), .int .u32 ((0 : UInt32).toNat : Int)]) Z50 B50 rfl rfl rfl) ?_
         refine JB.val (i := 1) [] rfl (R.bldP (vs := []) (cs := [.int .i64 0, .int .u32 ((0 : UInt32).toNat : Int), .int .u32 ((0 : UInt32).toNat : Int), .int .u32 ((0 : UInt32).toNat : Int), .int .u32 ((0 : UInt32).toNat : Int)]) Z28 B28 rfl rfl rfl) ?_
         refine JB.val (i := 2) [6] rfl (Zi 4 S33 rfl rfl rfl) ?_
         refine JB.one (i := 3) (by kernel_rfl) ?_
         refine JOB.step rfl trivial rfl (fun K hK => ZN 8 S50 rfl rfl rfl rfl rfl (Nat.le_of_ble_eq_true rfl) (ZD (hK _ _ _ (Hle.refl _) (kept1 [false, false, false, false, false, false, false, false, true, false, false, false] [0, 1, 2, 3, 4, 5, 6, 7, 0, 9, 10, 11] (by kernel_rfl) rfl) ?_)))
         refine JB.one (i := 4) (by kernel_rfl) ?_
         refine JOB.step rfl trivial rfl (fun K hK => ZN 4 S28 rfl rfl rfl rfl rfl (Nat.le_of_ble_eq_true rfl) (ZD (hK _ _ _ (Hle.refl _) (kept1 [false, false, false, false, true, false, false, false, true, false, false, false] [0, 1, 2, 3, 0, 5, 6, 7, 0, 9, 10, 11] (by kernel_rfl) rfl) ?_)))
         refine JB.one (i := 5) (by kernel_rfl) ?_
         refine JOB.step rfl trivial rfl (fun K hK => ZN 6 S75 rfl rfl rfl rfl rfl (Nat.le_of_ble_eq_true rfl) (ZD (hK _ _ _ (Hle.refl _) (kept1 [false, false, false, false, true, false, true, false, true, false, false, false] [0, 1, 2, 3, 0, 5, 0, 7, 0, 9, 10, 11] (by kernel_rfl) rfl) ?_)))
         refine JB.one (i := 6) (by kernel_rfl) ?_
         refine JOB.step rfl trivial rfl (fun K hK => ZN 5 S33 rfl rfl rfl rfl rfl (Nat.le_of_ble_eq_true rfl) (ZD (hK _ _ _ (Hle.refl _) (kept1 [false, false, false, false, true, true, true, false, true, false, false, false] [0, 1, 2, 3, 0, 0, 0, 7, 0, 9, 10, 11] (by kernel_rfl) rfl) ?_)))
         refine JB.doneN (by kernel_rfl) ?_
         refine ZC (ZV (ZR (Z4 ?_)))
         obtain rfl := Option.some.inj hx
         refine JN.forget 11 (JN.forget 10 (JN.forget 9 (JN.forget 7 (JN.forget 3 (JN.forget 2 (JN.forget 1 (JN.forget 0 (ZO 1 rfl (ZO 2 rfl (ZO 2 rfl (ZO 3 rfl ?_)))))))))))
         exact JN.rR ⟨rfl, x_58.2.2.2.1, rfl, Hu_60, rfl, rfl, ((hleH_52.trans hleu_60))⟩
        ·
         replace hx := ZX c_65 hx
         refine JC.skip (ZC (ZB (ZA rfl rfl (Zi 10 S53 rfl rfl rfl) (ZA rfl rfl (Z1 4 (vs := [.int .i64 x_58.2.2.1.At, .int .u32 (x_58.2.2.1.Birth.toNat : Int), .int .u32 (x_58.2.2.1.Iv.toNat : Int), .int .u32 (x_58.2.2.1.Tag.toNat : Int), .int .u32 (x_58.2.2.1.Sum.toNat : Int)]) S28 rfl rfl rfl rfl) (Zz (HF := (New H Hu_60)) (R := R_Ptr) (ls := [x_58.2.2.1]) (vs := [.agg #[.int .i64 x_58.2.2.1.At, .int .u32 (x_58.2.2.1.Birth.toNat : Int), .int .u32 (x_58.2.2.1.Iv.toNat : Int), .int .u32 (x_58.2.2.1.Tag.toNat : Int), .int .u32 (x_58.2.2.1.Sum.toNat : Int)]]) U53 I28 rfl rfl (⟨_, _, rfl, rfl, rfl, rfl⟩) R_Ptr.one rfl rfl rfl (by simp [maxLen]) rfl (fun vr_66 Kr_66 hr_66 => ?_))))))
         obtain ⟨ar_66, cr_66, rfl⟩ := RowOf.val hr_66
         obtain ⟨q_67, hm_68, hl_69, hx⟩ := app_some hx
         refine JL.appF (HF := (New H Hu_60)) 12 U53 I28 rfl rfl (hr_57.mono R_Ptr.mono (New.mono hleu_60)) rfl (SrcF.row 0 U53 rfl hr_66) hm_68 hl_69 rfl hwb_44 rfl (fun vr_70 Kr_70 hr_70 => ?_)
         obtain ⟨ar_70, cr_70, rfl⟩ := RowOf.val hr_70
         refine ZN 11 S53 rfl rfl rfl rfl rfl (Nat.le_of_ble_eq_true rfl) (ZD (Zk ?_))
         obtain rfl := Option.some.inj hx
         refine JN.pub 2 R_Write.mono rfl (hr_62.old R_Write.mono) (Nat.le_refl _) (fun H_71 hleH_71 hsH_71 => JN.forget 2 (JN.pubN 2 RU8.mono rfl (Zc (H2 := New H_52 H_71) RU8.const (hr_63.mono RU8.mono (New.mono hleH_71))) (Nat.le_refl _) (fun H_72 hleH_72 hsH_72 => ?_)))
         replace hsH_72 := IsSlice.mono RU8.mono (New.call (hleu_36.trans hleH_52)) hsH_72
         refine JN.forget 2 (JN.forget 0 (ZO 9 rfl (ZO 9 rfl (ZO 3 rfl (ZO 9 rfl (ZO 6 rfl (ZO 8 rfl (ZO 8 rfl (ZO 8 rfl (ZO 9 rfl (ZO 9 rfl ?_)))))))))))
         exact JN.rN ⟨H_72, az_61, nz_61, cz_61, ar_62, nr_62, cr_62, ar_63, nr_63, cr_63, ar_64, nr_64, cr_64, Kr_64, ar_70, q_67.length, cr_70, Kr_70, rfl, rfl, ((hleH_52.trans (hleu_60.trans (hleH_71.trans hleH_72)))), ((hz_61.mono (RSl.mono RU8.mono) (New.mono (hleH_71.trans hleH_72))).old (RSl.mono RU8.mono)), (hsH_71.mono R_Write.mono hleH_72), (hsH_72.old RU8.mono), (hr_64.mono RInt.mono (New.mono (hleH_71.trans hleH_72))), (hr_70.mono R_Ptr.mono (New.mono (hleH_71.trans hleH_72)))⟩
      ·
       rintro D_46 s_41 o g hD_46 htt ⟨H_52, az_53, nz_53, cz_53, az_54, nz_54, cz_54, az_55, nz_55, cz_55, ar_56, nr_56, cr_56, Kr_56, ar_57, nr_57, cr_57, Kr_57, rfl, rfl, hleH_52, hz_53, hz_54, hz_55, hr_56, hr_57⟩ hle2
       subst htt; simp only [Sum.elim_inl] at hx
       refine Zk (ZC (ZG (ZG (ZB (ZA rfl rfl (Zi 7 S110 rfl rfl rfl) (ZA rfl rfl (Zi 9 S53 rfl rfl rfl) (JL.pubN 10 R_Ptr.mono rfl hr_57 (Nat.le_refl _) (fun H_59 hleH_59 hsH_59 => JL.forget 10 ?_))))))))
       obtain ⟨x_60, hr_61, hx⟩ := ZM hx
       refine ZS (vs := [_]) (args := [_, _, _, _, _, _]) (K := [_, _, _, _, _, _]) (rst := [_, _, _, _]) E62 rfl rfl rfl (Za 1 rfl (Za 7 rfl (Za 2 rfl (Za 4 rfl (Za 2 rfl (Za 2 rfl ZK)))))) (dead_Lay_1_ok s_41.2.2.2.2.2 s_41.1 s_41.2.2.2.2.1 s_41.2.1 s_41.2.2.2.1 s_41.2.2.1 _ (hsH_59.old R_Ptr.mono) (hz_53.mono (RSl.mono RU8.mono) hleH_59) (hz_54.mono R_Write.mono hleH_59) (hz_55.mono RU8.mono hleH_59) (Zd (Nat.zero_le _) (Zc RInt.const (hr_56.mono RInt.mono (New.mono hleH_59)))) _ hr_61) rfl (fun u_62 Ku_62 Hu_62 hRu_62 hleu_62 hfu_62 => ?_)
       obtain ⟨az_63, nz_63, cz_63, ar_64, nr_64, cr_64, Kr_64, ar_65, nr_65, cr_65, Kr_65, ar_66, nr_66, cr_66, Kr_66, rfl, rfl, hz_63, hr_64, hnewr_64, hr_65, hnewr_65, hr_66, -⟩ := hRu_62
       replace hr_64 := (RowOf.base (RowOf.mono R_Write.mono (New.call (hleu_36.trans (hleH_52.trans hleH_59))) hr_64) (fun p hp => (hfu_62 p (Zg 1 rfl hp)).resolve_left (hnewr_64 p hp)))
       replace hr_65 := (RowOf.base (Zc (H2 := New H Hu_62) RU8.const hr_65) (fun p hp => (hfu_62 p (Zg 2 rfl hp)).resolve_left (hnewr_65 p hp)))
       replace hr_66 := (Zc (H2 := New H Hu_62) RInt.const hr_66)
       replace hz_63 := IsSlice.mono (RSl.mono RU8.mono) (New.call (hleu_36.trans (hleH_52.trans hleH_59))) hz_63
       refine ZD (ZC (ZG (ZB (ZA rfl rfl (Zi 5 S33 rfl rfl rfl) (ZA rfl rfl (R.neq_i rfl rfl) (ZD (ZC (ZU rfl (fun c_67 => ?_) (fun c_67 => ?_)))))))))
       ·
        replace hx := ZW c_67 hx
        refine ZG (JC.drawB (so := [(_, []), (_, []), (_, []), (_, []), (_, [4]), (_, [6]), (_, [5]), (_, []), (_, []), (_, [3]), (_, []), (_, [])]) 7 rfl Mixed ⟨by kernel_rfl, by kernel_rfl⟩ (kept0 [0, 1, 2, 3, 4, 5, 6, 7, 8, 9, 10, 11] rfl) ?_)
        refine JB.val (i := 0) [] rfl (R.bldP (vs := []) (cs := [.slice none 0 0, .slice none 0 0, .slice none 0 0, .int .u32 ((0 : UInt32).toNat : Int), .int .u32 ((0 : UInt32).toNat : Int)]) Z50 B50 rfl rfl rfl) ?_
        refine JB.val (i := 1) [] rfl (R.bldP (vs := []) (cs := [.int .i64 0, .int .u32 ((0 : UInt32).toNat : Int), .int .u32 ((0 : UInt32).toNat : Int), .int .u32 ((0 : UInt32).toNat : Int), .int .u32 ((0 : UInt32).toNat : Int)]) Z28 B28 rfl rfl rfl) ?_
        refine JB.val (i := 2) [6] rfl (Zi 4 S33 rfl rfl rfl) ?_
        refine JB.one (i := 3) (by kernel_rfl) ?_
        refine JOB.step rfl trivial rfl (fun K hK => ZN 9 S50 rfl rfl rfl rfl rfl (Nat.le_of_ble_eq_true rfl) (ZD (hK _ _ _ (Hle.refl _) (kept1 [false, false, false, false, false, false, false, false, false, true, false, false] [0, 1, 2, 3, 4, 5, 6, 7, 8, 0, 10, 11] (by kernel_rfl) rfl) ?_)))
        refine JB.one (i := 4) (by kernel_rfl) ?_
        refine JOB.step rfl trivial rfl (fun K hK => ZN 4 S28 rfl rfl rfl rfl rfl (Nat.le_of_ble_eq_true rfl) (ZD (hK _ _ _ (Hle.refl _) (kept1 [false, false, false, false, true, false, false, false, false, true, false, false] [0, 1, 2, 3, 0, 5, 6, 7, 8, 0, 10, 11] (by kernel_rfl) rfl) ?_)))
        refine JB.one (i := 5) (by kernel_rfl) ?_
        refine JOB.step rfl trivial rfl (fun K hK => ZN 6 S75 rfl rfl rfl rfl rfl (Nat.le_of_ble_eq_true rfl) (ZD (hK _ _ _ (Hle.refl _) (kept1 [false, false, false, false, true, false, true, false, false, true, false, false] [0, 1, 2, 3, 0, 5, 0, 7, 8, 0, 10, 11] (by kernel_rfl) rfl) ?_)))
        refine JB.one (i := 6) (by kernel_rfl) ?_
        refine JOB.step rfl trivial rfl (fun K hK => ZN 5 S33 rfl rfl rfl rfl rfl (Nat.le_of_ble_eq_true rfl) (ZD (hK _ _ _ (Hle.refl _) (kept1 [false, false, false, false, true, true, true, false, false, true, false, false] [0, 1, 2, 3, 0, 0, 0, 7, 8, 0, 10, 11] (by kernel_rfl) rfl) ?_)))
        refine JB.doneN (by kernel_rfl) ?_
        refine ZC (ZV (ZR (Zn (Zn (Zn (JN.outMP (vs := [.agg #[.slice none 0 0, .slice none 0 0, .slice none 0 0, .int .u32 ((0 : UInt32).toNat : Int), .int .u32 ((0 : UInt32).toNat : Int)], .agg #[.int .i64 0, .int .u32 ((0 : UInt32).toNat : Int), .int .u32 ((0 : UInt32).toNat : Int), .int .u32 ((0 : UInt32).toNat : Int), .int .u32 ((0 : UInt32).toNat : Int)], .slice none 0 0, .int .i64 x_60.2.2.2.1]) (K := [_, _, _]) (rst := [_, _, _, _, _, _, _, _, _, _, _]) (own2 := [_, _, _, _, _, _, _, _, _, _, _, _, _, _]) [D_46] (.inl rfl) ⟨rfl, rfl, rfl, rfl⟩ rfl rfl (Za 11 rfl ZK) (Zf 11 rfl rfl S50 (Zf 7 rfl rfl S28 (Res.cell1 9 rfl rfl S75 rfl (Res.cell1 8 rfl rfl S33 rfl rfl)))) (Za 0 rfl (Za 0 rfl (Za 0 rfl ZK))) ?_))))))
        obtain rfl := Option.some.inj hx
        exact ⟨none, 0, 0, none, 0, 0, [], none, 0, 0, [], none, 0, 0, [], rfl, rfl, (IsSlice.nil _ _ _), (Zb _ _ _ _ _), (fun p hp => by cases hp), (Zb _ _ _ _ _), (fun p hp => by cases hp), (Zb _ _ _ _ _), trivial⟩
       ·
        replace hx := ZX c_67 hx
        refine JC.skip (ZC (ZG (JC.drawB (so := [(_, []), (_, []), (_, []), (_, []), (_, [4]), (_, [6]), (_, [5]), (_, []), (_, []), (_, [3]), (_, []), (_, [])]) 7 rfl Mixed ⟨by kernel_rfl, by kernel_rfl⟩ (kept0 [0, 1, 2, 3, 4, 5, 6, 7, 8, 9, 10, 11] rfl) ?_)))
        refine JB.val (i := 0) [] rfl (Z1 0 (vs := [.slice az_63 nz_63 cz_63, .slice ar_64 nr_64 cr_64, .slice ar_65 nr_65 cr_65, .int .u32 (x_60.1.Epoch.toNat : Int), .int .u32 (x_60.1.Count.toNat : Int)]) S50 rfl rfl rfl rfl) ?_
        refine JB.val (i := 1) [4] rfl (Z1 4 (vs := [.int .i64 x_60.2.2.1.At, .int .u32 (x_60.2.2.1.Birth.toNat : Int), .int .u32 (x_60.2.2.1.Iv.toNat : Int), .int .u32 (x_60.2.2.1.Tag.toNat : Int), .int .u32 (x_60.2.2.1.Sum.toNat : Int)]) S28 rfl rfl rfl rfl) ?_
        refine JB.val (i := 2) [5] rfl (Zi 4 S75 rfl rfl rfl) ?_
        refine JB.one (i := 3) (by kernel_rfl) ?_
        refine JOB.step rfl trivial rfl (fun K hK => ZN 9 S50 rfl rfl rfl rfl rfl (Nat.le_of_ble_eq_true rfl) (ZD (hK _ _ _ (Hle.refl _) (kept1 [false, false, false, false, false, false, false, false, false, true, false, false] [0, 1, 2, 3, 4, 5, 6, 7, 8, 0, 10, 11] (by kernel_rfl) rfl) ?_)))
        refine JB.one (i := 4) (by kernel_rfl) ?_
        refine JOB.step rfl trivial rfl (fun K hK => ZN 4 S28 rfl rfl rfl rfl rfl (Nat.le_of_ble_eq_true rfl) (ZD (hK _ _ _ (Hle.refl _) (kept1 [false, false, false, false, true, false, false, false, false, true, false, false] [0, 1, 2, 3, 0, 5, 6, 7, 8, 0, 10, 11] (by kernel_rfl) rfl) ?_)))
        refine JB.one (i := 5) (by kernel_rfl) ?_
        refine JOB.step rfl trivial rfl (fun K hK => ZN 6 S75 rfl rfl rfl rfl rfl (Nat.le_of_ble_eq_true rfl) (ZD (hK _ _ _ (Hle.refl _) (kept1 [false, false, false, false, true, false, true, false, false, true, false, false] [0, 1, 2, 3, 0, 5, 0, 7, 8, 0, 10, 11] (by kernel_rfl) rfl) ?_)))
        refine JB.one (i := 6) (by kernel_rfl) ?_
        refine JOB.step rfl trivial rfl (fun K hK => ZN 5 S33 rfl rfl rfl rfl rfl (Nat.le_of_ble_eq_true rfl) (ZD (hK _ _ _ (Hle.refl _) (kept1 [false, false, false, false, true, true, true, false, false, true, false, false] [0, 1, 2, 3, 0, 0, 0, 7, 8, 0, 10, 11] (by kernel_rfl) rfl) ?_)))
        refine JB.doneN (by kernel_rfl) ?_
        refine ZC (ZV (JN.outMP (vs := [.agg #[.slice az_63 nz_63 cz_63, .slice ar_64 nr_64 cr_64, .slice ar_65 nr_65 cr_65, .int .u32 (x_60.1.Epoch.toNat : Int), .int .u32 (x_60.1.Count.toNat : Int)], .agg #[.int .i64 x_60.2.2.1.At, .int .u32 (x_60.2.2.1.Birth.toNat : Int), .int .u32 (x_60.2.2.1.Iv.toNat : Int), .int .u32 (x_60.2.2.1.Tag.toNat : Int), .int .u32 (x_60.2.2.1.Sum.toNat : Int)], .slice ar_66 nr_66 cr_66, .int .i64 0]) (K := [_, _, _]) (rst := [_, _, _, _, _, _, _, _]) (own2 := [_, _, _, _, _, _, _, _, _, _, _]) [D_46] (.inl rfl) ⟨rfl, rfl, rfl, rfl⟩ rfl rfl (Za 8 rfl ZK) (Zf 8 rfl rfl S50 (Zf 4 rfl rfl S28 (Res.cell1 6 rfl rfl S75 rfl (Res.cell1 5 rfl rfl S33 rfl rfl)))) (Za 1 rfl (Za 1 rfl (Za 5 rfl ZK))) ?_))
        obtain rfl := Option.some.inj hx
        exact ⟨az_63, nz_63, cz_63, ar_64, nr_64, cr_64, Kr_64, ar_65, nr_65, cr_65, Kr_65, ar_66, nr_66, cr_66, Kr_66, rfl, rfl, hz_63, (Zd (Nat.zero_le _) hr_64), (Zx hr_64 hlt), (Zd (Nat.zero_le _) hr_65), (Zx hr_65 hlt), (Zd (Nat.zero_le _) hr_66), trivial⟩
      ·
       rintro D_46 c e o g hD_46 htt hX hle2
       rcases hX with ⟨rfl, t_38e0, rfl, H_58, rfl, rfl, hleH_58⟩
       subst htt; simp only [Sum.elim_inl, Sum.elim_inr] at hx
       refine ZV (Z4 (ZR (Zn (Zn (Zn (JN.outMP (vs := [.agg #[.slice none 0 0, .slice none 0 0, .slice none 0 0, .int .u32 ((0 : UInt32).toNat : Int), .int .u32 ((0 : UInt32).toNat : Int)], .agg #[.int .i64 0, .int .u32 ((0 : UInt32).toNat : Int), .int .u32 ((0 : UInt32).toNat : Int), .int .u32 ((0 : UInt32).toNat : Int), .int .u32 ((0 : UInt32).toNat : Int)], .slice none 0 0, .int .i64 t_38e0]) (K := [_, _, _]) (rst := [_, _, _, _]) (own2 := [_, _, _, _, _, _, _]) [D_46] (.inl rfl) ⟨rfl, rfl, rfl, rfl⟩ rfl rfl (Za 3 rfl ZK) (Zf 3 rfl rfl S50 (Zf 4 rfl rfl S28 (Res.cell1 5 rfl rfl S75 rfl (Res.cell1 6 rfl rfl S33 rfl rfl)))) (Za 0 rfl (Za 0 rfl (Za 0 rfl ZK))) ?_))))))
       obtain rfl := Option.some.inj hx
       exact ⟨none, 0, 0, none, 0, 0, [], none, 0, 0, [], none, 0, 0, [], rfl, rfl, (IsSlice.nil _ _ _), (Zb _ _ _ _ _), (fun p hp => by cases hp), (Zb _ _ _ _ _), (fun p hp => by cases hp), (Zb _ _ _ _ _), trivial⟩

set_option maxHeartbeats 8000000 in
theorem law16_alive_ok (H : Heaplet) (r : Bool) (hx : law16_alive = some r) :
  Does Try.prog 34 #[] [] H (fun u K' H' => u = .bool r ∧ K' = [] ∧ H = H' ∧ True) := by
 refine Does.enterL (vs := []) (l := []) Try.func34 rfl rfl trivial (fun w hlt => ?_)
 unfold law16_alive at hx
 refine ZG (ZB (ZA rfl rfl (ZH rfl) (ZD (ZC (ZG (ZB ?_))))))
 obtain ⟨x_1, hr_2, hx⟩ := ZM hx
 refine ZS (vs := [_, _]) (args := [_, _]) (K := []) (rst := []) E30 rfl rfl rfl ZK (law16_at_ok 20 (1 : UInt32) _ _ hr_2) rfl (fun u_3 Ku_3 Hu_3 hRu_3 hleu_3 hfu_3 => ?_)
 obtain ⟨rfl, rfl, rfl, -⟩ := hRu_3
 obtain ⟨x_4, hr_5, hx⟩ := ZM hx
 refine ZS (vs := [_, _]) (args := [_, _]) (K := []) (rst := []) E30 rfl rfl rfl ZK (law16_at_ok 30 (1 : UInt32) _ _ hr_5) rfl (fun u_6 Ku_6 Hu_6 hRu_6 hleu_6 hfu_6 => ?_)
 obtain ⟨rfl, rfl, rfl, -⟩ := hRu_6
 refine Zz (HF := (New H H)) (R := R_Ptr) (ls := [x_1, x_4]) (vs := [.agg #[.int .i64 x_1.At, .int .u32 (x_1.Birth.toNat : Int), .int .u32 (x_1.Iv.toNat : Int), .int .u32 (x_1.Tag.toNat : Int), .int .u32 (x_1.Sum.toNat : Int)], .agg #[.int .i64 x_4.At, .int .u32 (x_4.Birth.toNat : Int), .int .u32 (x_4.Iv.toNat : Int), .int .u32 (x_4.Tag.toNat : Int), .int .u32 (x_4.Sum.toNat : Int)]]) U53 I28 rfl rfl (⟨_, _, rfl, rfl, rfl, ⟨_, _, rfl, rfl, rfl, rfl⟩⟩) R_Ptr.one rfl rfl rfl (by simp [maxLen]) rfl (fun vr_7 Kr_7 hr_7 => ?_)
 obtain ⟨ar_7, cr_7, rfl⟩ := RowOf.val hr_7
 obtain ⟨x_8, hr_9, hx⟩ := ZM hx
 refine ZS (vs := [_, _]) (args := [_, _]) (K := []) (rst := [_]) E30 rfl rfl rfl ZK (law16_at_ok 25 (1 : UInt32) _ _ hr_9) rfl (fun u_10 Ku_10 Hu_10 hRu_10 hleu_10 hfu_10 => ?_)
 obtain ⟨rfl, rfl, rfl, -⟩ := hRu_10
 obtain ⟨x_14, hr_15, hx⟩ := ZM hx
 refine JL.callL3 (vs := [_, _]) E29 rfl rfl (fun H_13 hle_12 hl_11 => dead_Add_ok ([x_1, x_4]) x_8 _ (Lent.row' 0 hl_11 R_Ptr.mono hle_12 rfl (hr_7.old R_Ptr.mono)) _ hr_15) rfl (fun _ _ _ _ hR_17 hf_18 => ?_)
 obtain ⟨ar_16, nr_16, cr_16, Kr_16, rfl, rfl, rfl, hr_16, -, -⟩ := hR_17
 replace hr_16 := RowOf.base (Zc (H2 := New H H) R_Ptr.const hr_16) (fun p hp => hf_18 p (Zg 0 rfl hp))
 refine ZA rfl rfl (ZF rfl) (ZA rfl rfl (R.extract rfl rfl) (ZA rfl rfl (R.extract rfl rfl) (ZA rfl rfl (ZH rfl) (ZA rfl rfl (ZH rfl) (ZD (ZC (ZG ?_)))))))
 obtain ⟨t_19, ht_21, hx⟩ := ZM hx
 refine JC.cut (fun l o g => l = [(0, .bool t_19)] ∧ o = [] ∧ H = g) ?_ ?_
 ·
  rintro _ _ _ ⟨rfl, rfl, rfl⟩
  refine ZC (ZV (ZT (vs := [.bool t_19]) (K := []) (rst := []) (.inl rfl) rfl rfl (ZQ rfl rfl) ZK ?_))
  obtain rfl := Option.some.inj hx
  exact ⟨rfl, rfl, rfl, trivial⟩
 ·
  have hxo_20 := hx; clear hx; have hx := ht_21; clear ht_21
  refine ZB (ZA rfl rfl (ZF rfl) (ZA rfl rfl (Zy rfl rfl) (ZA rfl rfl (ZF rfl) (Zh (t := 13) rfl (fun c_22 => ?_) (fun c_22 => ?_)))))
  ·
   replace hx := ZW c_22 hx
   refine ZP rfl rfl rfl (ZA rfl rfl (ZF rfl) (ZP rfl rfl rfl (ZA rfl rfl (Zm U53 rfl (RowOf.long hr_16)) (ZP rfl rfl rfl (ZA rfl rfl (Zy rfl rfl) (ZA rfl rfl (Zj rfl rfl) (ZA rfl rfl (ZF rfl) (Zh (t := 18) rfl (fun c_23 => ?_) (fun c_23 => ?_)))))))))
   ·
    replace hx := ZW c_23 hx
    refine ZP rfl rfl rfl (ZA rfl rfl (ZF rfl) (ZP rfl rfl rfl ?_))
    obtain ⟨y_24, hN_25, hx⟩ := Zs hx
    obtain ⟨b_26, o_27, cs_28, cur_33, hK_34, hE_29, hR_30, hl_31, hc_32⟩ := RowOf.elem hr_16 hN_25
    subst hK_34
    obtain rfl := hR_30
    refine ZA rfl rfl (R.ix U53 S28 rfl rfl hE_29) (ZP rfl rfl rfl (ZA rfl rfl (R.fa F28_0 rfl) (ZP rfl rfl rfl (ZA rfl rfl (Zi 0 S3 rfl rfl (hc_32 0 _ rfl)) (ZP rfl rfl rfl (ZA rfl rfl (Zy rfl rfl) (ZA rfl rfl (Zj rfl rfl) (ZA rfl rfl (ZF rfl) (Zh (t := 25) rfl (fun c_35 => ?_) (fun c_35 => ?_))))))))))
    ·
     replace hx := ZW c_35 hx
     refine ZP rfl rfl rfl (ZA rfl rfl (ZF rfl) (ZP rfl rfl rfl ?_))
     obtain ⟨y_36, hN_37, hx⟩ := Zs hx
     obtain ⟨b_38, o_39, cs_40, cur_45, hK_46, hE_41, hR_42, hl_43, hc_44⟩ := RowOf.elem hr_16 hN_37
     obtain ⟨rfl, rfl⟩ : b_26 = b_38 ∧ cur_33 = cur_45 := by simpa using hK_46
     obtain rfl := hR_42
     refine ZA rfl rfl (R.ix U53 S28 rfl rfl hE_41) (ZP rfl rfl rfl (ZA rfl rfl (R.fa F28_0 rfl) (ZP rfl rfl rfl (ZA rfl rfl (Zi 0 S3 rfl rfl (hc_44 0 _ rfl)) (ZP rfl rfl rfl (ZA rfl rfl (Zy rfl rfl) (ZA rfl rfl (Zj rfl rfl) (ZA rfl rfl (ZF rfl) (Zh (t := 32) rfl (fun c_47 => ?_) (fun c_47 => ?_))))))))))
     ·
      replace hx := ZW c_47 hx
      refine ZP rfl rfl rfl (ZA rfl rfl (ZF rfl) (ZP rfl rfl rfl ?_))
      obtain ⟨y_48, hN_49, hx⟩ := Zs hx
      obtain ⟨b_50, o_51, cs_52, cur_57, hK_58, hE_53, hR_54, hl_55, hc_56⟩ := RowOf.elem hr_16 hN_49
      obtain ⟨rfl, rfl⟩ : b_26 = b_50 ∧ cur_33 = cur_57 := by simpa using hK_58
      obtain rfl := hR_54
      refine ZA rfl rfl (R.ix U53 S28 rfl rfl hE_53) (ZP rfl rfl rfl (ZA rfl rfl (R.fa F28_0 rfl) (ZP rfl rfl rfl (ZA rfl rfl (Zi 0 S3 rfl rfl (hc_56 0 _ rfl)) (ZP rfl rfl rfl (ZA rfl rfl (Zy rfl rfl) (ZA rfl rfl (Zj rfl rfl) (ZA rfl rfl (ZH rfl) (ZD ?_)))))))))
      obtain rfl := Option.some.inj hx
      refine JN.forget 1 (JN.forget 0 ?_)
      exact JN.cut ⟨rfl, rfl, rfl⟩ ⟨rfl, trivial⟩ rfl rfl
     ·
      replace hx := ZX c_47 hx
      refine ZE rfl rfl rfl rfl rfl (ZE rfl rfl rfl rfl rfl (ZE rfl rfl rfl rfl rfl (ZE rfl rfl rfl rfl rfl (ZE rfl rfl rfl rfl rfl (ZA rfl rfl (ZL rfl rfl) (ZA rfl rfl (ZH rfl) (ZD ?_)))))))
      obtain rfl := Option.some.inj hx
      refine JN.forget 1 (JN.forget 0 ?_)
      exact JN.cut ⟨rfl, rfl, rfl⟩ ⟨rfl, trivial⟩ rfl rfl
    ·
     replace hx := ZX c_35 hx
     refine ZE rfl rfl rfl rfl rfl (ZE rfl rfl rfl rfl rfl (ZE rfl rfl rfl rfl rfl (ZE rfl rfl rfl rfl rfl (ZE rfl rfl rfl rfl rfl (ZA rfl rfl (ZL rfl rfl) (ZA rfl rfl (ZF rfl) (ZE rfl rfl rfl rfl rfl (ZE rfl rfl rfl rfl rfl (ZE rfl rfl rfl rfl rfl (ZE rfl rfl rfl rfl rfl (ZE rfl rfl rfl rfl rfl ?_)))))))))))
     refine ZA rfl rfl (ZL rfl rfl) (ZA rfl rfl (ZH rfl) (ZD ?_))
     obtain rfl := Option.some.inj hx
     refine JN.forget 1 (JN.forget 0 ?_)
     exact JN.cut ⟨rfl, rfl, rfl⟩ ⟨rfl, trivial⟩ rfl rfl
   ·
    replace hx := ZX c_23 hx
    refine ZE rfl rfl rfl rfl rfl (ZE rfl rfl rfl rfl rfl (ZE rfl rfl rfl rfl rfl (ZE rfl rfl rfl rfl rfl (ZE rfl rfl rfl rfl rfl (ZA rfl rfl (ZL rfl rfl) (ZA rfl rfl (ZF rfl) (ZE rfl rfl rfl rfl rfl (ZE rfl rfl rfl rfl rfl (ZE rfl rfl rfl rfl rfl (ZE rfl rfl rfl rfl rfl (ZE rfl rfl rfl rfl rfl ?_)))))))))))
    refine ZA rfl rfl (ZL rfl rfl) (ZA rfl rfl (ZF rfl) (ZE rfl rfl rfl rfl rfl (ZE rfl rfl rfl rfl rfl (ZE rfl rfl rfl rfl rfl (ZE rfl rfl rfl rfl rfl (ZE rfl rfl rfl rfl rfl (ZA rfl rfl (ZL rfl rfl) (ZA rfl rfl (ZH rfl) (ZD ?_)))))))))
    obtain rfl := Option.some.inj hx
    refine JN.forget 1 (JN.forget 0 ?_)
    exact JN.cut ⟨rfl, rfl, rfl⟩ ⟨rfl, trivial⟩ rfl rfl
  ·
   replace hx := ZX c_22 hx
   refine ZE rfl rfl rfl rfl rfl (ZE rfl rfl rfl rfl rfl (ZE rfl rfl rfl rfl rfl (ZA rfl rfl (ZL rfl rfl) (ZA rfl rfl (ZF rfl) (ZE rfl rfl rfl rfl rfl (ZE rfl rfl rfl rfl rfl (ZE rfl rfl rfl rfl rfl (ZE rfl rfl rfl rfl rfl (ZE rfl rfl rfl rfl rfl (ZA rfl rfl (ZL rfl rfl) (ZA rfl rfl (ZF rfl) ?_)))))))))))
   refine ZE rfl rfl rfl rfl rfl (ZE rfl rfl rfl rfl rfl (ZE rfl rfl rfl rfl rfl (ZE rfl rfl rfl rfl rfl (ZE rfl rfl rfl rfl rfl (ZA rfl rfl (ZL rfl rfl) (ZA rfl rfl (ZF rfl) (ZE rfl rfl rfl rfl rfl (ZE rfl rfl rfl rfl rfl (ZE rfl rfl rfl rfl rfl (ZE rfl rfl rfl rfl rfl (ZE rfl rfl rfl rfl rfl ?_)))))))))))
   refine ZA rfl rfl (ZL rfl rfl) (ZA rfl rfl (ZH rfl) (ZD ?_))
   obtain rfl := Option.some.inj hx
   refine JN.forget 1 (JN.forget 0 ?_)
   exact JN.cut ⟨rfl, rfl, rfl⟩ ⟨rfl, trivial⟩ rfl rfl

set_option maxHeartbeats 8000000 in
theorem law16_DeadNames_v2_ok (H : Heaplet) (r : Bool) (hx : law16_DeadNames_v2 = some r) :
  Does Try.prog 9 #[] [] H (fun u K' H' => u = .bool r ∧ K' = [] ∧ True) := by
 refine Does.enterL (vs := []) (l := []) Try.func9 rfl rfl trivial (fun w hlt => ?_)
 unfold law16_DeadNames_v2 at hx
 refine ZG (ZB (ZA rfl rfl (ZH rfl) (ZD (ZC (ZG (ZB ?_))))))
 obtain ⟨x_1, hr_2, hx⟩ := ZM hx
 refine ZS (vs := [_, _]) (args := [_, _]) (K := []) (rst := []) E30 rfl rfl rfl ZK (law16_at_ok 20 (1 : UInt32) _ _ hr_2) rfl (fun u_3 Ku_3 Hu_3 hRu_3 hleu_3 hfu_3 => ?_)
 obtain ⟨rfl, rfl, rfl, -⟩ := hRu_3
 refine Zz (HF := (New H H)) (R := R_Ptr) (ls := [x_1]) (vs := [.agg #[.int .i64 x_1.At, .int .u32 (x_1.Birth.toNat : Int), .int .u32 (x_1.Iv.toNat : Int), .int .u32 (x_1.Tag.toNat : Int), .int .u32 (x_1.Sum.toNat : Int)]]) U53 I28 rfl rfl (⟨_, _, rfl, rfl, rfl, rfl⟩) R_Ptr.one rfl rfl rfl (by simp [maxLen]) rfl (fun vr_4 Kr_4 hr_4 => ?_)
 obtain ⟨ar_4, cr_4, rfl⟩ := RowOf.val hr_4
 obtain ⟨x_5, hr_6, hx⟩ := ZM hx
 refine ZS (vs := [_, _]) (args := [_, _]) (K := []) (rst := [_]) E30 rfl rfl rfl ZK (law16_at_ok 20 (2 : UInt32) _ _ hr_6) rfl (fun u_7 Ku_7 Hu_7 hRu_7 hleu_7 hfu_7 => ?_)
 obtain ⟨rfl, rfl, rfl, -⟩ := hRu_7
 obtain ⟨x_11, hr_12, hx⟩ := ZM hx
 refine JL.callL3 (vs := [_, _]) E29 rfl rfl (fun H_10 hle_9 hl_8 => dead_Add_ok ([x_1]) x_5 _ (Lent.row' 0 hl_8 R_Ptr.mono hle_9 rfl (hr_4.old R_Ptr.mono)) _ hr_12) rfl (fun _ _ _ _ hR_14 hf_15 => ?_)
 obtain ⟨ar_13, nr_13, cr_13, Kr_13, rfl, rfl, rfl, hr_13, -, -⟩ := hR_14
 replace hr_13 := RowOf.base (Zc (H2 := New H H) R_Ptr.const hr_13) (fun p hp => hf_15 p (Zg 0 rfl hp))
 refine ZA rfl rfl (ZF rfl) (ZA rfl rfl (R.extract rfl rfl) (ZA rfl rfl (R.extract rfl rfl) (ZA rfl rfl (ZH rfl) (ZA rfl rfl (ZH rfl) (ZD (ZC (ZG (ZB ?_))))))))
 obtain ⟨x_16, hr_17, hx⟩ := ZM hx
 refine ZS (vs := [_, _]) (args := [_, _]) (K := []) (rst := [_, _]) E30 rfl rfl rfl ZK (law16_at_ok 20 (1 : UInt32) _ _ hr_17) rfl (fun u_18 Ku_18 Hu_18 hRu_18 hleu_18 hfu_18 => ?_)
 obtain ⟨rfl, rfl, rfl, -⟩ := hRu_18
 obtain ⟨x_19, hr_20, hx⟩ := ZM hx
 refine ZS (vs := [_, _]) (args := [_, _]) (K := []) (rst := [_, _]) E30 rfl rfl rfl ZK (law16_at_ok 30 (5 : UInt32) _ _ hr_20) rfl (fun u_21 Ku_21 Hu_21 hRu_21 hleu_21 hfu_21 => ?_)
 obtain ⟨rfl, rfl, rfl, -⟩ := hRu_21
 refine Zz (HF := (New H H)) (R := R_Ptr) (ls := [x_16, x_19]) (vs := [.agg #[.int .i64 x_16.At, .int .u32 (x_16.Birth.toNat : Int), .int .u32 (x_16.Iv.toNat : Int), .int .u32 (x_16.Tag.toNat : Int), .int .u32 (x_16.Sum.toNat : Int)], .agg #[.int .i64 x_19.At, .int .u32 (x_19.Birth.toNat : Int), .int .u32 (x_19.Iv.toNat : Int), .int .u32 (x_19.Tag.toNat : Int), .int .u32 (x_19.Sum.toNat : Int)]]) U53 I28 rfl rfl (⟨_, _, rfl, rfl, rfl, ⟨_, _, rfl, rfl, rfl, rfl⟩⟩) R_Ptr.one rfl rfl rfl (by simp [maxLen]) rfl (fun vr_22 Kr_22 hr_22 => ?_)
 obtain ⟨ar_22, cr_22, rfl⟩ := RowOf.val hr_22
 obtain ⟨x_26, hr_27, hx⟩ := ZM hx
 refine JL.callL3 (vs := [_, _]) E31 rfl rfl (fun H_25 hle_24 hl_23 => dead_Split_ok ([x_16, x_19]) (1 : UInt32) _ (Lent.row' 0 hl_23 R_Ptr.mono hle_24 rfl (hr_22.old R_Ptr.mono)) _ hr_27) rfl (fun _ _ _ _ hR_30 hf_31 => ?_)
 obtain ⟨ar_28, nr_28, cr_28, Kr_28, ar_29, nr_29, cr_29, Kr_29, rfl, rfl, rfl, hr_28, -, hr_29, -, -⟩ := hR_30
 replace hr_28 := RowOf.base (Zc (H2 := New H H) R_Ptr.const hr_28) (fun p hp => hf_31 p (Zg 0 rfl hp))
 replace hr_29 := RowOf.base (Zc (H2 := New H H) R_Ptr.const hr_29) (fun p hp => hf_31 p (Zg 1 rfl hp))
 refine ZA rfl rfl (ZF rfl) (ZA rfl rfl (R.extract rfl rfl) (ZA rfl rfl (R.extract rfl rfl) (ZA rfl rfl (R.extract rfl rfl) (ZA rfl rfl (ZH rfl) (ZA rfl rfl (ZH rfl) (ZA rfl rfl (ZH rfl) (ZD (ZC (ZG (ZB ?_))))))))))
 obtain ⟨x_32, hr_33, hx⟩ := ZM hx
 refine ZS (vs := []) (args := []) (K := []) (rst := [_, _, _, _, _]) E33 rfl rfl rfl ZK (store_New_ok _ _ hr_33) rfl (fun u_34 Ku_34 Hu_34 hRu_34 hleu_34 hfu_34 => ?_)
 obtain ⟨ar_35, nr_35, cr_35, Kr_35, az_36, nz_36, ar_37, nr_37, cr_37, Kr_37, rfl, rfl, hr_35, hnewr_35, hz_36, hr_37, hnewr_37, -⟩ := hRu_34
 replace hr_35 := (Pcs.base hr_35 (fun p hp => (hfu_34 p (Zg 0 rfl hp)).resolve_left (hnewr_35 p hp)))
 replace hr_37 := (RowOf.base (Zc (H2 := New H Hu_34) RU8.const hr_37) (fun p hp => (hfu_34 p (Zg 1 rfl hp)).resolve_left (hnewr_37 p hp)))
 replace hz_36 := IsSlice.mono R_Write.mono (New.call (Hle.refl _)) hz_36
 refine JL.pubPcs 0  rfl hr_35 (Nat.le_refl _) (fun H_38 hleH_38 hsH_38 => JL.forget 0 (JL.pubN 0 RU8.mono rfl (hr_37.mono RU8.mono (New.mono hleH_38)) (Nat.le_refl _) (fun H_39 hleH_39 hsH_39 => JL.forget 0 ?_)))
 obtain ⟨x_40, hr_41, hx⟩ := ZM hx
 refine ZS (vs := [_, _, _]) (args := [_, _, _]) (K := []) (rst := [_, _, _, _, _]) E32 rfl rfl rfl ZK (dead_Lay_v2_ok x_32 (1 : UInt32) ([] : List Ptr) _ ((hsH_38.mono (RSl.mono RU8.mono) (New.mono hleH_39)).old (RSl.mono RU8.mono)) ((hz_36.mono R_Write.mono (New.mono (hleH_38.trans hleH_39))).old R_Write.mono) (hsH_39.old RU8.mono) (IsSlice.nil _ _ _) _ hr_41) rfl (fun u_42 Ku_42 Hu_42 hRu_42 hleu_42 hfu_42 => ?_)
 obtain ⟨az_43, nz_43, cz_43, ar_44, nr_44, cr_44, Kr_44, ar_45, nr_45, cr_45, Kr_45, ar_46, nr_46, cr_46, Kr_46, rfl, rfl, hz_43, hr_44, hnewr_44, hr_45, hnewr_45, hr_46, -⟩ := hRu_42
 replace hr_44 := (RowOf.base (RowOf.mono R_Write.mono (New.call (hleu_34.trans (hleH_38.trans hleH_39))) hr_44) (fun p hp => (hfu_42 p (Zg 0 rfl hp)).resolve_left (hnewr_44 p hp)))
 replace hr_45 := (RowOf.base (Zc (H2 := New H Hu_42) RU8.const hr_45) (fun p hp => (hfu_42 p (Zg 1 rfl hp)).resolve_left (hnewr_45 p hp)))
 replace hr_46 := (RowOf.up (Zc (H2 := New H Hu_42) RInt.const hr_46) (fun p hp => hfu_42 p (Zg 2 rfl hp)) ids_nil)
 replace hz_43 := IsSlice.mono (RSl.mono RU8.mono) (New.call (hleu_34.trans (hleH_38.trans hleH_39))) hz_43
 refine ZA rfl rfl (ZF rfl) (ZA rfl rfl (R.extract rfl rfl) (ZA rfl rfl (R.extract rfl rfl) (ZA rfl rfl (R.extract rfl rfl) (ZA rfl rfl (R.extract rfl rfl) (JL.alloc Z50 rfl (fun b_47 hb_47 => JL.alloc Z28 rfl (fun b_48 hb_48 => ZN 1 S50 rfl rfl rfl rfl rfl (Nat.le_of_ble_eq_true rfl) (ZN 0 S28 rfl rfl rfl rfl rfl (Nat.le_of_ble_eq_true rfl) (ZA rfl rfl (ZH rfl) (ZA rfl rfl (ZH rfl) (ZD ?_)))))))))))
 refine ZC (ZG (ZB (ZA rfl rfl (ZH rfl) (ZD (ZC (ZG (ZG (ZB (ZA rfl rfl (ZH rfl) (ZD (ZC ?_)))))))))))
 obtain ⟨t_49, ht_51, hx⟩ := ZM hx
 refine JC.cut (fun l o g => ∃ ar_56 : Option Addr, ∃ nr_56 : Nat, ∃ cr_56 : Nat, ∃ Kr_56 : Own, l = [(2, .int .i64 x_11.2), (3, .slice ar_28 nr_28 cr_28), (4, .slice ar_29 nr_29 cr_29), (5, .int .i64 x_26.2.2), (7, .pointer (some ⟨b_48, 0, none⟩)), (8, .slice ar_46 nr_46 cr_46), (9, .int .i64 x_40.2.2.2), (10, .slice ar_56 nr_56 cr_56)] ∧ o = [Kr_28, Kr_29, [(b_48, .cells #[.int .i64 x_40.2.1.At, .int .u32 (x_40.2.1.Birth.toNat : Int), .int .u32 (x_40.2.1.Iv.toNat : Int), .int .u32 (x_40.2.1.Tag.toNat : Int), .int .u32 (x_40.2.1.Sum.toNat : Int)] 28 (0, 0))], Kr_46, Kr_56] ∧ Hu_42 = g ∧ RowOf (New H Hu_42) R_Ptr w.heap.size 28 5 (.slice ar_56 nr_56 cr_56) t_49 Kr_56) ?_ ?_
 ·
  rintro _ _ _ ⟨ar_56, nr_56, cr_56, Kr_56, rfl, rfl, rfl, hr_56⟩
  refine ZC (ZG (ZB ?_))
  obtain ⟨x_57, hr_58, hx⟩ := ZM hx
  refine ZS (vs := []) (args := []) (K := []) (rst := [_, _, _, _, _]) E33 rfl rfl rfl ZK (store_New_ok _ _ hr_58) rfl (fun u_59 Ku_59 Hu_59 hRu_59 hleu_59 hfu_59 => ?_)
  obtain ⟨ar_60, nr_60, cr_60, Kr_60, az_61, nz_61, ar_62, nr_62, cr_62, Kr_62, rfl, rfl, hr_60, hnewr_60, hz_61, hr_62, hnewr_62, -⟩ := hRu_59
  replace hr_60 := (Pcs.base hr_60 (fun p hp => (hfu_59 p (Zg 0 rfl hp)).resolve_left (hnewr_60 p hp)))
  replace hr_62 := (RowOf.base (Zc (H2 := New H Hu_59) RU8.const hr_62) (fun p hp => (hfu_59 p (Zg 1 rfl hp)).resolve_left (hnewr_62 p hp)))
  replace hz_61 := IsSlice.mono R_Write.mono (New.call (hleu_34.trans (hleH_38.trans (hleH_39.trans hleu_42)))) hz_61
  refine ZA rfl rfl (ZF rfl) (JL.pubPcs 0  rfl hr_60 (Nat.le_refl _) (fun H_63 hleH_63 hsH_63 => JL.forget 0 (JL.pubN 0 RU8.mono rfl (hr_62.mono RU8.mono (New.mono hleH_63)) (Nat.le_refl _) (fun H_64 hleH_64 hsH_64 => JL.forget 0 (JL.pubN 4 R_Ptr.mono rfl (hr_56.mono R_Ptr.mono (New.mono (hleu_59.trans (hleH_63.trans hleH_64)))) (Nat.le_refl _) (fun H_65 hleH_65 hsH_65 => JL.forget 4 ?_))))))
  obtain ⟨x_66, hr_67, hx⟩ := ZM hx
  refine ZS (vs := [_, _, _]) (args := [_, _, _]) (K := []) (rst := [_, _, _, _]) E32 rfl rfl rfl ZK (dead_Lay_v2_ok x_57 (1 : UInt32) t_49 _ ((hsH_63.mono (RSl.mono RU8.mono) (New.mono (hleH_64.trans hleH_65))).old (RSl.mono RU8.mono)) ((hz_61.mono R_Write.mono (New.mono (hleH_63.trans (hleH_64.trans hleH_65)))).old R_Write.mono) ((hsH_64.mono RU8.mono (New.mono hleH_65)).old RU8.mono) (hsH_65.old R_Ptr.mono) _ hr_67) rfl (fun u_68 Ku_68 Hu_68 hRu_68 hleu_68 hfu_68 => ?_)
  obtain ⟨az_69, nz_69, cz_69, ar_70, nr_70, cr_70, Kr_70, ar_71, nr_71, cr_71, Kr_71, ar_72, nr_72, cr_72, Kr_72, rfl, rfl, hz_69, hr_70, hnewr_70, hr_71, hnewr_71, hr_72, -⟩ := hRu_68
  replace hr_70 := (RowOf.base (RowOf.mono R_Write.mono (New.call (hleu_34.trans (hleH_38.trans (hleH_39.trans (hleu_42.trans (hleu_59.trans (hleH_63.trans (hleH_64.trans hleH_65)))))))) hr_70) (fun p hp => (hfu_68 p (Zg 0 rfl hp)).resolve_left (hnewr_70 p hp)))
  replace hr_71 := (RowOf.base (Zc (H2 := New H Hu_68) RU8.const hr_71) (fun p hp => (hfu_68 p (Zg 1 rfl hp)).resolve_left (hnewr_71 p hp)))
  replace hr_72 := (RowOf.up (Zc (H2 := New H Hu_68) RInt.const hr_72) (fun p hp => hfu_68 p (Zg 2 rfl hp)) ids_nil)
  replace hz_69 := IsSlice.mono (RSl.mono RU8.mono) (New.call (hleu_34.trans (hleH_38.trans (hleH_39.trans (hleu_42.trans (hleu_59.trans (hleH_63.trans (hleH_64.trans hleH_65)))))))) hz_69
  refine ZA rfl rfl (ZF rfl) (ZA rfl rfl (R.extract rfl rfl) (ZA rfl rfl (R.extract rfl rfl) (ZA rfl rfl (R.extract rfl rfl) (ZA rfl rfl (R.extract rfl rfl) (JL.alloc Z50 rfl (fun b_73 hb_73 => JL.alloc Z28 rfl (fun b_74 hb_74 => ZN 1 S50 rfl rfl rfl rfl rfl (Nat.le_of_ble_eq_true rfl) (ZN 0 S28 rfl rfl rfl rfl rfl (Nat.le_of_ble_eq_true rfl) (ZA rfl rfl (ZH rfl) (ZA rfl rfl (ZH rfl) (ZD ?_)))))))))))
  refine ZC (ZG ?_)
  obtain ⟨t_75, ht_77, hx⟩ := ZM hx
  refine JC.cut (fun l o g => l = [(0, .bool t_75)] ∧ o = [] ∧ Hu_68 = g) ?_ ?_
  ·
   rintro _ _ _ ⟨rfl, rfl, rfl⟩
   refine ZC (ZV (ZT (vs := [.bool t_75]) (K := []) (rst := []) (.inl rfl) rfl rfl (ZQ rfl rfl) ZK ?_))
   obtain rfl := Option.some.inj hx
   exact ⟨rfl, rfl, trivial⟩
  ·
   have hxo_76 := hx; clear hx; have hx := ht_77; clear ht_77
   refine ZB (ZA rfl rfl (ZF rfl) (ZP rfl rfl rfl ?_))
   obtain ⟨x_78, hr_79, hx⟩ := ZM hx
   refine ZS (vs := []) (args := []) (K := []) (rst := [_, _, _, _, _, _, _, _, _]) E34 rfl rfl rfl ZK (law16_alive_ok _ _ hr_79) rfl (fun u_80 Ku_80 Hu_80 hRu_80 hleu_80 hfu_80 => ?_)
   obtain ⟨rfl, rfl, rfl, -⟩ := hRu_80
   refine ZA rfl rfl (Zj rfl rfl) (ZA rfl rfl (ZF rfl) (Zh (t := 59) rfl (fun c_81 => ?_) (fun c_81 => ?_)))
   ·
    replace hx := ZW c_81 hx
    refine ZP rfl rfl rfl (ZA rfl rfl (ZF rfl) (ZP rfl rfl rfl (ZA rfl rfl (Zy rfl rfl) (ZA rfl rfl (Zj rfl rfl) (ZA rfl rfl (ZF rfl) (Zh (t := 63) rfl (fun c_82 => ?_) (fun c_82 => ?_)))))))
    ·
     replace hx := ZW c_82 hx
     refine ZP rfl rfl rfl (ZA rfl rfl (ZF rfl) (ZP rfl rfl rfl (ZA rfl rfl (Zy rfl rfl) (ZA rfl rfl (Zj rfl rfl) (ZA rfl rfl (ZF rfl) (Zh (t := 67) rfl (fun c_83 => ?_) (fun c_83 => ?_)))))))
     ·
      replace hx := ZW c_83 hx
      refine ZP rfl rfl rfl (ZA rfl rfl (ZF rfl) (ZP rfl rfl rfl (ZA rfl rfl (Zm U53 rfl (RowOf.long hr_28)) (ZP rfl rfl rfl (ZA rfl rfl (Zy rfl rfl) (ZA rfl rfl (Zj rfl rfl) (ZA rfl rfl (ZF rfl) (Zh (t := 72) rfl (fun c_84 => ?_) (fun c_84 => ?_)))))))))
      ·
       replace hx := ZW c_84 hx
       refine ZP rfl rfl rfl (ZA rfl rfl (ZF rfl) (ZP rfl rfl rfl (ZA rfl rfl (Zm U53 rfl (RowOf.long hr_29)) (ZP rfl rfl rfl (ZA rfl rfl (Zy rfl rfl) (ZA rfl rfl (Zj rfl rfl) (ZA rfl rfl (ZF rfl) (Zh (t := 77) rfl (fun c_85 => ?_) (fun c_85 => ?_)))))))))
       ·
        replace hx := ZW c_85 hx
        refine ZP rfl rfl rfl (ZA rfl rfl (ZF rfl) (ZP rfl rfl rfl ?_))
        obtain ⟨y_86, hN_87, hx⟩ := Zs hx
        obtain ⟨b_88, o_89, cs_90, cur_95, hK_96, hE_91, hR_92, hl_93, hc_94⟩ := RowOf.elem (hr_28.mono R_Ptr.mono (New.mono (hleu_34.trans (hleH_38.trans (hleH_39.trans (hleu_42.trans (hleu_59.trans (hleH_63.trans (hleH_64.trans (hleH_65.trans hleu_68)))))))))) hN_87
        subst hK_96
        obtain rfl := hR_92
        refine ZA rfl rfl (R.ix U53 S28 rfl rfl hE_91) (ZP rfl rfl rfl (ZA rfl rfl (R.fa F28_0 rfl) (ZP rfl rfl rfl (ZA rfl rfl (Zi 5 S3 rfl rfl (hc_94 0 _ rfl)) (ZP rfl rfl rfl (ZA rfl rfl (Zy rfl rfl) (ZA rfl rfl (Zj rfl rfl) (ZA rfl rfl (ZF rfl) (Zh (t := 84) rfl (fun c_97 => ?_) (fun c_97 => ?_))))))))))
        ·
         replace hx := ZW c_97 hx
         refine ZP rfl rfl rfl (ZA rfl rfl (ZF rfl) (ZP rfl rfl rfl ?_))
         obtain ⟨y_98, hN_99, hx⟩ := Zs hx
         obtain ⟨b_100, o_101, cs_102, cur_107, hK_108, hE_103, hR_104, hl_105, hc_106⟩ := RowOf.elem (hr_29.mono R_Ptr.mono (New.mono (hleu_34.trans (hleH_38.trans (hleH_39.trans (hleu_42.trans (hleu_59.trans (hleH_63.trans (hleH_64.trans (hleH_65.trans hleu_68)))))))))) hN_99
         subst hK_108
         obtain rfl := hR_104
         refine ZA rfl rfl (R.ix U53 S28 rfl rfl hE_103) (ZP rfl rfl rfl (ZA rfl rfl (R.fa F28_0 rfl) (ZP rfl rfl rfl (ZA rfl rfl (Zi 6 S3 rfl rfl (hc_106 0 _ rfl)) (ZP rfl rfl rfl (ZA rfl rfl (Zy rfl rfl) (ZA rfl rfl (Zj rfl rfl) (ZA rfl rfl (ZF rfl) (Zh (t := 91) rfl (fun c_109 => ?_) (fun c_109 => ?_))))))))))
         ·
          replace hx := ZW c_109 hx
          refine ZP rfl rfl rfl (ZA rfl rfl (ZF rfl) (ZP rfl rfl rfl (ZA rfl rfl (Zy rfl rfl) (ZA rfl rfl (Zj rfl rfl) (ZA rfl rfl (ZF rfl) (Zh (t := 95) rfl (fun c_110 => ?_) (fun c_110 => ?_)))))))
          ·
           replace hx := ZW c_110 hx
           refine ZP rfl rfl rfl (ZA rfl rfl (Z1 7 (vs := [.int .i64 x_40.2.1.At, .int .u32 (x_40.2.1.Birth.toNat : Int), .int .u32 (x_40.2.1.Iv.toNat : Int), .int .u32 (x_40.2.1.Tag.toNat : Int), .int .u32 (x_40.2.1.Sum.toNat : Int)]) S28 rfl rfl rfl rfl) (ZP rfl rfl rfl (ZA rfl rfl (R.bldP (vs := []) (cs := [.int .i64 0, .int .u32 ((0 : UInt32).toNat : Int), .int .u32 ((0 : UInt32).toNat : Int), .int .u32 ((0 : UInt32).toNat : Int), .int .u32 ((0 : UInt32).toNat : Int)]) Z28 B28 rfl rfl rfl) (ZP rfl rfl rfl (ZA rfl rfl (R.eqlAgg QU28 QP28 QG28 QF28 rfl rfl (EqF.i (by decide) S3 U3 rfl rfl (EqF.u32 (a := x_40.2.1.Birth) (b := (0 : UInt32)) (by decide) S26 U26 rfl rfl (EqF.u32 (a := x_40.2.1.Iv) (b := (0 : UInt32)) (by decide) S26 U26 rfl rfl (EqF.u32 (a := x_40.2.1.Tag) (b := (0 : UInt32)) (by decide) S26 U26 rfl rfl (EqF.u32 (a := x_40.2.1.Sum) (b := (0 : UInt32)) (by decide) S26 U26 rfl rfl EqF.nil)))))) (ZA rfl rfl (Zj rfl rfl) (ZA rfl rfl (ZF rfl) (Zh (t := 100) rfl (fun c_111 => ?_) (fun c_111 => ?_)))))))))
           ·
            replace hx := ZW c_111 hx
            refine ZP rfl rfl rfl (ZA rfl rfl (ZF rfl) (ZP rfl rfl rfl (ZA rfl rfl (Zm U75 rfl (RowOf.long hr_46)) (ZP rfl rfl rfl (ZA rfl rfl (Zy rfl rfl) (ZA rfl rfl (Zj rfl rfl) (ZA rfl rfl (ZF rfl) (Zh (t := 105) rfl (fun c_112 => ?_) (fun c_112 => ?_)))))))))
            ·
             replace hx := ZW c_112 hx
             refine ZP rfl rfl rfl (ZA rfl rfl (ZF rfl) (ZP rfl rfl rfl (ZA rfl rfl (Zy rfl rfl) (ZA rfl rfl (Zj rfl rfl) (ZA rfl rfl (ZF rfl) (Zh (t := 109) rfl (fun c_113 => ?_) (fun c_113 => ?_)))))))
             ·
              replace hx := ZW c_113 hx
              refine ZP rfl rfl rfl (ZA rfl rfl (R.fa F28_0 rfl) (ZP rfl rfl rfl (ZA rfl rfl (Zi 0 S3 rfl rfl rfl) (ZP rfl rfl rfl (ZA rfl rfl (Zy rfl rfl) (ZA rfl rfl (Zj rfl rfl) (ZA rfl rfl (ZF rfl) (Zh (t := 114) rfl (fun c_114 => ?_) (fun c_114 => ?_)))))))))
              ·
               replace hx := ZW c_114 hx
               refine ZP rfl rfl rfl (ZA rfl rfl (ZF rfl) (ZP rfl rfl rfl (ZA rfl rfl (Zm U75 rfl (RowOf.long hr_72)) (ZP rfl rfl rfl (ZA rfl rfl (Zy rfl rfl) (ZA rfl rfl (Zj rfl rfl) (ZA rfl rfl (ZF rfl) (Zh (t := 119) rfl (fun c_115 => ?_) (fun c_115 => ?_)))))))))
               ·
                replace hx := ZW c_115 hx
                refine ZP rfl rfl rfl (ZA rfl rfl (ZF rfl) (ZP rfl rfl rfl ?_))
                obtain ⟨y_116, hN_117, hx⟩ := Zs hx
                obtain ⟨b_118, o_119, cs_120, cur_125, hK_126, hE_121, hR_122, hl_123, hc_124⟩ := RowOf.elem hr_72 hN_117
                subst hK_126
                obtain rfl := hR_122
                refine ZA rfl rfl (R.ix U75 S3 rfl rfl hE_121) (ZP rfl rfl rfl (ZA rfl rfl (Zi 4 S3 rfl rfl (hc_124 0 _ rfl)) (ZP rfl rfl rfl (ZA rfl rfl (Zy rfl rfl) (ZA rfl rfl (Zj rfl rfl) (ZA rfl rfl (ZF rfl) (Zh (t := 125) rfl (fun c_127 => ?_) (fun c_127 => ?_))))))))
                ·
                 replace hx := ZW c_127 hx
                 refine ZP rfl rfl rfl (ZA rfl rfl (ZF rfl) (ZP rfl rfl rfl ?_))
                 obtain ⟨y_128, hN_129, hx⟩ := Zs hx
                 obtain ⟨b_130, o_131, cs_132, cur_137, hK_138, hE_133, hR_134, hl_135, hc_136⟩ := RowOf.elem hr_72 hN_129
                 obtain ⟨rfl, rfl⟩ : b_118 = b_130 ∧ cur_125 = cur_137 := by simpa using hK_138
                 obtain rfl := hR_134
                 refine ZA rfl rfl (R.ix U75 S3 rfl rfl hE_133) (ZP rfl rfl rfl (ZA rfl rfl (Zi 4 S3 rfl rfl (hc_136 0 _ rfl)) (ZP rfl rfl rfl (ZA rfl rfl (Zy rfl rfl) (ZA rfl rfl (Zj rfl rfl) (ZA rfl rfl (ZF rfl) (Zh (t := 131) rfl (fun c_139 => ?_) (fun c_139 => ?_))))))))
                 ·
                  replace hx := ZW c_139 hx
                  refine ZP rfl rfl rfl (ZA rfl rfl (ZF rfl) (ZP rfl rfl rfl ?_))
                  obtain ⟨y_140, hN_141, hx⟩ := Zs hx
                  obtain ⟨b_142, o_143, cs_144, cur_149, hK_150, hE_145, hR_146, hl_147, hc_148⟩ := RowOf.elem hr_72 hN_141
                  obtain ⟨rfl, rfl⟩ : b_118 = b_142 ∧ cur_125 = cur_149 := by simpa using hK_150
                  obtain rfl := hR_146
                  refine ZA rfl rfl (R.ix U75 S3 rfl rfl hE_145) (ZP rfl rfl rfl (ZA rfl rfl (Zi 4 S3 rfl rfl (hc_148 0 _ rfl)) (ZP rfl rfl rfl (ZA rfl rfl (Zy rfl rfl) (ZA rfl rfl (Zj rfl rfl) (ZA rfl rfl (ZF rfl) (Zh (t := 137) rfl (fun c_151 => ?_) (fun c_151 => ?_))))))))
                  ·
                   replace hx := ZW c_151 hx
                   refine ZP rfl rfl rfl (ZA rfl rfl (R.bldP (vs := []) (cs := [.int .i64 0, .int .u32 ((0 : UInt32).toNat : Int), .int .u32 ((0 : UInt32).toNat : Int), .int .u32 ((0 : UInt32).toNat : Int), .int .u32 ((0 : UInt32).toNat : Int)]) Z28 B28 rfl rfl rfl) (ZP rfl rfl rfl (Zz (HF := (New H Hu_68)) (R := R_Ptr) (ls := [Ptr.mk 0 (0 : UInt32) (0 : UInt32) (0 : UInt32) (0 : UInt32)]) (vs := [.agg #[.int .i64 0, .int .u32 ((0 : UInt32).toNat : Int), .int .u32 ((0 : UInt32).toNat : Int), .int .u32 ((0 : UInt32).toNat : Int), .int .u32 ((0 : UInt32).toNat : Int)]]) U53 I28 rfl rfl (⟨_, _, rfl, rfl, rfl, rfl⟩) R_Ptr.one rfl rfl rfl (by simp [maxLen]) rfl (fun vr_152 Kr_152 hr_152 => ?_))))
                   obtain ⟨ar_152, cr_152, rfl⟩ := RowOf.val hr_152
                   refine ZP rfl rfl rfl ?_
                   obtain ⟨x_156, hr_157, hx⟩ := ZM hx
                   refine JL.callL2 (vs := [_]) (v := .int .i64 x_156) E35 rfl rfl (fun H_155 hle_154 hl_153 => Does.mono (dead_Check_ok ([Ptr.mk 0 (0 : UInt32) (0 : UInt32) (0 : UInt32) (0 : UInt32)]) _ (Lent.row' 0 hl_153 R_Ptr.mono hle_154 rfl (hr_152.old R_Ptr.mono)) _ hr_157) (fun _ _ _ h => h.1)) rfl (ZP rfl rfl rfl (ZA rfl rfl (Zy rfl rfl) (ZA rfl rfl (Zj rfl rfl) (ZA rfl rfl (ZH rfl) (ZD ?_)))))
                   obtain rfl := Option.some.inj hx
                   refine JN.forget 9 (JN.forget 8 (JN.forget 7 (JN.forget 6 (JN.forget 5 (JN.forget 4 (JN.forget 3 (JN.forget 2 (JN.forget 1 (JN.forget 0 ?_)))))))))
                   exact JN.cut ⟨rfl, rfl, rfl⟩ ⟨rfl, trivial⟩ rfl rfl
                  ·
                   replace hx := ZX c_151 hx
                   refine ZE rfl rfl rfl rfl rfl (ZE rfl rfl rfl rfl rfl (ZE rfl rfl rfl rfl rfl (ZE rfl rfl rfl rfl rfl (ZA rfl rfl (ZL rfl rfl) (ZA rfl rfl (ZH rfl) (ZD ?_))))))
                   obtain rfl := Option.some.inj hx
                   refine JN.forget 8 (JN.forget 7 (JN.forget 6 (JN.forget 5 (JN.forget 4 (JN.forget 3 (JN.forget 2 (JN.forget 1 (JN.forget 0 ?_))))))))
                   exact JN.cut ⟨rfl, rfl, rfl⟩ ⟨rfl, trivial⟩ rfl rfl
                 ·
                  replace hx := ZX c_139 hx
                  refine ZE rfl rfl rfl rfl rfl (ZE rfl rfl rfl rfl rfl (ZE rfl rfl rfl rfl rfl (ZE rfl rfl rfl rfl rfl (ZA rfl rfl (ZL rfl rfl) (ZA rfl rfl (ZF rfl) (ZE rfl rfl rfl rfl rfl (ZE rfl rfl rfl rfl rfl (ZE rfl rfl rfl rfl rfl (ZE rfl rfl rfl rfl rfl (ZA rfl rfl (ZL rfl rfl) (ZA rfl rfl (ZH rfl) ?_)))))))))))
                  refine ZD ?_
                  obtain rfl := Option.some.inj hx
                  refine JN.forget 8 (JN.forget 7 (JN.forget 6 (JN.forget 5 (JN.forget 4 (JN.forget 3 (JN.forget 2 (JN.forget 1 (JN.forget 0 ?_))))))))
                  exact JN.cut ⟨rfl, rfl, rfl⟩ ⟨rfl, trivial⟩ rfl rfl
                ·
                 replace hx := ZX c_127 hx
                 refine ZE rfl rfl rfl rfl rfl (ZE rfl rfl rfl rfl rfl (ZE rfl rfl rfl rfl rfl (ZE rfl rfl rfl rfl rfl (ZA rfl rfl (ZL rfl rfl) (ZA rfl rfl (ZF rfl) (ZE rfl rfl rfl rfl rfl (ZE rfl rfl rfl rfl rfl (ZE rfl rfl rfl rfl rfl (ZE rfl rfl rfl rfl rfl (ZA rfl rfl (ZL rfl rfl) (ZA rfl rfl (ZF rfl) ?_)))))))))))
                 refine ZE rfl rfl rfl rfl rfl (ZE rfl rfl rfl rfl rfl (ZE rfl rfl rfl rfl rfl (ZE rfl rfl rfl rfl rfl (ZA rfl rfl (ZL rfl rfl) (ZA rfl rfl (ZH rfl) (ZD ?_))))))
                 obtain rfl := Option.some.inj hx
                 refine JN.forget 8 (JN.forget 7 (JN.forget 6 (JN.forget 5 (JN.forget 4 (JN.forget 3 (JN.forget 2 (JN.forget 1 (JN.forget 0 ?_))))))))
                 exact JN.cut ⟨rfl, rfl, rfl⟩ ⟨rfl, trivial⟩ rfl rfl
               ·
                replace hx := ZX c_115 hx
                refine ZE rfl rfl rfl rfl rfl (ZE rfl rfl rfl rfl rfl (ZE rfl rfl rfl rfl rfl (ZE rfl rfl rfl rfl rfl (ZA rfl rfl (ZL rfl rfl) (ZA rfl rfl (ZF rfl) (ZE rfl rfl rfl rfl rfl (ZE rfl rfl rfl rfl rfl (ZE rfl rfl rfl rfl rfl (ZE rfl rfl rfl rfl rfl (ZA rfl rfl (ZL rfl rfl) (ZA rfl rfl (ZF rfl) ?_)))))))))))
                refine ZE rfl rfl rfl rfl rfl (ZE rfl rfl rfl rfl rfl (ZE rfl rfl rfl rfl rfl (ZE rfl rfl rfl rfl rfl (ZA rfl rfl (ZL rfl rfl) (ZA rfl rfl (ZF rfl) (ZE rfl rfl rfl rfl rfl (ZE rfl rfl rfl rfl rfl (ZE rfl rfl rfl rfl rfl (ZE rfl rfl rfl rfl rfl (ZA rfl rfl (ZL rfl rfl) (ZA rfl rfl (ZH rfl) ?_)))))))))))
                refine ZD ?_
                obtain rfl := Option.some.inj hx
                refine JN.forget 8 (JN.forget 7 (JN.forget 6 (JN.forget 5 (JN.forget 4 (JN.forget 3 (JN.forget 2 (JN.forget 1 (JN.forget 0 ?_))))))))
                exact JN.cut ⟨rfl, rfl, rfl⟩ ⟨rfl, trivial⟩ rfl rfl
              ·
               replace hx := ZX c_114 hx
               refine ZE rfl rfl rfl rfl rfl (ZE rfl rfl rfl rfl rfl (ZE rfl rfl rfl rfl rfl (ZA rfl rfl (ZL rfl rfl) (ZA rfl rfl (ZF rfl) (ZE rfl rfl rfl rfl rfl (ZE rfl rfl rfl rfl rfl (ZE rfl rfl rfl rfl rfl (ZE rfl rfl rfl rfl rfl (ZA rfl rfl (ZL rfl rfl) (ZA rfl rfl (ZF rfl) (ZE rfl rfl rfl rfl rfl ?_)))))))))))
               refine ZE rfl rfl rfl rfl rfl (ZE rfl rfl rfl rfl rfl (ZE rfl rfl rfl rfl rfl (ZA rfl rfl (ZL rfl rfl) (ZA rfl rfl (ZF rfl) (ZE rfl rfl rfl rfl rfl (ZE rfl rfl rfl rfl rfl (ZE rfl rfl rfl rfl rfl (ZE rfl rfl rfl rfl rfl (ZA rfl rfl (ZL rfl rfl) (ZA rfl rfl (ZF rfl) (ZE rfl rfl rfl rfl rfl ?_)))))))))))
               refine ZE rfl rfl rfl rfl rfl (ZE rfl rfl rfl rfl rfl (ZE rfl rfl rfl rfl rfl (ZA rfl rfl (ZL rfl rfl) (ZA rfl rfl (ZH rfl) (ZD ?_)))))
               obtain rfl := Option.some.inj hx
               refine JN.forget 8 (JN.forget 7 (JN.forget 6 (JN.forget 5 (JN.forget 4 (JN.forget 3 (JN.forget 2 (JN.forget 1 (JN.forget 0 ?_))))))))
               exact JN.cut ⟨rfl, rfl, rfl⟩ ⟨rfl, trivial⟩ rfl rfl
             ·
              replace hx := ZX c_113 hx
              refine ZE rfl rfl rfl rfl rfl (ZE rfl rfl rfl rfl rfl (ZE rfl rfl rfl rfl rfl (ZA rfl rfl (ZL rfl rfl) (ZA rfl rfl (ZF rfl) (ZE rfl rfl rfl rfl rfl (ZE rfl rfl rfl rfl rfl (ZE rfl rfl rfl rfl rfl (ZA rfl rfl (ZL rfl rfl) (ZA rfl rfl (ZF rfl) (ZE rfl rfl rfl rfl rfl (ZE rfl rfl rfl rfl rfl ?_)))))))))))
              refine ZE rfl rfl rfl rfl rfl (ZE rfl rfl rfl rfl rfl (ZA rfl rfl (ZL rfl rfl) (ZA rfl rfl (ZF rfl) (ZE rfl rfl rfl rfl rfl (ZE rfl rfl rfl rfl rfl (ZE rfl rfl rfl rfl rfl (ZE rfl rfl rfl rfl rfl (ZA rfl rfl (ZL rfl rfl) (ZA rfl rfl (ZF rfl) (ZE rfl rfl rfl rfl rfl (ZE rfl rfl rfl rfl rfl ?_)))))))))))
              refine ZE rfl rfl rfl rfl rfl (ZE rfl rfl rfl rfl rfl (ZA rfl rfl (ZL rfl rfl) (ZA rfl rfl (ZF rfl) (ZE rfl rfl rfl rfl rfl (ZE rfl rfl rfl rfl rfl (ZE rfl rfl rfl rfl rfl (ZE rfl rfl rfl rfl rfl (ZA rfl rfl (ZL rfl rfl) (ZA rfl rfl (ZH rfl) (ZD ?_))))))))))
              obtain rfl := Option.some.inj hx
              refine JN.forget 8 (JN.forget 7 (JN.forget 6 (JN.forget 5 (JN.forget 4 (JN.forget 3 (JN.forget 2 (JN.forget 1 (JN.forget 0 ?_))))))))
              exact JN.cut ⟨rfl, rfl, rfl⟩ ⟨rfl, trivial⟩ rfl rfl
            ·
             replace hx := ZX c_112 hx
             refine ZE rfl rfl rfl rfl rfl (ZE rfl rfl rfl rfl rfl (ZA rfl rfl (ZL rfl rfl) (ZA rfl rfl (ZF rfl) (ZE rfl rfl rfl rfl rfl (ZE rfl rfl rfl rfl rfl (ZE rfl rfl rfl rfl rfl (ZA rfl rfl (ZL rfl rfl) (ZA rfl rfl (ZF rfl) (ZE rfl rfl rfl rfl rfl (ZE rfl rfl rfl rfl rfl (ZE rfl rfl rfl rfl rfl ?_)))))))))))
             refine ZA rfl rfl (ZL rfl rfl) (ZA rfl rfl (ZF rfl) (ZE rfl rfl rfl rfl rfl (ZE rfl rfl rfl rfl rfl (ZE rfl rfl rfl rfl rfl (ZE rfl rfl rfl rfl rfl (ZA rfl rfl (ZL rfl rfl) (ZA rfl rfl (ZF rfl) (ZE rfl rfl rfl rfl rfl (ZE rfl rfl rfl rfl rfl (ZE rfl rfl rfl rfl rfl (ZE rfl rfl rfl rfl rfl ?_)))))))))))
             refine ZA rfl rfl (ZL rfl rfl) (ZA rfl rfl (ZF rfl) (ZE rfl rfl rfl rfl rfl (ZE rfl rfl rfl rfl rfl (ZE rfl rfl rfl rfl rfl (ZE rfl rfl rfl rfl rfl (ZA rfl rfl (ZL rfl rfl) (ZA rfl rfl (ZF rfl) (ZE rfl rfl rfl rfl rfl (ZE rfl rfl rfl rfl rfl (ZE rfl rfl rfl rfl rfl (ZE rfl rfl rfl rfl rfl ?_)))))))))))
             refine ZA rfl rfl (ZL rfl rfl) (ZA rfl rfl (ZH rfl) (ZD ?_))
             obtain rfl := Option.some.inj hx
             refine JN.forget 8 (JN.forget 7 (JN.forget 6 (JN.forget 5 (JN.forget 4 (JN.forget 3 (JN.forget 2 (JN.forget 1 (JN.forget 0 ?_))))))))
             exact JN.cut ⟨rfl, rfl, rfl⟩ ⟨rfl, trivial⟩ rfl rfl
           ·
            replace hx := ZX c_111 hx
            refine ZE rfl rfl rfl rfl rfl (ZE rfl rfl rfl rfl rfl (ZE rfl rfl rfl rfl rfl (ZA rfl rfl (ZL rfl rfl) (ZA rfl rfl (ZF rfl) (ZE rfl rfl rfl rfl rfl (ZE rfl rfl rfl rfl rfl (ZA rfl rfl (ZL rfl rfl) (ZA rfl rfl (ZF rfl) (ZE rfl rfl rfl rfl rfl (ZE rfl rfl rfl rfl rfl (ZE rfl rfl rfl rfl rfl ?_)))))))))))
            refine ZA rfl rfl (ZL rfl rfl) (ZA rfl rfl (ZF rfl) (ZE rfl rfl rfl rfl rfl (ZE rfl rfl rfl rfl rfl (ZE rfl rfl rfl rfl rfl (ZA rfl rfl (ZL rfl rfl) (ZA rfl rfl (ZF rfl) (ZE rfl rfl rfl rfl rfl (ZE rfl rfl rfl rfl rfl (ZE rfl rfl rfl rfl rfl (ZE rfl rfl rfl rfl rfl (ZA rfl rfl (ZL rfl rfl) ?_)))))))))))
            refine ZA rfl rfl (ZF rfl) (ZE rfl rfl rfl rfl rfl (ZE rfl rfl rfl rfl rfl (ZE rfl rfl rfl rfl rfl (ZE rfl rfl rfl rfl rfl (ZA rfl rfl (ZL rfl rfl) (ZA rfl rfl (ZF rfl) (ZE rfl rfl rfl rfl rfl (ZE rfl rfl rfl rfl rfl (ZE rfl rfl rfl rfl rfl (ZE rfl rfl rfl rfl rfl (ZA rfl rfl (ZL rfl rfl) ?_)))))))))))
            refine ZA rfl rfl (ZF rfl) (ZE rfl rfl rfl rfl rfl (ZE rfl rfl rfl rfl rfl (ZE rfl rfl rfl rfl rfl (ZE rfl rfl rfl rfl rfl (ZA rfl rfl (ZL rfl rfl) (ZA rfl rfl (ZH rfl) (ZD ?_)))))))
            obtain rfl := Option.some.inj hx
            refine JN.forget 8 (JN.forget 7 (JN.forget 6 (JN.forget 5 (JN.forget 4 (JN.forget 3 (JN.forget 2 (JN.forget 1 (JN.forget 0 ?_))))))))
            exact JN.cut ⟨rfl, rfl, rfl⟩ ⟨rfl, trivial⟩ rfl rfl
          ·
           replace hx := ZX c_110 hx
           refine ZE rfl rfl rfl rfl rfl (ZE rfl rfl rfl rfl rfl (ZE rfl rfl rfl rfl rfl (ZA rfl rfl (ZL rfl rfl) (ZA rfl rfl (ZF rfl) (ZE rfl rfl rfl rfl rfl (ZE rfl rfl rfl rfl rfl (ZE rfl rfl rfl rfl rfl (ZA rfl rfl (ZL rfl rfl) (ZA rfl rfl (ZF rfl) (ZE rfl rfl rfl rfl rfl (ZE rfl rfl rfl rfl rfl ?_)))))))))))
           refine ZA rfl rfl (ZL rfl rfl) (ZA rfl rfl (ZF rfl) (ZE rfl rfl rfl rfl rfl (ZE rfl rfl rfl rfl rfl (ZE rfl rfl rfl rfl rfl (ZA rfl rfl (ZL rfl rfl) (ZA rfl rfl (ZF rfl) (ZE rfl rfl rfl rfl rfl (ZE rfl rfl rfl rfl rfl (ZE rfl rfl rfl rfl rfl (ZA rfl rfl (ZL rfl rfl) (ZA rfl rfl (ZF rfl) ?_)))))))))))
           refine ZE rfl rfl rfl rfl rfl (ZE rfl rfl rfl rfl rfl (ZE rfl rfl rfl rfl rfl (ZE rfl rfl rfl rfl rfl (ZA rfl rfl (ZL rfl rfl) (ZA rfl rfl (ZF rfl) (ZE rfl rfl rfl rfl rfl (ZE rfl rfl rfl rfl rfl (ZE rfl rfl rfl rfl rfl (ZE rfl rfl rfl rfl rfl (ZA rfl rfl (ZL rfl rfl) (ZA rfl rfl (ZF rfl) ?_)))))))))))
           refine ZE rfl rfl rfl rfl rfl (ZE rfl rfl rfl rfl rfl (ZE rfl rfl rfl rfl rfl (ZE rfl rfl rfl rfl rfl (ZA rfl rfl (ZL rfl rfl) (ZA rfl rfl (ZF rfl) (ZE rfl rfl rfl rfl rfl (ZE rfl rfl rfl rfl rfl (ZE rfl rfl rfl rfl rfl (ZE rfl rfl rfl rfl rfl (ZA rfl rfl (ZL rfl rfl) (ZA rfl rfl (ZH rfl) ?_)))))))))))
           refine ZD ?_
           obtain rfl := Option.some.inj hx
           refine JN.forget 8 (JN.forget 7 (JN.forget 6 (JN.forget 5 (JN.forget 4 (JN.forget 3 (JN.forget 2 (JN.forget 1 (JN.forget 0 ?_))))))))
           exact JN.cut ⟨rfl, rfl, rfl⟩ ⟨rfl, trivial⟩ rfl rfl
         ·
          replace hx := ZX c_109 hx
          refine ZE rfl rfl rfl rfl rfl (ZE rfl rfl rfl rfl rfl (ZA rfl rfl (ZL rfl rfl) (ZA rfl rfl (ZF rfl) (ZE rfl rfl rfl rfl rfl (ZE rfl rfl rfl rfl rfl (ZE rfl rfl rfl rfl rfl (ZA rfl rfl (ZL rfl rfl) (ZA rfl rfl (ZF rfl) (ZE rfl rfl rfl rfl rfl (ZE rfl rfl rfl rfl rfl (ZE rfl rfl rfl rfl rfl ?_)))))))))))
          refine ZA rfl rfl (ZL rfl rfl) (ZA rfl rfl (ZF rfl) (ZE rfl rfl rfl rfl rfl (ZE rfl rfl rfl rfl rfl (ZA rfl rfl (ZL rfl rfl) (ZA rfl rfl (ZF rfl) (ZE rfl rfl rfl rfl rfl (ZE rfl rfl rfl rfl rfl (ZE rfl rfl rfl rfl rfl (ZA rfl rfl (ZL rfl rfl) (ZA rfl rfl (ZF rfl) (ZE rfl rfl rfl rfl rfl ?_)))))))))))
          refine ZE rfl rfl rfl rfl rfl (ZE rfl rfl rfl rfl rfl (ZA rfl rfl (ZL rfl rfl) (ZA rfl rfl (ZF rfl) (ZE rfl rfl rfl rfl rfl (ZE rfl rfl rfl rfl rfl (ZE rfl rfl rfl rfl rfl (ZE rfl rfl rfl rfl rfl (ZA rfl rfl (ZL rfl rfl) (ZA rfl rfl (ZF rfl) (ZE rfl rfl rfl rfl rfl (ZE rfl rfl rfl rfl rfl ?_)))))))))))
          refine ZE rfl rfl rfl rfl rfl (ZE rfl rfl rfl rfl rfl (ZA rfl rfl (ZL rfl rfl) (ZA rfl rfl (ZF rfl) (ZE rfl rfl rfl rfl rfl (ZE rfl rfl rfl rfl rfl (ZE rfl rfl rfl rfl rfl (ZE rfl rfl rfl rfl rfl (ZA rfl rfl (ZL rfl rfl) (ZA rfl rfl (ZF rfl) (ZE rfl rfl rfl rfl rfl (ZE rfl rfl rfl rfl rfl ?_)))))))))))
          refine ZE rfl rfl rfl rfl rfl (ZE rfl rfl rfl rfl rfl (ZA rfl rfl (ZL rfl rfl) (ZA rfl rfl (ZH rfl) (ZD ?_))))
          obtain rfl := Option.some.inj hx
          refine JN.forget 8 (JN.forget 7 (JN.forget 6 (JN.forget 5 (JN.forget 4 (JN.forget 3 (JN.forget 2 (JN.forget 1 (JN.forget 0 ?_))))))))
          exact JN.cut ⟨rfl, rfl, rfl⟩ ⟨rfl, trivial⟩ rfl rfl
        ·
         replace hx := ZX c_97 hx
         refine ZE rfl rfl rfl rfl rfl (ZE rfl rfl rfl rfl rfl (ZE rfl rfl rfl rfl rfl (ZE rfl rfl rfl rfl rfl (ZE rfl rfl rfl rfl rfl (ZA rfl rfl (ZL rfl rfl) (ZA rfl rfl (ZF rfl) (ZE rfl rfl rfl rfl rfl (ZE rfl rfl rfl rfl rfl (ZA rfl rfl (ZL rfl rfl) (ZA rfl rfl (ZF rfl) (ZE rfl rfl rfl rfl rfl ?_)))))))))))
         refine ZE rfl rfl rfl rfl rfl (ZE rfl rfl rfl rfl rfl (ZA rfl rfl (ZL rfl rfl) (ZA rfl rfl (ZF rfl) (ZE rfl rfl rfl rfl rfl (ZE rfl rfl rfl rfl rfl (ZE rfl rfl rfl rfl rfl (ZA rfl rfl (ZL rfl rfl) (ZA rfl rfl (ZF rfl) (ZE rfl rfl rfl rfl rfl (ZE rfl rfl rfl rfl rfl (ZA rfl rfl (ZL rfl rfl) ?_)))))))))))
         refine ZA rfl rfl (ZF rfl) (ZE rfl rfl rfl rfl rfl (ZE rfl rfl rfl rfl rfl (ZE rfl rfl rfl rfl rfl (ZA rfl rfl (ZL rfl rfl) (ZA rfl rfl (ZF rfl) (ZE rfl rfl rfl rfl rfl (ZE rfl rfl rfl rfl rfl (ZE rfl rfl rfl rfl rfl (ZA rfl rfl (ZL rfl rfl) (ZA rfl rfl (ZF rfl) (ZE rfl rfl rfl rfl rfl ?_)))))))))))
         refine ZE rfl rfl rfl rfl rfl (ZE rfl rfl rfl rfl rfl (ZE rfl rfl rfl rfl rfl (ZA rfl rfl (ZL rfl rfl) (ZA rfl rfl (ZF rfl) (ZE rfl rfl rfl rfl rfl (ZE rfl rfl rfl rfl rfl (ZE rfl rfl rfl rfl rfl (ZE rfl rfl rfl rfl rfl (ZA rfl rfl (ZL rfl rfl) (ZA rfl rfl (ZF rfl) (ZE rfl rfl rfl rfl rfl ?_)))))))))))
         refine ZE rfl rfl rfl rfl rfl (ZE rfl rfl rfl rfl rfl (ZE rfl rfl rfl rfl rfl (ZA rfl rfl (ZL rfl rfl) (ZA rfl rfl (ZF rfl) (ZE rfl rfl rfl rfl rfl (ZE rfl rfl rfl rfl rfl (ZE rfl rfl rfl rfl rfl (ZE rfl rfl rfl rfl rfl (ZA rfl rfl (ZL rfl rfl) (ZA rfl rfl (ZH rfl) (ZD ?_)))))))))))
         obtain rfl := Option.some.inj hx
         refine JN.forget 8 (JN.forget 7 (JN.forget 6 (JN.forget 5 (JN.forget 4 (JN.forget 3 (JN.forget 2 (JN.forget 1 (JN.forget 0 ?_))))))))
         exact JN.cut ⟨rfl, rfl, rfl⟩ ⟨rfl, trivial⟩ rfl rfl
       ·
        replace hx := ZX c_85 hx
        refine ZE rfl rfl rfl rfl rfl (ZE rfl rfl rfl rfl rfl (ZE rfl rfl rfl rfl rfl (ZE rfl rfl rfl rfl rfl (ZE rfl rfl rfl rfl rfl (ZA rfl rfl (ZL rfl rfl) (ZA rfl rfl (ZF rfl) (ZE rfl rfl rfl rfl rfl (ZE rfl rfl rfl rfl rfl (ZE rfl rfl rfl rfl rfl (ZE rfl rfl rfl rfl rfl (ZE rfl rfl rfl rfl rfl ?_)))))))))))
        refine ZA rfl rfl (ZL rfl rfl) (ZA rfl rfl (ZF rfl) (ZE rfl rfl rfl rfl rfl (ZE rfl rfl rfl rfl rfl (ZA rfl rfl (ZL rfl rfl) (ZA rfl rfl (ZF rfl) (ZE rfl rfl rfl rfl rfl (ZE rfl rfl rfl rfl rfl (ZE rfl rfl rfl rfl rfl (ZA rfl rfl (ZL rfl rfl) (ZA rfl rfl (ZF rfl) (ZE rfl rfl rfl rfl rfl ?_)))))))))))
        refine ZE rfl rfl rfl rfl rfl (ZE rfl rfl rfl rfl rfl (ZA rfl rfl (ZL rfl rfl) (ZA rfl rfl (ZF rfl) (ZE rfl rfl rfl rfl rfl (ZE rfl rfl rfl rfl rfl (ZA rfl rfl (ZL rfl rfl) (ZA rfl rfl (ZF rfl) (ZE rfl rfl rfl rfl rfl (ZE rfl rfl rfl rfl rfl (ZE rfl rfl rfl rfl rfl (ZA rfl rfl (ZL rfl rfl) ?_)))))))))))
        refine ZA rfl rfl (ZF rfl) (ZE rfl rfl rfl rfl rfl (ZE rfl rfl rfl rfl rfl (ZE rfl rfl rfl rfl rfl (ZA rfl rfl (ZL rfl rfl) (ZA rfl rfl (ZF rfl) (ZE rfl rfl rfl rfl rfl (ZE rfl rfl rfl rfl rfl (ZE rfl rfl rfl rfl rfl (ZE rfl rfl rfl rfl rfl (ZA rfl rfl (ZL rfl rfl) (ZA rfl rfl (ZF rfl) ?_)))))))))))
        refine ZE rfl rfl rfl rfl rfl (ZE rfl rfl rfl rfl rfl (ZE rfl rfl rfl rfl rfl (ZE rfl rfl rfl rfl rfl (ZA rfl rfl (ZL rfl rfl) (ZA rfl rfl (ZF rfl) (ZE rfl rfl rfl rfl rfl (ZE rfl rfl rfl rfl rfl (ZE rfl rfl rfl rfl rfl (ZE rfl rfl rfl rfl rfl (ZA rfl rfl (ZL rfl rfl) (ZA rfl rfl (ZF rfl) ?_)))))))))))
        refine ZE rfl rfl rfl rfl rfl (ZE rfl rfl rfl rfl rfl (ZE rfl rfl rfl rfl rfl (ZE rfl rfl rfl rfl rfl (ZA rfl rfl (ZL rfl rfl) (ZA rfl rfl (ZH rfl) (ZD ?_))))))
        obtain rfl := Option.some.inj hx
        refine JN.forget 8 (JN.forget 7 (JN.forget 6 (JN.forget 5 (JN.forget 4 (JN.forget 3 (JN.forget 2 (JN.forget 1 (JN.forget 0 ?_))))))))
        exact JN.cut ⟨rfl, rfl, rfl⟩ ⟨rfl, trivial⟩ rfl rfl
      ·
       replace hx := ZX c_84 hx
       refine ZE rfl rfl rfl rfl rfl (ZE rfl rfl rfl rfl rfl (ZE rfl rfl rfl rfl rfl (ZA rfl rfl (ZL rfl rfl) (ZA rfl rfl (ZF rfl) (ZE rfl rfl rfl rfl rfl (ZE rfl rfl rfl rfl rfl (ZE rfl rfl rfl rfl rfl (ZE rfl rfl rfl rfl rfl (ZE rfl rfl rfl rfl rfl (ZA rfl rfl (ZL rfl rfl) (ZA rfl rfl (ZF rfl) ?_)))))))))))
       refine ZE rfl rfl rfl rfl rfl (ZE rfl rfl rfl rfl rfl (ZE rfl rfl rfl rfl rfl (ZE rfl rfl rfl rfl rfl (ZE rfl rfl rfl rfl rfl (ZA rfl rfl (ZL rfl rfl) (ZA rfl rfl (ZF rfl) (ZE rfl rfl rfl rfl rfl (ZE rfl rfl rfl rfl rfl (ZA rfl rfl (ZL rfl rfl) (ZA rfl rfl (ZF rfl) (ZE rfl rfl rfl rfl rfl ?_)))))))))))
       refine ZE rfl rfl rfl rfl rfl (ZE rfl rfl rfl rfl rfl (ZA rfl rfl (ZL rfl rfl) (ZA rfl rfl (ZF rfl) (ZE rfl rfl rfl rfl rfl (ZE rfl rfl rfl rfl rfl (ZE rfl rfl rfl rfl rfl (ZA rfl rfl (ZL rfl rfl) (ZA rfl rfl (ZF rfl) (ZE rfl rfl rfl rfl rfl (ZE rfl rfl rfl rfl rfl (ZA rfl rfl (ZL rfl rfl) ?_)))))))))))
       refine ZA rfl rfl (ZF rfl) (ZE rfl rfl rfl rfl rfl (ZE rfl rfl rfl rfl rfl (ZE rfl rfl rfl rfl rfl (ZA rfl rfl (ZL rfl rfl) (ZA rfl rfl (ZF rfl) (ZE rfl rfl rfl rfl rfl (ZE rfl rfl rfl rfl rfl (ZE rfl rfl rfl rfl rfl (ZA rfl rfl (ZL rfl rfl) (ZA rfl rfl (ZF rfl) (ZE rfl rfl rfl rfl rfl ?_)))))))))))
       refine ZE rfl rfl rfl rfl rfl (ZE rfl rfl rfl rfl rfl (ZE rfl rfl rfl rfl rfl (ZA rfl rfl (ZL rfl rfl) (ZA rfl rfl (ZF rfl) (ZE rfl rfl rfl rfl rfl (ZE rfl rfl rfl rfl rfl (ZE rfl rfl rfl rfl rfl (ZE rfl rfl rfl rfl rfl (ZA rfl rfl (ZL rfl rfl) (ZA rfl rfl (ZF rfl) (ZE rfl rfl rfl rfl rfl ?_)))))))))))
       refine ZE rfl rfl rfl rfl rfl (ZE rfl rfl rfl rfl rfl (ZE rfl rfl rfl rfl rfl (ZA rfl rfl (ZL rfl rfl) (ZA rfl rfl (ZF rfl) (ZE rfl rfl rfl rfl rfl (ZE rfl rfl rfl rfl rfl (ZE rfl rfl rfl rfl rfl (ZE rfl rfl rfl rfl rfl (ZA rfl rfl (ZL rfl rfl) (ZA rfl rfl (ZH rfl) (ZD ?_)))))))))))
       obtain rfl := Option.some.inj hx
       refine JN.forget 8 (JN.forget 7 (JN.forget 6 (JN.forget 5 (JN.forget 4 (JN.forget 3 (JN.forget 2 (JN.forget 1 (JN.forget 0 ?_))))))))
       exact JN.cut ⟨rfl, rfl, rfl⟩ ⟨rfl, trivial⟩ rfl rfl
     ·
      replace hx := ZX c_83 hx
      refine ZE rfl rfl rfl rfl rfl (ZE rfl rfl rfl rfl rfl (ZE rfl rfl rfl rfl rfl (ZA rfl rfl (ZL rfl rfl) (ZA rfl rfl (ZF rfl) (ZE rfl rfl rfl rfl rfl (ZE rfl rfl rfl rfl rfl (ZE rfl rfl rfl rfl rfl (ZA rfl rfl (ZL rfl rfl) (ZA rfl rfl (ZF rfl) (ZE rfl rfl rfl rfl rfl (ZE rfl rfl rfl rfl rfl ?_)))))))))))
      refine ZE rfl rfl rfl rfl rfl (ZE rfl rfl rfl rfl rfl (ZE rfl rfl rfl rfl rfl (ZA rfl rfl (ZL rfl rfl) (ZA rfl rfl (ZF rfl) (ZE rfl rfl rfl rfl rfl (ZE rfl rfl rfl rfl rfl (ZE rfl rfl rfl rfl rfl (ZE rfl rfl rfl rfl rfl (ZE rfl rfl rfl rfl rfl (ZA rfl rfl (ZL rfl rfl) (ZA rfl rfl (ZF rfl) ?_)))))))))))
      refine ZE rfl rfl rfl rfl rfl (ZE rfl rfl rfl rfl rfl (ZA rfl rfl (ZL rfl rfl) (ZA rfl rfl (ZF rfl) (ZE rfl rfl rfl rfl rfl (ZE rfl rfl rfl rfl rfl (ZE rfl rfl rfl rfl rfl (ZA rfl rfl (ZL rfl rfl) (ZA rfl rfl (ZF rfl) (ZE rfl rfl rfl rfl rfl (ZE rfl rfl rfl rfl rfl (ZE rfl rfl rfl rfl rfl ?_)))))))))))
      refine ZA rfl rfl (ZL rfl rfl) (ZA rfl rfl (ZF rfl) (ZE rfl rfl rfl rfl rfl (ZE rfl rfl rfl rfl rfl (ZA rfl rfl (ZL rfl rfl) (ZA rfl rfl (ZF rfl) (ZE rfl rfl rfl rfl rfl (ZE rfl rfl rfl rfl rfl (ZE rfl rfl rfl rfl rfl (ZA rfl rfl (ZL rfl rfl) (ZA rfl rfl (ZF rfl) (ZE rfl rfl rfl rfl rfl ?_)))))))))))
      refine ZE rfl rfl rfl rfl rfl (ZE rfl rfl rfl rfl rfl (ZA rfl rfl (ZL rfl rfl) (ZA rfl rfl (ZF rfl) (ZE rfl rfl rfl rfl rfl (ZE rfl rfl rfl rfl rfl (ZE rfl rfl rfl rfl rfl (ZE rfl rfl rfl rfl rfl (ZA rfl rfl (ZL rfl rfl) (ZA rfl rfl (ZF rfl) (ZE rfl rfl rfl rfl rfl (ZE rfl rfl rfl rfl rfl ?_)))))))))))
      refine ZE rfl rfl rfl rfl rfl (ZE rfl rfl rfl rfl rfl (ZA rfl rfl (ZL rfl rfl) (ZA rfl rfl (ZF rfl) (ZE rfl rfl rfl rfl rfl (ZE rfl rfl rfl rfl rfl (ZE rfl rfl rfl rfl rfl (ZE rfl rfl rfl rfl rfl (ZA rfl rfl (ZL rfl rfl) (ZA rfl rfl (ZF rfl) (ZE rfl rfl rfl rfl rfl (ZE rfl rfl rfl rfl rfl ?_)))))))))))
      refine ZE rfl rfl rfl rfl rfl (ZE rfl rfl rfl rfl rfl (ZA rfl rfl (ZL rfl rfl) (ZA rfl rfl (ZH rfl) (ZD ?_))))
      obtain rfl := Option.some.inj hx
      refine JN.forget 8 (JN.forget 7 (JN.forget 6 (JN.forget 5 (JN.forget 4 (JN.forget 3 (JN.forget 2 (JN.forget 1 (JN.forget 0 ?_))))))))
      exact JN.cut ⟨rfl, rfl, rfl⟩ ⟨rfl, trivial⟩ rfl rfl
    ·
     replace hx := ZX c_82 hx
     refine ZE rfl rfl rfl rfl rfl (ZE rfl rfl rfl rfl rfl (ZA rfl rfl (ZL rfl rfl) (ZA rfl rfl (ZF rfl) (ZE rfl rfl rfl rfl rfl (ZE rfl rfl rfl rfl rfl (ZE rfl rfl rfl rfl rfl (ZA rfl rfl (ZL rfl rfl) (ZA rfl rfl (ZF rfl) (ZE rfl rfl rfl rfl rfl (ZE rfl rfl rfl rfl rfl (ZE rfl rfl rfl rfl rfl ?_)))))))))))
     refine ZA rfl rfl (ZL rfl rfl) (ZA rfl rfl (ZF rfl) (ZE rfl rfl rfl rfl rfl (ZE rfl rfl rfl rfl rfl (ZE rfl rfl rfl rfl rfl (ZE rfl rfl rfl rfl rfl (ZE rfl rfl rfl rfl rfl (ZA rfl rfl (ZL rfl rfl) (ZA rfl rfl (ZF rfl) (ZE rfl rfl rfl rfl rfl (ZE rfl rfl rfl rfl rfl (ZE rfl rfl rfl rfl rfl ?_)))))))))))
     refine ZE rfl rfl rfl rfl rfl (ZE rfl rfl rfl rfl rfl (ZA rfl rfl (ZL rfl rfl) (ZA rfl rfl (ZF rfl) (ZE rfl rfl rfl rfl rfl (ZE rfl rfl rfl rfl rfl (ZA rfl rfl (ZL rfl rfl) (ZA rfl rfl (ZF rfl) (ZE rfl rfl rfl rfl rfl (ZE rfl rfl rfl rfl rfl (ZE rfl rfl rfl rfl rfl (ZA rfl rfl (ZL rfl rfl) ?_)))))))))))
     refine ZA rfl rfl (ZF rfl) (ZE rfl rfl rfl rfl rfl (ZE rfl rfl rfl rfl rfl (ZE rfl rfl rfl rfl rfl (ZA rfl rfl (ZL rfl rfl) (ZA rfl rfl (ZF rfl) (ZE rfl rfl rfl rfl rfl (ZE rfl rfl rfl rfl rfl (ZA rfl rfl (ZL rfl rfl) (ZA rfl rfl (ZF rfl) (ZE rfl rfl rfl rfl rfl (ZE rfl rfl rfl rfl rfl ?_)))))))))))
     refine ZE rfl rfl rfl rfl rfl (ZA rfl rfl (ZL rfl rfl) (ZA rfl rfl (ZF rfl) (ZE rfl rfl rfl rfl rfl (ZE rfl rfl rfl rfl rfl (ZE rfl rfl rfl rfl rfl (ZA rfl rfl (ZL rfl rfl) (ZA rfl rfl (ZF rfl) (ZE rfl rfl rfl rfl rfl (ZE rfl rfl rfl rfl rfl (ZE rfl rfl rfl rfl rfl (ZE rfl rfl rfl rfl rfl ?_)))))))))))
     refine ZA rfl rfl (ZL rfl rfl) (ZA rfl rfl (ZF rfl) (ZE rfl rfl rfl rfl rfl (ZE rfl rfl rfl rfl rfl (ZE rfl rfl rfl rfl rfl (ZE rfl rfl rfl rfl rfl (ZA rfl rfl (ZL rfl rfl) (ZA rfl rfl (ZF rfl) (ZE rfl rfl rfl rfl rfl (ZE rfl rfl rfl rfl rfl (ZE rfl rfl rfl rfl rfl (ZE rfl rfl rfl rfl rfl ?_)))))))))))
     refine ZA rfl rfl (ZL rfl rfl) (ZA rfl rfl (ZF rfl) (ZE rfl rfl rfl rfl rfl (ZE rfl rfl rfl rfl rfl (ZE rfl rfl rfl rfl rfl (ZE rfl rfl rfl rfl rfl (ZA rfl rfl (ZL rfl rfl) (ZA rfl rfl (ZH rfl) (ZD ?_))))))))
     obtain rfl := Option.some.inj hx
     refine JN.forget 8 (JN.forget 7 (JN.forget 6 (JN.forget 5 (JN.forget 4 (JN.forget 3 (JN.forget 2 (JN.forget 1 (JN.forget 0 ?_))))))))
     exact JN.cut ⟨rfl, rfl, rfl⟩ ⟨rfl, trivial⟩ rfl rfl
   ·
    replace hx := ZX c_81 hx
    refine ZE rfl rfl rfl rfl rfl (ZE rfl rfl rfl rfl rfl (ZA rfl rfl (ZL rfl rfl) (ZA rfl rfl (ZF rfl) (ZE rfl rfl rfl rfl rfl (ZE rfl rfl rfl rfl rfl (ZA rfl rfl (ZL rfl rfl) (ZA rfl rfl (ZF rfl) (ZE rfl rfl rfl rfl rfl (ZE rfl rfl rfl rfl rfl (ZE rfl rfl rfl rfl rfl (ZA rfl rfl (ZL rfl rfl) ?_)))))))))))
    refine ZA rfl rfl (ZF rfl) (ZE rfl rfl rfl rfl rfl (ZE rfl rfl rfl rfl rfl (ZE rfl rfl rfl rfl rfl (ZA rfl rfl (ZL rfl rfl) (ZA rfl rfl (ZF rfl) (ZE rfl rfl rfl rfl rfl (ZE rfl rfl rfl rfl rfl (ZE rfl rfl rfl rfl rfl (ZE rfl rfl rfl rfl rfl (ZE rfl rfl rfl rfl rfl (ZA rfl rfl (ZL rfl rfl) ?_)))))))))))
    refine ZA rfl rfl (ZF rfl) (ZE rfl rfl rfl rfl rfl (ZE rfl rfl rfl rfl rfl (ZE rfl rfl rfl rfl rfl (ZE rfl rfl rfl rfl rfl (ZE rfl rfl rfl rfl rfl (ZA rfl rfl (ZL rfl rfl) (ZA rfl rfl (ZF rfl) (ZE rfl rfl rfl rfl rfl (ZE rfl rfl rfl rfl rfl (ZA rfl rfl (ZL rfl rfl) (ZA rfl rfl (ZF rfl) ?_)))))))))))
    refine ZE rfl rfl rfl rfl rfl (ZE rfl rfl rfl rfl rfl (ZE rfl rfl rfl rfl rfl (ZA rfl rfl (ZL rfl rfl) (ZA rfl rfl (ZF rfl) (ZE rfl rfl rfl rfl rfl (ZE rfl rfl rfl rfl rfl (ZE rfl rfl rfl rfl rfl (ZA rfl rfl (ZL rfl rfl) (ZA rfl rfl (ZF rfl) (ZE rfl rfl rfl rfl rfl (ZE rfl rfl rfl rfl rfl ?_)))))))))))
    refine ZA rfl rfl (ZL rfl rfl) (ZA rfl rfl (ZF rfl) (ZE rfl rfl rfl rfl rfl (ZE rfl rfl rfl rfl rfl (ZE rfl rfl rfl rfl rfl (ZA rfl rfl (ZL rfl rfl) (ZA rfl rfl (ZF rfl) (ZE rfl rfl rfl rfl rfl (ZE rfl rfl rfl rfl rfl (ZE rfl rfl rfl rfl rfl (ZA rfl rfl (ZL rfl rfl) (ZA rfl rfl (ZF rfl) ?_)))))))))))
    refine ZE rfl rfl rfl rfl rfl (ZE rfl rfl rfl rfl rfl (ZE rfl rfl rfl rfl rfl (ZE rfl rfl rfl rfl rfl (ZA rfl rfl (ZL rfl rfl) (ZA rfl rfl (ZF rfl) (ZE rfl rfl rfl rfl rfl (ZE rfl rfl rfl rfl rfl (ZE rfl rfl rfl rfl rfl (ZE rfl rfl rfl rfl rfl (ZA rfl rfl (ZL rfl rfl) (ZA rfl rfl (ZF rfl) ?_)))))))))))
    refine ZE rfl rfl rfl rfl rfl (ZE rfl rfl rfl rfl rfl (ZE rfl rfl rfl rfl rfl (ZE rfl rfl rfl rfl rfl (ZA rfl rfl (ZL rfl rfl) (ZA rfl rfl (ZF rfl) (ZE rfl rfl rfl rfl rfl (ZE rfl rfl rfl rfl rfl (ZE rfl rfl rfl rfl rfl (ZE rfl rfl rfl rfl rfl (ZA rfl rfl (ZL rfl rfl) (ZA rfl rfl (ZH rfl) ?_)))))))))))
    refine ZD ?_
    obtain rfl := Option.some.inj hx
    refine JN.forget 8 (JN.forget 7 (JN.forget 6 (JN.forget 5 (JN.forget 4 (JN.forget 3 (JN.forget 2 (JN.forget 1 (JN.forget 0 ?_))))))))
    exact JN.cut ⟨rfl, rfl, rfl⟩ ⟨rfl, trivial⟩ rfl rfl
 ·
  have hxo_50 := hx; clear hx; have hx := ht_51; clear ht_51
  refine JC.block (JC.seg0 (JC.forget 10 (JC.forget 9 (JC.forget 8 (JC.forget 4 (JC.forget 3 (JC.forget 2 (Zv 2 rfl (Zv 2 rfl (Zv 4 rfl (Zv 4 rfl ?_)))))))))))
  refine JC.loopI (fun n l o g => ∃ s_52 : List Ptr × Nat, ∃ ar_55 : Option Addr, ∃ nr_55 : Nat, ∃ cr_55 : Nat, ∃ Kr_55 : Own, l = [(2, .int .i64 x_11.2), (3, .slice ar_28 nr_28 cr_28), (4, .slice ar_29 nr_29 cr_29), (5, .int .i64 x_26.2.2), (7, .pointer (some ⟨b_48, 0, none⟩)), (8, .slice ar_46 nr_46 cr_46), (9, .int .i64 x_40.2.2.2), (10, .slice ar_55 nr_55 cr_55), (11, .int .i64 ((s_52.2 : Nat) : Int))] ∧ o = [Kr_28, Kr_29, [(b_48, .cells #[.int .i64 x_40.2.1.At, .int .u32 (x_40.2.1.Birth.toNat : Int), .int .u32 (x_40.2.1.Iv.toNat : Int), .int .u32 (x_40.2.1.Tag.toNat : Int), .int .u32 (x_40.2.1.Sum.toNat : Int)] 28 (0, 0))], Kr_46, Kr_55] ∧ Hu_42 = g ∧ run law16_DeadNames_v2_l1 n s_52 = some t_49 ∧ RowOf (New H Hu_42) R_Ptr w.heap.size 28 5 (.slice ar_55 nr_55 cr_55) s_52.1 Kr_55) FUEL ?_ ⟨(([] : List Ptr), 0), none, 0, 0, [], rfl, rfl, rfl, hx, (Zb _ _ _ _ _)⟩ ⟨rfl, rfl, rfl, rfl, rfl, rfl, rfl, rfl, rfl, trivial⟩ ?_
  ·
   rintro _ _ _ ⟨s_52, ar_55, nr_55, cr_55, Kr_55, rfl, rfl, rfl, hn_53, hr_55⟩
   exact run_zero hn_53
  ·
   rintro n_54 _ _ _ ⟨s_52, ar_55, nr_55, cr_55, Kr_55, rfl, rfl, rfl, hn_53, hr_55⟩
   clear hx; obtain ⟨oo_57, hx, hd_56⟩ := Z0 hn_53
   unfold law16_DeadNames_v2_l1 at hx
   refine ZG (ZG (ZB (ZA rfl rfl (ZF rfl) (ZA rfl rfl (Zr rfl rfl) (ZD (ZC (ZU rfl (fun c_56 => ?_) (fun c_56 => ?_))))))))
   ·
    replace hx := ZW c_56 hx
    refine JC.skip (ZC (ZG (JC.block (ZB (ZA rfl rfl (ZF rfl) (ZA rfl rfl (ZF rfl) (ZA rfl rfl (R.add_i rfl rfl) ?_)))))))
    obtain ⟨x_57, hr_58, hx⟩ := ZM hx
    refine ZS (vs := [_, _]) (args := [_, _]) (K := []) (rst := [_, _, _, _, _]) E30 rfl rfl rfl ZK (law16_at_ok (w64 (40 + ((s_52.2 : Nat) : Int))) (1 : UInt32) _ _ hr_58) rfl (fun u_59 Ku_59 Hu_59 hRu_59 hleu_59 hfu_59 => ?_)
    obtain ⟨rfl, rfl, rfl, -⟩ := hRu_59
    refine Zz (HF := (New H Hu_42)) (R := R_Ptr) (ls := [x_57]) (vs := [.agg #[.int .i64 x_57.At, .int .u32 (x_57.Birth.toNat : Int), .int .u32 (x_57.Iv.toNat : Int), .int .u32 (x_57.Tag.toNat : Int), .int .u32 (x_57.Sum.toNat : Int)]]) U53 I28 rfl rfl (⟨_, _, rfl, rfl, rfl, rfl⟩) R_Ptr.one rfl rfl rfl (by simp [maxLen]) rfl (fun vr_60 Kr_60 hr_60 => ?_)
    obtain ⟨ar_60, cr_60, rfl⟩ := RowOf.val hr_60
    obtain ⟨q_61, hm_62, hl_63, hx⟩ := app_some hx
    refine JL.appF (HF := (New H Hu_42)) 5 U53 I28 rfl rfl hr_55 rfl (SrcF.row 0 U53 rfl hr_60) hm_62 hl_63 rfl (Nat.le_refl _) rfl (fun vr_64 Kr_64 hr_64 => ?_)
    obtain ⟨ar_64, cr_64, rfl⟩ := RowOf.val hr_64
    refine ZA rfl rfl (ZH rfl) (ZD (Zk (ZC (ZB (ZA rfl rfl (ZF rfl) (ZA rfl rfl (R.inc rfl rfl (of_decide_eq_true c_56) (by decide)) (ZA rfl rfl (ZH rfl) (ZD ?_))))))))
    replace hx := Zo hd_56 hx
    refine JN.forget 0 (ZO 4 rfl (ZO 4 rfl (ZO 4 rfl (ZO 4 rfl (ZO 4 rfl ?_)))))
    exact JN.cut ⟨(q_61, s_52.2 + 1), ar_64, q_61.length, cr_64, Kr_64, rfl, rfl, rfl, hx, hr_64⟩ ⟨rfl, rfl, rfl, rfl, rfl, rfl, rfl, rfl, rfl, trivial⟩ rfl rfl
   ·
    replace hx := ZX c_56 hx
    refine JC.exit (Ze ?_)
    obtain rfl := Zu hd_56 hx
    refine Ze (Zl (ZO 4 rfl (ZO 4 rfl (ZO 4 rfl (ZO 4 rfl (ZO 4 rfl ?_))))))
    exact JN.cut ⟨ar_55, nr_55, cr_55, Kr_55, rfl, rfl, rfl, hr_55⟩ ⟨rfl, rfl, rfl, rfl, rfl, rfl, rfl, rfl, trivial⟩ rfl rfl
end Go.Proofs.Ytdoebbgjjlicjaa
