import Derived.Test.YtdoebbgjjlicjaaW2p1
/- walks: what the code computes, function by function. -/
namespace Go.Proofs.Ytdoebbgjjlicjaa
open Go.Ow Go.RowKit Go.Proofs
set_option linter.unusedVariables false
set_option linter.unusedSimpArgs false
set_option maxHeartbeats 8000000 in
theorem dev_Read_ok (p_1 : Disk) (p_4 : Int) (H : Heaplet) {aa_2 : Option Addr} {na_2 : Nat} {ca_2 : Nat} {aa_3 : Option Addr} {na_3 : Nat} {ca_3 : Nat} (ha_2 : IsSlice H (RSl RU8 1) 1 (.slice aa_2 na_2 ca_2) p_1.Blocks) (ha_3 : IsSlice H R_Write 2 (.slice aa_3 na_3 ca_3) p_1.Waits) (r : List UInt8 × Int) (hx : dev_Read p_1 p_4 = some r) :
  Does Try.prog 43 #[.agg #[.slice aa_2 na_2 ca_2, .slice aa_3 na_3 ca_3], .int .i64 p_4] [] H (fun u K' H' => ∃ ao0 : Option Addr, ∃ n0 : Nat, ∃ cap0 : Nat, u = .tuple #[.slice ao0 n0 cap0, .int .i64 r.2] ∧ K' = [] ∧ IsSlice (New H H') RU8 1 (.slice ao0 n0 cap0) r.1 ∧ True) := by
 refine Does.enterL (vs := [.agg #[.slice aa_2 na_2 ca_2, .slice aa_3 na_3 ca_3], .int .i64 p_4]) (l := [(0, .agg #[.slice aa_2 na_2 ca_2, .slice aa_3 na_3 ca_3]), (1, .int .i64 p_4)]) Try.func43 rfl rfl ⟨rfl, rfl, trivial⟩ (fun w hlt => ?_)
 unfold dev_Read at hx
 refine ZH (ZB (Z7 rfl rfl (fun b_5 hb_5 => ZA rfl rfl (ZG rfl) (ZA rfl rfl (ZG rfl) (ZD (ZC (ZH ?_)))))))
 obtain ⟨t_6, ht_8, hx⟩ := ZJ hx
 refine Zy (fun l o g => ∃ H_34 : Heaplet, ∃ b_35 : Nat, ∃ az_36 : Option Addr, ∃ nz_36 : Nat, ∃ cz_36 : Nat, ∃ ar_37 : Option Addr, ∃ nr_37 : Nat, ∃ cr_37 : Nat, ∃ Kr_37 : Own, l = [(1, .int .i64 p_4), (6, .pointer (some ⟨b_35, 0, none⟩)), (7, .int .i64 t_6.2.2)] ∧ o = [[(b_35, .cells #[.slice az_36 nz_36 cz_36, .slice ar_37 nr_37 cr_37] 25 (0, 0))], Kr_37] ∧ H_34 = g ∧ Hle H H_34 ∧ w.heap.size ≤ b_35 ∧ IsSlice (New H H_34) (RSl RU8 1) 1 (.slice az_36 nz_36 cz_36) t_6.1 ∧ RowOf (New H H_34) R_Write w.heap.size 47 2 (.slice ar_37 nr_37 cr_37) t_6.2.1 Kr_37) ?_ ?_
 ·
  rintro _ _ _ ⟨H_34, b_35, az_36, nz_36, cz_36, ar_37, nr_37, cr_37, Kr_37, rfl, rfl, rfl, hleH_34, hb_35, hz_36, hr_37⟩
  refine ZC (ZH (ZH (ZB (ZA rfl rfl (ZI rfl) (ZA rfl rfl (R.neq_i rfl rfl) (ZD (ZC (ZY rfl (fun c_38 => ?_) (fun c_38 => ?_)))))))))
  ·
   replace hx := ZU c_38 hx
   refine ZH (ZB (ZA rfl rfl (ZI rfl) (ZA rfl rfl (ZG rfl) (ZA rfl rfl (ZG rfl) (ZD (ZC (ZW (Zc (ZS (vs := [.slice none 0 0, .int .i64 t_6.2.2]) (K := []) (rst := [_, _]) (.inl rfl) rfl rfl (ZQ rfl (ZQ rfl rfl)) ZK ?_)))))))))
   obtain rfl := Option.some.inj hx
   exact ⟨none, 0, 0, rfl, rfl, (IsSlice.nil _ _ _), trivial⟩
  ·
   replace hx := ZV c_38 hx
   refine Za (ZC (ZH (ZB (ZA rfl rfl (Zo F25_0 rfl) (ZA rfl rfl (ZZ 0 S22 rfl rfl rfl) (ZA rfl rfl (ZI rfl) ?_))))))
   obtain ⟨y_39, hN_40, hx⟩ := Zt hx
   obtain ⟨b_41, o_42, cs_43, hE_44, hR_45, hl_46, hc_47⟩ := IsSlice.elem hz_36 hN_40
   obtain ⟨v_48, rfl, hs_49⟩ := hR_45
   obtain ⟨av_48, cv_48', rfl⟩ := IsSlice.val hs_49
   refine ZA rfl rfl (R.ix U22 S45 rfl rfl hE_44) (ZA rfl rfl (R.ldH S45 rfl ((fun j u e => New.le _ _ _ _ _ (hc_47 j u e)) 0 _ rfl)) (ZA rfl rfl (ZG rfl) (ZA rfl rfl (ZG rfl) (ZD (ZC (ZW (ZS (vs := [.slice av_48 y_39.length cv_48', .int .i64 0]) (K := []) (rst := [_, _]) (.inl rfl) rfl rfl (ZQ rfl (ZQ rfl rfl)) ZK ?_)))))))
   obtain rfl := Option.some.inj hx
   exact ⟨av_48, y_39.length, cv_48', rfl, rfl, hs_49, trivial⟩
 ·
  have hxo_7 := hx; clear hx; have hx := ht_8; clear ht_8
  refine JC.draw (so := []) 11 rfl Mixed trivial (JA.val ⟨by kernel_rfl, by kernel_rfl⟩ (ZF _) (i := 1) rfl ⟨by kernel_rfl, by kernel_rfl, rfl⟩ trivial (ZE (Hle.refl _) trivial) (ZI rfl) rfl (JA.val ⟨by kernel_rfl, by kernel_rfl⟩ (ZF _) (i := 3) rfl ⟨by kernel_rfl, by kernel_rfl, rfl⟩ trivial (ZE (Hle.refl _) trivial) (R.func (vf := []) (vc := [_]) rfl rfl) rfl (JAA.start [⟨8, 6, 25, .agg #[.slice none 0 0, .slice none 0 0]⟩] rfl ?_)))
  obtain ⟨x_9, hr_10, hx⟩ := ZJ hx
  obtain ⟨x_12, hr_13, hx⟩ := ZJ hx
  refine JAA.two (i := 0) (j := 2) ⟨⟨_, _, _, rfl, Z25, rfl⟩, trivial⟩ (Hle.refl _) trivial rfl (by kernel_rfl) ?_ ?_
  ·
   refine JOA.step rfl trivial rfl (fun tl_20 to_21 K hK => ZA rfl rfl (Zh 0 (vs := [.slice aa_2 na_2 ca_2, .slice aa_3 na_3 ca_3]) S25 rfl rfl rfl rfl) (ZD (hK (by repeat constructor) (by repeat constructor) (ZE (Hle.refl _) trivial) (JAA.one (i := 2) ⟨⟨_, _, _, rfl, Z25, rfl⟩, trivial⟩ (Hle.refl _) trivial rfl (by kernel_rfl) (JOA.step rfl trivial rfl (fun tl_22 to_23 K hK => ZO (vs := [_]) (args := [_]) (K := []) (rst := _ :: to_23) E67 rfl rfl rfl ZK (dev_place_ok p_4 _ _ hr_10) rfl (fun u_11 Ku_11 Hu_11 hRu_11 hleu_11 hfu_11 => ?_)))))))
   obtain ⟨rfl, rfl, rfl, -⟩ := hRu_11
   refine ZD (hK (by repeat constructor) (by repeat constructor) (ZE (Hle.refl _) trivial) (JAA.one (i := 4) ⟨⟨_, _, _, rfl, Z25, rfl⟩, trivial⟩ (Hle.refl _) trivial rfl (by kernel_rfl) (JOA.step rfl trivial rfl (fun tl_24 to_25 K hK => ZO (vs := [_, _, _]) (args := [_, _, _]) (K := [_]) (rst := to_25) E68 rfl rfl rfl (Ze 0 rfl ZK) (dev_guarded_v2_ok p_1 x_9 p_1 _ ha_2 ha_3 ha_2 ha_3 _ hr_13) rfl (fun u_14 Ku_14 Hu_14 hRu_14 hleu_14 hfu_14 => ?_)))))
   obtain ⟨az_15, nz_15, cz_15, az_16, nz_16, cz_16, az_17, nz_17, cz_17, ar_18, nr_18, cr_18, Kr_18, rfl, rfl, hz_15, hz_16, hz_17, hr_18, hnewr_18, -⟩ := hRu_14
   replace hr_18 := (RowOf.base (RowOf.mono R_Write.mono (New.call (Hle.refl _)) hr_18) (fun p hp => (hfu_14 p (Zk 1 rfl hp)).resolve_left (hnewr_18 p hp)))
   replace hz_17 := IsSlice.mono (RSl.mono RU8.mono) (New.call (Hle.refl _)) hz_17
   refine ZD (hK (by repeat constructor) (by repeat constructor) (ZE hleu_14 trivial) (JAA.val ⟨by kernel_rfl, by kernel_rfl⟩ (ZF _) (i := 5) rfl (by kernel_rfl) rfl trivial hleu_14 trivial (ZI rfl) rfl (JAA.val ⟨by kernel_rfl, by kernel_rfl⟩ (ZF _) (i := 6) rfl (by kernel_rfl) rfl trivial hleu_14 trivial (R.extract rfl rfl) rfl (JAA.val ⟨by kernel_rfl, by kernel_rfl⟩ (ZF _) (i := 7) rfl (by kernel_rfl) rfl trivial hleu_14 trivial (R.extract rfl rfl) rfl (JAA.all ⟨⟨_, _, _, rfl, Z25, rfl⟩, trivial⟩ hleu_14 trivial rfl (by kernel_rfl) (fun b_26 hb_26 => JA.one (i := 9) (by kernel_rfl) (JO.step rfl trivial rfl (fun K hK => ZP 2 S25 rfl rfl rfl rfl rfl (Nat.le_of_ble_eq_true rfl) (ZD (hK _ _ _ (ZE hleu_14 trivial) (JA.val ⟨by kernel_rfl, by kernel_rfl⟩ (ZF _) (i := 10) rfl ⟨by kernel_rfl, by kernel_rfl, rfl⟩ trivial (ZE hleu_14 trivial) (ZG rfl) rfl ?_)))))))))))
   refine Zg (by kernel_rfl) ?_
   obtain rfl := Option.some.inj hx
   refine JN.forget 0 (ZL 1 rfl ?_)
   exact ZR ⟨Hu_14, b_26, az_17, nz_17, cz_17, ar_18, nr_18, cr_18, Kr_18, rfl, rfl, rfl, (hleu_14), hb_26, hz_17, hr_18⟩ ⟨rfl, rfl, rfl, trivial⟩ rfl rfl
  ·
   refine JOA.step rfl trivial rfl (fun tl_27 to_28 K hK => ZO (vs := [_]) (args := [_]) (K := []) (rst := _ :: to_28) E67 rfl rfl rfl ZK (dev_place_ok p_4 _ _ hr_10) rfl (fun u_11 Ku_11 Hu_11 hRu_11 hleu_11 hfu_11 => ?_))
   obtain ⟨rfl, rfl, rfl, -⟩ := hRu_11
   refine ZD (hK (by repeat constructor) (by repeat constructor) (ZE (Hle.refl _) trivial) (JAA.one (i := 0) ⟨⟨_, _, _, rfl, Z25, rfl⟩, trivial⟩ (Hle.refl _) trivial rfl (by kernel_rfl) (JOA.step rfl trivial rfl (fun tl_29 to_30 K hK => ZA rfl rfl (Zh 0 (vs := [.slice aa_2 na_2 ca_2, .slice aa_3 na_3 ca_3]) S25 rfl rfl rfl rfl) (ZD (hK (by repeat constructor) (by repeat constructor) (ZE (Hle.refl _) trivial) (JAA.one (i := 4) ⟨⟨_, _, _, rfl, Z25, rfl⟩, trivial⟩ (Hle.refl _) trivial rfl (by kernel_rfl) (JOA.step rfl trivial rfl (fun tl_31 to_32 K hK => ZO (vs := [_, _, _]) (args := [_, _, _]) (K := [_]) (rst := to_32) E68 rfl rfl rfl (Ze 0 rfl ZK) (dev_guarded_v2_ok p_1 x_9 p_1 _ ha_2 ha_3 ha_2 ha_3 _ hr_13) rfl (fun u_14 Ku_14 Hu_14 hRu_14 hleu_14 hfu_14 => ?_))))))))))
   obtain ⟨az_15, nz_15, cz_15, az_16, nz_16, cz_16, az_17, nz_17, cz_17, ar_18, nr_18, cr_18, Kr_18, rfl, rfl, hz_15, hz_16, hz_17, hr_18, hnewr_18, -⟩ := hRu_14
   replace hr_18 := (RowOf.base (RowOf.mono R_Write.mono (New.call (Hle.refl _)) hr_18) (fun p hp => (hfu_14 p (Zk 1 rfl hp)).resolve_left (hnewr_18 p hp)))
   replace hz_17 := IsSlice.mono (RSl.mono RU8.mono) (New.call (Hle.refl _)) hz_17
   refine ZD (hK (by repeat constructor) (by repeat constructor) (ZE hleu_14 trivial) (JAA.val ⟨by kernel_rfl, by kernel_rfl⟩ (ZF _) (i := 5) rfl (by kernel_rfl) rfl trivial hleu_14 trivial (ZI rfl) rfl (JAA.val ⟨by kernel_rfl, by kernel_rfl⟩ (ZF _) (i := 6) rfl (by kernel_rfl) rfl trivial hleu_14 trivial (R.extract rfl rfl) rfl (JAA.val ⟨by kernel_rfl, by kernel_rfl⟩ (ZF _) (i := 7) rfl (by kernel_rfl) rfl trivial hleu_14 trivial (R.extract rfl rfl) rfl (JAA.all ⟨⟨_, _, _, rfl, Z25, rfl⟩, trivial⟩ hleu_14 trivial rfl (by kernel_rfl) (fun b_33 hb_33 => JA.one (i := 9) (by kernel_rfl) (JO.step rfl trivial rfl (fun K hK => ZP 2 S25 rfl rfl rfl rfl rfl (Nat.le_of_ble_eq_true rfl) (ZD (hK _ _ _ (ZE hleu_14 trivial) (JA.val ⟨by kernel_rfl, by kernel_rfl⟩ (ZF _) (i := 10) rfl ⟨by kernel_rfl, by kernel_rfl, rfl⟩ trivial (ZE hleu_14 trivial) (ZG rfl) rfl ?_)))))))))))
   refine Zg (by kernel_rfl) ?_
   obtain rfl := Option.some.inj hx
   refine JN.forget 0 (ZL 1 rfl ?_)
   exact ZR ⟨Hu_14, b_33, az_17, nz_17, cz_17, ar_18, nr_18, cr_18, Kr_18, rfl, rfl, rfl, (hleu_14), hb_33, hz_17, hr_18⟩ ⟨rfl, rfl, rfl, trivial⟩ rfl rfl

set_option maxHeartbeats 8000000 in
theorem ptr_Read_ok (p_1 : List UInt8) (H : Heaplet) {aa_2 : Option Addr} {na_2 : Nat} {ca_2 : Nat} (ha_2 : IsSlice H RU8 1 (.slice aa_2 na_2 ca_2) p_1) (r : Ptr × Int) (hx : ptr_Read p_1 = some r) :
  Does Try.prog 84 #[.slice aa_2 na_2 ca_2] [] H (fun u K' H' => u = .tuple #[.agg #[.int .i64 r.1.At, .int .u32 (r.1.Birth.toNat : Int), .int .u32 (r.1.Iv.toNat : Int), .int .u32 (r.1.Tag.toNat : Int), .int .u32 (r.1.Sum.toNat : Int)], .int .i64 r.2] ∧ K' = [] ∧ True) := by
 refine Does.enterL (vs := [.slice aa_2 na_2 ca_2]) (l := [(0, .slice aa_2 na_2 ca_2)]) Try.func84 rfl rfl ⟨rfl, trivial⟩ (fun w hlt => ?_)
 unfold ptr_Read at hx
 refine ZH (ZB (JL.alloc Z28 rfl (fun b_3 hb_3 => ZA rfl rfl (ZG rfl) (ZD (ZC (ZH (ZH (ZB (ZA rfl rfl (ZI rfl) (ZA rfl rfl (Zr U45 rfl (IsSlice.long ha_2)) (ZA rfl rfl (R.neq_i rfl rfl) ?_)))))))))))
 refine ZD (ZC (ZY rfl (fun c_4 => ?_) (fun c_4 => ?_)))
 ·
  replace hx := ZU c_4 hx
  refine ZH (ZB (ZA rfl rfl (R.bldP (vs := []) (cs := [.int .i64 0, .int .u32 ((0 : UInt32).toNat : Int), .int .u32 ((0 : UInt32).toNat : Int), .int .u32 ((0 : UInt32).toNat : Int), .int .u32 ((0 : UInt32).toNat : Int)]) Z28 B28 rfl rfl rfl) (ZP 0 S28 rfl rfl rfl rfl rfl (Nat.le_of_ble_eq_true rfl) (ZA rfl rfl (ZG rfl) (ZD (ZC (ZW (Zc (ZS (vs := [.agg #[.int .i64 0, .int .u32 ((0 : UInt32).toNat : Int), .int .u32 ((0 : UInt32).toNat : Int), .int .u32 ((0 : UInt32).toNat : Int), .int .u32 ((0 : UInt32).toNat : Int)], .int .i64 3]) (K := []) (rst := [_]) (.inl rfl) rfl rfl (Zq 0 rfl rfl S28 (ZQ rfl rfl)) ZK ?_)))))))))
  obtain rfl := Option.some.inj hx
  exact ⟨rfl, rfl, trivial⟩
 ·
  replace hx := ZV c_4 hx
  refine Za (ZC (ZH (ZB (JL.alloc Z158 rfl (fun b_5 hb_5 => ZD (ZC (ZH (ZB (ZA rfl rfl (ZG rfl) (ZD (ZC ?_)))))))))))
  refine ZH (ZH (ZB ?_))
  obtain ⟨x_6, hr_7, hx⟩ := ZJ hx
  refine ZO (vs := []) (args := []) (K := []) (rst := [_, _]) E112 rfl rfl rfl ZK (ptr_sizes_ok _ _ hr_7) rfl (fun u_8 Ku_8 Hu_8 hRu_8 hleu_8 hfu_8 => ?_)
  obtain ⟨rfl, rfl, rfl, -⟩ := hRu_8
  refine ZA rfl rfl (ZI rfl) (ZD (ZC ?_))
  obtain ⟨t_9, ht_11, hx⟩ := ZJ hx
  refine Zy (fun l o g => ∃ H_16 : Heaplet, l = [(2, .pointer (some ⟨b_3, 0, none⟩)), (4, .pointer (some ⟨b_5, 0, none⟩))] ∧ o = [[(b_3, .cells #[.int .i64 0, .int .u32 ((0 : UInt32).toNat : Int), .int .u32 ((0 : UInt32).toNat : Int), .int .u32 ((0 : UInt32).toNat : Int), .int .u32 ((0 : UInt32).toNat : Int)] 28 (0, 0))], [(b_5, .cells #[.int .i64 t_9.1, .int .i64 t_9.2.1, .int .i64 t_9.2.2.1, .int .i64 t_9.2.2.2.1, .int .i64 t_9.2.2.2.2] 158 (0, 0))]] ∧ H_16 = g ∧ Hle H H_16) ?_ ?_
  ·
   rintro _ _ _ ⟨H_16, rfl, rfl, rfl, hleH_16⟩
   refine ZC (ZH (ZB (ZA rfl rfl (R.ixA 0 U158 S3 rfl rfl rfl) (ZA rfl rfl (ZZ 1 S3 rfl rfl rfl) (ZA rfl rfl (R.ixA 1 U158 S3 rfl rfl rfl) (ZA rfl rfl (ZZ 1 S3 rfl rfl rfl) (ZA rfl rfl (R.cv_i64_u32 U3 U26 rfl) (ZA rfl rfl (R.ixA 2 U158 S3 rfl rfl rfl) (ZA rfl rfl (ZZ 1 S3 rfl rfl rfl) (ZA rfl rfl (R.cv_i64_u32 U3 U26 rfl) (ZA rfl rfl (R.ixA 3 U158 S3 rfl rfl rfl) ?_)))))))))))
   refine ZA rfl rfl (ZZ 1 S3 rfl rfl rfl) (ZA rfl rfl (R.cv_i64_u32 U3 U26 rfl) (ZA rfl rfl (R.ixA 4 U158 S3 rfl rfl rfl) (ZA rfl rfl (ZZ 1 S3 rfl rfl rfl) (ZA rfl rfl (R.cv_i64_u32 U3 U26 rfl) (ZA rfl rfl (R.bldP (vs := [(0, .int .i64 t_9.1), (1, .int .u32 ((u32i t_9.2.1).toNat : Int)), (2, .int .u32 ((u32i t_9.2.2.1).toNat : Int)), (3, .int .u32 ((u32i t_9.2.2.2.1).toNat : Int)), (4, .int .u32 ((u32i t_9.2.2.2.2).toNat : Int))]) (cs := [.int .i64 t_9.1, .int .u32 ((u32i t_9.2.1).toNat : Int), .int .u32 ((u32i t_9.2.2.1).toNat : Int), .int .u32 ((u32i t_9.2.2.2.1).toNat : Int), .int .u32 ((u32i t_9.2.2.2.2).toNat : Int)]) Z28 B28 rfl rfl rfl) (ZP 0 S28 rfl rfl rfl rfl rfl (Nat.le_of_ble_eq_true rfl) (ZD (ZC (ZH (ZH (ZB ?_)))))))))))
   refine ZA rfl rfl (Zh 0 (vs := [.int .i64 t_9.1, .int .u32 ((u32i t_9.2.1).toNat : Int), .int .u32 ((u32i t_9.2.2.1).toNat : Int), .int .u32 ((u32i t_9.2.2.2.1).toNat : Int), .int .u32 ((u32i t_9.2.2.2.2).toNat : Int)]) S28 rfl rfl rfl rfl) ?_
   obtain ⟨x_17, hr_18, hx⟩ := ZJ hx
   refine ZO (vs := [_]) (args := [_]) (K := []) (rst := [_, _]) E49 rfl rfl rfl ZK (ptr_Check_ok (Ptr.mk t_9.1 (u32i t_9.2.1) (u32i t_9.2.2.1) (u32i t_9.2.2.2.1) (u32i t_9.2.2.2.2)) _ _ hr_18) rfl (fun u_19 Ku_19 Hu_19 hRu_19 hleu_19 hfu_19 => ?_)
   obtain ⟨rfl, rfl, rfl, -⟩ := hRu_19
   refine ZA rfl rfl (ZG rfl) (ZD (ZC (ZH (ZB (ZA rfl rfl (ZI rfl) (ZA rfl rfl (R.neq_i rfl rfl) (ZD (ZC (ZY rfl (fun c_20 => ?_) (fun c_20 => ?_))))))))))
   ·
    replace hx := ZU c_20 hx
    refine ZH (ZB (ZA rfl rfl (R.bldP (vs := []) (cs := [.int .i64 0, .int .u32 ((0 : UInt32).toNat : Int), .int .u32 ((0 : UInt32).toNat : Int), .int .u32 ((0 : UInt32).toNat : Int), .int .u32 ((0 : UInt32).toNat : Int)]) Z28 B28 rfl rfl rfl) (ZA rfl rfl (ZI rfl) (ZP 0 S28 rfl rfl rfl rfl rfl (Nat.le_of_ble_eq_true rfl) (ZA rfl rfl (ZG rfl) (ZD (ZC (ZW (Zc (ZS (vs := [.agg #[.int .i64 0, .int .u32 ((0 : UInt32).toNat : Int), .int .u32 ((0 : UInt32).toNat : Int), .int .u32 ((0 : UInt32).toNat : Int), .int .u32 ((0 : UInt32).toNat : Int)], .int .i64 x_17]) (K := []) (rst := [_, _]) (.inl rfl) rfl rfl (Zq 0 rfl rfl S28 (ZQ rfl rfl)) ZK ?_))))))))))
    obtain rfl := Option.some.inj hx
    exact ⟨rfl, rfl, trivial⟩
   ·
    replace hx := ZV c_20 hx
    refine Za (ZC (ZH (ZB (ZA rfl rfl (Zh 0 (vs := [.int .i64 t_9.1, .int .u32 ((u32i t_9.2.1).toNat : Int), .int .u32 ((u32i t_9.2.2.1).toNat : Int), .int .u32 ((u32i t_9.2.2.2.1).toNat : Int), .int .u32 ((u32i t_9.2.2.2.2).toNat : Int)]) S28 rfl rfl rfl rfl) (ZP 0 S28 rfl rfl rfl rfl rfl (Nat.le_of_ble_eq_true rfl) (ZA rfl rfl (ZG rfl) (ZD (ZC (ZW (ZS (vs := [.agg #[.int .i64 t_9.1, .int .u32 ((u32i t_9.2.1).toNat : Int), .int .u32 ((u32i t_9.2.2.1).toNat : Int), .int .u32 ((u32i t_9.2.2.2.1).toNat : Int), .int .u32 ((u32i t_9.2.2.2.2).toNat : Int)], .int .i64 0]) (K := []) (rst := [_, _]) (.inl rfl) rfl rfl (Zq 0 rfl rfl S28 (ZQ rfl rfl)) ZK ?_))))))))))
    obtain rfl := Option.some.inj hx
    exact ⟨rfl, rfl, trivial⟩
  ·
   have hxo_10 := hx; clear hx; have hx := ht_11; clear ht_11
   refine JC.block (Zv 1 rfl (Z9 (fun n l o g => ∃ s_12 : Int × Int × Int × Int × Int × Int × Nat, ∃ H_15 : Heaplet, l = [(0, .slice aa_2 na_2 ca_2), (2, .pointer (some ⟨b_3, 0, none⟩)), (4, .pointer (some ⟨b_5, 0, none⟩)), (5, .int .i64 s_12.2.2.2.2.2.1), (13, .agg #[.int .i64 x_6.e0, .int .i64 x_6.e1, .int .i64 x_6.e2, .int .i64 x_6.e3, .int .i64 x_6.e4]), (14, .int .i64 ((s_12.2.2.2.2.2.2 : Nat) : Int))] ∧ o = [[(b_3, .cells #[.int .i64 0, .int .u32 ((0 : UInt32).toNat : Int), .int .u32 ((0 : UInt32).toNat : Int), .int .u32 ((0 : UInt32).toNat : Int), .int .u32 ((0 : UInt32).toNat : Int)] 28 (0, 0))], [(b_5, .cells #[.int .i64 s_12.1, .int .i64 s_12.2.1, .int .i64 s_12.2.2.1, .int .i64 s_12.2.2.2.1, .int .i64 s_12.2.2.2.2.1] 158 (0, 0))]] ∧ H_15 = g ∧ run (ptr_Read_l1 p_1 x_6) n s_12 = some t_9 ∧ Hle H H_15) FUEL ?_ ⟨(0, 0, 0, 0, 0, 0, 0), H, rfl, rfl, rfl, hx, (Hle.refl _)⟩ ⟨rfl, rfl, rfl, rfl, rfl, rfl, trivial⟩ ?_))
   ·
    rintro _ _ _ ⟨s_12, H_15, rfl, rfl, rfl, hn_13, hleH_15⟩
    exact Z5 hn_13
   ·
    rintro n_14 _ _ _ ⟨s_12, H_15, rfl, rfl, rfl, hn_13, hleH_15⟩
    clear hx; obtain ⟨oo_17, hx, hd_16⟩ := Z6 hn_13
    unfold ptr_Read_l1 at hx
    refine ZH (ZB (ZA rfl rfl (Z1 rfl rfl) (ZD (ZC (ZH (ZY rfl (fun c_16 => ?_) (fun c_16 => ?_)))))))
    ·
     replace hx := ZU c_16 hx
     refine Za (ZC (ZH (JC.block (ZH (ZB (ZA rfl rfl (ZI rfl) ?_))))))
     obtain ⟨y_17, hN_18, hx⟩ := Zt hx
     refine ZA rfl rfl (R.idxA (enc := (fun a : Int => Value.int .i64 a)) (L := x_6.l) U158 S3 rfl rfl rfl rfl rfl hN_18) (ZA rfl rfl (ZG rfl) (ZA rfl rfl (ZG rfl) (ZD (ZC (ZH (ZB (ZA rfl rfl (ZI rfl) (ZA rfl rfl (ZI rfl) (ZA rfl rfl (ZI rfl) (ZA rfl rfl (ZI rfl) ?_))))))))))
     obtain ⟨x_19, hr_20, hx⟩ := ZJ hx
     refine ZO (vs := [_, _, _]) (args := [_, _, _]) (K := []) (rst := [_, _]) E83 rfl rfl rfl ZK (code_Get_ok p_1 s_12.2.2.2.2.2.1 y_17 _ (ha_2.mono RU8.mono hleH_15) _ hr_20) rfl (fun u_21 Ku_21 Hu_21 hRu_21 hleu_21 hfu_21 => ?_)
     obtain ⟨rfl, rfl, -⟩ := hRu_21
     refine ZA rfl rfl (ZI rfl) (ZA rfl rfl (R.extract rfl rfl) (ZA rfl rfl (R.extract rfl rfl) ?_))
     obtain ⟨hp_22, hx⟩ := chk_some hx
     refine ZA rfl rfl (R.ixAs U158 S3 rfl rfl hp_22) ?_
     obtain ⟨m_23, hm_24, hb_25, hx⟩ := A5.setI_some hx
     refine JL.stA 1 (enc := (fun a : Int => Value.int .i64 a)) (L := (A5.mk s_12.1 s_12.2.1 s_12.2.2.1 s_12.2.2.2.1 s_12.2.2.2.2.1).l) (L' := m_23.l) (cur' := #[.int .i64 m_23.e0, .int .i64 m_23.e1, .int .i64 m_23.e2, .int .i64 m_23.e3, .int .i64 m_23.e4]) S3 rfl rfl rfl rfl rfl rfl rfl hm_24 hb_25.2 rfl (ZD (ZC (ZB (ZA rfl rfl (ZI rfl) (ZA rfl rfl (ZI rfl) (ZA rfl rfl (R.add_i rfl rfl) (ZA rfl rfl (ZG rfl) (ZD (Zl (ZC (ZB ?_)))))))))))
     refine ZA rfl rfl (R.inc rfl rfl (of_decide_eq_true c_16) (by decide)) (ZA rfl rfl (ZI rfl) (ZD ?_))
     replace hx := Zm hd_16 hx
     refine ZL 1 rfl (ZL 1 rfl ?_)
     exact ZR ⟨(m_23.e0, m_23.e1, m_23.e2, m_23.e3, m_23.e4, w64 (s_12.2.2.2.2.2.1 + y_17), s_12.2.2.2.2.2.2 + 1), Hu_21, rfl, rfl, rfl, hx, ((hleH_15.trans hleu_21))⟩ ⟨rfl, rfl, rfl, rfl, rfl, rfl, trivial⟩ rfl rfl
    ·
     replace hx := ZV c_16 hx
     refine Z0 (ZX ?_)
     obtain rfl := Zw hd_16 hx
     refine ZX (Zd (ZL 1 rfl (ZL 1 rfl ?_)))
     exact ZR ⟨H_15, rfl, rfl, rfl, (hleH_15)⟩ ⟨rfl, rfl, trivial⟩ rfl rfl

set_option maxHeartbeats 8000000 in
theorem bytes_Equal_ok (p_1 : List UInt8) (p_3 : List UInt8) (H : Heaplet) {aa_2 : Option Addr} {na_2 : Nat} {ca_2 : Nat} {aa_4 : Option Addr} {na_4 : Nat} {ca_4 : Nat} (ha_2 : IsSlice H RU8 1 (.slice aa_2 na_2 ca_2) p_1) (ha_4 : IsSlice H RU8 1 (.slice aa_4 na_4 ca_4) p_3) (r : Bool) (hx : bytes_Equal p_1 p_3 = some r) :
  Does Try.prog 85 #[.slice aa_2 na_2 ca_2, .slice aa_4 na_4 ca_4] [] H (fun u K' H' => u = .bool r ∧ K' = [] ∧ H = H' ∧ True) := by
 refine Does.enterL (vs := [.slice aa_2 na_2 ca_2, .slice aa_4 na_4 ca_4]) (l := [(0, .slice aa_2 na_2 ca_2), (1, .slice aa_4 na_4 ca_4)]) Try.func85 rfl rfl ⟨rfl, rfl, trivial⟩ (fun w hlt => ?_)
 unfold bytes_Equal at hx
 refine ZH (ZB (ZA rfl rfl (ZG rfl) (ZD (ZC (ZH (ZB (ZA rfl rfl (ZI rfl) (ZA rfl rfl (R.toStr U45 U5 U9 rfl ha_2) (ZA rfl rfl (ZI rfl) (ZA rfl rfl (R.toStr U45 U5 U9 rfl ha_4) (ZA rfl rfl (R.eqlStr (a := p_1) (b := p_3) rfl rfl) ?_)))))))))))
 refine ZA rfl rfl (ZG rfl) (ZD (ZC (ZW (ZS (vs := [.bool (decide (p_1 = p_3))]) (K := []) (rst := []) (.inl rfl) rfl rfl (ZQ rfl rfl) ZK ?_))))
 obtain rfl := Option.some.inj hx
 exact ⟨rfl, rfl, rfl, trivial⟩

set_option maxHeartbeats 8000000 in
theorem label_read_ok (p_1 : List UInt8) (H : Heaplet) {aa_2 : Option Addr} {na_2 : Nat} {ca_2 : Nat} (ha_2 : IsSlice H RU8 1 (.slice aa_2 na_2 ca_2) p_1) (r : Label × Bool) (hx : label_read p_1 = some r) :
  Does Try.prog 44 #[.slice aa_2 na_2 ca_2] [] H (fun u K' H' => u = .tuple #[.agg #[.int .u32 (r.1.Gen.toNat : Int), .int .u32 (r.1.Epoch.toNat : Int), .int .i64 r.1.Root.At, .int .u32 (r.1.Root.Birth.toNat : Int), .int .u32 (r.1.Root.Iv.toNat : Int), .int .u32 (r.1.Root.Tag.toNat : Int), .int .u32 (r.1.Root.Sum.toNat : Int)], .bool r.2] ∧ K' = [] ∧ True) := by
 refine Does.enterL (vs := [.slice aa_2 na_2 ca_2]) (l := [(0, .slice aa_2 na_2 ca_2)]) Try.func44 rfl rfl ⟨rfl, trivial⟩ (fun w hlt => ?_)
 unfold label_read at hx
 refine ZH (ZB (JL.alloc Z30 rfl (fun b_3 hb_3 => ZA rfl rfl (ZG rfl) (ZD (ZC (ZH (ZB (ZA rfl rfl (ZI rfl) ?_))))))))
 obtain ⟨x_4, hr_5, hx⟩ := ZJ hx
 refine ZO (vs := [_, _, _]) (args := [_, _, _]) (K := []) (rst := [_]) E83 rfl rfl rfl ZK (code_Get_ok p_1 1 4 _ ha_2 _ hr_5) rfl (fun u_6 Ku_6 Hu_6 hRu_6 hleu_6 hfu_6 => ?_)
 obtain ⟨rfl, rfl, -⟩ := hRu_6
 refine ZA rfl rfl (ZI rfl) (ZA rfl rfl (R.extract rfl rfl) (ZA rfl rfl (R.extract rfl rfl) (ZA rfl rfl (ZG rfl) (ZA rfl rfl (ZG rfl) (ZD (ZC (ZH (ZB (ZA rfl rfl (ZI rfl) ?_)))))))))
 obtain ⟨x_7, hr_8, hx⟩ := ZJ hx
 refine ZO (vs := [_, _, _]) (args := [_, _, _]) (K := []) (rst := [_]) E83 rfl rfl rfl ZK (code_Get_ok p_1 5 4 _ (ha_2.mono RU8.mono hleu_6) _ hr_8) rfl (fun u_9 Ku_9 Hu_9 hRu_9 hleu_9 hfu_9 => ?_)
 obtain ⟨rfl, rfl, -⟩ := hRu_9
 refine ZA rfl rfl (ZI rfl) (ZA rfl rfl (R.extract rfl rfl) (ZA rfl rfl (R.extract rfl rfl) (ZA rfl rfl (ZG rfl) (ZA rfl rfl (ZG rfl) (ZD (ZC (ZH (ZB (ZA rfl rfl (ZI rfl) ?_)))))))))
 obtain ⟨m_10, hm_12, hb_11, hx⟩ := slc_some hx
 obtain ⟨vv_13, cv_13, h1v_13, h2v_13, h3v_13, hsv_13⟩ := IsSlice.cutv (ha_2.mono RU8.mono (hleu_6.trans hleu_9)) hm_12 hb_11
 refine ZA rfl rfl (R.slc (cap := cv_13) (a := 9) (b := 25) (c := (cv_13 : Int)) (m := p_1) (R := RU8) U45 S5 rfl ⟨_, rfl⟩ ⟨_, rfl⟩ (by obtain ⟨ao, n, e, _⟩ := h1v_13; exact ⟨ao, n, e, rfl⟩) ⟨hb_11.1, hb_11.2.1, h2v_13⟩ h3v_13 (.inl rfl)) ?_
 obtain ⟨av_13, cv_13', rfl⟩ := IsSlice.val hsv_13
 obtain ⟨x_14, hr_15, hx⟩ := ZJ hx
 refine ZO (vs := [_]) (args := [_]) (K := []) (rst := [_]) E84 rfl rfl rfl ZK (ptr_Read_ok m_10 _ hsv_13 _ hr_15) rfl (fun u_16 Ku_16 Hu_16 hRu_16 hleu_16 hfu_16 => ?_)
 obtain ⟨rfl, rfl, -⟩ := hRu_16
 refine ZA rfl rfl (ZI rfl) (ZA rfl rfl (R.extract rfl rfl) (ZA rfl rfl (R.extract rfl rfl) (JL.alloc Z28 rfl (fun b_17 hb_17 => ZP 0 S28 rfl rfl rfl rfl rfl (Nat.le_of_ble_eq_true rfl) (ZA rfl rfl (ZG rfl) (ZD (ZC (ZH (ZB (ZA rfl rfl (ZI rfl) (ZA rfl rfl (R.cv_i64_u32 U3 U26 rfl) ?_)))))))))))
 refine ZA rfl rfl (ZI rfl) (ZA rfl rfl (R.cv_i64_u32 U3 U26 rfl) (ZA rfl rfl (Zh 0 (vs := [.int .i64 x_14.1.At, .int .u32 (x_14.1.Birth.toNat : Int), .int .u32 (x_14.1.Iv.toNat : Int), .int .u32 (x_14.1.Tag.toNat : Int), .int .u32 (x_14.1.Sum.toNat : Int)]) S28 rfl rfl rfl rfl) (ZA rfl rfl (R.bldP (vs := [(0, .int .u32 ((u32i x_4.1).toNat : Int)), (1, .int .u32 ((u32i x_7.1).toNat : Int)), (2, .agg #[.int .i64 x_14.1.At, .int .u32 (x_14.1.Birth.toNat : Int), .int .u32 (x_14.1.Iv.toNat : Int), .int .u32 (x_14.1.Tag.toNat : Int), .int .u32 (x_14.1.Sum.toNat : Int)])]) (cs := [.int .u32 ((u32i x_4.1).toNat : Int), .int .u32 ((u32i x_7.1).toNat : Int), .int .i64 x_14.1.At, .int .u32 (x_14.1.Birth.toNat : Int), .int .u32 (x_14.1.Iv.toNat : Int), .int .u32 (x_14.1.Tag.toNat : Int), .int .u32 (x_14.1.Sum.toNat : Int)]) Z30 B30 rfl rfl rfl) (ZP 1 S30 rfl rfl rfl rfl rfl (Nat.le_of_ble_eq_true rfl) (ZD (ZC (ZH ?_)))))))
 obtain ⟨t_18, ht_20, hx⟩ := ZJ hx
 refine Zy (fun l o g => l = [(2, .pointer (some ⟨b_3, 0, none⟩)), (3, .bool t_18)] ∧ o = [[(b_3, .cells #[.int .u32 ((u32i x_4.1).toNat : Int), .int .u32 ((u32i x_7.1).toNat : Int), .int .i64 x_14.1.At, .int .u32 (x_14.1.Birth.toNat : Int), .int .u32 (x_14.1.Iv.toNat : Int), .int .u32 (x_14.1.Tag.toNat : Int), .int .u32 (x_14.1.Sum.toNat : Int)] 30 (0, 0))]] ∧ Hu_16 = g) ?_ ?_
 ·
  rintro _ _ _ ⟨rfl, rfl, rfl⟩
  refine ZC (ZW (ZS (vs := [.agg #[.int .u32 ((u32i x_4.1).toNat : Int), .int .u32 ((u32i x_7.1).toNat : Int), .int .i64 x_14.1.At, .int .u32 (x_14.1.Birth.toNat : Int), .int .u32 (x_14.1.Iv.toNat : Int), .int .u32 (x_14.1.Tag.toNat : Int), .int .u32 (x_14.1.Sum.toNat : Int)], .bool t_18]) (K := []) (rst := [_]) (.inl rfl) rfl rfl (Zq 0 rfl rfl S30 (ZQ rfl rfl)) ZK ?_))
  obtain rfl := Option.some.inj hx
  exact ⟨rfl, rfl, trivial⟩
 ·
  have hxo_19 := hx; clear hx; have hx := ht_20; clear ht_20
  refine JC.draw (so := [_]) 15 rfl Mixed ⟨⟨0, rfl⟩, trivial⟩ (JA.val ⟨by kernel_rfl, by kernel_rfl⟩ (ZF _) (i := 1) rfl ⟨by kernel_rfl, by kernel_rfl, rfl⟩ trivial (ZE (Hle.refl _) ⟨⟨0, rfl⟩, trivial⟩) (ZI rfl) rfl (JA.val ⟨by kernel_rfl, by kernel_rfl⟩ (ZF _) (i := 2) rfl ⟨by kernel_rfl, by kernel_rfl, rfl⟩ trivial (ZE (Hle.refl _) ⟨⟨0, rfl⟩, trivial⟩) (R.eql_i rfl rfl) rfl (JA.val ⟨by kernel_rfl, by kernel_rfl⟩ (ZF _) (i := 3) rfl ⟨by kernel_rfl, by kernel_rfl, rfl⟩ trivial (ZE (Hle.refl _) ⟨⟨0, rfl⟩, trivial⟩) (ZI rfl) rfl (JA.gSplit (t := 35) rfl (fun c_21 => ?_) (fun c_21 => ?_)))))
  ·
   replace hx := ZU c_21 hx
   refine JA.two (i := 0) (j := 4) (by kernel_rfl) ?_ ?_
   ·
    refine JO.step rfl trivial rfl (fun K hK => ZA rfl rfl (Zh 1 (vs := [.int .u32 ((u32i x_4.1).toNat : Int), .int .u32 ((u32i x_7.1).toNat : Int), .int .i64 x_14.1.At, .int .u32 (x_14.1.Birth.toNat : Int), .int .u32 (x_14.1.Iv.toNat : Int), .int .u32 (x_14.1.Tag.toNat : Int), .int .u32 (x_14.1.Sum.toNat : Int)]) S30 rfl rfl rfl rfl) (ZD (hK _ _ _ (ZE (Hle.refl _) ⟨⟨0, rfl⟩, trivial⟩) (JA.one (i := 4) (by kernel_rfl) (JO.step rfl ⟨_, _, rfl, rfl, rfl⟩ rfl (fun K hK => ZA rfl rfl (Zh 1 (vs := [.int .u32 ((u32i x_4.1).toNat : Int), .int .u32 ((u32i x_7.1).toNat : Int), .int .i64 x_14.1.At, .int .u32 (x_14.1.Birth.toNat : Int), .int .u32 (x_14.1.Iv.toNat : Int), .int .u32 (x_14.1.Tag.toNat : Int), .int .u32 (x_14.1.Sum.toNat : Int)]) S30 rfl rfl rfl rfl) (ZD (hK _ _ _ (ZE (Hle.refl _) ⟨⟨0, rfl⟩, trivial⟩) (JA.one (i := 5) (by kernel_rfl) (JO.step rfl ⟨_, _, rfl, rfl, rfl⟩ rfl (fun K hK => ?_)))))))))))
    obtain ⟨x_22, hr_23, hx⟩ := ZJ hx
    refine ZO (vs := [_]) (args := [_]) (K := []) (rst := [_, _]) E37 rfl rfl rfl ZK (label_may_ok (Label.mk (u32i x_4.1) (u32i x_7.1) (Ptr.mk x_14.1.At x_14.1.Birth x_14.1.Iv x_14.1.Tag x_14.1.Sum)) _ _ hr_23) rfl (fun u_24 Ku_24 Hu_24 hRu_24 hleu_24 hfu_24 => ?_)
    obtain ⟨rfl, rfl, rfl, -⟩ := hRu_24
    refine ZD (hK _ _ _ (ZE (Hle.refl _) ⟨⟨0, rfl⟩, trivial⟩) (JA.val ⟨by kernel_rfl, by kernel_rfl⟩ (ZF _) (i := 6) rfl ⟨by kernel_rfl, by kernel_rfl, rfl⟩ trivial (ZE (Hle.refl _) ⟨⟨0, rfl⟩, trivial⟩) (Zf rfl rfl) rfl (JA.val ⟨by kernel_rfl, by kernel_rfl⟩ (ZF _) (i := 7) rfl ⟨by kernel_rfl, by kernel_rfl, rfl⟩ trivial (ZE (Hle.refl _) ⟨⟨0, rfl⟩, trivial⟩) (ZI rfl) rfl (JA.gSplit (t := 39) rfl (fun c_25 => ?_) (fun c_25 => ?_)))))
    ·
     replace hx := ZU c_25 hx
     refine JA.val ⟨by kernel_rfl, by kernel_rfl⟩ (ZF _) (i := 10) rfl ⟨by kernel_rfl, by kernel_rfl, rfl⟩ ⟨_, _, rfl, rfl, rfl⟩ (ZE (Hle.refl _) ⟨⟨0, rfl⟩, trivial⟩) (ZI rfl) rfl (JA.one (i := 8) (by kernel_rfl) (JO.step rfl ⟨_, _, rfl, rfl, rfl⟩ rfl (fun K hK => ZA rfl rfl (Zh 1 (vs := [.int .u32 ((u32i x_4.1).toNat : Int), .int .u32 ((u32i x_7.1).toNat : Int), .int .i64 x_14.1.At, .int .u32 (x_14.1.Birth.toNat : Int), .int .u32 (x_14.1.Iv.toNat : Int), .int .u32 (x_14.1.Tag.toNat : Int), .int .u32 (x_14.1.Sum.toNat : Int)]) S30 rfl rfl rfl rfl) (ZD (hK _ _ _ (ZE (Hle.refl _) ⟨⟨0, rfl⟩, trivial⟩) (JA.one (i := 9) (by kernel_rfl) (JO.step rfl ⟨_, _, rfl, rfl, rfl⟩ rfl (fun K hK => ?_))))))))
     obtain ⟨x_26, hr_27, hx⟩ := ZJ hx
     refine ZO (vs := [_]) (args := [_]) (K := []) (rst := [_, _]) E39 rfl rfl rfl ZK (label_block_ok (Label.mk (u32i x_4.1) (u32i x_7.1) (Ptr.mk x_14.1.At x_14.1.Birth x_14.1.Iv x_14.1.Tag x_14.1.Sum)) _ _ hr_27) rfl (fun u_28 Ku_28 Hu_28 hRu_28 hleu_28 hfu_28 => ?_)
     obtain ⟨ar_29, nr_29, cr_29, Kr_29, rfl, rfl, rfl, hr_29, hnewr_29, -⟩ := hRu_28
     replace hr_29 := (RowOf.base (Zj (H2 := New H Hu_16) RU8.const hr_29) (fun p hp => (hfu_28 p (Zk 0 rfl hp)).resolve_left (hnewr_29 p hp)))
     refine ZD (hK _ _ _ (ZE (Hle.refl _) ⟨⟨1, rfl⟩, trivial⟩) (JA.one (i := 11) (by kernel_rfl) (JO.step rfl ⟨_, _, rfl, rfl, rfl⟩ rfl (fun K hK => ?_))))
     obtain ⟨x_33, hr_34, hx⟩ := ZJ hx
     refine JL.callL2 (vs := [_, _]) (v := .bool x_33) E85 rfl rfl (fun H_32 hle_31 hl_30 => Does.mono (bytes_Equal_ok x_26 p_1 _ (Lent.row' 0 hl_30 RU8.mono hle_31 rfl (hr_29.old RU8.mono)) (IsSlice.mono RU8.mono hle_31 (ha_2.mono RU8.mono (hleu_6.trans (hleu_9.trans hleu_16)))) _ hr_34) (fun _ _ _ h => h.1)) rfl (ZD (hK _ _ _ (ZE (Hle.refl _) ⟨⟨1, rfl⟩, trivial⟩) (JA.val ⟨by kernel_rfl, by kernel_rfl⟩ (ZF _) (i := 12) rfl ⟨by kernel_rfl, by kernel_rfl, rfl⟩ trivial (ZE (Hle.refl _) ⟨⟨1, rfl⟩, trivial⟩) (Zf rfl rfl) rfl (JA.one (i := 13) (by kernel_rfl) (JO.step rfl trivial rfl (fun K hK => ZP 2 S30 rfl rfl rfl rfl rfl (Nat.le_of_ble_eq_true rfl) (ZD (hK _ _ _ (ZE (Hle.refl _) ⟨⟨1, rfl⟩, trivial⟩) (JA.val ⟨by kernel_rfl, by kernel_rfl⟩ (ZF _) (i := 14) rfl ⟨by kernel_rfl, by kernel_rfl, rfl⟩ trivial (ZE (Hle.refl _) ⟨⟨1, rfl⟩, trivial⟩) (ZG rfl) rfl (Zg (by kernel_rfl) ?_))))))))))
     obtain rfl := Option.some.inj hx
     refine JN.forget 1 (JN.forget 0 ?_)
     exact ZR ⟨rfl, rfl, rfl⟩ ⟨rfl, rfl, trivial⟩ rfl rfl
    ·
     replace hx := ZV c_25 hx
     refine Zp ⟨by kernel_rfl, by kernel_rfl⟩ (ZF _) (i := 8) rfl ⟨by kernel_rfl, by kernel_rfl, rfl⟩ rfl rfl rfl rfl (ZE (Hle.refl _) ⟨⟨0, rfl⟩, trivial⟩) rfl (Zp ⟨by kernel_rfl, by kernel_rfl⟩ (ZF _) (i := 9) rfl ⟨by kernel_rfl, by kernel_rfl, rfl⟩ rfl rfl rfl rfl (ZE (Hle.refl _) ⟨⟨0, rfl⟩, trivial⟩) rfl (Zp ⟨by kernel_rfl, by kernel_rfl⟩ (ZF _) (i := 10) rfl ⟨by kernel_rfl, by kernel_rfl, rfl⟩ rfl rfl rfl rfl (ZE (Hle.refl _) ⟨⟨0, rfl⟩, trivial⟩) rfl (Zp ⟨by kernel_rfl, by kernel_rfl⟩ (ZF _) (i := 11) rfl ⟨by kernel_rfl, by kernel_rfl, rfl⟩ rfl rfl rfl rfl (ZE (Hle.refl _) ⟨⟨0, rfl⟩, trivial⟩) rfl (JA.val ⟨by kernel_rfl, by kernel_rfl⟩ (ZF _) (i := 12) rfl ⟨by kernel_rfl, by kernel_rfl, rfl⟩ trivial (ZE (Hle.refl _) ⟨⟨0, rfl⟩, trivial⟩) (Zb rfl rfl) rfl (JA.one (i := 13) (by kernel_rfl) (JO.step rfl trivial rfl (fun K hK => ZP 1 S30 rfl rfl rfl rfl rfl (Nat.le_of_ble_eq_true rfl) (ZD (hK _ _ _ (ZE (Hle.refl _) ⟨⟨0, rfl⟩, trivial⟩) (JA.val ⟨by kernel_rfl, by kernel_rfl⟩ (ZF _) (i := 14) rfl ⟨by kernel_rfl, by kernel_rfl, rfl⟩ trivial (ZE (Hle.refl _) ⟨⟨0, rfl⟩, trivial⟩) (ZG rfl) rfl (Zg (by kernel_rfl) ?_)))))))))))
     obtain rfl := Option.some.inj hx
     refine JN.forget 0 ?_
     exact ZR ⟨rfl, rfl, rfl⟩ ⟨rfl, rfl, trivial⟩ rfl rfl
   ·
    refine JO.step rfl ⟨_, _, rfl, rfl, rfl⟩ rfl (fun K hK => ZA rfl rfl (Zh 1 (vs := [.int .u32 ((u32i x_4.1).toNat : Int), .int .u32 ((u32i x_7.1).toNat : Int), .int .i64 x_14.1.At, .int .u32 (x_14.1.Birth.toNat : Int), .int .u32 (x_14.1.Iv.toNat : Int), .int .u32 (x_14.1.Tag.toNat : Int), .int .u32 (x_14.1.Sum.toNat : Int)]) S30 rfl rfl rfl rfl) (ZD (hK _ _ _ (ZE (Hle.refl _) ⟨⟨0, rfl⟩, trivial⟩) (JA.two (i := 0) (j := 5) (by kernel_rfl) ?_ ?_))))
    ·
     refine JO.step rfl trivial rfl (fun K hK => ZA rfl rfl (Zh 1 (vs := [.int .u32 ((u32i x_4.1).toNat : Int), .int .u32 ((u32i x_7.1).toNat : Int), .int .i64 x_14.1.At, .int .u32 (x_14.1.Birth.toNat : Int), .int .u32 (x_14.1.Iv.toNat : Int), .int .u32 (x_14.1.Tag.toNat : Int), .int .u32 (x_14.1.Sum.toNat : Int)]) S30 rfl rfl rfl rfl) (ZD (hK _ _ _ (ZE (Hle.refl _) ⟨⟨0, rfl⟩, trivial⟩) (JA.one (i := 5) (by kernel_rfl) (JO.step rfl ⟨_, _, rfl, rfl, rfl⟩ rfl (fun K hK => ?_))))))
     obtain ⟨x_35, hr_36, hx⟩ := ZJ hx
     refine ZO (vs := [_]) (args := [_]) (K := []) (rst := [_, _]) E37 rfl rfl rfl ZK (label_may_ok (Label.mk (u32i x_4.1) (u32i x_7.1) (Ptr.mk x_14.1.At x_14.1.Birth x_14.1.Iv x_14.1.Tag x_14.1.Sum)) _ _ hr_36) rfl (fun u_37 Ku_37 Hu_37 hRu_37 hleu_37 hfu_37 => ?_)
     obtain ⟨rfl, rfl, rfl, -⟩ := hRu_37
     refine ZD (hK _ _ _ (ZE (Hle.refl _) ⟨⟨0, rfl⟩, trivial⟩) (JA.val ⟨by kernel_rfl, by kernel_rfl⟩ (ZF _) (i := 6) rfl ⟨by kernel_rfl, by kernel_rfl, rfl⟩ trivial (ZE (Hle.refl _) ⟨⟨0, rfl⟩, trivial⟩) (Zf rfl rfl) rfl (JA.val ⟨by kernel_rfl, by kernel_rfl⟩ (ZF _) (i := 7) rfl ⟨by kernel_rfl, by kernel_rfl, rfl⟩ trivial (ZE (Hle.refl _) ⟨⟨0, rfl⟩, trivial⟩) (ZI rfl) rfl (JA.gSplit (t := 39) rfl (fun c_38 => ?_) (fun c_38 => ?_)))))
     ·
      replace hx := ZU c_38 hx
      refine JA.val ⟨by kernel_rfl, by kernel_rfl⟩ (ZF _) (i := 10) rfl ⟨by kernel_rfl, by kernel_rfl, rfl⟩ ⟨_, _, rfl, rfl, rfl⟩ (ZE (Hle.refl _) ⟨⟨0, rfl⟩, trivial⟩) (ZI rfl) rfl (JA.one (i := 8) (by kernel_rfl) (JO.step rfl ⟨_, _, rfl, rfl, rfl⟩ rfl (fun K hK => ZA rfl rfl (Zh 1 (vs := [.int .u32 ((u32i x_4.1).toNat : Int), .int .u32 ((u32i x_7.1).toNat : Int), .int .i64 x_14.1.At, .int .u32 (x_14.1.Birth.toNat : Int), .int .u32 (x_14.1.Iv.toNat : Int), .int .u32 (x_14.1.Tag.toNat : Int), .int .u32 (x_14.1.Sum.toNat : Int)]) S30 rfl rfl rfl rfl) (ZD (hK _ _ _ (ZE (Hle.refl _) ⟨⟨0, rfl⟩, trivial⟩) (JA.one (i := 9) (by kernel_rfl) (JO.step rfl ⟨_, _, rfl, rfl, rfl⟩ rfl (fun K hK => ?_))))))))
      obtain ⟨x_39, hr_40, hx⟩ := ZJ hx
      refine ZO (vs := [_]) (args := [_]) (K := []) (rst := [_, _]) E39 rfl rfl rfl ZK (label_block_ok (Label.mk (u32i x_4.1) (u32i x_7.1) (Ptr.mk x_14.1.At x_14.1.Birth x_14.1.Iv x_14.1.Tag x_14.1.Sum)) _ _ hr_40) rfl (fun u_41 Ku_41 Hu_41 hRu_41 hleu_41 hfu_41 => ?_)
      obtain ⟨ar_42, nr_42, cr_42, Kr_42, rfl, rfl, rfl, hr_42, hnewr_42, -⟩ := hRu_41
      replace hr_42 := (RowOf.base (Zj (H2 := New H Hu_16) RU8.const hr_42) (fun p hp => (hfu_41 p (Zk 0 rfl hp)).resolve_left (hnewr_42 p hp)))
      refine ZD (hK _ _ _ (ZE (Hle.refl _) ⟨⟨1, rfl⟩, trivial⟩) (JA.one (i := 11) (by kernel_rfl) (JO.step rfl ⟨_, _, rfl, rfl, rfl⟩ rfl (fun K hK => ?_))))
      obtain ⟨x_46, hr_47, hx⟩ := ZJ hx
      refine JL.callL2 (vs := [_, _]) (v := .bool x_46) E85 rfl rfl (fun H_45 hle_44 hl_43 => Does.mono (bytes_Equal_ok x_39 p_1 _ (Lent.row' 0 hl_43 RU8.mono hle_44 rfl (hr_42.old RU8.mono)) (IsSlice.mono RU8.mono hle_44 (ha_2.mono RU8.mono (hleu_6.trans (hleu_9.trans hleu_16)))) _ hr_47) (fun _ _ _ h => h.1)) rfl (ZD (hK _ _ _ (ZE (Hle.refl _) ⟨⟨1, rfl⟩, trivial⟩) (JA.val ⟨by kernel_rfl, by kernel_rfl⟩ (ZF _) (i := 12) rfl ⟨by kernel_rfl, by kernel_rfl, rfl⟩ trivial (ZE (Hle.refl _) ⟨⟨1, rfl⟩, trivial⟩) (Zf rfl rfl) rfl (JA.one (i := 13) (by kernel_rfl) (JO.step rfl trivial rfl (fun K hK => ZP 2 S30 rfl rfl rfl rfl rfl (Nat.le_of_ble_eq_true rfl) (ZD (hK _ _ _ (ZE (Hle.refl _) ⟨⟨1, rfl⟩, trivial⟩) (JA.val ⟨by kernel_rfl, by kernel_rfl⟩ (ZF _) (i := 14) rfl ⟨by kernel_rfl, by kernel_rfl, rfl⟩ trivial (ZE (Hle.refl _) ⟨⟨1, rfl⟩, trivial⟩) (ZG rfl) rfl (Zg (by kernel_rfl) ?_))))))))))
      obtain rfl := Option.some.inj hx
      refine JN.forget 1 (JN.forget 0 ?_)
      exact ZR ⟨rfl, rfl, rfl⟩ ⟨rfl, rfl, trivial⟩ rfl rfl
     ·
      replace hx := ZV c_38 hx
      refine Zp ⟨by kernel_rfl, by kernel_rfl⟩ (ZF _) (i := 8) rfl ⟨by kernel_rfl, by kernel_rfl, rfl⟩ rfl rfl rfl rfl (ZE (Hle.refl _) ⟨⟨0, rfl⟩, trivial⟩) rfl (Zp ⟨by kernel_rfl, by kernel_rfl⟩ (ZF _) (i := 9) rfl ⟨by kernel_rfl, by kernel_rfl, rfl⟩ rfl rfl rfl rfl (ZE (Hle.refl _) ⟨⟨0, rfl⟩, trivial⟩) rfl (Zp ⟨by kernel_rfl, by kernel_rfl⟩ (ZF _) (i := 10) rfl ⟨by kernel_rfl, by kernel_rfl, rfl⟩ rfl rfl rfl rfl (ZE (Hle.refl _) ⟨⟨0, rfl⟩, trivial⟩) rfl (Zp ⟨by kernel_rfl, by kernel_rfl⟩ (ZF _) (i := 11) rfl ⟨by kernel_rfl, by kernel_rfl, rfl⟩ rfl rfl rfl rfl (ZE (Hle.refl _) ⟨⟨0, rfl⟩, trivial⟩) rfl (JA.val ⟨by kernel_rfl, by kernel_rfl⟩ (ZF _) (i := 12) rfl ⟨by kernel_rfl, by kernel_rfl, rfl⟩ trivial (ZE (Hle.refl _) ⟨⟨0, rfl⟩, trivial⟩) (Zb rfl rfl) rfl (JA.one (i := 13) (by kernel_rfl) (JO.step rfl trivial rfl (fun K hK => ZP 1 S30 rfl rfl rfl rfl rfl (Nat.le_of_ble_eq_true rfl) (ZD (hK _ _ _ (ZE (Hle.refl _) ⟨⟨0, rfl⟩, trivial⟩) (JA.val ⟨by kernel_rfl, by kernel_rfl⟩ (ZF _) (i := 14) rfl ⟨by kernel_rfl, by kernel_rfl, rfl⟩ trivial (ZE (Hle.refl _) ⟨⟨0, rfl⟩, trivial⟩) (ZG rfl) rfl (Zg (by kernel_rfl) ?_)))))))))))
      obtain rfl := Option.some.inj hx
      refine JN.forget 0 ?_
      exact ZR ⟨rfl, rfl, rfl⟩ ⟨rfl, rfl, trivial⟩ rfl rfl
    ·
     refine JO.step rfl ⟨_, _, rfl, rfl, rfl⟩ rfl (fun K hK => ?_)
     obtain ⟨x_48, hr_49, hx⟩ := ZJ hx
     refine ZO (vs := [_]) (args := [_]) (K := []) (rst := [_, _]) E37 rfl rfl rfl ZK (label_may_ok (Label.mk (u32i x_4.1) (u32i x_7.1) (Ptr.mk x_14.1.At x_14.1.Birth x_14.1.Iv x_14.1.Tag x_14.1.Sum)) _ _ hr_49) rfl (fun u_50 Ku_50 Hu_50 hRu_50 hleu_50 hfu_50 => ?_)
     obtain ⟨rfl, rfl, rfl, -⟩ := hRu_50
     refine ZD (hK _ _ _ (ZE (Hle.refl _) ⟨⟨0, rfl⟩, trivial⟩) (JA.val ⟨by kernel_rfl, by kernel_rfl⟩ (ZF _) (i := 6) rfl ⟨by kernel_rfl, by kernel_rfl, rfl⟩ trivial (ZE (Hle.refl _) ⟨⟨0, rfl⟩, trivial⟩) (Zf rfl rfl) rfl (JA.val ⟨by kernel_rfl, by kernel_rfl⟩ (ZF _) (i := 7) rfl ⟨by kernel_rfl, by kernel_rfl, rfl⟩ trivial (ZE (Hle.refl _) ⟨⟨0, rfl⟩, trivial⟩) (ZI rfl) rfl (JA.gSplit (t := 39) rfl (fun c_51 => ?_) (fun c_51 => ?_)))))
     ·
      replace hx := ZU c_51 hx
      refine JA.val ⟨by kernel_rfl, by kernel_rfl⟩ (ZF _) (i := 10) rfl ⟨by kernel_rfl, by kernel_rfl, rfl⟩ ⟨_, _, rfl, rfl, rfl⟩ (ZE (Hle.refl _) ⟨⟨0, rfl⟩, trivial⟩) (ZI rfl) rfl ?_
      obtain ⟨x_52, hr_53, hx⟩ := ZJ hx
      obtain ⟨x_59, hr_60, hx⟩ := ZJ hx
      refine JA.two (i := 0) (j := 8) (by kernel_rfl) ?_ ?_
      ·
       refine JO.step rfl trivial rfl (fun K hK => ZA rfl rfl (Zh 1 (vs := [.int .u32 ((u32i x_4.1).toNat : Int), .int .u32 ((u32i x_7.1).toNat : Int), .int .i64 x_14.1.At, .int .u32 (x_14.1.Birth.toNat : Int), .int .u32 (x_14.1.Iv.toNat : Int), .int .u32 (x_14.1.Tag.toNat : Int), .int .u32 (x_14.1.Sum.toNat : Int)]) S30 rfl rfl rfl rfl) (ZD (hK _ _ _ (ZE (Hle.refl _) ⟨⟨0, rfl⟩, trivial⟩) (JA.one (i := 8) (by kernel_rfl) (JO.step rfl ⟨_, _, rfl, rfl, rfl⟩ rfl (fun K hK => ZA rfl rfl (Zh 1 (vs := [.int .u32 ((u32i x_4.1).toNat : Int), .int .u32 ((u32i x_7.1).toNat : Int), .int .i64 x_14.1.At, .int .u32 (x_14.1.Birth.toNat : Int), .int .u32 (x_14.1.Iv.toNat : Int), .int .u32 (x_14.1.Tag.toNat : Int), .int .u32 (x_14.1.Sum.toNat : Int)]) S30 rfl rfl rfl rfl) (ZD (hK _ _ _ (ZE (Hle.refl _) ⟨⟨0, rfl⟩, trivial⟩) (JA.one (i := 9) (by kernel_rfl) (JO.step rfl ⟨_, _, rfl, rfl, rfl⟩ rfl (fun K hK => ZO (vs := [_]) (args := [_]) (K := []) (rst := [_, _]) E39 rfl rfl rfl ZK (label_block_ok (Label.mk (u32i x_4.1) (u32i x_7.1) (Ptr.mk x_14.1.At x_14.1.Birth x_14.1.Iv x_14.1.Tag x_14.1.Sum)) _ _ hr_53) rfl (fun u_54 Ku_54 Hu_54 hRu_54 hleu_54 hfu_54 => ?_))))))))))))
       obtain ⟨ar_55, nr_55, cr_55, Kr_55, rfl, rfl, rfl, hr_55, hnewr_55, -⟩ := hRu_54
       replace hr_55 := (RowOf.base (Zj (H2 := New H Hu_16) RU8.const hr_55) (fun p hp => (hfu_54 p (Zk 0 rfl hp)).resolve_left (hnewr_55 p hp)))
       refine ZD (hK _ _ _ (ZE (Hle.refl _) ⟨⟨1, rfl⟩, trivial⟩) (JA.one (i := 11) (by kernel_rfl) (JO.step rfl ⟨_, _, rfl, rfl, rfl⟩ rfl (fun K hK => JL.callL2 (vs := [_, _]) (v := .bool x_59) E85 rfl rfl (fun H_58 hle_57 hl_56 => Does.mono (bytes_Equal_ok x_52 p_1 _ (Lent.row' 0 hl_56 RU8.mono hle_57 rfl (hr_55.old RU8.mono)) (IsSlice.mono RU8.mono hle_57 (ha_2.mono RU8.mono (hleu_6.trans (hleu_9.trans hleu_16)))) _ hr_60) (fun _ _ _ h => h.1)) rfl (ZD (hK _ _ _ (ZE (Hle.refl _) ⟨⟨1, rfl⟩, trivial⟩) (JA.val ⟨by kernel_rfl, by kernel_rfl⟩ (ZF _) (i := 12) rfl ⟨by kernel_rfl, by kernel_rfl, rfl⟩ trivial (ZE (Hle.refl _) ⟨⟨1, rfl⟩, trivial⟩) (Zf rfl rfl) rfl (JA.one (i := 13) (by kernel_rfl) (JO.step rfl trivial rfl (fun K hK => ZP 2 S30 rfl rfl rfl rfl rfl (Nat.le_of_ble_eq_true rfl) (ZD ?_)))))))))))
       refine hK _ _ _ (ZE (Hle.refl _) ⟨⟨1, rfl⟩, trivial⟩) (JA.val ⟨by kernel_rfl, by kernel_rfl⟩ (ZF _) (i := 14) rfl ⟨by kernel_rfl, by kernel_rfl, rfl⟩ trivial (ZE (Hle.refl _) ⟨⟨1, rfl⟩, trivial⟩) (ZG rfl) rfl (Zg (by kernel_rfl) ?_))
       obtain rfl := Option.some.inj hx
       refine JN.forget 1 (JN.forget 0 ?_)
       exact ZR ⟨rfl, rfl, rfl⟩ ⟨rfl, rfl, trivial⟩ rfl rfl
      ·
       refine JO.step rfl ⟨_, _, rfl, rfl, rfl⟩ rfl (fun K hK => ZA rfl rfl (Zh 1 (vs := [.int .u32 ((u32i x_4.1).toNat : Int), .int .u32 ((u32i x_7.1).toNat : Int), .int .i64 x_14.1.At, .int .u32 (x_14.1.Birth.toNat : Int), .int .u32 (x_14.1.Iv.toNat : Int), .int .u32 (x_14.1.Tag.toNat : Int), .int .u32 (x_14.1.Sum.toNat : Int)]) S30 rfl rfl rfl rfl) (ZD (hK _ _ _ (ZE (Hle.refl _) ⟨⟨0, rfl⟩, trivial⟩) (JA.two (i := 0) (j := 9) (by kernel_rfl) ?_ ?_))))
       ·
        refine JO.step rfl trivial rfl (fun K hK => ZA rfl rfl (Zh 1 (vs := [.int .u32 ((u32i x_4.1).toNat : Int), .int .u32 ((u32i x_7.1).toNat : Int), .int .i64 x_14.1.At, .int .u32 (x_14.1.Birth.toNat : Int), .int .u32 (x_14.1.Iv.toNat : Int), .int .u32 (x_14.1.Tag.toNat : Int), .int .u32 (x_14.1.Sum.toNat : Int)]) S30 rfl rfl rfl rfl) (ZD (hK _ _ _ (ZE (Hle.refl _) ⟨⟨0, rfl⟩, trivial⟩) (JA.one (i := 9) (by kernel_rfl) (JO.step rfl ⟨_, _, rfl, rfl, rfl⟩ rfl (fun K hK => ZO (vs := [_]) (args := [_]) (K := []) (rst := [_, _]) E39 rfl rfl rfl ZK (label_block_ok (Label.mk (u32i x_4.1) (u32i x_7.1) (Ptr.mk x_14.1.At x_14.1.Birth x_14.1.Iv x_14.1.Tag x_14.1.Sum)) _ _ hr_53) rfl (fun u_54 Ku_54 Hu_54 hRu_54 hleu_54 hfu_54 => ?_)))))))
        obtain ⟨ar_55, nr_55, cr_55, Kr_55, rfl, rfl, rfl, hr_55, hnewr_55, -⟩ := hRu_54
        replace hr_55 := (RowOf.base (Zj (H2 := New H Hu_16) RU8.const hr_55) (fun p hp => (hfu_54 p (Zk 0 rfl hp)).resolve_left (hnewr_55 p hp)))
        refine ZD (hK _ _ _ (ZE (Hle.refl _) ⟨⟨1, rfl⟩, trivial⟩) (JA.one (i := 11) (by kernel_rfl) (JO.step rfl ⟨_, _, rfl, rfl, rfl⟩ rfl (fun K hK => JL.callL2 (vs := [_, _]) (v := .bool x_59) E85 rfl rfl (fun H_58 hle_57 hl_56 => Does.mono (bytes_Equal_ok x_52 p_1 _ (Lent.row' 0 hl_56 RU8.mono hle_57 rfl (hr_55.old RU8.mono)) (IsSlice.mono RU8.mono hle_57 (ha_2.mono RU8.mono (hleu_6.trans (hleu_9.trans hleu_16)))) _ hr_60) (fun _ _ _ h => h.1)) rfl (ZD (hK _ _ _ (ZE (Hle.refl _) ⟨⟨1, rfl⟩, trivial⟩) (JA.val ⟨by kernel_rfl, by kernel_rfl⟩ (ZF _) (i := 12) rfl ⟨by kernel_rfl, by kernel_rfl, rfl⟩ trivial (ZE (Hle.refl _) ⟨⟨1, rfl⟩, trivial⟩) (Zf rfl rfl) rfl (JA.one (i := 13) (by kernel_rfl) (JO.step rfl trivial rfl (fun K hK => ZP 2 S30 rfl rfl rfl rfl rfl (Nat.le_of_ble_eq_true rfl) (ZD ?_)))))))))))
        refine hK _ _ _ (ZE (Hle.refl _) ⟨⟨1, rfl⟩, trivial⟩) (JA.val ⟨by kernel_rfl, by kernel_rfl⟩ (ZF _) (i := 14) rfl ⟨by kernel_rfl, by kernel_rfl, rfl⟩ trivial (ZE (Hle.refl _) ⟨⟨1, rfl⟩, trivial⟩) (ZG rfl) rfl (Zg (by kernel_rfl) ?_))
        obtain rfl := Option.some.inj hx
        refine JN.forget 1 (JN.forget 0 ?_)
        exact ZR ⟨rfl, rfl, rfl⟩ ⟨rfl, rfl, trivial⟩ rfl rfl
       ·
        refine JO.step rfl ⟨_, _, rfl, rfl, rfl⟩ rfl (fun K hK => ZO (vs := [_]) (args := [_]) (K := []) (rst := [_, _]) E39 rfl rfl rfl ZK (label_block_ok (Label.mk (u32i x_4.1) (u32i x_7.1) (Ptr.mk x_14.1.At x_14.1.Birth x_14.1.Iv x_14.1.Tag x_14.1.Sum)) _ _ hr_53) rfl (fun u_54 Ku_54 Hu_54 hRu_54 hleu_54 hfu_54 => ?_))
        obtain ⟨ar_55, nr_55, cr_55, Kr_55, rfl, rfl, rfl, hr_55, hnewr_55, -⟩ := hRu_54
        replace hr_55 := (RowOf.base (Zj (H2 := New H Hu_16) RU8.const hr_55) (fun p hp => (hfu_54 p (Zk 0 rfl hp)).resolve_left (hnewr_55 p hp)))
        refine ZD (hK _ _ _ (ZE (Hle.refl _) ⟨⟨1, rfl⟩, trivial⟩) (JA.two (i := 0) (j := 11) (by kernel_rfl) ?_ ?_))
        ·
         refine JO.step rfl trivial rfl (fun K hK => ZA rfl rfl (Zh 2 (vs := [.int .u32 ((u32i x_4.1).toNat : Int), .int .u32 ((u32i x_7.1).toNat : Int), .int .i64 x_14.1.At, .int .u32 (x_14.1.Birth.toNat : Int), .int .u32 (x_14.1.Iv.toNat : Int), .int .u32 (x_14.1.Tag.toNat : Int), .int .u32 (x_14.1.Sum.toNat : Int)]) S30 rfl rfl rfl rfl) (ZD (hK _ _ _ (ZE (Hle.refl _) ⟨⟨1, rfl⟩, trivial⟩) (JA.one (i := 11) (by kernel_rfl) (JO.step rfl ⟨_, _, rfl, rfl, rfl⟩ rfl (fun K hK => JL.callL2 (vs := [_, _]) (v := .bool x_59) E85 rfl rfl (fun H_58 hle_57 hl_56 => Does.mono (bytes_Equal_ok x_52 p_1 _ (Lent.row' 0 hl_56 RU8.mono hle_57 rfl (hr_55.old RU8.mono)) (IsSlice.mono RU8.mono hle_57 (ha_2.mono RU8.mono (hleu_6.trans (hleu_9.trans hleu_16)))) _ hr_60) (fun _ _ _ h => h.1)) rfl (ZD (hK _ _ _ (ZE (Hle.refl _) ⟨⟨1, rfl⟩, trivial⟩) (JA.val ⟨by kernel_rfl, by kernel_rfl⟩ (ZF _) (i := 12) rfl ⟨by kernel_rfl, by kernel_rfl, rfl⟩ trivial (ZE (Hle.refl _) ⟨⟨1, rfl⟩, trivial⟩) (Zf rfl rfl) rfl (JA.one (i := 13) (by kernel_rfl) (JO.step rfl trivial rfl (fun K hK => ?_))))))))))))
         refine ZP 2 S30 rfl rfl rfl rfl rfl (Nat.le_of_ble_eq_true rfl) (ZD (hK _ _ _ (ZE (Hle.refl _) ⟨⟨1, rfl⟩, trivial⟩) (JA.val ⟨by kernel_rfl, by kernel_rfl⟩ (ZF _) (i := 14) rfl ⟨by kernel_rfl, by kernel_rfl, rfl⟩ trivial (ZE (Hle.refl _) ⟨⟨1, rfl⟩, trivial⟩) (ZG rfl) rfl (Zg (by kernel_rfl) ?_))))
         obtain rfl := Option.some.inj hx
         refine JN.forget 1 (JN.forget 0 ?_)
         exact ZR ⟨rfl, rfl, rfl⟩ ⟨rfl, rfl, trivial⟩ rfl rfl
        ·
         refine JO.step rfl ⟨_, _, rfl, rfl, rfl⟩ rfl (fun K hK => JL.callL2 (vs := [_, _]) (v := .bool x_59) E85 rfl rfl (fun H_58 hle_57 hl_56 => Does.mono (bytes_Equal_ok x_52 p_1 _ (Lent.row' 0 hl_56 RU8.mono hle_57 rfl (hr_55.old RU8.mono)) (IsSlice.mono RU8.mono hle_57 (ha_2.mono RU8.mono (hleu_6.trans (hleu_9.trans hleu_16)))) _ hr_60) (fun _ _ _ h => h.1)) rfl (ZD (hK _ _ _ (ZE (Hle.refl _) ⟨⟨1, rfl⟩, trivial⟩) (JA.val ⟨by kernel_rfl, by kernel_rfl⟩ (ZF _) (i := 12) rfl ⟨by kernel_rfl, by kernel_rfl, rfl⟩ trivial (ZE (Hle.refl _) ⟨⟨1, rfl⟩, trivial⟩) (Zf rfl rfl) rfl (JA.one (i := 0) (by kernel_rfl) (JO.step rfl trivial rfl (fun K hK => ZA rfl rfl (Zh 2 (vs := [.int .u32 ((u32i x_4.1).toNat : Int), .int .u32 ((u32i x_7.1).toNat : Int), .int .i64 x_14.1.At, .int .u32 (x_14.1.Birth.toNat : Int), .int .u32 (x_14.1.Iv.toNat : Int), .int .u32 (x_14.1.Tag.toNat : Int), .int .u32 (x_14.1.Sum.toNat : Int)]) S30 rfl rfl rfl rfl) (ZD (hK _ _ _ (ZE (Hle.refl _) ⟨⟨1, rfl⟩, trivial⟩) (JA.one (i := 13) (by kernel_rfl) (JO.step rfl trivial rfl (fun K hK => ?_))))))))))))
         refine ZP 2 S30 rfl rfl rfl rfl rfl (Nat.le_of_ble_eq_true rfl) (ZD (hK _ _ _ (ZE (Hle.refl _) ⟨⟨1, rfl⟩, trivial⟩) (JA.val ⟨by kernel_rfl, by kernel_rfl⟩ (ZF _) (i := 14) rfl ⟨by kernel_rfl, by kernel_rfl, rfl⟩ trivial (ZE (Hle.refl _) ⟨⟨1, rfl⟩, trivial⟩) (ZG rfl) rfl (Zg (by kernel_rfl) ?_))))
         obtain rfl := Option.some.inj hx
         refine JN.forget 1 (JN.forget 0 ?_)
         exact ZR ⟨rfl, rfl, rfl⟩ ⟨rfl, rfl, trivial⟩ rfl rfl
     ·
      replace hx := ZV c_51 hx
      refine Zp ⟨by kernel_rfl, by kernel_rfl⟩ (ZF _) (i := 8) rfl ⟨by kernel_rfl, by kernel_rfl, rfl⟩ rfl rfl rfl rfl (ZE (Hle.refl _) ⟨⟨0, rfl⟩, trivial⟩) rfl (Zp ⟨by kernel_rfl, by kernel_rfl⟩ (ZF _) (i := 9) rfl ⟨by kernel_rfl, by kernel_rfl, rfl⟩ rfl rfl rfl rfl (ZE (Hle.refl _) ⟨⟨0, rfl⟩, trivial⟩) rfl (Zp ⟨by kernel_rfl, by kernel_rfl⟩ (ZF _) (i := 10) rfl ⟨by kernel_rfl, by kernel_rfl, rfl⟩ rfl rfl rfl rfl (ZE (Hle.refl _) ⟨⟨0, rfl⟩, trivial⟩) rfl (Zp ⟨by kernel_rfl, by kernel_rfl⟩ (ZF _) (i := 11) rfl ⟨by kernel_rfl, by kernel_rfl, rfl⟩ rfl rfl rfl rfl (ZE (Hle.refl _) ⟨⟨0, rfl⟩, trivial⟩) rfl (JA.val ⟨by kernel_rfl, by kernel_rfl⟩ (ZF _) (i := 12) rfl ⟨by kernel_rfl, by kernel_rfl, rfl⟩ trivial (ZE (Hle.refl _) ⟨⟨0, rfl⟩, trivial⟩) (Zb rfl rfl) rfl (JA.one (i := 0) (by kernel_rfl) (JO.step rfl trivial rfl (fun K hK => ZA rfl rfl (Zh 1 (vs := [.int .u32 ((u32i x_4.1).toNat : Int), .int .u32 ((u32i x_7.1).toNat : Int), .int .i64 x_14.1.At, .int .u32 (x_14.1.Birth.toNat : Int), .int .u32 (x_14.1.Iv.toNat : Int), .int .u32 (x_14.1.Tag.toNat : Int), .int .u32 (x_14.1.Sum.toNat : Int)]) S30 rfl rfl rfl rfl) (ZD (hK _ _ _ (ZE (Hle.refl _) ⟨⟨0, rfl⟩, trivial⟩) (JA.one (i := 13) (by kernel_rfl) (JO.step rfl trivial rfl (fun K hK => ?_))))))))))))
      refine ZP 1 S30 rfl rfl rfl rfl rfl (Nat.le_of_ble_eq_true rfl) (ZD (hK _ _ _ (ZE (Hle.refl _) ⟨⟨0, rfl⟩, trivial⟩) (JA.val ⟨by kernel_rfl, by kernel_rfl⟩ (ZF _) (i := 14) rfl ⟨by kernel_rfl, by kernel_rfl, rfl⟩ trivial (ZE (Hle.refl _) ⟨⟨0, rfl⟩, trivial⟩) (ZG rfl) rfl (Zg (by kernel_rfl) ?_))))
      obtain rfl := Option.some.inj hx
      refine JN.forget 0 ?_
      exact ZR ⟨rfl, rfl, rfl⟩ ⟨rfl, rfl, trivial⟩ rfl rfl
  ·
   replace hx := ZV c_21 hx
   refine Zp ⟨by kernel_rfl, by kernel_rfl⟩ (ZF _) (i := 4) rfl ⟨by kernel_rfl, by kernel_rfl, rfl⟩ rfl rfl rfl rfl (ZE (Hle.refl _) ⟨⟨0, rfl⟩, trivial⟩) rfl (Zp ⟨by kernel_rfl, by kernel_rfl⟩ (ZF _) (i := 5) rfl ⟨by kernel_rfl, by kernel_rfl, rfl⟩ rfl rfl rfl rfl (ZE (Hle.refl _) ⟨⟨0, rfl⟩, trivial⟩) rfl (JA.val ⟨by kernel_rfl, by kernel_rfl⟩ (ZF _) (i := 6) rfl ⟨by kernel_rfl, by kernel_rfl, rfl⟩ trivial (ZE (Hle.refl _) ⟨⟨0, rfl⟩, trivial⟩) (Zb rfl rfl) rfl (JA.val ⟨by kernel_rfl, by kernel_rfl⟩ (ZF _) (i := 7) rfl ⟨by kernel_rfl, by kernel_rfl, rfl⟩ trivial (ZE (Hle.refl _) ⟨⟨0, rfl⟩, trivial⟩) (ZI rfl) rfl (Zp ⟨by kernel_rfl, by kernel_rfl⟩ (ZF _) (i := 8) rfl ⟨by kernel_rfl, by kernel_rfl, rfl⟩ rfl rfl rfl rfl (ZE (Hle.refl _) ⟨⟨0, rfl⟩, trivial⟩) rfl (Zp ⟨by kernel_rfl, by kernel_rfl⟩ (ZF _) (i := 9) rfl ⟨by kernel_rfl, by kernel_rfl, rfl⟩ rfl rfl rfl rfl (ZE (Hle.refl _) ⟨⟨0, rfl⟩, trivial⟩) rfl (Zp ⟨by kernel_rfl, by kernel_rfl⟩ (ZF _) (i := 10) rfl ⟨by kernel_rfl, by kernel_rfl, rfl⟩ rfl rfl rfl rfl (ZE (Hle.refl _) ⟨⟨0, rfl⟩, trivial⟩) rfl (Zp ⟨by kernel_rfl, by kernel_rfl⟩ (ZF _) (i := 11) rfl ⟨by kernel_rfl, by kernel_rfl, rfl⟩ rfl rfl rfl rfl (ZE (Hle.refl _) ⟨⟨0, rfl⟩, trivial⟩) rfl (JA.val ⟨by kernel_rfl, by kernel_rfl⟩ (ZF _) (i := 12) rfl ⟨by kernel_rfl, by kernel_rfl, rfl⟩ trivial (ZE (Hle.refl _) ⟨⟨0, rfl⟩, trivial⟩) (Zb rfl rfl) rfl (JA.one (i := 0) (by kernel_rfl) (JO.step rfl trivial rfl (fun K hK => ZA rfl rfl (Zh 1 (vs := [.int .u32 ((u32i x_4.1).toNat : Int), .int .u32 ((u32i x_7.1).toNat : Int), .int .i64 x_14.1.At, .int .u32 (x_14.1.Birth.toNat : Int), .int .u32 (x_14.1.Iv.toNat : Int), .int .u32 (x_14.1.Tag.toNat : Int), .int .u32 (x_14.1.Sum.toNat : Int)]) S30 rfl rfl rfl rfl) ?_)))))))))))
   refine ZD (hK _ _ _ (ZE (Hle.refl _) ⟨⟨0, rfl⟩, trivial⟩) (JA.one (i := 13) (by kernel_rfl) (JO.step rfl trivial rfl (fun K hK => ZP 1 S30 rfl rfl rfl rfl rfl (Nat.le_of_ble_eq_true rfl) (ZD (hK _ _ _ (ZE (Hle.refl _) ⟨⟨0, rfl⟩, trivial⟩) (JA.val ⟨by kernel_rfl, by kernel_rfl⟩ (ZF _) (i := 14) rfl ⟨by kernel_rfl, by kernel_rfl, rfl⟩ trivial (ZE (Hle.refl _) ⟨⟨0, rfl⟩, trivial⟩) (ZG rfl) rfl (Zg (by kernel_rfl) ?_))))))))
   obtain rfl := Option.some.inj hx
   refine JN.forget 0 ?_
   exact ZR ⟨rfl, rfl, rfl⟩ ⟨rfl, rfl, trivial⟩ rfl rfl

set_option maxHeartbeats 8000000 in
theorem cmp_isNaN_uint32_ok (p_1 : UInt32) (H : Heaplet) (r : Bool) (hx : cmp_isNaN_uint32 p_1 = some r) :
  Does Try.prog 88 #[.int .u32 (p_1.toNat : Int)] [] H (fun u K' H' => u = .bool r ∧ K' = [] ∧ H = H' ∧ True) := by
 refine Does.enterL (vs := [.int .u32 (p_1.toNat : Int)]) (l := [(0, .int .u32 (p_1.toNat : Int))]) Try.func88 rfl rfl ⟨rfl, trivial⟩ (fun w hlt => ?_)
 unfold cmp_isNaN_uint32 at hx
 refine ZH (ZB (ZA rfl rfl (ZG rfl) (ZD (ZC (ZH (ZB (ZA rfl rfl (ZI rfl) (ZA rfl rfl (ZI rfl) (ZA rfl rfl (R.neq32 (a := p_1) (b := p_1) rfl rfl) (ZA rfl rfl (ZG rfl) (ZD ?_)))))))))))
 refine ZC (ZW (ZS (vs := [.bool (!decide (p_1 = p_1))]) (K := []) (rst := []) (.inl rfl) rfl rfl (ZQ rfl rfl) ZK ?_))
 obtain rfl := Option.some.inj hx
 exact ⟨rfl, rfl, rfl, trivial⟩

set_option maxHeartbeats 8000000 in
theorem cmp_Compare_uint32_ok (p_1 : UInt32) (p_2 : UInt32) (H : Heaplet) (r : Int) (hx : cmp_Compare_uint32 p_1 p_2 = some r) :
  Does Try.prog 47 #[.int .u32 (p_1.toNat : Int), .int .u32 (p_2.toNat : Int)] [] H (fun u K' H' => u = .int .i64 r ∧ K' = [] ∧ H = H' ∧ True) := by
 refine Does.enterL (vs := [.int .u32 (p_1.toNat : Int), .int .u32 (p_2.toNat : Int)]) (l := [(0, .int .u32 (p_1.toNat : Int)), (1, .int .u32 (p_2.toNat : Int))]) Try.func47 rfl rfl ⟨rfl, rfl, trivial⟩ (fun w hlt => ?_)
 unfold cmp_Compare_uint32 at hx
 refine ZH (ZB (ZA rfl rfl (ZG rfl) (ZD (ZC (ZH (ZB (ZA rfl rfl (ZI rfl) ?_)))))))
 obtain ⟨x_3, hr_4, hx⟩ := ZJ hx
 refine ZO (vs := [_]) (args := [_]) (K := []) (rst := []) E88 rfl rfl rfl ZK (cmp_isNaN_uint32_ok p_1 _ _ hr_4) rfl (fun u_5 Ku_5 Hu_5 hRu_5 hleu_5 hfu_5 => ?_)
 obtain ⟨rfl, rfl, rfl, -⟩ := hRu_5
 refine ZA rfl rfl (ZG rfl) (ZD (ZC (ZH (ZB (ZA rfl rfl (ZI rfl) ?_)))))
 obtain ⟨x_6, hr_7, hx⟩ := ZJ hx
 refine ZO (vs := [_]) (args := [_]) (K := []) (rst := []) E88 rfl rfl rfl ZK (cmp_isNaN_uint32_ok p_2 _ _ hr_7) rfl (fun u_8 Ku_8 Hu_8 hRu_8 hleu_8 hfu_8 => ?_)
 obtain ⟨rfl, rfl, rfl, -⟩ := hRu_8
 refine ZA rfl rfl (ZG rfl) (ZD (ZC (ZH (ZH (ZB (ZA rfl rfl (ZI rfl) (ZD (ZC (ZY rfl (fun c_9 => ?_) (fun c_9 => ?_))))))))))
 ·
  replace hx := ZU c_9 hx
  refine ZH (ZH (ZB (ZA rfl rfl (ZI rfl) (ZD (ZC (ZY rfl (fun c_10 => ?_) (fun c_10 => ?_)))))))
  ·
   replace hx := ZU c_10 hx
   refine ZH (ZB (ZA rfl rfl (ZG rfl) (ZD (ZC (ZW (Zc (Zc (ZS (vs := [.int .i64 0]) (K := []) (rst := []) (.inl rfl) rfl rfl (ZQ rfl rfl) ZK ?_))))))))
   obtain rfl := Option.some.inj hx
   exact ⟨rfl, rfl, rfl, trivial⟩
  ·
   replace hx := ZV c_10 hx
   refine Za (ZC (ZH (ZB (ZA rfl rfl (ZG rfl) (ZD (ZC (ZW (Zc (ZS (vs := [.int .i64 (-1)]) (K := []) (rst := []) (.inl rfl) rfl rfl (ZQ rfl rfl) ZK ?_)))))))))
   obtain rfl := Option.some.inj hx
   exact ⟨rfl, rfl, rfl, trivial⟩
 ·
  replace hx := ZV c_9 hx
  refine Za (ZC (ZH (ZH (ZB (ZA rfl rfl (ZI rfl) (ZD (ZC (ZY rfl (fun c_11 => ?_) (fun c_11 => ?_)))))))))
  ·
   replace hx := ZU c_11 hx
   refine ZH (ZB (ZA rfl rfl (ZG rfl) (ZD (ZC (ZW (Zc (ZS (vs := [.int .i64 1]) (K := []) (rst := []) (.inl rfl) rfl rfl (ZQ rfl rfl) ZK ?_)))))))
   obtain rfl := Option.some.inj hx
   exact ⟨rfl, rfl, rfl, trivial⟩
  ·
   replace hx := ZV c_11 hx
   refine Za (ZC (ZH (ZH (ZB (ZA rfl rfl (ZI rfl) (ZA rfl rfl (ZI rfl) (ZA rfl rfl (R.lss32 (a := p_1) (b := p_2) rfl rfl) (ZD (ZC (ZY rfl (fun c_12 => ?_) (fun c_12 => ?_)))))))))))
   ·
    replace hx := ZU c_12 hx
    refine ZH (ZB (ZA rfl rfl (ZG rfl) (ZD (ZC (ZW (Zc (ZS (vs := [.int .i64 (-1)]) (K := []) (rst := []) (.inl rfl) rfl rfl (ZQ rfl rfl) ZK ?_)))))))
    obtain rfl := Option.some.inj hx
    exact ⟨rfl, rfl, rfl, trivial⟩
   ·
    replace hx := ZV c_12 hx
    refine Za (ZC (ZH (ZH (ZB (ZA rfl rfl (ZI rfl) (ZA rfl rfl (ZI rfl) (ZA rfl rfl (R.gtr32 (a := p_1) (b := p_2) rfl rfl) (ZD (ZC (ZY rfl (fun c_13 => ?_) (fun c_13 => ?_)))))))))))
    ·
     replace hx := ZU c_13 hx
     refine ZH (ZB (ZA rfl rfl (ZG rfl) (ZD (ZC (ZW (Zc (ZS (vs := [.int .i64 1]) (K := []) (rst := []) (.inl rfl) rfl rfl (ZQ rfl rfl) ZK ?_)))))))
     obtain rfl := Option.some.inj hx
     exact ⟨rfl, rfl, rfl, trivial⟩
    ·
     replace hx := ZV c_13 hx
     refine Za (ZC (ZH (ZB (ZA rfl rfl (ZG rfl) (ZD (ZC (ZW (ZS (vs := [.int .i64 0]) (K := []) (rst := []) (.inl rfl) rfl rfl (ZQ rfl rfl) ZK ?_))))))))
     obtain rfl := Option.some.inj hx
     exact ⟨rfl, rfl, rfl, trivial⟩

set_option maxHeartbeats 8000000 in
theorem label_Find_1_ok (p_1 : Label) (p_2 : Label) (H : Heaplet) (r : Int) (hx : label_Find_1 p_1 p_2 = some r) :
  Does Try.prog 46 #[.agg #[.int .u32 (p_1.Gen.toNat : Int), .int .u32 (p_1.Epoch.toNat : Int), .int .i64 p_1.Root.At, .int .u32 (p_1.Root.Birth.toNat : Int), .int .u32 (p_1.Root.Iv.toNat : Int), .int .u32 (p_1.Root.Tag.toNat : Int), .int .u32 (p_1.Root.Sum.toNat : Int)], .agg #[.int .u32 (p_2.Gen.toNat : Int), .int .u32 (p_2.Epoch.toNat : Int), .int .i64 p_2.Root.At, .int .u32 (p_2.Root.Birth.toNat : Int), .int .u32 (p_2.Root.Iv.toNat : Int), .int .u32 (p_2.Root.Tag.toNat : Int), .int .u32 (p_2.Root.Sum.toNat : Int)]] [] H (fun u K' H' => u = .int .i64 r ∧ K' = [] ∧ H = H' ∧ True) := by
 refine Does.enterL (vs := [.agg #[.int .u32 (p_1.Gen.toNat : Int), .int .u32 (p_1.Epoch.toNat : Int), .int .i64 p_1.Root.At, .int .u32 (p_1.Root.Birth.toNat : Int), .int .u32 (p_1.Root.Iv.toNat : Int), .int .u32 (p_1.Root.Tag.toNat : Int), .int .u32 (p_1.Root.Sum.toNat : Int)], .agg #[.int .u32 (p_2.Gen.toNat : Int), .int .u32 (p_2.Epoch.toNat : Int), .int .i64 p_2.Root.At, .int .u32 (p_2.Root.Birth.toNat : Int), .int .u32 (p_2.Root.Iv.toNat : Int), .int .u32 (p_2.Root.Tag.toNat : Int), .int .u32 (p_2.Root.Sum.toNat : Int)]]) (l := [(0, .agg #[.int .u32 (p_1.Gen.toNat : Int), .int .u32 (p_1.Epoch.toNat : Int), .int .i64 p_1.Root.At, .int .u32 (p_1.Root.Birth.toNat : Int), .int .u32 (p_1.Root.Iv.toNat : Int), .int .u32 (p_1.Root.Tag.toNat : Int), .int .u32 (p_1.Root.Sum.toNat : Int)]), (1, .agg #[.int .u32 (p_2.Gen.toNat : Int), .int .u32 (p_2.Epoch.toNat : Int), .int .i64 p_2.Root.At, .int .u32 (p_2.Root.Birth.toNat : Int), .int .u32 (p_2.Root.Iv.toNat : Int), .int .u32 (p_2.Root.Tag.toNat : Int), .int .u32 (p_2.Root.Sum.toNat : Int)])]) Try.func46 rfl rfl ⟨rfl, rfl, trivial⟩ (fun w hlt => ?_)
 unfold label_Find_1 at hx
 refine ZH (ZB (Z7 rfl rfl (fun b_3 hb_3 => Z7 rfl rfl (fun b_4 hb_4 => ZA rfl rfl (ZG rfl) (ZD (ZC (ZH (ZB (ZA rfl rfl (Zo F30_0 rfl) (ZA rfl rfl (ZZ 0 S26 rfl rfl rfl) (ZA rfl rfl (Zo F30_0 rfl) ?_)))))))))))
 refine ZA rfl rfl (ZZ 1 S26 rfl rfl rfl) ?_
 obtain ⟨x_5, hr_6, hx⟩ := ZJ hx
 refine ZO (vs := [_, _]) (args := [_, _]) (K := []) (rst := [_, _]) E47 rfl rfl rfl ZK (cmp_Compare_uint32_ok p_2.Gen p_1.Gen _ _ hr_6) rfl (fun u_7 Ku_7 Hu_7 hRu_7 hleu_7 hfu_7 => ?_)
 obtain ⟨rfl, rfl, rfl, -⟩ := hRu_7
 refine ZA rfl rfl (ZG rfl) (ZD (ZC (ZW (ZS (vs := [.int .i64 x_5]) (K := []) (rst := [_, _]) (.inl rfl) rfl rfl (ZQ rfl rfl) ZK ?_))))
 obtain rfl := Option.some.inj hx
 exact ⟨rfl, rfl, rfl, trivial⟩

theorem slices_SortFunc_Label_label_Find_1_ok (p_1 : List Label) (H : Heaplet) {ao : Option Addr} {n cap : Nat} {K : Own} (hr : RowOf (New H H) R_Label 0 30 7 (.slice ao n cap) p_1 K) (r : List Label) (hx : slices_SortFunc_Label_label_Find_1 p_1 = some r) :
  Does Try.prog 45 #[.slice ao n cap, .func (.func 46) #[] #[]] [K] H (fun u K' H' => ∃ K0 : Own, u = .tuple #[] ∧ K' = [K0] ∧ H = H' ∧ RowOf (New H H') R_Label 0 30 7 (.slice ao n cap) r K0 ∧ True) := by
 rw [slices_SortFunc_Label_label_Find_1.eq_1] at hx
 split at hx
 case isFalse => cases hx
 rename_i hlen
 obtain rfl := Option.some.inj hx
 have h := sort_does (enc := enc_Label) (R := R_Label) Try.sort45 (by decide) Try.isAgg30 Try.sizeOf30 (fun _ _ _ => Iff.rfl) (fun _ => rfl) enc_Label_one (fun x y => (label_Find_1 x y).getD 0) label_Find_1_swo (g := 46)
  (ZT Try.func46 (by kernel_rfl) rfl)
  (fun x y => by
   obtain ⟨z, hz⟩ := label_Find_1_tot x y
   refine Does.mono (label_Find_1_ok x y (fun _ _ => none) z hz) (fun v K' H' hR => ?_)
   obtain ⟨rfl, -⟩ := hR
   simp [hz]) (H := H) hr hlen
 refine Does.mono h (fun v K' H' hR => ?_)
 obtain ⟨K1, rfl, rfl, rfl, h1, -⟩ := hR
 exact ⟨K1, rfl, rfl, rfl, h1, trivial⟩

set_option maxHeartbeats 8000000 in
theorem label_Find_ok (p_1 : Disk) (H : Heaplet) {aa_2 : Option Addr} {na_2 : Nat} {ca_2 : Nat} {aa_3 : Option Addr} {na_3 : Nat} {ca_3 : Nat} (ha_2 : IsSlice H (RSl RU8 1) 1 (.slice aa_2 na_2 ca_2) p_1.Blocks) (ha_3 : IsSlice H R_Write 2 (.slice aa_3 na_3 ca_3) p_1.Waits) (r : List Label × Int) (hx : label_Find p_1 = some r) :
  Does Try.prog 14 #[.agg #[.slice aa_2 na_2 ca_2, .slice aa_3 na_3 ca_3]] [] H (fun u K' H' => ∃ ao0 : Option Addr, ∃ n0 : Nat, ∃ cap0 : Nat, ∃ K0 : Own, u = .tuple #[.slice ao0 n0 cap0, .int .i64 r.2] ∧ K' = [K0] ∧ RowOf (New H H') R_Label 0 30 7 (.slice ao0 n0 cap0) r.1 K0 ∧ (∀ p ∈ K0, p.1 ∉ ids (List.flatten [])) ∧ True) := by
 refine Does.enterL (vs := [.agg #[.slice aa_2 na_2 ca_2, .slice aa_3 na_3 ca_3]]) (l := [(0, .agg #[.slice aa_2 na_2 ca_2, .slice aa_3 na_3 ca_3])]) Try.func14 rfl rfl ⟨rfl, trivial⟩ (fun w hlt => ?_)
 unfold label_Find at hx
 refine ZH (ZB (Z7 rfl rfl (fun b_4 hb_4 => ZA rfl rfl (ZG rfl) (ZA rfl rfl (ZG rfl) (ZD (ZC (ZH (ZH (ZB (ZA rfl rfl (Zh 0 (vs := [.slice aa_2 na_2 ca_2, .slice aa_3 na_3 ca_3]) S25 rfl rfl rfl rfl) ?_))))))))))
 obtain ⟨x_5, hr_6, hx⟩ := ZJ hx
 refine ZO (vs := [_]) (args := [_]) (K := []) (rst := [_]) E36 rfl rfl rfl ZK (dev_Check_ok p_1 _ ha_2 ha_3 _ hr_6) rfl (fun u_7 Ku_7 Hu_7 hRu_7 hleu_7 hfu_7 => ?_)
 obtain ⟨rfl, rfl, rfl, -⟩ := hRu_7
 refine ZA rfl rfl (ZG rfl) (ZD (ZC (ZH (ZB (ZA rfl rfl (ZI rfl) (ZA rfl rfl (R.neq_i rfl rfl) (ZD (ZC (ZY rfl (fun c_8 => ?_) (fun c_8 => ?_))))))))))
 ·
  replace hx := ZU c_8 hx
  refine ZH (ZB (ZA rfl rfl (ZI rfl) (ZA rfl rfl (ZG rfl) (ZA rfl rfl (ZG rfl) (ZD (ZC (ZW (Zc (JN.seg0 (ZS (vs := [.slice none 0 0, .int .i64 x_5]) (K := [_]) (rst := [_]) (.inl rfl) rfl rfl (ZQ rfl (ZQ rfl rfl)) (Ze 0 rfl ZK) ?_))))))))))
  obtain rfl := Option.some.inj hx
  exact ⟨none, 0, 0, [], rfl, rfl, (Zn _ _ _ _ _), (fun p hp => by cases hp), trivial⟩
 ·
  replace hx := ZV c_8 hx
  refine Za (ZC (ZH (ZH (ZB (ZA rfl rfl (ZI rfl) (ZD (ZC ?_)))))))
  obtain ⟨t_9, ht_11, hx⟩ := ZJ hx
  refine Zy (fun l o g => ∃ H_17 : Heaplet, ∃ ar_18 : Option Addr, ∃ nr_18 : Nat, ∃ cr_18 : Nat, ∃ Kr_18 : Own, l = [(2, .slice ar_18 nr_18 cr_18)] ∧ o = [Kr_18] ∧ H_17 = g ∧ Hle H H_17 ∧ RowOf (New H H_17) R_Label w.heap.size 30 7 (.slice ar_18 nr_18 cr_18) t_9 Kr_18) ?_ ?_
  ·
   rintro _ _ _ ⟨H_17, ar_18, nr_18, cr_18, Kr_18, rfl, rfl, rfl, hleH_17, hr_18⟩
   refine ZC (ZH (ZB (ZA rfl rfl (ZI rfl) ?_)))
   obtain ⟨x_19, hr_20, hx⟩ := ZJ hx
   refine ZO (vs := [_, _]) (args := [_, _]) (K := [_]) (rst := []) E45 rfl rfl rfl (Ze 0 rfl ZK) (slices_SortFunc_Label_label_Find_1_ok t_9 _ (Zs (Nat.zero_le _) (Zj R_Label.const hr_18)) _ hr_20) rfl (fun u_21 Ku_21 Hu_21 hRu_21 hleu_21 hfu_21 => ?_)
   obtain ⟨Kr_22, rfl, rfl, rfl, hr_22, -⟩ := hRu_21
   replace hr_22 := (RowOf.up (Zj (H2 := New H H_17) R_Label.const hr_22) (fun p hp => hfu_21 p (Zk 0 rfl hp)) (ids_cons (RowOf.ge hr_18) ids_nil))
   refine ZD (ZC (ZH (ZB (ZA rfl rfl (ZI rfl) (ZA rfl rfl (ZG rfl) (ZA rfl rfl (ZG rfl) (ZD (ZC (ZW (ZS (vs := [.slice ar_18 nr_18 cr_18, .int .i64 0]) (K := [_]) (rst := []) (.inl rfl) rfl rfl (ZQ rfl (ZQ rfl rfl)) (Ze 0 rfl ZK) ?_))))))))))
   obtain rfl := Option.some.inj hx
   exact ⟨ar_18, nr_18, cr_18, Kr_22, rfl, rfl, (Zs (Nat.zero_le _) hr_22), (new_ids hr_22 hlt), trivial⟩
  ·
   have hxo_10 := hx; clear hx; have hx := ht_11; clear ht_11
   refine JC.block (JC.seg0 (Zv 1 rfl (Z9 (fun n l o g => ∃ s_12 : List Label × Nat, ∃ H_15 : Heaplet, ∃ ar_16 : Option Addr, ∃ nr_16 : Nat, ∃ cr_16 : Nat, ∃ Kr_16 : Own, l = [(1, .pointer (some ⟨b_4, 0, none⟩)), (2, .slice ar_16 nr_16 cr_16), (15, .int .i64 ((s_12.2 : Nat) : Int))] ∧ o = [[(b_4, .cells #[.slice aa_2 na_2 ca_2, .slice aa_3 na_3 ca_3] 25 (0, 0))], Kr_16] ∧ H_15 = g ∧ run (label_Find_l1 p_1) n s_12 = some t_9 ∧ Hle H H_15 ∧ RowOf (New H H_15) R_Label w.heap.size 30 7 (.slice ar_16 nr_16 cr_16) s_12.1 Kr_16) FUEL ?_ ⟨(([] : List Label), 0), H, none, 0, 0, [], rfl, rfl, rfl, hx, (Hle.refl _), (Zn _ _ _ _ _)⟩ ⟨rfl, rfl, rfl, trivial⟩ ?_)))
   ·
    rintro _ _ _ ⟨s_12, H_15, ar_16, nr_16, cr_16, Kr_16, rfl, rfl, rfl, hn_13, hleH_15, hr_16⟩
    exact Z5 hn_13
   ·
    rintro n_14 _ _ _ ⟨s_12, H_15, ar_16, nr_16, cr_16, Kr_16, rfl, rfl, rfl, hn_13, hleH_15, hr_16⟩
    clear hx; obtain ⟨oo_18, hx, hd_17⟩ := Z6 hn_13
    unfold label_Find_l1 at hx
    refine ZH (ZB (ZA rfl rfl (Z1 rfl rfl) (ZD (ZC (ZH (ZY rfl (fun c_17 => ?_) (fun c_17 => ?_)))))))
    ·
     replace hx := ZU c_17 hx
     refine Za (ZC (ZH (JC.block (ZH (ZB (ZA rfl rfl (ZI rfl) (ZA rfl rfl (ZG rfl) (ZD (ZC (ZH (ZB ?_)))))))))))
     refine ZA rfl rfl (Zh 0 (vs := [.slice aa_2 na_2 ca_2, .slice aa_3 na_3 ca_3]) S25 rfl rfl rfl rfl) (ZA rfl rfl (ZI rfl) ?_)
     obtain ⟨x_18, hr_19, hx⟩ := ZJ hx
     refine ZO (vs := [_, _]) (args := [_, _]) (K := []) (rst := [_, _]) E43 rfl rfl rfl ZK (dev_Read_ok p_1 ((s_12.2 : Nat) : Int) _ (ha_2.mono (RSl.mono RU8.mono) hleH_15) (ha_3.mono R_Write.mono hleH_15) _ hr_19) rfl (fun u_20 Ku_20 Hu_20 hRu_20 hleu_20 hfu_20 => ?_)
     obtain ⟨az_21, nz_21, cz_21, rfl, rfl, hz_21, -⟩ := hRu_20
     replace hz_21 := IsSlice.mono RU8.mono (New.call hleH_15) hz_21
     refine ZA rfl rfl (ZI rfl) (ZA rfl rfl (R.extract rfl rfl) (ZA rfl rfl (R.extract rfl rfl) (ZA rfl rfl (ZG rfl) (ZA rfl rfl (ZG rfl) (ZD (ZC (ZH (ZB (ZA rfl rfl (ZI rfl) ?_)))))))))
     obtain ⟨x_22, hr_23, hx⟩ := ZJ hx
     refine ZO (vs := [_]) (args := [_]) (K := []) (rst := [_, _]) E44 rfl rfl rfl ZK (label_read_ok x_18.1 _ (hz_21.old RU8.mono) _ hr_23) rfl (fun u_24 Ku_24 Hu_24 hRu_24 hleu_24 hfu_24 => ?_)
     obtain ⟨rfl, rfl, -⟩ := hRu_24
     refine ZA rfl rfl (ZI rfl) (ZA rfl rfl (R.extract rfl rfl) (ZA rfl rfl (R.extract rfl rfl) (JL.alloc Z30 rfl (fun b_25 hb_25 => ZP 0 S30 rfl rfl rfl rfl rfl (Nat.le_of_ble_eq_true rfl) (ZA rfl rfl (ZG rfl) (ZD (ZC (ZH (ZB (ZA rfl rfl (ZI rfl) (ZA rfl rfl (ZI rfl) ?_)))))))))))
     refine Zi (t := 30) rfl (fun c_26 => ?_) (fun c_26 => ?_)
     ·
      replace hx := ZU c_26 hx
      refine ZN rfl rfl rfl (ZA rfl rfl (Zo F30_0 rfl) (ZN rfl rfl rfl (ZA rfl rfl (ZZ 0 S26 rfl rfl rfl) (ZN rfl rfl rfl ?_))))
      obtain ⟨x_27, hr_28, hx⟩ := ZJ hx
      refine ZO (vs := [_]) (args := [_]) (K := []) (rst := [_, _, _]) E17 rfl rfl rfl ZK (label_Slot_ok x_22.1.Gen _ _ hr_28) rfl (fun u_29 Ku_29 Hu_29 hRu_29 hleu_29 hfu_29 => ?_)
      obtain ⟨rfl, rfl, rfl, -⟩ := hRu_29
      refine ZN rfl rfl rfl (ZA rfl rfl (ZI rfl) (ZN rfl rfl rfl (ZA rfl rfl (R.eql_i rfl rfl) (ZA rfl rfl (Zf rfl rfl) (ZD (ZC (ZY rfl (fun c_30 => ?_) (fun c_30 => ?_))))))))
      ·
       replace hx := ZU c_30 hx
       refine ZB (ZA rfl rfl (ZI rfl) (ZA rfl rfl (Zh 0 (vs := [.int .u32 (x_22.1.Gen.toNat : Int), .int .u32 (x_22.1.Epoch.toNat : Int), .int .i64 x_22.1.Root.At, .int .u32 (x_22.1.Root.Birth.toNat : Int), .int .u32 (x_22.1.Root.Iv.toNat : Int), .int .u32 (x_22.1.Root.Tag.toNat : Int), .int .u32 (x_22.1.Root.Sum.toNat : Int)]) S30 rfl rfl rfl rfl) (JL.bslF (HF := (New H Hu_24)) (R := R_Label) (ls := [x_22.1]) (vs := [.agg #[.int .u32 (x_22.1.Gen.toNat : Int), .int .u32 (x_22.1.Epoch.toNat : Int), .int .i64 x_22.1.Root.At, .int .u32 (x_22.1.Root.Birth.toNat : Int), .int .u32 (x_22.1.Root.Iv.toNat : Int), .int .u32 (x_22.1.Root.Tag.toNat : Int), .int .u32 (x_22.1.Root.Sum.toNat : Int)]]) U38 I30 rfl rfl (⟨_, _, rfl, rfl, rfl, rfl⟩) R_Label.one rfl rfl rfl (by simp [maxLen]) rfl (fun vr_31 Kr_31 hr_31 => ?_))))
       obtain ⟨ar_31, cr_31, rfl⟩ := RowOf.val hr_31
       obtain ⟨q_32, hm_33, hl_34, hx⟩ := Zz hx
       refine Z2 (HF := (New H Hu_24)) 3 U38 I30 rfl rfl (hr_16.mono R_Label.mono (New.mono (hleu_20.trans hleu_24))) rfl (SrcF.row 0 U38 rfl hr_31) hm_33 hl_34 rfl (Nat.le_refl _) rfl (fun vr_35 Kr_35 hr_35 => ?_)
       obtain ⟨ar_35, cr_35, rfl⟩ := RowOf.val hr_35
       refine ZA rfl rfl (ZG rfl) (ZD (Zl (ZC (ZB (ZA rfl rfl (R.inc rfl rfl (of_decide_eq_true c_17) (by decide)) (ZA rfl rfl (ZI rfl) (ZD ?_)))))))
       replace hx := Zm hd_17 hx
       refine JN.forget 1 (JN.forget 0 (ZL 1 rfl (ZL 1 rfl ?_)))
       exact ZR ⟨(q_32, s_12.2 + 1), Hu_24, ar_35, q_32.length, cr_35, Kr_35, rfl, rfl, rfl, hx, ((hleH_15.trans (hleu_20.trans hleu_24))), hr_35⟩ ⟨rfl, rfl, rfl, trivial⟩ rfl rfl
      ·
       replace hx := ZV c_30 hx
       refine Za (Zl (ZC (ZB (ZA rfl rfl (R.inc rfl rfl (of_decide_eq_true c_17) (by decide)) (ZA rfl rfl (ZI rfl) (ZD ?_))))))
       replace hx := Zm hd_17 hx
       refine JN.forget 0 (ZL 1 rfl (ZL 1 rfl ?_))
       exact ZR ⟨(s_12.1, s_12.2 + 1), Hu_24, ar_16, nr_16, cr_16, Kr_16, rfl, rfl, rfl, hx, ((hleH_15.trans (hleu_20.trans hleu_24))), (hr_16.mono R_Label.mono (New.mono (hleu_20.trans hleu_24)))⟩ ⟨rfl, rfl, rfl, trivial⟩ rfl rfl
     ·
      replace hx := ZV c_26 hx
      refine ZM rfl rfl rfl rfl rfl (ZM rfl rfl rfl rfl rfl (ZM rfl rfl rfl rfl rfl (ZM rfl rfl rfl rfl rfl (ZM rfl rfl rfl rfl rfl (ZA rfl rfl (Zb rfl rfl) (ZD (ZC (JC.condF rfl (Za (Zl (ZC ?_)))))))))))
      refine ZB (ZA rfl rfl (R.inc rfl rfl (of_decide_eq_true c_17) (by decide)) (ZA rfl rfl (ZI rfl) (ZD ?_)))
      replace hx := Zm hd_17 hx
      refine JN.forget 0 (ZL 1 rfl (ZL 1 rfl ?_))
      exact ZR ⟨(s_12.1, s_12.2 + 1), Hu_24, ar_16, nr_16, cr_16, Kr_16, rfl, rfl, rfl, hx, ((hleH_15.trans (hleu_20.trans hleu_24))), (hr_16.mono R_Label.mono (New.mono (hleu_20.trans hleu_24)))⟩ ⟨rfl, rfl, rfl, trivial⟩ rfl rfl
    ·
     replace hx := ZV c_17 hx
     refine Z0 (ZX ?_)
     obtain rfl := Zw hd_17 hx
     refine ZX (Zd (JN.forget 0 ?_))
     exact ZR ⟨H_15, ar_16, nr_16, cr_16, Kr_16, rfl, rfl, rfl, (hleH_15), hr_16⟩ ⟨rfl, trivial⟩ rfl rfl

set_option maxHeartbeats 8000000 in
theorem ref09_last_ok (p_1 : Disk) (p_4 : List Bool) (p_6 : Int) (H : Heaplet) {aa_2 : Option Addr} {na_2 : Nat} {ca_2 : Nat} {aa_3 : Option Addr} {na_3 : Nat} {ca_3 : Nat} {aa_5 : Option Addr} {na_5 : Nat} {ca_5 : Nat} (ha_2 : IsSlice H (RSl RU8 1) 1 (.slice aa_2 na_2 ca_2) p_1.Blocks) (ha_3 : IsSlice H R_Write 2 (.slice aa_3 na_3 ca_3) p_1.Waits) (ha_5 : IsSlice H RBool 1 (.slice aa_5 na_5 ca_5) p_4) (r : Int) (hx : ref09_last p_1 p_4 p_6 = some r) :
  Does Try.prog 157 #[.agg #[.slice aa_2 na_2 ca_2, .slice aa_3 na_3 ca_3], .slice aa_5 na_5 ca_5, .int .i64 p_6] [] H (fun u K' H' => u = .int .i64 r ∧ K' = [] ∧ H = H' ∧ True) := by
 refine Does.enterL (vs := [.agg #[.slice aa_2 na_2 ca_2, .slice aa_3 na_3 ca_3], .slice aa_5 na_5 ca_5, .int .i64 p_6]) (l := [(0, .agg #[.slice aa_2 na_2 ca_2, .slice aa_3 na_3 ca_3]), (1, .slice aa_5 na_5 ca_5), (2, .int .i64 p_6)]) Try.func157 rfl rfl ⟨rfl, rfl, rfl, trivial⟩ (fun w hlt => ?_)
 unfold ref09_last at hx
 refine ZH (ZB (Z7 rfl rfl (fun b_7 hb_7 => ZA rfl rfl (ZG rfl) (ZD (ZC (ZH (ZB (ZA rfl rfl (Zo F25_1 rfl) (ZA rfl rfl (ZZ 0 S23 rfl rfl rfl) (ZA rfl rfl (Zr U23 rfl (IsSlice.long ha_3)) (ZA rfl rfl (R.sub_i rfl rfl) ?_)))))))))))
 refine ZA rfl rfl (ZG rfl) (ZD (ZC (ZH ?_)))
 obtain ⟨t_8, ht_10, hx⟩ := ZJ hx
 refine Zy (fun l o g => l = [(7, .int .i64 t_8)] ∧ o = [] ∧ H = g) ?_ ?_
 ·
  rintro _ _ _ ⟨rfl, rfl, rfl⟩
  refine ZC (ZH (ZB (ZA rfl rfl (ZI rfl) (ZA rfl rfl (ZG rfl) (ZD (ZC (ZW (ZS (vs := [.int .i64 t_8]) (K := []) (rst := []) (.inl rfl) rfl rfl (ZQ rfl rfl) ZK ?_))))))))
  obtain rfl := Option.some.inj hx
  exact ⟨rfl, rfl, rfl, trivial⟩
 ·
  have hxo_9 := hx; clear hx; have hx := ht_10; clear ht_10
  refine JC.block (Z9 (fun n l o g => ∃ s_11 : Int, l = [(1, .slice aa_5 na_5 ca_5), (2, .int .i64 p_6), (3, .pointer (some ⟨b_7, 0, none⟩)), (7, .int .i64 s_11)] ∧ o = [[(b_7, .cells #[.slice aa_2 na_2 ca_2, .slice aa_3 na_3 ca_3] 25 (0, 0))]] ∧ H = g ∧ run (ref09_last_l1 p_1 p_4 p_6) n s_11 = some t_8) FUEL ?_ ⟨w64 ((p_1.Waits.length : Int) - 1), rfl, rfl, rfl, hx⟩ ⟨rfl, rfl, rfl, rfl, trivial⟩ ?_)
  ·
   rintro _ _ _ ⟨s_11, rfl, rfl, rfl, hn_12⟩
   exact Z5 hn_12
  ·
   rintro n_13 _ _ _ ⟨s_11, rfl, rfl, rfl, hn_12⟩
   clear hx; obtain ⟨oo_15, hx, hd_14⟩ := Z6 hn_12
   unfold ref09_last_l1 at hx
   refine ZH ?_
   obtain ⟨t_14, ht_16, hx⟩ := ZJ hx
   refine Zy (fun l o g => ∃ t_14a : Unit, l = [(1, .slice aa_5 na_5 ca_5), (2, .int .i64 p_6), (3, .pointer (some ⟨b_7, 0, none⟩)), (7, .int .i64 s_11)] ∧ o = [[(b_7, .cells #[.slice aa_2 na_2 ca_2, .slice aa_3 na_3 ca_3] 25 (0, 0))]] ∧ H = g ∧ t_14 = .inl t_14a) ?_ ?_
   ·
    rintro _ _ _ ⟨t_14a, rfl, rfl, rfl, rfl⟩
    simp only [Sum.elim_inl] at hx
    refine ZC (JC.block (ZB (ZA rfl rfl (ZI rfl) (ZA rfl rfl (R.sub_i rfl rfl) (ZA rfl rfl (ZG rfl) (ZD (Zl ?_)))))))
    replace hx := Zm hd_14 hx
    exact ZR ⟨w64 (s_11 - 1), rfl, rfl, rfl, hx⟩ ⟨rfl, rfl, rfl, rfl, trivial⟩ rfl rfl
   ·
    have hxo_15 := hx; clear hx; have hx := ht_16; clear ht_16
    refine ZH (ZB (ZA rfl rfl (ZI rfl) (ZA rfl rfl (R.geq_i rfl rfl) (ZA rfl rfl (ZI rfl) (Zi (t := 14) rfl (fun c_17 => ?_) (fun c_17 => ?_))))))
    ·
     replace hx := ZU c_17 hx
     refine ZN rfl rfl rfl (ZA rfl rfl (Zo F25_1 rfl) (ZN rfl rfl rfl (ZA rfl rfl (ZZ 0 S23 rfl rfl rfl) (ZN rfl rfl rfl (ZA rfl rfl (ZI rfl) (ZN rfl rfl rfl ?_))))))
     obtain ⟨y_18, hN_19, hx⟩ := Zt hx
     obtain ⟨b_20, o_21, cs_22, hE_23, hR_24, hl_25, hc_26⟩ := IsSlice.elem ha_3 hN_19
     obtain ⟨v_27, rfl, hs_28⟩ := hR_24
     obtain ⟨av_27, cv_27, rfl⟩ := IsSlice.val hs_28
     refine ZA rfl rfl (R.ix U23 S47 rfl rfl hE_23) (ZN rfl rfl rfl (ZA rfl rfl (Zo F47_0 rfl) (ZN rfl rfl rfl (ZA rfl rfl (R.ldH S3 rfl (hc_26 0 _ rfl)) (ZN rfl rfl rfl (ZA rfl rfl (ZI rfl) (ZN rfl rfl rfl (ZA rfl rfl (R.eql_i rfl rfl) (ZN rfl rfl rfl (ZA rfl rfl (ZI rfl) (Zi (t := 23) rfl (fun c_29 => ?_) (fun c_29 => ?_))))))))))))
     ·
      replace hx := ZU c_29 hx
      refine ZN rfl rfl rfl (ZA rfl rfl (ZI rfl) (ZN rfl rfl rfl (ZA rfl rfl (Zr U207 rfl (IsSlice.long ha_5)) (ZN rfl rfl rfl (ZA rfl rfl (R.eql_i rfl rfl) (ZN rfl rfl rfl (ZA rfl rfl (ZI rfl) (Zi (t := 27) rfl (fun c_30 => ?_) (fun c_30 => ?_)))))))))
      ·
       replace hx := ZU c_30 hx
       refine ZM rfl rfl rfl rfl rfl (ZM rfl rfl rfl rfl rfl (ZM rfl rfl rfl rfl rfl (ZM rfl rfl rfl rfl rfl (ZN rfl rfl rfl (ZA rfl rfl (Zf rfl rfl) (ZN rfl rfl rfl (ZA rfl rfl (Zf rfl rfl) (ZN rfl rfl rfl (ZA rfl rfl (R.not rfl) (ZA rfl rfl (Zf rfl rfl) (ZD ?_)))))))))))
       refine ZC (JC.condF rfl (Z0 ?_))
       obtain rfl := Option.some.inj hx
       clear hx; have hx := hxo_15
       simp only [Sum.elim_inl, Sum.elim_inr] at hx
       refine ZX (ZX ?_)
       obtain rfl := Zw hd_14 hx
       refine ZX (Zd (JN.forget 0 ?_))
       exact ZR ⟨rfl, rfl, rfl⟩ ⟨rfl, trivial⟩ rfl rfl
      ·
       replace hx := ZV c_30 hx
       refine ZN rfl rfl rfl (ZA rfl rfl (ZI rfl) (ZN rfl rfl rfl (ZA rfl rfl (ZI rfl) (ZN rfl rfl rfl ?_))))
       obtain ⟨y_31, hN_32, hx⟩ := Zt hx
       obtain ⟨b_33, o_34, cs_35, hE_36, hR_37, hl_38, hc_39⟩ := IsSlice.elem ha_5 hN_32
       obtain rfl := hR_37
       refine ZA rfl rfl (R.ix U207 S4 rfl rfl hE_36) (ZN rfl rfl rfl (ZA rfl rfl (R.ldH S4 rfl (hc_39 0 _ rfl)) (ZN rfl rfl rfl (ZA rfl rfl (Zb rfl rfl) (ZN rfl rfl rfl (ZA rfl rfl (Zf rfl rfl) (ZN rfl rfl rfl (ZA rfl rfl (R.not rfl) (ZA rfl rfl (Zf rfl rfl) (ZD (ZC ?_)))))))))))
       refine ZY rfl (fun c_40 => ?_) (fun c_40 => ?_)
       ·
        replace hx := ZU c_40 hx
        refine Za ?_
        obtain rfl := Option.some.inj hx
        exact ZR ⟨(), rfl, rfl, rfl, rfl⟩ ⟨rfl, rfl, rfl, rfl, trivial⟩ rfl rfl
       ·
        replace hx := ZV c_40 hx
        refine Z0 ?_
        obtain rfl := Option.some.inj hx
        clear hx; have hx := hxo_15
        simp only [Sum.elim_inl, Sum.elim_inr] at hx
        refine ZX (ZX ?_)
        obtain rfl := Zw hd_14 hx
        refine ZX (Zd (JN.forget 0 ?_))
        exact ZR ⟨rfl, rfl, rfl⟩ ⟨rfl, trivial⟩ rfl rfl
     ·
      replace hx := ZV c_29 hx
      refine ZM rfl rfl rfl rfl rfl (ZM rfl rfl rfl rfl rfl (ZM rfl rfl rfl rfl rfl (ZM rfl rfl rfl rfl rfl (JL.gNoU rfl rfl rfl rfl (JL.gNoU rfl rfl rfl rfl (JL.gNoU rfl rfl rfl rfl (JL.gNoU rfl rfl rfl rfl (ZM rfl rfl rfl rfl rfl (ZN rfl rfl rfl (ZA rfl rfl (Zb rfl rfl) (ZN rfl rfl rfl ?_)))))))))))
      refine ZA rfl rfl (R.not rfl) (ZA rfl rfl (Zf rfl rfl) (ZD (ZC (JC.condT rfl (Za ?_)))))
      obtain rfl := Option.some.inj hx
      exact ZR ⟨(), rfl, rfl, rfl, rfl⟩ ⟨rfl, rfl, rfl, rfl, trivial⟩ rfl rfl
    ·
     replace hx := ZV c_17 hx
     refine ZM rfl rfl rfl rfl rfl (ZM rfl rfl rfl rfl rfl (ZM rfl rfl rfl rfl rfl (ZM rfl rfl rfl rfl rfl (ZM rfl rfl rfl rfl rfl (ZM rfl rfl rfl rfl rfl (ZM rfl rfl rfl rfl rfl (ZM rfl rfl rfl rfl rfl (ZM rfl rfl rfl rfl rfl (JL.gNoU rfl rfl rfl rfl (JL.gNoU rfl rfl rfl rfl (JL.gNoU rfl rfl rfl rfl ?_)))))))))))
     refine JL.gNoU rfl rfl rfl rfl (JL.gNoU rfl rfl rfl rfl (JL.gNoU rfl rfl rfl rfl (JL.gNoU rfl rfl rfl rfl (JL.gNoU rfl rfl rfl rfl (JL.gNoU rfl rfl rfl rfl (ZM rfl rfl rfl rfl rfl (ZM rfl rfl rfl rfl rfl (ZA rfl rfl (Zb rfl rfl) (ZD (ZC (JC.condF rfl ?_)))))))))))
     refine Z0 ?_
     obtain rfl := Option.some.inj hx
     clear hx; have hx := hxo_15
     simp only [Sum.elim_inl, Sum.elim_inr] at hx
     refine ZX (ZX ?_)
     obtain rfl := Zw hd_14 hx
     refine ZX (Zd (JN.forget 0 ?_))
     exact ZR ⟨rfl, rfl, rfl⟩ ⟨rfl, trivial⟩ rfl rfl

set_option maxHeartbeats 8000000 in
theorem ref09_left_ok (p_1 : Disk) (p_4 : List Bool) (p_6 : Int) (H : Heaplet) {aa_2 : Option Addr} {na_2 : Nat} {ca_2 : Nat} {aa_3 : Option Addr} {na_3 : Nat} {ca_3 : Nat} {aa_5 : Option Addr} {na_5 : Nat} {ca_5 : Nat} (ha_2 : IsSlice H (RSl RU8 1) 1 (.slice aa_2 na_2 ca_2) p_1.Blocks) (ha_3 : IsSlice H R_Write 2 (.slice aa_3 na_3 ca_3) p_1.Waits) (ha_5 : IsSlice H RBool 1 (.slice aa_5 na_5 ca_5) p_4) (r : List UInt8) (hx : ref09_left p_1 p_4 p_6 = some r) :
  Does Try.prog 132 #[.agg #[.slice aa_2 na_2 ca_2, .slice aa_3 na_3 ca_3], .slice aa_5 na_5 ca_5, .int .i64 p_6] [] H (fun u K' H' => ∃ ao0 : Option Addr, ∃ n0 : Nat, ∃ cap0 : Nat, ∃ K0 : Own, u = .slice ao0 n0 cap0 ∧ K' = [K0] ∧ H = H' ∧ RowOf (New H H) RU8 0 5 1 (.slice ao0 n0 cap0) r K0 ∧ (∀ p ∈ K0, p.1 ∉ ids (List.flatten [])) ∧ True) := by
 refine Does.enterL (vs := [.agg #[.slice aa_2 na_2 ca_2, .slice aa_3 na_3 ca_3], .slice aa_5 na_5 ca_5, .int .i64 p_6]) (l := [(0, .agg #[.slice aa_2 na_2 ca_2, .slice aa_3 na_3 ca_3]), (1, .slice aa_5 na_5 ca_5), (2, .int .i64 p_6)]) Try.func132 rfl rfl ⟨rfl, rfl, rfl, trivial⟩ (fun w hlt => ?_)
 unfold ref09_left at hx
 refine ZH (ZB (Z7 rfl rfl (fun b_7 hb_7 => ZA rfl rfl (ZG rfl) (ZD (ZC (ZH (ZB (ZA rfl rfl (Zh 0 (vs := [.slice aa_2 na_2 ca_2, .slice aa_3 na_3 ca_3]) S25 rfl rfl rfl rfl) (ZA rfl rfl (ZI rfl) (ZA rfl rfl (ZI rfl) ?_))))))))))
 obtain ⟨x_8, hr_9, hx⟩ := ZJ hx
 refine ZO (vs := [_, _, _]) (args := [_, _, _]) (K := []) (rst := [_]) E157 rfl rfl rfl ZK (ref09_last_ok p_1 p_4 p_6 _ ha_2 ha_3 ha_5 _ hr_9) rfl (fun u_10 Ku_10 Hu_10 hRu_10 hleu_10 hfu_10 => ?_)
 obtain ⟨rfl, rfl, rfl, -⟩ := hRu_10
 refine ZA rfl rfl (ZG rfl) (ZD (ZC (ZH (ZH (ZB (ZA rfl rfl (ZI rfl) (ZA rfl rfl (Z1 rfl rfl) (ZD (ZC (ZY rfl (fun c_11 => ?_) (fun c_11 => ?_)))))))))))
 ·
  replace hx := ZU c_11 hx
  refine ZH (ZB (ZA rfl rfl (Zo F25_0 rfl) (ZA rfl rfl (ZZ 0 S22 rfl rfl rfl) (ZA rfl rfl (ZI rfl) ?_))))
  obtain ⟨y_12, hN_13, hx⟩ := Zt hx
  obtain ⟨b_14, o_15, cs_16, hE_17, hR_18, hl_19, hc_20⟩ := IsSlice.elem ha_2 hN_13
  obtain ⟨v_21, rfl, hs_22⟩ := hR_18
  obtain ⟨av_21, cv_21', rfl⟩ := IsSlice.val hs_22
  refine ZA rfl rfl (R.ix U22 S45 rfl rfl hE_17) (ZA rfl rfl (R.ldH S45 rfl (hc_20 0 _ rfl)) (JL.seg0 ?_))
  obtain ⟨q_24, hm_25, hl_26, hx⟩ := Zz hx
  refine Z2 (HF := (New H H)) 0 U45 I5 rfl rfl (Zn _ RU8 _ _ _) rfl (SrcF.sliceC RU8.const RU8.one U45 hs_22) hm_25 hl_26 rfl (Nat.le_refl _) rfl (fun vr_27 Kr_27 hr_27 => ?_)
  obtain ⟨ar_27, cr_27, rfl⟩ := RowOf.val hr_27
  refine ZA rfl rfl (ZG rfl) (ZD (ZC (ZW (Zc (ZS (vs := [.slice ar_27 q_24.length cr_27]) (K := [_]) (rst := [_]) (.inl rfl) rfl rfl (ZQ rfl rfl) (Ze 0 rfl ZK) ?_)))))
  obtain rfl := Option.some.inj hx
  exact ⟨ar_27, q_24.length, cr_27, Kr_27, rfl, rfl, rfl, (Zs (Nat.zero_le _) hr_27), (new_ids hr_27 hlt), trivial⟩
 ·
  replace hx := ZV c_11 hx
  refine Za (ZC (ZH (ZB (ZA rfl rfl (Zo F25_1 rfl) (ZA rfl rfl (ZZ 0 S23 rfl rfl rfl) (ZA rfl rfl (ZI rfl) ?_))))))
  obtain ⟨y_28, hN_29, hx⟩ := Zt hx
  obtain ⟨b_30, o_31, cs_32, hE_33, hR_34, hl_35, hc_36⟩ := IsSlice.elem ha_3 hN_29
  obtain ⟨v_37, rfl, hs_38⟩ := hR_34
  obtain ⟨av_37, cv_37, rfl⟩ := IsSlice.val hs_38
  refine ZA rfl rfl (R.ix U23 S47 rfl rfl hE_33) (ZA rfl rfl (Zo F47_1 rfl) (ZA rfl rfl (R.ldH S45 rfl (hc_36 1 _ rfl)) (JL.seg0 ?_)))
  obtain ⟨q_40, hm_41, hl_42, hx⟩ := Zz hx
  refine Z2 (HF := (New H H)) 0 U45 I5 rfl rfl (Zn _ RU8 _ _ _) rfl (SrcF.sliceC RU8.const RU8.one U45 hs_38) hm_41 hl_42 rfl (Nat.le_refl _) rfl (fun vr_43 Kr_43 hr_43 => ?_)
  obtain ⟨ar_43, cr_43, rfl⟩ := RowOf.val hr_43
  refine ZA rfl rfl (ZG rfl) (ZD (ZC (ZW (ZS (vs := [.slice ar_43 q_40.length cr_43]) (K := [_]) (rst := [_]) (.inl rfl) rfl rfl (ZQ rfl rfl) (Ze 0 rfl ZK) ?_))))
  obtain rfl := Option.some.inj hx
  exact ⟨ar_43, q_40.length, cr_43, Kr_43, rfl, rfl, rfl, (Zs (Nat.zero_le _) hr_43), (new_ids hr_43 hlt), trivial⟩

set_option maxHeartbeats 8000000 in
theorem ref09_Seen_ok (p_1 : Disk) (p_4 : Int) (H : Heaplet) {aa_2 : Option Addr} {na_2 : Nat} {ca_2 : Nat} {aa_3 : Option Addr} {na_3 : Nat} {ca_3 : Nat} (ha_2 : IsSlice H (RSl RU8 1) 1 (.slice aa_2 na_2 ca_2) p_1.Blocks) (ha_3 : IsSlice H R_Write 2 (.slice aa_3 na_3 ca_3) p_1.Waits) (r : List UInt8) (hx : ref09_Seen p_1 p_4 = some r) :
  Does Try.prog 90 #[.agg #[.slice aa_2 na_2 ca_2, .slice aa_3 na_3 ca_3], .int .i64 p_4] [] H (fun u K' H' => ∃ ao0 : Option Addr, ∃ n0 : Nat, ∃ cap0 : Nat, ∃ K0 : Own, u = .slice ao0 n0 cap0 ∧ K' = [K0] ∧ H = H' ∧ RowOf (New H H) RU8 0 5 1 (.slice ao0 n0 cap0) r K0 ∧ (∀ p ∈ K0, p.1 ∉ ids (List.flatten [])) ∧ True) := by
 refine Does.enterL (vs := [.agg #[.slice aa_2 na_2 ca_2, .slice aa_3 na_3 ca_3], .int .i64 p_4]) (l := [(0, .agg #[.slice aa_2 na_2 ca_2, .slice aa_3 na_3 ca_3]), (1, .int .i64 p_4)]) Try.func90 rfl rfl ⟨rfl, rfl, trivial⟩ (fun w hlt => ?_)
 unfold ref09_Seen at hx
 refine ZH (ZB (Z7 rfl rfl (fun b_5 hb_5 => ZA rfl rfl (ZG rfl) (ZD (ZC (ZH (ZB (ZA rfl rfl (Zh 0 (vs := [.slice aa_2 na_2 ca_2, .slice aa_3 na_3 ca_3]) S25 rfl rfl rfl rfl) (ZA rfl rfl (ZI rfl) ?_)))))))))
 obtain ⟨x_6, hr_7, hx⟩ := ZJ hx
 refine ZO (vs := [_, _, _]) (args := [_, _, _]) (K := []) (rst := [_]) E132 rfl rfl rfl ZK (ref09_left_ok p_1 ([] : List Bool) p_4 _ ha_2 ha_3 (IsSlice.nil _ _ _) _ hr_7) rfl (fun u_8 Ku_8 Hu_8 hRu_8 hleu_8 hfu_8 => ?_)
 obtain ⟨ar_9, nr_9, cr_9, Kr_9, rfl, rfl, rfl, hr_9, hnewr_9, -⟩ := hRu_8
 replace hr_9 := (RowOf.base (Zj (H2 := New H H) RU8.const hr_9) (fun p hp => (hfu_8 p (Zk 0 rfl hp)).resolve_left (hnewr_9 p hp)))
 refine ZA rfl rfl (ZG rfl) (ZD (ZC (ZW (ZS (vs := [.slice ar_9 nr_9 cr_9]) (K := [_]) (rst := [_]) (.inl rfl) rfl rfl (ZQ rfl rfl) (Ze 0 rfl ZK) ?_))))
 obtain rfl := Option.some.inj hx
 exact ⟨ar_9, nr_9, cr_9, Kr_9, rfl, rfl, rfl, (Zs (Nat.zero_le _) hr_9), (new_ids hr_9 hlt), trivial⟩

set_option maxHeartbeats 8000000 in
theorem ref10_Get_ok (p_1 : List UInt8) (H : Heaplet) {aa_2 : Option Addr} {na_2 : Nat} {ca_2 : Nat} (ha_2 : IsSlice H RU8 1 (.slice aa_2 na_2 ca_2) p_1) (r : UInt32) (hx : ref10_Get p_1 = some r) :
  Does Try.prog 131 #[.slice aa_2 na_2 ca_2] [] H (fun u K' H' => u = .int .u32 (r.toNat : Int) ∧ K' = [] ∧ H = H' ∧ True) := by
 refine Does.enterL (vs := [.slice aa_2 na_2 ca_2]) (l := [(0, .slice aa_2 na_2 ca_2)]) Try.func131 rfl rfl ⟨rfl, trivial⟩ (fun w hlt => ?_)
 unfold ref10_Get at hx
 refine ZH (ZB (ZA rfl rfl (ZG rfl) (ZD (ZC (ZH (ZB (ZA rfl rfl (ZG rfl) (ZD (ZC (ZH (ZH ?_)))))))))))
 refine ZB (ZA rfl rfl (ZI rfl) (ZA rfl rfl (Zr U45 rfl (IsSlice.long ha_2)) (ZA rfl rfl (R.sub_i rfl rfl) (ZA rfl rfl (ZG rfl) (ZD (ZC ?_))))))
 obtain ⟨t_3, ht_5, hx⟩ := ZJ hx
 refine Zy (fun l o g => l = [(3, .int .u32 (t_3.toNat : Int))] ∧ o = [] ∧ H = g) ?_ ?_
 ·
  rintro _ _ _ ⟨rfl, rfl, rfl⟩
  refine ZC (ZH (ZB (ZA rfl rfl (ZI rfl) (ZA rfl rfl (ZG rfl) (ZD (ZC (ZW (ZS (vs := [.int .u32 (t_3.toNat : Int)]) (K := []) (rst := []) (.inl rfl) rfl rfl (ZQ rfl rfl) ZK ?_))))))))
  obtain rfl := Option.some.inj hx
  exact ⟨rfl, rfl, rfl, trivial⟩
 ·
  have hxo_4 := hx; clear hx; have hx := ht_5; clear ht_5
  refine JC.block (Z9 (fun n l o g => ∃ s_6 : UInt32 × Int, l = [(0, .slice aa_2 na_2 ca_2), (3, .int .u32 (s_6.1.toNat : Int)), (4, .int .i64 s_6.2)] ∧ o = [] ∧ H = g ∧ run (ref10_Get_l1 p_1) n s_6 = some t_3) FUEL ?_ ⟨((0 : UInt32), w64 ((p_1.length : Int) - 1)), rfl, rfl, rfl, hx⟩ ⟨rfl, rfl, rfl, trivial⟩ ?_)
  ·
   rintro _ _ _ ⟨s_6, rfl, rfl, rfl, hn_7⟩
   exact Z5 hn_7
  ·
   rintro n_8 _ _ _ ⟨s_6, rfl, rfl, rfl, hn_7⟩
   clear hx; obtain ⟨oo_10, hx, hd_9⟩ := Z6 hn_7
   unfold ref10_Get_l1 at hx
   refine ZH (ZH (ZB (ZA rfl rfl (ZI rfl) (ZA rfl rfl (R.geq_i rfl rfl) (ZD (ZC (ZY rfl (fun c_9 => ?_) (fun c_9 => ?_))))))))
   ·
    replace hx := ZU c_9 hx
    refine Za (ZC (ZH (JC.block (ZB (ZA rfl rfl (ZI rfl) (ZA rfl rfl (R.mul32 (a := (256 : UInt32)) (b := s_6.1) rfl rfl) (ZA rfl rfl (ZI rfl) (ZA rfl rfl (ZI rfl) ?_))))))))
    obtain ⟨y_10, hN_11, hx⟩ := Zt hx
    obtain ⟨b_12, o_13, cs_14, hE_15, hR_16, hl_17, hc_18⟩ := IsSlice.elem ha_2 hN_11
    obtain rfl := hR_16
    refine ZA rfl rfl (R.ix U45 S5 rfl rfl hE_15) (ZA rfl rfl (R.ldH S5 rfl (hc_18 0 _ rfl)) (ZA rfl rfl (R.cv_u8_u32 (a := y_10) U5 U26 rfl) (ZA rfl rfl (R.add32 (a := (256 : UInt32) * s_6.1) (b := y_10.toUInt32) rfl rfl) (ZA rfl rfl (ZG rfl) (ZD (Zl (ZC (ZB (ZA rfl rfl (ZI rfl) (ZA rfl rfl (R.sub_i rfl rfl) (ZA rfl rfl (ZG rfl) ?_)))))))))))
    refine ZD ?_
    replace hx := Zm hd_9 hx
    exact ZR ⟨(((256 : UInt32) * s_6.1) + y_10.toUInt32, w64 (s_6.2 - 1)), rfl, rfl, rfl, hx⟩ ⟨rfl, rfl, rfl, trivial⟩ rfl rfl
   ·
    replace hx := ZV c_9 hx
    refine Z0 (ZX ?_)
    obtain rfl := Zw hd_9 hx
    refine ZX (Zd ?_)
    exact ZR ⟨rfl, rfl, rfl⟩ ⟨rfl, trivial⟩ rfl rfl

set_option maxHeartbeats 8000000 in
theorem ref10_Read_ok (p_1 : List UInt8) (H : Heaplet) {aa_2 : Option Addr} {na_2 : Nat} {ca_2 : Nat} (ha_2 : IsSlice H RU8 1 (.slice aa_2 na_2 ca_2) p_1) (r : Ptr × Int) (hx : ref10_Read p_1 = some r) :
  Does Try.prog 130 #[.slice aa_2 na_2 ca_2] [] H (fun u K' H' => u = .tuple #[.agg #[.int .i64 r.1.At, .int .u32 (r.1.Birth.toNat : Int), .int .u32 (r.1.Iv.toNat : Int), .int .u32 (r.1.Tag.toNat : Int), .int .u32 (r.1.Sum.toNat : Int)], .int .i64 r.2] ∧ K' = [] ∧ H = H' ∧ True) := by
 refine Does.enterL (vs := [.slice aa_2 na_2 ca_2]) (l := [(0, .slice aa_2 na_2 ca_2)]) Try.func130 rfl rfl ⟨rfl, trivial⟩ (fun w hlt => ?_)
 unfold ref10_Read at hx
 refine ZH (ZB (JL.alloc Z28 rfl (fun b_3 hb_3 => ZA rfl rfl (ZG rfl) (ZD (ZC (ZH (ZH (ZB (ZA rfl rfl (ZI rfl) (ZA rfl rfl (Zr U45 rfl (IsSlice.long ha_2)) (ZA rfl rfl (R.neq_i rfl rfl) ?_)))))))))))
 refine ZD (ZC (ZY rfl (fun c_4 => ?_) (fun c_4 => ?_)))
 ·
  replace hx := ZU c_4 hx
  refine ZH (ZB (ZA rfl rfl (R.bldP (vs := []) (cs := [.int .i64 0, .int .u32 ((0 : UInt32).toNat : Int), .int .u32 ((0 : UInt32).toNat : Int), .int .u32 ((0 : UInt32).toNat : Int), .int .u32 ((0 : UInt32).toNat : Int)]) Z28 B28 rfl rfl rfl) (ZP 0 S28 rfl rfl rfl rfl rfl (Nat.le_of_ble_eq_true rfl) (ZA rfl rfl (ZG rfl) (ZD (ZC (ZW (Zc (ZS (vs := [.agg #[.int .i64 0, .int .u32 ((0 : UInt32).toNat : Int), .int .u32 ((0 : UInt32).toNat : Int), .int .u32 ((0 : UInt32).toNat : Int), .int .u32 ((0 : UInt32).toNat : Int)], .int .i64 3]) (K := []) (rst := [_]) (.inl rfl) rfl rfl (Zq 0 rfl rfl S28 (ZQ rfl rfl)) ZK ?_)))))))))
  obtain rfl := Option.some.inj hx
  exact ⟨rfl, rfl, rfl, trivial⟩
 ·
  replace hx := ZV c_4 hx
  refine Za (ZC (ZH (JC.draw (so := [_]) 19 rfl Mixed ⟨⟨0, rfl⟩, trivial⟩ (JA.val ⟨by kernel_rfl, by kernel_rfl⟩ (ZF _) (i := 0) rfl ⟨by kernel_rfl, by kernel_rfl, rfl⟩ trivial (ZE (Hle.refl _) ⟨⟨0, rfl⟩, trivial⟩) (ZI rfl) rfl ?_))))
  obtain ⟨y_5, hN_6, hx⟩ := Zt hx
  obtain ⟨b_7, o_8, cs_9, hE_10, hR_11, hl_12, hc_13⟩ := IsSlice.elem ha_2 hN_6
  obtain rfl := hR_11
  refine JA.val ⟨by kernel_rfl, by kernel_rfl⟩ (ZF _) (i := 1) rfl ⟨by kernel_rfl, by kernel_rfl, rfl⟩ trivial (ZE (Hle.refl _) ⟨⟨0, rfl⟩, trivial⟩) (R.ix U45 S5 rfl rfl hE_10) rfl (JA.val ⟨by kernel_rfl, by kernel_rfl⟩ (ZF _) (i := 2) rfl ⟨by kernel_rfl, by kernel_rfl, rfl⟩ trivial (ZE (Hle.refl _) ⟨⟨0, rfl⟩, trivial⟩) (R.ldH S5 rfl (hc_13 0 _ rfl)) rfl (JA.val ⟨by kernel_rfl, by kernel_rfl⟩ (ZF _) (i := 3) rfl ⟨by kernel_rfl, by kernel_rfl, rfl⟩ trivial (ZE (Hle.refl _) ⟨⟨0, rfl⟩, trivial⟩) (R.cv_u8_i64 (a := y_5) U5 U3 rfl) rfl (JA.val ⟨by kernel_rfl, by kernel_rfl⟩ (ZF _) (i := 4) rfl ⟨by kernel_rfl, by kernel_rfl, rfl⟩ trivial (ZE (Hle.refl _) ⟨⟨0, rfl⟩, trivial⟩) (ZI rfl) rfl ?_)))
  obtain ⟨m_14, hm_16, hb_15, hx⟩ := slc_some hx
  obtain ⟨vv_17, cv_17, h1v_17, h2v_17, h3v_17, hsv_17⟩ := IsSlice.cutv ha_2 hm_16 hb_15
  refine JA.val ⟨by kernel_rfl, by kernel_rfl⟩ (ZF _) (i := 5) rfl ⟨by kernel_rfl, by kernel_rfl, rfl⟩ trivial (ZE (Hle.refl _) ⟨⟨0, rfl⟩, trivial⟩) (R.slc (cap := cv_17) (a := 1) (b := 4) (c := (cv_17 : Int)) (m := p_1) (R := RU8) U45 S5 rfl ⟨_, rfl⟩ ⟨_, rfl⟩ (by obtain ⟨ao, n, e, _⟩ := h1v_17; exact ⟨ao, n, e, rfl⟩) ⟨hb_15.1, hb_15.2.1, h2v_17⟩ h3v_17 (.inl rfl)) rfl ?_
  obtain ⟨av_17, cv_17', rfl⟩ := IsSlice.val hsv_17
  refine JA.val ⟨by kernel_rfl, by kernel_rfl⟩ (ZF _) (i := 7) rfl ⟨by kernel_rfl, by kernel_rfl, rfl⟩ trivial (ZE (Hle.refl _) ⟨⟨0, rfl⟩, trivial⟩) (ZI rfl) rfl ?_
  obtain ⟨m_18, hm_20, hb_19, hx⟩ := slc_some hx
  obtain ⟨vv_21, cv_21, h1v_21, h2v_21, h3v_21, hsv_21⟩ := IsSlice.cutv ha_2 hm_20 hb_19
  refine JA.val ⟨by kernel_rfl, by kernel_rfl⟩ (ZF _) (i := 8) rfl ⟨by kernel_rfl, by kernel_rfl, rfl⟩ trivial (ZE (Hle.refl _) ⟨⟨0, rfl⟩, trivial⟩) (R.slc (cap := cv_21) (a := 4) (b := 8) (c := (cv_21 : Int)) (m := p_1) (R := RU8) U45 S5 rfl ⟨_, rfl⟩ ⟨_, rfl⟩ (by obtain ⟨ao, n, e, _⟩ := h1v_21; exact ⟨ao, n, e, rfl⟩) ⟨hb_19.1, hb_19.2.1, h2v_21⟩ h3v_21 (.inl rfl)) rfl ?_
  obtain ⟨av_21, cv_21', rfl⟩ := IsSlice.val hsv_21
  refine JA.val ⟨by kernel_rfl, by kernel_rfl⟩ (ZF _) (i := 10) rfl ⟨by kernel_rfl, by kernel_rfl, rfl⟩ trivial (ZE (Hle.refl _) ⟨⟨0, rfl⟩, trivial⟩) (ZI rfl) rfl ?_
  obtain ⟨m_22, hm_24, hb_23, hx⟩ := slc_some hx
  obtain ⟨vv_25, cv_25, h1v_25, h2v_25, h3v_25, hsv_25⟩ := IsSlice.cutv ha_2 hm_24 hb_23
  refine JA.val ⟨by kernel_rfl, by kernel_rfl⟩ (ZF _) (i := 11) rfl ⟨by kernel_rfl, by kernel_rfl, rfl⟩ trivial (ZE (Hle.refl _) ⟨⟨0, rfl⟩, trivial⟩) (R.slc (cap := cv_25) (a := 8) (b := 12) (c := (cv_25 : Int)) (m := p_1) (R := RU8) U45 S5 rfl ⟨_, rfl⟩ ⟨_, rfl⟩ (by obtain ⟨ao, n, e, _⟩ := h1v_25; exact ⟨ao, n, e, rfl⟩) ⟨hb_23.1, hb_23.2.1, h2v_25⟩ h3v_25 (.inl rfl)) rfl ?_
  obtain ⟨av_25, cv_25', rfl⟩ := IsSlice.val hsv_25
  refine JA.val ⟨by kernel_rfl, by kernel_rfl⟩ (ZF _) (i := 13) rfl ⟨by kernel_rfl, by kernel_rfl, rfl⟩ trivial (ZE (Hle.refl _) ⟨⟨0, rfl⟩, trivial⟩) (ZI rfl) rfl ?_
  obtain ⟨m_26, hm_28, hb_27, hx⟩ := slc_some hx
  obtain ⟨vv_29, cv_29, h1v_29, h2v_29, h3v_29, hsv_29⟩ := IsSlice.cutv ha_2 hm_28 hb_27
  refine JA.val ⟨by kernel_rfl, by kernel_rfl⟩ (ZF _) (i := 14) rfl ⟨by kernel_rfl, by kernel_rfl, rfl⟩ trivial (ZE (Hle.refl _) ⟨⟨0, rfl⟩, trivial⟩) (R.slc (cap := cv_29) (a := 12) (b := 16) (c := (cv_29 : Int)) (m := p_1) (R := RU8) U45 S5 rfl ⟨_, rfl⟩ ⟨_, rfl⟩ (by obtain ⟨ao, n, e, _⟩ := h1v_29; exact ⟨ao, n, e, rfl⟩) ⟨hb_27.1, hb_27.2.1, h2v_29⟩ h3v_29 (.inl rfl)) rfl ?_
  obtain ⟨av_29, cv_29', rfl⟩ := IsSlice.val hsv_29
  refine JAA.start [⟨17, 4, 28, .agg #[.int .i64 0, .int .u32 0, .int .u32 0, .int .u32 0, .int .u32 0]⟩] rfl (JAA.one (i := 6) ⟨⟨_, _, _, rfl, Z28, rfl⟩, trivial⟩ (Hle.refl _) ⟨⟨0, rfl⟩, trivial⟩ rfl (by kernel_rfl) (JOA.step rfl trivial rfl (fun tl_30 to_31 K hK => ?_)))
  obtain ⟨x_32, hr_33, hx⟩ := ZJ hx
  refine ZO (vs := [_]) (args := [_]) (K := []) (rst := _ :: to_31) E131 rfl rfl rfl ZK (ref10_Get_ok m_14 _ hsv_17 _ hr_33) rfl (fun u_34 Ku_34 Hu_34 hRu_34 hleu_34 hfu_34 => ?_)
  obtain ⟨rfl, rfl, rfl, -⟩ := hRu_34
  refine ZD (hK (by repeat constructor) (by repeat constructor) (ZE (Hle.refl _) ⟨⟨0, rfl⟩, trivial⟩) (JAA.one (i := 9) ⟨⟨_, _, _, rfl, Z28, rfl⟩, trivial⟩ (Hle.refl _) ⟨⟨0, rfl⟩, trivial⟩ rfl (by kernel_rfl) (JOA.step rfl trivial rfl (fun tl_35 to_36 K hK => ?_))))
  obtain ⟨x_37, hr_38, hx⟩ := ZJ hx
  refine ZO (vs := [_]) (args := [_]) (K := []) (rst := _ :: to_36) E131 rfl rfl rfl ZK (ref10_Get_ok m_18 _ hsv_21 _ hr_38) rfl (fun u_39 Ku_39 Hu_39 hRu_39 hleu_39 hfu_39 => ?_)
  obtain ⟨rfl, rfl, rfl, -⟩ := hRu_39
  refine ZD (hK (by repeat constructor) (by repeat constructor) (ZE (Hle.refl _) ⟨⟨0, rfl⟩, trivial⟩) (JAA.one (i := 12) ⟨⟨_, _, _, rfl, Z28, rfl⟩, trivial⟩ (Hle.refl _) ⟨⟨0, rfl⟩, trivial⟩ rfl (by kernel_rfl) (JOA.step rfl trivial rfl (fun tl_40 to_41 K hK => ?_))))
  obtain ⟨x_42, hr_43, hx⟩ := ZJ hx
  refine ZO (vs := [_]) (args := [_]) (K := []) (rst := _ :: to_41) E131 rfl rfl rfl ZK (ref10_Get_ok m_22 _ hsv_25 _ hr_43) rfl (fun u_44 Ku_44 Hu_44 hRu_44 hleu_44 hfu_44 => ?_)
  obtain ⟨rfl, rfl, rfl, -⟩ := hRu_44
  refine ZD (hK (by repeat constructor) (by repeat constructor) (ZE (Hle.refl _) ⟨⟨0, rfl⟩, trivial⟩) (JAA.one (i := 15) ⟨⟨_, _, _, rfl, Z28, rfl⟩, trivial⟩ (Hle.refl _) ⟨⟨0, rfl⟩, trivial⟩ rfl (by kernel_rfl) (JOA.step rfl trivial rfl (fun tl_45 to_46 K hK => ?_))))
  obtain ⟨x_47, hr_48, hx⟩ := ZJ hx
  refine ZO (vs := [_]) (args := [_]) (K := []) (rst := _ :: to_46) E131 rfl rfl rfl ZK (ref10_Get_ok m_26 _ hsv_29 _ hr_48) rfl (fun u_49 Ku_49 Hu_49 hRu_49 hleu_49 hfu_49 => ?_)
  obtain ⟨rfl, rfl, rfl, -⟩ := hRu_49
  refine ZD (hK (by repeat constructor) (by repeat constructor) (ZE (Hle.refl _) ⟨⟨0, rfl⟩, trivial⟩) (JAA.val ⟨by kernel_rfl, by kernel_rfl⟩ (ZF _) (i := 16) rfl (by kernel_rfl) rfl trivial (Hle.refl _) ⟨⟨0, rfl⟩, trivial⟩ (R.bldP (vs := [(0, .int .i64 (y_5.toNat : Int)), (1, .int .u32 (x_32.toNat : Int)), (2, .int .u32 (x_37.toNat : Int)), (3, .int .u32 (x_42.toNat : Int)), (4, .int .u32 (x_47.toNat : Int))]) (cs := [.int .i64 (y_5.toNat : Int), .int .u32 (x_32.toNat : Int), .int .u32 (x_37.toNat : Int), .int .u32 (x_42.toNat : Int), .int .u32 (x_47.toNat : Int)]) Z28 B28 rfl rfl rfl) rfl (JAA.all ⟨⟨_, _, _, rfl, Z28, rfl⟩, trivial⟩ (Hle.refl _) ⟨⟨0, rfl⟩, trivial⟩ rfl (by kernel_rfl) (fun b_50 hb_50 => JA.one (i := 18) (by kernel_rfl) (JO.step rfl trivial rfl (fun K hK => ZP 1 S28 rfl rfl rfl rfl rfl (Nat.le_of_ble_eq_true rfl) (ZD (hK _ _ _ (ZE (Hle.refl _) ⟨⟨0, rfl⟩, trivial⟩) (Zg (by kernel_rfl) (ZC (ZH ?_)))))))))))
  refine ZH (ZB (ZA rfl rfl (Zh 1 (vs := [.int .i64 (y_5.toNat : Int), .int .u32 (x_32.toNat : Int), .int .u32 (x_37.toNat : Int), .int .u32 (x_42.toNat : Int), .int .u32 (x_47.toNat : Int)]) S28 rfl rfl rfl rfl) ?_))
  obtain ⟨x_51, hr_52, hx⟩ := ZJ hx
  refine ZO (vs := [_]) (args := [_]) (K := []) (rst := [_, _]) E76 rfl rfl rfl ZK (ref10_May_ok (Ptr.mk (y_5.toNat : Int) x_32 x_37 x_42 x_47) _ _ hr_52) rfl (fun u_53 Ku_53 Hu_53 hRu_53 hleu_53 hfu_53 => ?_)
  obtain ⟨rfl, rfl, rfl, -⟩ := hRu_53
  refine ZA rfl rfl (R.not rfl) (ZD (ZC (ZY rfl (fun c_54 => ?_) (fun c_54 => ?_))))
  ·
   replace hx := ZU c_54 hx
   refine ZH (ZB (ZA rfl rfl (R.bldP (vs := []) (cs := [.int .i64 0, .int .u32 ((0 : UInt32).toNat : Int), .int .u32 ((0 : UInt32).toNat : Int), .int .u32 ((0 : UInt32).toNat : Int), .int .u32 ((0 : UInt32).toNat : Int)]) Z28 B28 rfl rfl rfl) (ZP 0 S28 rfl rfl rfl rfl rfl (Nat.le_of_ble_eq_true rfl) (ZA rfl rfl (ZG rfl) (ZD (ZC (ZW (Zc (ZS (vs := [.agg #[.int .i64 0, .int .u32 ((0 : UInt32).toNat : Int), .int .u32 ((0 : UInt32).toNat : Int), .int .u32 ((0 : UInt32).toNat : Int), .int .u32 ((0 : UInt32).toNat : Int)], .int .i64 8]) (K := []) (rst := [_, _]) (.inl rfl) rfl rfl (Zq 0 rfl rfl S28 (ZQ rfl rfl)) ZK ?_)))))))))
   obtain rfl := Option.some.inj hx
   exact ⟨rfl, rfl, rfl, trivial⟩
  ·
   replace hx := ZV c_54 hx
   refine Za (ZC (ZH (ZB (ZA rfl rfl (Zh 1 (vs := [.int .i64 (y_5.toNat : Int), .int .u32 (x_32.toNat : Int), .int .u32 (x_37.toNat : Int), .int .u32 (x_42.toNat : Int), .int .u32 (x_47.toNat : Int)]) S28 rfl rfl rfl rfl) (ZP 0 S28 rfl rfl rfl rfl rfl (Nat.le_of_ble_eq_true rfl) (ZA rfl rfl (ZG rfl) (ZD (ZC (ZW (ZS (vs := [.agg #[.int .i64 (y_5.toNat : Int), .int .u32 (x_32.toNat : Int), .int .u32 (x_37.toNat : Int), .int .u32 (x_42.toNat : Int), .int .u32 (x_47.toNat : Int)], .int .i64 0]) (K := []) (rst := [_, _]) (.inl rfl) rfl rfl (Zq 0 rfl rfl S28 (ZQ rfl rfl)) ZK ?_))))))))))
   obtain rfl := Option.some.inj hx
   exact ⟨rfl, rfl, rfl, trivial⟩

set_option maxHeartbeats 8000000 in
theorem ref11_of_ok (p_1 : List UInt8) (H : Heaplet) {aa_2 : Option Addr} {na_2 : Nat} {ca_2 : Nat} (ha_2 : IsSlice H RU8 1 (.slice aa_2 na_2 ca_2) p_1) (r : Label × Bool) (hx : ref11_of p_1 = some r) :
  Does Try.prog 89 #[.slice aa_2 na_2 ca_2] [] H (fun u K' H' => u = .tuple #[.agg #[.int .u32 (r.1.Gen.toNat : Int), .int .u32 (r.1.Epoch.toNat : Int), .int .i64 r.1.Root.At, .int .u32 (r.1.Root.Birth.toNat : Int), .int .u32 (r.1.Root.Iv.toNat : Int), .int .u32 (r.1.Root.Tag.toNat : Int), .int .u32 (r.1.Root.Sum.toNat : Int)], .bool r.2] ∧ K' = [] ∧ True) := by
 refine Does.enterL (vs := [.slice aa_2 na_2 ca_2]) (l := [(0, .slice aa_2 na_2 ca_2)]) Try.func89 rfl rfl ⟨rfl, trivial⟩ (fun w hlt => ?_)
 unfold ref11_of at hx
 refine ZH (ZB (JL.alloc Z30 rfl (fun b_3 hb_3 => ZA rfl rfl (ZG rfl) (ZD (ZC (ZH (ZB (ZA rfl rfl (ZI rfl) ?_))))))))
 obtain ⟨m_4, hm_6, hb_5, hx⟩ := slc_some hx
 obtain ⟨vv_7, cv_7, h1v_7, h2v_7, h3v_7, hsv_7⟩ := IsSlice.cutv ha_2 hm_6 hb_5
 refine ZA rfl rfl (R.slc (cap := cv_7) (a := 9) (b := 25) (c := (cv_7 : Int)) (m := p_1) (R := RU8) U45 S5 rfl ⟨_, rfl⟩ ⟨_, rfl⟩ (by obtain ⟨ao, n, e, _⟩ := h1v_7; exact ⟨ao, n, e, rfl⟩) ⟨hb_5.1, hb_5.2.1, h2v_7⟩ h3v_7 (.inl rfl)) ?_
 obtain ⟨av_7, cv_7', rfl⟩ := IsSlice.val hsv_7
 obtain ⟨x_8, hr_9, hx⟩ := ZJ hx
 refine ZO (vs := [_]) (args := [_]) (K := []) (rst := [_]) E130 rfl rfl rfl ZK (ref10_Read_ok m_4 _ hsv_7 _ hr_9) rfl (fun u_10 Ku_10 Hu_10 hRu_10 hleu_10 hfu_10 => ?_)
 obtain ⟨rfl, rfl, rfl, -⟩ := hRu_10
 refine ZA rfl rfl (ZI rfl) (ZA rfl rfl (R.extract rfl rfl) (ZA rfl rfl (R.extract rfl rfl) (JL.alloc Z28 rfl (fun b_11 hb_11 => ZP 0 S28 rfl rfl rfl rfl rfl (Nat.le_of_ble_eq_true rfl) (ZA rfl rfl (ZG rfl) (ZD (ZC (ZH (JC.draw (so := [_, _]) 10 rfl Mixed ⟨⟨0, rfl⟩, ⟨1, rfl⟩, trivial⟩ (JA.val ⟨by kernel_rfl, by kernel_rfl⟩ (ZF _) (i := 0) rfl ⟨by kernel_rfl, by kernel_rfl, rfl⟩ trivial (ZE (Hle.refl _) ⟨⟨0, rfl⟩, ⟨1, rfl⟩, trivial⟩) (ZI rfl) rfl ?_))))))))))
 obtain ⟨m_12, hm_14, hb_13, hx⟩ := slc_some hx
 obtain ⟨vv_15, cv_15, h1v_15, h2v_15, h3v_15, hsv_15⟩ := IsSlice.cutv ha_2 hm_14 hb_13
 refine JA.val ⟨by kernel_rfl, by kernel_rfl⟩ (ZF _) (i := 1) rfl ⟨by kernel_rfl, by kernel_rfl, rfl⟩ trivial (ZE (Hle.refl _) ⟨⟨0, rfl⟩, ⟨1, rfl⟩, trivial⟩) (R.slc (cap := cv_15) (a := 1) (b := 5) (c := (cv_15 : Int)) (m := p_1) (R := RU8) U45 S5 rfl ⟨_, rfl⟩ ⟨_, rfl⟩ (by obtain ⟨ao, n, e, _⟩ := h1v_15; exact ⟨ao, n, e, rfl⟩) ⟨hb_13.1, hb_13.2.1, h2v_15⟩ h3v_15 (.inl rfl)) rfl ?_
 obtain ⟨av_15, cv_15', rfl⟩ := IsSlice.val hsv_15
 refine JA.val ⟨by kernel_rfl, by kernel_rfl⟩ (ZF _) (i := 3) rfl ⟨by kernel_rfl, by kernel_rfl, rfl⟩ trivial (ZE (Hle.refl _) ⟨⟨0, rfl⟩, ⟨1, rfl⟩, trivial⟩) (ZI rfl) rfl ?_
 obtain ⟨m_16, hm_18, hb_17, hx⟩ := slc_some hx
 obtain ⟨vv_19, cv_19, h1v_19, h2v_19, h3v_19, hsv_19⟩ := IsSlice.cutv ha_2 hm_18 hb_17
 refine JA.val ⟨by kernel_rfl, by kernel_rfl⟩ (ZF _) (i := 4) rfl ⟨by kernel_rfl, by kernel_rfl, rfl⟩ trivial (ZE (Hle.refl _) ⟨⟨0, rfl⟩, ⟨1, rfl⟩, trivial⟩) (R.slc (cap := cv_19) (a := 5) (b := 9) (c := (cv_19 : Int)) (m := p_1) (R := RU8) U45 S5 rfl ⟨_, rfl⟩ ⟨_, rfl⟩ (by obtain ⟨ao, n, e, _⟩ := h1v_19; exact ⟨ao, n, e, rfl⟩) ⟨hb_17.1, hb_17.2.1, h2v_19⟩ h3v_19 (.inl rfl)) rfl ?_
 obtain ⟨av_19, cv_19', rfl⟩ := IsSlice.val hsv_19
 refine JA.val ⟨by kernel_rfl, by kernel_rfl⟩ (ZF _) (i := 6) rfl ⟨by kernel_rfl, by kernel_rfl, rfl⟩ trivial (ZE (Hle.refl _) ⟨⟨0, rfl⟩, ⟨1, rfl⟩, trivial⟩) (Zh 0 (vs := [.int .i64 x_8.1.At, .int .u32 (x_8.1.Birth.toNat : Int), .int .u32 (x_8.1.Iv.toNat : Int), .int .u32 (x_8.1.Tag.toNat : Int), .int .u32 (x_8.1.Sum.toNat : Int)]) S28 rfl rfl rfl rfl) rfl (JAA.start [⟨8, 6, 30, .agg #[.int .u32 0, .int .u32 0, .int .i64 0, .int .u32 0, .int .u32 0, .int .u32 0, .int .u32 0]⟩] rfl (JAA.one (i := 2) ⟨⟨_, _, _, rfl, Z30, rfl⟩, trivial⟩ (Hle.refl _) ⟨⟨0, rfl⟩, ⟨1, rfl⟩, trivial⟩ rfl (by kernel_rfl) (JOA.step rfl trivial rfl (fun tl_20 to_21 K hK => ?_))))
 obtain ⟨x_22, hr_23, hx⟩ := ZJ hx
 refine ZO (vs := [_]) (args := [_]) (K := []) (rst := _ :: _ :: to_21) E131 rfl rfl rfl ZK (ref10_Get_ok m_12 _ hsv_15 _ hr_23) rfl (fun u_24 Ku_24 Hu_24 hRu_24 hleu_24 hfu_24 => ?_)
 obtain ⟨rfl, rfl, rfl, -⟩ := hRu_24
 refine ZD (hK (by repeat constructor) (by repeat constructor) (ZE (Hle.refl _) ⟨⟨0, rfl⟩, ⟨1, rfl⟩, trivial⟩) (JAA.one (i := 5) ⟨⟨_, _, _, rfl, Z30, rfl⟩, trivial⟩ (Hle.refl _) ⟨⟨0, rfl⟩, ⟨1, rfl⟩, trivial⟩ rfl (by kernel_rfl) (JOA.step rfl trivial rfl (fun tl_25 to_26 K hK => ?_))))
 obtain ⟨x_27, hr_28, hx⟩ := ZJ hx
 refine ZO (vs := [_]) (args := [_]) (K := []) (rst := _ :: _ :: to_26) E131 rfl rfl rfl ZK (ref10_Get_ok m_16 _ hsv_19 _ hr_28) rfl (fun u_29 Ku_29 Hu_29 hRu_29 hleu_29 hfu_29 => ?_)
 obtain ⟨rfl, rfl, rfl, -⟩ := hRu_29
 refine ZD (hK (by repeat constructor) (by repeat constructor) (ZE (Hle.refl _) ⟨⟨0, rfl⟩, ⟨1, rfl⟩, trivial⟩) (JAA.val ⟨by kernel_rfl, by kernel_rfl⟩ (ZF _) (i := 7) rfl (by kernel_rfl) rfl trivial (Hle.refl _) ⟨⟨0, rfl⟩, ⟨1, rfl⟩, trivial⟩ (R.bldP (vs := [(0, .int .u32 (x_22.toNat : Int)), (1, .int .u32 (x_27.toNat : Int)), (2, .agg #[.int .i64 x_8.1.At, .int .u32 (x_8.1.Birth.toNat : Int), .int .u32 (x_8.1.Iv.toNat : Int), .int .u32 (x_8.1.Tag.toNat : Int), .int .u32 (x_8.1.Sum.toNat : Int)])]) (cs := [.int .u32 (x_22.toNat : Int), .int .u32 (x_27.toNat : Int), .int .i64 x_8.1.At, .int .u32 (x_8.1.Birth.toNat : Int), .int .u32 (x_8.1.Iv.toNat : Int), .int .u32 (x_8.1.Tag.toNat : Int), .int .u32 (x_8.1.Sum.toNat : Int)]) Z30 B30 rfl rfl rfl) rfl (JAA.all ⟨⟨_, _, _, rfl, Z30, rfl⟩, trivial⟩ (Hle.refl _) ⟨⟨0, rfl⟩, ⟨1, rfl⟩, trivial⟩ rfl (by kernel_rfl) (fun b_30 hb_30 => JA.one (i := 9) (by kernel_rfl) (JO.step rfl trivial rfl (fun K hK => ZP 2 S30 rfl rfl rfl rfl rfl (Nat.le_of_ble_eq_true rfl) (ZD (hK _ _ _ (ZE (Hle.refl _) ⟨⟨0, rfl⟩, ⟨1, rfl⟩, trivial⟩) (Zg (by kernel_rfl) (ZC (ZH ?_)))))))))))
 obtain ⟨t_31, ht_33, hx⟩ := ZJ hx
 refine Zy (fun l o g => ∃ H_45 : Heaplet, l = [(2, .pointer (some ⟨b_3, 0, none⟩)), (3, .bool t_31)] ∧ o = [[(b_3, .cells #[.int .u32 (x_22.toNat : Int), .int .u32 (x_27.toNat : Int), .int .i64 x_8.1.At, .int .u32 (x_8.1.Birth.toNat : Int), .int .u32 (x_8.1.Iv.toNat : Int), .int .u32 (x_8.1.Tag.toNat : Int), .int .u32 (x_8.1.Sum.toNat : Int)] 30 (0, 0))]] ∧ H_45 = g ∧ Hle H H_45) ?_ ?_
 ·
  rintro _ _ _ ⟨H_45, rfl, rfl, rfl, hleH_45⟩
  refine ZC (ZW (ZS (vs := [.agg #[.int .u32 (x_22.toNat : Int), .int .u32 (x_27.toNat : Int), .int .i64 x_8.1.At, .int .u32 (x_8.1.Birth.toNat : Int), .int .u32 (x_8.1.Iv.toNat : Int), .int .u32 (x_8.1.Tag.toNat : Int), .int .u32 (x_8.1.Sum.toNat : Int)], .bool t_31]) (K := []) (rst := [_]) (.inl rfl) rfl rfl (Zq 0 rfl rfl S30 (ZQ rfl rfl)) ZK ?_))
  obtain rfl := Option.some.inj hx
  exact ⟨rfl, rfl, trivial⟩
 ·
  have hxo_32 := hx; clear hx; have hx := ht_33; clear ht_33
  refine JC.draw (so := [_, _]) 17 rfl Mixed ⟨⟨0, rfl⟩, ⟨2, rfl⟩, trivial⟩ (JA.val ⟨by kernel_rfl, by kernel_rfl⟩ (ZF _) (i := 0) rfl ⟨by kernel_rfl, by kernel_rfl, rfl⟩ trivial (ZE (Hle.refl _) ⟨⟨0, rfl⟩, ⟨2, rfl⟩, trivial⟩) (Zh 1 (vs := [.int .u32 (x_22.toNat : Int), .int .u32 (x_27.toNat : Int), .int .i64 x_8.1.At, .int .u32 (x_8.1.Birth.toNat : Int), .int .u32 (x_8.1.Iv.toNat : Int), .int .u32 (x_8.1.Tag.toNat : Int), .int .u32 (x_8.1.Sum.toNat : Int)]) S30 rfl rfl rfl rfl) rfl (JA.val ⟨by kernel_rfl, by kernel_rfl⟩ (ZF _) (i := 1) rfl ⟨by kernel_rfl, by kernel_rfl, rfl⟩ trivial (ZE (Hle.refl _) ⟨⟨0, rfl⟩, ⟨2, rfl⟩, trivial⟩) (ZI rfl) rfl (JA.val ⟨by kernel_rfl, by kernel_rfl⟩ (ZF _) (i := 2) rfl ⟨by kernel_rfl, by kernel_rfl, rfl⟩ trivial (ZE (Hle.refl _) ⟨⟨0, rfl⟩, ⟨2, rfl⟩, trivial⟩) (R.eql_i rfl rfl) rfl (JA.val ⟨by kernel_rfl, by kernel_rfl⟩ (ZF _) (i := 3) rfl ⟨by kernel_rfl, by kernel_rfl, rfl⟩ trivial (ZE (Hle.refl _) ⟨⟨0, rfl⟩, ⟨2, rfl⟩, trivial⟩) (ZI rfl) rfl (JA.gSplit (t := 24) rfl (fun c_34 => ?_) (fun c_34 => ?_))))))
  ·
   replace hx := ZU c_34 hx
   refine JA.val ⟨by kernel_rfl, by kernel_rfl⟩ (ZF _) (i := 4) rfl ⟨by kernel_rfl, by kernel_rfl, rfl⟩ ⟨_, _, rfl, rfl, rfl⟩ (ZE (Hle.refl _) ⟨⟨0, rfl⟩, ⟨2, rfl⟩, trivial⟩) (Zh 1 (vs := [.int .u32 (x_22.toNat : Int), .int .u32 (x_27.toNat : Int), .int .i64 x_8.1.At, .int .u32 (x_8.1.Birth.toNat : Int), .int .u32 (x_8.1.Iv.toNat : Int), .int .u32 (x_8.1.Tag.toNat : Int), .int .u32 (x_8.1.Sum.toNat : Int)]) S30 rfl rfl rfl rfl) rfl (JA.one (i := 5) (by kernel_rfl) (JO.step rfl ⟨_, _, rfl, rfl, rfl⟩ rfl (fun K hK => ?_)))
   obtain ⟨x_35, hr_36, hx⟩ := ZJ hx
   refine ZO (vs := [_]) (args := [_]) (K := []) (rst := [_, _, _]) E41 rfl rfl rfl ZK (ref11_May_ok (Label.mk x_22 x_27 (Ptr.mk x_8.1.At x_8.1.Birth x_8.1.Iv x_8.1.Tag x_8.1.Sum)) _ _ hr_36) rfl (fun u_37 Ku_37 Hu_37 hRu_37 hleu_37 hfu_37 => ?_)
   obtain ⟨rfl, rfl, rfl, -⟩ := hRu_37
   refine ZD (hK _ _ _ (ZE (Hle.refl _) ⟨⟨0, rfl⟩, ⟨2, rfl⟩, trivial⟩) (JA.val ⟨by kernel_rfl, by kernel_rfl⟩ (ZF _) (i := 6) rfl ⟨by kernel_rfl, by kernel_rfl, rfl⟩ trivial (ZE (Hle.refl _) ⟨⟨0, rfl⟩, ⟨2, rfl⟩, trivial⟩) (Zf rfl rfl) rfl (JA.val ⟨by kernel_rfl, by kernel_rfl⟩ (ZF _) (i := 7) rfl ⟨by kernel_rfl, by kernel_rfl, rfl⟩ trivial (ZE (Hle.refl _) ⟨⟨0, rfl⟩, ⟨2, rfl⟩, trivial⟩) (ZI rfl) rfl (JA.gSplit (t := 28) rfl (fun c_38 => ?_) (fun c_38 => ?_)))))
   ·
    replace hx := ZU c_38 hx
    refine JA.val ⟨by kernel_rfl, by kernel_rfl⟩ (ZF _) (i := 8) rfl ⟨by kernel_rfl, by kernel_rfl, rfl⟩ ⟨_, _, rfl, rfl, rfl⟩ (ZE (Hle.refl _) ⟨⟨0, rfl⟩, ⟨2, rfl⟩, trivial⟩) (Zh 1 (vs := [.int .u32 (x_22.toNat : Int), .int .u32 (x_27.toNat : Int), .int .i64 x_8.1.At, .int .u32 (x_8.1.Birth.toNat : Int), .int .u32 (x_8.1.Iv.toNat : Int), .int .u32 (x_8.1.Tag.toNat : Int), .int .u32 (x_8.1.Sum.toNat : Int)]) S30 rfl rfl rfl rfl) rfl (JA.val ⟨by kernel_rfl, by kernel_rfl⟩ (ZF _) (i := 11) rfl ⟨by kernel_rfl, by kernel_rfl, rfl⟩ ⟨_, _, rfl, rfl, rfl⟩ (ZE (Hle.refl _) ⟨⟨0, rfl⟩, ⟨2, rfl⟩, trivial⟩) (ZI rfl) rfl (JA.val ⟨by kernel_rfl, by kernel_rfl⟩ (ZF _) (i := 12) rfl ⟨by kernel_rfl, by kernel_rfl, rfl⟩ ⟨_, _, rfl, rfl, rfl⟩ (ZE (Hle.refl _) ⟨⟨0, rfl⟩, ⟨2, rfl⟩, trivial⟩) (R.toStr U45 U5 U9 rfl ha_2) rfl (JA.one (i := 9) (by kernel_rfl) (JO.step rfl ⟨_, _, rfl, rfl, rfl⟩ rfl (fun K hK => ?_)))))
    obtain ⟨x_39, hr_40, hx⟩ := ZJ hx
    refine ZO (vs := [_]) (args := [_]) (K := []) (rst := [_, _, _]) E79 rfl rfl rfl ZK (ref11_Block_ok (Label.mk x_22 x_27 (Ptr.mk x_8.1.At x_8.1.Birth x_8.1.Iv x_8.1.Tag x_8.1.Sum)) _ _ hr_40) rfl (fun u_41 Ku_41 Hu_41 hRu_41 hleu_41 hfu_41 => ?_)
    obtain ⟨ar_42, nr_42, cr_42, Kr_42, rfl, rfl, rfl, hr_42, hnewr_42, -⟩ := hRu_41
    replace hr_42 := (RowOf.base (Zj (H2 := New H H) RU8.const hr_42) (fun p hp => (hfu_41 p (Zk 0 rfl hp)).resolve_left (hnewr_42 p hp)))
    refine ZD (hK _ _ _ (ZE (Hle.refl _) ⟨⟨1, rfl⟩, ⟨3, rfl⟩, trivial⟩) (JA.two (i := 10) (j := 15) (by kernel_rfl) ?_ ?_))
    ·
     refine JO.step rfl ⟨_, _, rfl, rfl, rfl⟩ rfl (fun K hK => JL.pubN 0 RU8.mono rfl hr_42 (Nat.le_refl _) (fun H_43 hleH_43 hsH_43 => JL.forget 0 (ZA rfl rfl (R.toStr U45 U5 U9 rfl (hsH_43.old RU8.mono)) (ZD (hK _ _ _ (ZE hleH_43 ⟨⟨0, rfl⟩, ⟨2, rfl⟩, trivial⟩) (JA.val ⟨by kernel_rfl, by kernel_rfl⟩ (ZF _) (i := 13) rfl ⟨by kernel_rfl, by kernel_rfl, rfl⟩ ⟨_, _, rfl, rfl, rfl⟩ (ZE hleH_43 ⟨⟨0, rfl⟩, ⟨2, rfl⟩, trivial⟩) (R.eqlStr (a := x_39) (b := p_1) rfl rfl) rfl (JA.val ⟨by kernel_rfl, by kernel_rfl⟩ (ZF _) (i := 14) rfl ⟨by kernel_rfl, by kernel_rfl, rfl⟩ trivial (ZE hleH_43 ⟨⟨0, rfl⟩, ⟨2, rfl⟩, trivial⟩) (Zf rfl rfl) rfl (JA.one (i := 15) (by kernel_rfl) (JO.step rfl trivial rfl (fun K hK => ZP 1 S30 rfl rfl rfl rfl rfl (Nat.le_of_ble_eq_true rfl) (ZD ?_)))))))))))
     refine hK _ _ _ (ZE hleH_43 ⟨⟨0, rfl⟩, ⟨2, rfl⟩, trivial⟩) (JA.val ⟨by kernel_rfl, by kernel_rfl⟩ (ZF _) (i := 16) rfl ⟨by kernel_rfl, by kernel_rfl, rfl⟩ trivial (ZE hleH_43 ⟨⟨0, rfl⟩, ⟨2, rfl⟩, trivial⟩) (ZG rfl) rfl (Zg (by kernel_rfl) ?_))
     obtain rfl := Option.some.inj hx
     refine JN.forget 2 (JN.forget 0 ?_)
     exact ZR ⟨H_43, rfl, rfl, rfl, (hleH_43)⟩ ⟨rfl, rfl, trivial⟩ rfl rfl
    ·
     refine JO.step rfl trivial rfl (fun K hK => ZP 2 S30 rfl rfl rfl rfl rfl (Nat.le_of_ble_eq_true rfl) (ZD (hK _ _ _ (ZE (Hle.refl _) ⟨⟨1, rfl⟩, ⟨3, rfl⟩, trivial⟩) (JA.one (i := 10) (by kernel_rfl) (JO.step rfl ⟨_, _, rfl, rfl, rfl⟩ rfl (fun K hK => JL.pubN 0 RU8.mono rfl hr_42 (Nat.le_refl _) (fun H_44 hleH_44 hsH_44 => JL.forget 0 (ZA rfl rfl (R.toStr U45 U5 U9 rfl (hsH_44.old RU8.mono)) (ZD (hK _ _ _ (ZE hleH_44 ⟨⟨0, rfl⟩, ⟨2, rfl⟩, trivial⟩) (JA.val ⟨by kernel_rfl, by kernel_rfl⟩ (ZF _) (i := 13) rfl ⟨by kernel_rfl, by kernel_rfl, rfl⟩ ⟨_, _, rfl, rfl, rfl⟩ (ZE hleH_44 ⟨⟨0, rfl⟩, ⟨2, rfl⟩, trivial⟩) (R.eqlStr (a := x_39) (b := p_1) rfl rfl) rfl ?_)))))))))))
     refine JA.val ⟨by kernel_rfl, by kernel_rfl⟩ (ZF _) (i := 14) rfl ⟨by kernel_rfl, by kernel_rfl, rfl⟩ trivial (ZE hleH_44 ⟨⟨0, rfl⟩, ⟨2, rfl⟩, trivial⟩) (Zf rfl rfl) rfl (JA.val ⟨by kernel_rfl, by kernel_rfl⟩ (ZF _) (i := 16) rfl ⟨by kernel_rfl, by kernel_rfl, rfl⟩ trivial (ZE hleH_44 ⟨⟨0, rfl⟩, ⟨2, rfl⟩, trivial⟩) (ZG rfl) rfl (Zg (by kernel_rfl) ?_))
     obtain rfl := Option.some.inj hx
     refine JN.forget 2 (JN.forget 0 ?_)
     exact ZR ⟨H_44, rfl, rfl, rfl, (hleH_44)⟩ ⟨rfl, rfl, trivial⟩ rfl rfl
   ·
    replace hx := ZV c_38 hx
    refine Zp ⟨by kernel_rfl, by kernel_rfl⟩ (ZF _) (i := 8) rfl ⟨by kernel_rfl, by kernel_rfl, rfl⟩ rfl rfl rfl rfl (ZE (Hle.refl _) ⟨⟨0, rfl⟩, ⟨2, rfl⟩, trivial⟩) rfl (Zp ⟨by kernel_rfl, by kernel_rfl⟩ (ZF _) (i := 9) rfl ⟨by kernel_rfl, by kernel_rfl, rfl⟩ rfl rfl rfl rfl (ZE (Hle.refl _) ⟨⟨0, rfl⟩, ⟨2, rfl⟩, trivial⟩) rfl (Zp ⟨by kernel_rfl, by kernel_rfl⟩ (ZF _) (i := 10) rfl ⟨by kernel_rfl, by kernel_rfl, rfl⟩ rfl rfl rfl rfl (ZE (Hle.refl _) ⟨⟨0, rfl⟩, ⟨2, rfl⟩, trivial⟩) rfl (Zp ⟨by kernel_rfl, by kernel_rfl⟩ (ZF _) (i := 11) rfl ⟨by kernel_rfl, by kernel_rfl, rfl⟩ rfl rfl rfl rfl (ZE (Hle.refl _) ⟨⟨0, rfl⟩, ⟨2, rfl⟩, trivial⟩) rfl (Zp ⟨by kernel_rfl, by kernel_rfl⟩ (ZF _) (i := 12) rfl ⟨by kernel_rfl, by kernel_rfl, rfl⟩ rfl rfl rfl rfl (ZE (Hle.refl _) ⟨⟨0, rfl⟩, ⟨2, rfl⟩, trivial⟩) rfl (Zp ⟨by kernel_rfl, by kernel_rfl⟩ (ZF _) (i := 13) rfl ⟨by kernel_rfl, by kernel_rfl, rfl⟩ rfl rfl rfl rfl (ZE (Hle.refl _) ⟨⟨0, rfl⟩, ⟨2, rfl⟩, trivial⟩) rfl (JA.val ⟨by kernel_rfl, by kernel_rfl⟩ (ZF _) (i := 14) rfl ⟨by kernel_rfl, by kernel_rfl, rfl⟩ trivial (ZE (Hle.refl _) ⟨⟨0, rfl⟩, ⟨2, rfl⟩, trivial⟩) (Zb rfl rfl) rfl (JA.one (i := 15) (by kernel_rfl) (JO.step rfl trivial rfl (fun K hK => ZP 1 S30 rfl rfl rfl rfl rfl (Nat.le_of_ble_eq_true rfl) (ZD (hK _ _ _ (ZE (Hle.refl _) ⟨⟨0, rfl⟩, ⟨2, rfl⟩, trivial⟩) ?_)))))))))))
    refine JA.val ⟨by kernel_rfl, by kernel_rfl⟩ (ZF _) (i := 16) rfl ⟨by kernel_rfl, by kernel_rfl, rfl⟩ trivial (ZE (Hle.refl _) ⟨⟨0, rfl⟩, ⟨2, rfl⟩, trivial⟩) (ZG rfl) rfl (Zg (by kernel_rfl) ?_)
    obtain rfl := Option.some.inj hx
    refine JN.forget 2 (JN.forget 0 ?_)
    exact ZR ⟨H, rfl, rfl, rfl, (Hle.refl _)⟩ ⟨rfl, rfl, trivial⟩ rfl rfl
  ·
   replace hx := ZV c_34 hx
   refine Zp ⟨by kernel_rfl, by kernel_rfl⟩ (ZF _) (i := 4) rfl ⟨by kernel_rfl, by kernel_rfl, rfl⟩ rfl rfl rfl rfl (ZE (Hle.refl _) ⟨⟨0, rfl⟩, ⟨2, rfl⟩, trivial⟩) rfl (Zp ⟨by kernel_rfl, by kernel_rfl⟩ (ZF _) (i := 5) rfl ⟨by kernel_rfl, by kernel_rfl, rfl⟩ rfl rfl rfl rfl (ZE (Hle.refl _) ⟨⟨0, rfl⟩, ⟨2, rfl⟩, trivial⟩) rfl (JA.val ⟨by kernel_rfl, by kernel_rfl⟩ (ZF _) (i := 6) rfl ⟨by kernel_rfl, by kernel_rfl, rfl⟩ trivial (ZE (Hle.refl _) ⟨⟨0, rfl⟩, ⟨2, rfl⟩, trivial⟩) (Zb rfl rfl) rfl (JA.val ⟨by kernel_rfl, by kernel_rfl⟩ (ZF _) (i := 7) rfl ⟨by kernel_rfl, by kernel_rfl, rfl⟩ trivial (ZE (Hle.refl _) ⟨⟨0, rfl⟩, ⟨2, rfl⟩, trivial⟩) (ZI rfl) rfl (Zp ⟨by kernel_rfl, by kernel_rfl⟩ (ZF _) (i := 8) rfl ⟨by kernel_rfl, by kernel_rfl, rfl⟩ rfl rfl rfl rfl (ZE (Hle.refl _) ⟨⟨0, rfl⟩, ⟨2, rfl⟩, trivial⟩) rfl (Zp ⟨by kernel_rfl, by kernel_rfl⟩ (ZF _) (i := 9) rfl ⟨by kernel_rfl, by kernel_rfl, rfl⟩ rfl rfl rfl rfl (ZE (Hle.refl _) ⟨⟨0, rfl⟩, ⟨2, rfl⟩, trivial⟩) rfl (Zp ⟨by kernel_rfl, by kernel_rfl⟩ (ZF _) (i := 10) rfl ⟨by kernel_rfl, by kernel_rfl, rfl⟩ rfl rfl rfl rfl (ZE (Hle.refl _) ⟨⟨0, rfl⟩, ⟨2, rfl⟩, trivial⟩) rfl (Zp ⟨by kernel_rfl, by kernel_rfl⟩ (ZF _) (i := 11) rfl ⟨by kernel_rfl, by kernel_rfl, rfl⟩ rfl rfl rfl rfl (ZE (Hle.refl _) ⟨⟨0, rfl⟩, ⟨2, rfl⟩, trivial⟩) rfl (Zp ⟨by kernel_rfl, by kernel_rfl⟩ (ZF _) (i := 12) rfl ⟨by kernel_rfl, by kernel_rfl, rfl⟩ rfl rfl rfl rfl (ZE (Hle.refl _) ⟨⟨0, rfl⟩, ⟨2, rfl⟩, trivial⟩) rfl (Zp ⟨by kernel_rfl, by kernel_rfl⟩ (ZF _) (i := 13) rfl ⟨by kernel_rfl, by kernel_rfl, rfl⟩ rfl rfl rfl rfl (ZE (Hle.refl _) ⟨⟨0, rfl⟩, ⟨2, rfl⟩, trivial⟩) rfl (JA.val ⟨by kernel_rfl, by kernel_rfl⟩ (ZF _) (i := 14) rfl ⟨by kernel_rfl, by kernel_rfl, rfl⟩ trivial (ZE (Hle.refl _) ⟨⟨0, rfl⟩, ⟨2, rfl⟩, trivial⟩) (Zb rfl rfl) rfl (JA.one (i := 15) (by kernel_rfl) ?_)))))))))))
   refine JO.step rfl trivial rfl (fun K hK => ZP 1 S30 rfl rfl rfl rfl rfl (Nat.le_of_ble_eq_true rfl) (ZD (hK _ _ _ (ZE (Hle.refl _) ⟨⟨0, rfl⟩, ⟨2, rfl⟩, trivial⟩) (JA.val ⟨by kernel_rfl, by kernel_rfl⟩ (ZF _) (i := 16) rfl ⟨by kernel_rfl, by kernel_rfl, rfl⟩ trivial (ZE (Hle.refl _) ⟨⟨0, rfl⟩, ⟨2, rfl⟩, trivial⟩) (ZG rfl) rfl (Zg (by kernel_rfl) ?_)))))
   obtain rfl := Option.some.inj hx
   refine JN.forget 2 (JN.forget 0 ?_)
   exact ZR ⟨H, rfl, rfl, rfl, (Hle.refl _)⟩ ⟨rfl, rfl, trivial⟩ rfl rfl

set_option maxHeartbeats 8000000 in
theorem ref11_Stand_ok (p_1 : Disk) (H : Heaplet) {aa_2 : Option Addr} {na_2 : Nat} {ca_2 : Nat} {aa_3 : Option Addr} {na_3 : Nat} {ca_3 : Nat} (ha_2 : IsSlice H (RSl RU8 1) 1 (.slice aa_2 na_2 ca_2) p_1.Blocks) (ha_3 : IsSlice H R_Write 2 (.slice aa_3 na_3 ca_3) p_1.Waits) (r : List Label) (hx : ref11_Stand p_1 = some r) :
  Does Try.prog 48 #[.agg #[.slice aa_2 na_2 ca_2, .slice aa_3 na_3 ca_3]] [] H (fun u K' H' => ∃ ao0 : Option Addr, ∃ n0 : Nat, ∃ cap0 : Nat, ∃ K0 : Own, u = .slice ao0 n0 cap0 ∧ K' = [K0] ∧ H = H' ∧ RowOf (New H H) R_Label 0 30 7 (.slice ao0 n0 cap0) r K0 ∧ (∀ p ∈ K0, p.1 ∉ ids (List.flatten [])) ∧ True) := by
 refine Does.enterL (vs := [.agg #[.slice aa_2 na_2 ca_2, .slice aa_3 na_3 ca_3]]) (l := [(0, .agg #[.slice aa_2 na_2 ca_2, .slice aa_3 na_3 ca_3])]) Try.func48 rfl rfl ⟨rfl, trivial⟩ (fun w hlt => ?_)
 unfold ref11_Stand at hx
 refine ZH (ZB (Z7 rfl rfl (fun b_4 hb_4 => ZA rfl rfl (ZG rfl) (ZD (ZC (ZH (ZB (ZA rfl rfl (ZG rfl) (ZD (ZC (ZH ?_)))))))))))
 refine ZH (ZB (ZA rfl rfl (ZG rfl) (ZD (ZC ?_))))
 obtain ⟨t_5, ht_7, hx⟩ := ZJ hx
 refine Zy (fun l o g => ∃ ar_12 : Option Addr, ∃ nr_12 : Nat, ∃ cr_12 : Nat, ∃ Kr_12 : Own, l = [(3, .slice ar_12 nr_12 cr_12)] ∧ o = [Kr_12] ∧ H = g ∧ RowOf (New H H) R_Label w.heap.size 30 7 (.slice ar_12 nr_12 cr_12) t_5 Kr_12) ?_ ?_
 ·
  rintro _ _ _ ⟨ar_12, nr_12, cr_12, Kr_12, rfl, rfl, rfl, hr_12⟩
  refine ZC (ZH (ZB (ZA rfl rfl (ZI rfl) (ZA rfl rfl (ZG rfl) (ZD (ZC (ZW (ZS (vs := [.slice ar_12 nr_12 cr_12]) (K := [_]) (rst := []) (.inl rfl) rfl rfl (ZQ rfl rfl) (Ze 0 rfl ZK) ?_))))))))
  obtain rfl := Option.some.inj hx
  exact ⟨ar_12, nr_12, cr_12, Kr_12, rfl, rfl, rfl, (Zs (Nat.zero_le _) hr_12), (new_ids hr_12 hlt), trivial⟩
 ·
  have hxo_6 := hx; clear hx; have hx := ht_7; clear ht_7
  refine JC.block (JC.seg0 (Zv 1 rfl (Z9 (fun n l o g => ∃ s_8 : List Label × Nat, ∃ ar_11 : Option Addr, ∃ nr_11 : Nat, ∃ cr_11 : Nat, ∃ Kr_11 : Own, l = [(1, .pointer (some ⟨b_4, 0, none⟩)), (3, .slice ar_11 nr_11 cr_11), (4, .int .i64 ((s_8.2 : Nat) : Int))] ∧ o = [[(b_4, .cells #[.slice aa_2 na_2 ca_2, .slice aa_3 na_3 ca_3] 25 (0, 0))], Kr_11] ∧ H = g ∧ run (ref11_Stand_l2 p_1) n s_8 = some t_5 ∧ RowOf (New H H) R_Label w.heap.size 30 7 (.slice ar_11 nr_11 cr_11) s_8.1 Kr_11) FUEL ?_ ⟨(([] : List Label), 0), none, 0, 0, [], rfl, rfl, rfl, hx, (Zn _ _ _ _ _)⟩ ⟨rfl, rfl, rfl, trivial⟩ ?_)))
  ·
   rintro _ _ _ ⟨s_8, ar_11, nr_11, cr_11, Kr_11, rfl, rfl, rfl, hn_9, hr_11⟩
   exact Z5 hn_9
  ·
   rintro n_10 _ _ _ ⟨s_8, ar_11, nr_11, cr_11, Kr_11, rfl, rfl, rfl, hn_9, hr_11⟩
   clear hx; obtain ⟨oo_13, hx, hd_12⟩ := Z6 hn_9
   unfold ref11_Stand_l2 at hx
   refine ZH (ZH (ZB (ZA rfl rfl (ZI rfl) (ZA rfl rfl (Z1 rfl rfl) (ZD (ZC (ZY rfl (fun c_12 => ?_) (fun c_12 => ?_))))))))
   ·
    replace hx := ZU c_12 hx
    refine Za (ZC (ZH (JC.block (ZH (ZB (ZA rfl rfl (Zh 0 (vs := [.slice aa_2 na_2 ca_2, .slice aa_3 na_3 ca_3]) S25 rfl rfl rfl rfl) (ZA rfl rfl (ZI rfl) ?_)))))))
    obtain ⟨x_13, hr_14, hx⟩ := ZJ hx
    refine ZO (vs := [_, _]) (args := [_, _]) (K := []) (rst := [_, _]) E90 rfl rfl rfl ZK (ref09_Seen_ok p_1 ((s_8.2 : Nat) : Int) _ ha_2 ha_3 _ hr_14) rfl (fun u_15 Ku_15 Hu_15 hRu_15 hleu_15 hfu_15 => ?_)
    obtain ⟨ar_16, nr_16, cr_16, Kr_16, rfl, rfl, rfl, hr_16, hnewr_16, -⟩ := hRu_15
    replace hr_16 := (RowOf.base (Zj (H2 := New H H) RU8.const hr_16) (fun p hp => (hfu_15 p (Zk 0 rfl hp)).resolve_left (hnewr_16 p hp)))
    obtain ⟨x_20, hr_21, hx⟩ := ZJ hx
    refine JL.callL2 (vs := [_]) (v := .tuple #[.agg #[.int .u32 (x_20.1.Gen.toNat : Int), .int .u32 (x_20.1.Epoch.toNat : Int), .int .i64 x_20.1.Root.At, .int .u32 (x_20.1.Root.Birth.toNat : Int), .int .u32 (x_20.1.Root.Iv.toNat : Int), .int .u32 (x_20.1.Root.Tag.toNat : Int), .int .u32 (x_20.1.Root.Sum.toNat : Int)], .bool x_20.2]) E89 rfl rfl (fun H_19 hle_18 hl_17 => Does.mono (ref11_of_ok x_13 _ (Lent.row' 0 hl_17 RU8.mono hle_18 rfl (hr_16.old RU8.mono)) _ hr_21) (fun _ _ _ h => h.1)) rfl (ZA rfl rfl (ZI rfl) (ZA rfl rfl (R.extract rfl rfl) (ZA rfl rfl (R.extract rfl rfl) (JL.alloc Z30 rfl (fun b_22 hb_22 => ZP 0 S30 rfl rfl rfl rfl rfl (Nat.le_of_ble_eq_true rfl) (ZA rfl rfl (ZG rfl) (ZD (ZC (ZH (ZH (ZB ?_)))))))))))
    refine ZA rfl rfl (ZI rfl) (ZA rfl rfl (R.not rfl) (ZA rfl rfl (ZI rfl) (Zi (t := 23) rfl (fun c_23 => ?_) (fun c_23 => ?_))))
    ·
     replace hx := ZU c_23 hx
     refine ZM rfl rfl rfl rfl rfl (ZM rfl rfl rfl rfl rfl (ZM rfl rfl rfl rfl rfl (ZM rfl rfl rfl rfl rfl (ZM rfl rfl rfl rfl rfl (ZA rfl rfl (Zf rfl rfl) (ZD (ZC (JC.condT rfl (Z0 (ZX (Zd ?_)))))))))))
     refine ZC (ZB (ZA rfl rfl (ZI rfl) (ZA rfl rfl (R.inc rfl rfl (of_decide_eq_true c_12) (by decide)) (ZA rfl rfl (ZG rfl) (ZD ?_)))))
     replace hx := Zm hd_12 hx
     refine JN.forget 1 (JN.forget 0 (ZL 1 rfl (ZL 1 rfl ?_)))
     exact ZR ⟨(s_8.1, s_8.2 + 1), ar_11, nr_11, cr_11, Kr_11, rfl, rfl, rfl, hx, hr_11⟩ ⟨rfl, rfl, rfl, trivial⟩ rfl rfl
    ·
     replace hx := ZV c_23 hx
     refine ZN rfl rfl rfl (ZA rfl rfl (Zo F30_0 rfl) (ZN rfl rfl rfl (ZA rfl rfl (ZZ 0 S26 rfl rfl rfl) (ZN rfl rfl rfl ?_))))
     obtain ⟨x_24, hr_25, hx⟩ := ZJ hx
     refine ZO (vs := [_]) (args := [_]) (K := []) (rst := [_, _, _, _]) E18 rfl rfl rfl ZK (ref11_Slot_ok x_20.1.Gen _ _ hr_25) rfl (fun u_26 Ku_26 Hu_26 hRu_26 hleu_26 hfu_26 => ?_)
     obtain ⟨rfl, rfl, rfl, -⟩ := hRu_26
     refine ZN rfl rfl rfl (ZA rfl rfl (ZI rfl) (ZN rfl rfl rfl (ZA rfl rfl (R.neq_i rfl rfl) (ZA rfl rfl (Zb rfl rfl) (ZD (ZC (ZY rfl (fun c_27 => ?_) (fun c_27 => ?_))))))))
     ·
      replace hx := ZU c_27 hx
      refine Z0 (ZX (Zd (ZC (ZB (ZA rfl rfl (ZI rfl) (ZA rfl rfl (R.inc rfl rfl (of_decide_eq_true c_12) (by decide)) (ZA rfl rfl (ZG rfl) (ZD ?_))))))))
      replace hx := Zm hd_12 hx
      refine JN.forget 1 (JN.forget 0 (ZL 1 rfl (ZL 1 rfl ?_)))
      exact ZR ⟨(s_8.1, s_8.2 + 1), ar_11, nr_11, cr_11, Kr_11, rfl, rfl, rfl, hx, hr_11⟩ ⟨rfl, rfl, rfl, trivial⟩ rfl rfl
     ·
      replace hx := ZV c_27 hx
      refine Za (ZC (ZH (ZB (ZA rfl rfl (ZG rfl) (ZD (ZC (ZH (ZB (ZA rfl rfl (ZG rfl) (ZD (ZC ?_)))))))))))
      refine ZH (ZH (ZB (ZA rfl rfl (ZG rfl) (ZD (ZC ?_)))))
      obtain ⟨t_28, ht_30, hx⟩ := ZJ hx
      refine Zy (fun l o g => ∃ ar_35 : Option Addr, ∃ nr_35 : Nat, ∃ cr_35 : Nat, ∃ Kr_35 : Own, l = [(1, .pointer (some ⟨b_4, 0, none⟩)), (4, .int .i64 ((s_8.2 : Nat) : Int)), (5, .pointer (some ⟨b_22, 0, none⟩)), (7, .slice ar_35 nr_35 cr_35), (8, .bool t_28.2)] ∧ o = [[(b_4, .cells #[.slice aa_2 na_2 ca_2, .slice aa_3 na_3 ca_3] 25 (0, 0))], [(b_22, .cells #[.int .u32 (x_20.1.Gen.toNat : Int), .int .u32 (x_20.1.Epoch.toNat : Int), .int .i64 x_20.1.Root.At, .int .u32 (x_20.1.Root.Birth.toNat : Int), .int .u32 (x_20.1.Root.Iv.toNat : Int), .int .u32 (x_20.1.Root.Tag.toNat : Int), .int .u32 (x_20.1.Root.Sum.toNat : Int)] 30 (0, 0))], Kr_35] ∧ H = g ∧ RowOf (New H H) R_Label w.heap.size 30 7 (.slice ar_35 nr_35 cr_35) t_28.1 Kr_35) ?_ ?_
      ·
       rintro _ _ _ ⟨ar_35, nr_35, cr_35, Kr_35, rfl, rfl, rfl, hr_35⟩
       refine ZC (ZH (ZH (ZB (ZA rfl rfl (ZI rfl) (ZA rfl rfl (R.not rfl) (ZD (ZC (ZY rfl (fun c_36 => ?_) (fun c_36 => ?_)))))))))
       ·
        replace hx := ZU c_36 hx
        refine ZB (ZA rfl rfl (ZI rfl) (ZA rfl rfl (Zh 1 (vs := [.int .u32 (x_20.1.Gen.toNat : Int), .int .u32 (x_20.1.Epoch.toNat : Int), .int .i64 x_20.1.Root.At, .int .u32 (x_20.1.Root.Birth.toNat : Int), .int .u32 (x_20.1.Root.Iv.toNat : Int), .int .u32 (x_20.1.Root.Tag.toNat : Int), .int .u32 (x_20.1.Root.Sum.toNat : Int)]) S30 rfl rfl rfl rfl) (JL.bslF (HF := (New H H)) (R := R_Label) (ls := [x_20.1]) (vs := [.agg #[.int .u32 (x_20.1.Gen.toNat : Int), .int .u32 (x_20.1.Epoch.toNat : Int), .int .i64 x_20.1.Root.At, .int .u32 (x_20.1.Root.Birth.toNat : Int), .int .u32 (x_20.1.Root.Iv.toNat : Int), .int .u32 (x_20.1.Root.Tag.toNat : Int), .int .u32 (x_20.1.Root.Sum.toNat : Int)]]) U38 I30 rfl rfl (⟨_, _, rfl, rfl, rfl, rfl⟩) R_Label.one rfl rfl rfl (by simp [maxLen]) rfl (fun vr_37 Kr_37 hr_37 => ?_))))
        obtain ⟨ar_37, cr_37, rfl⟩ := RowOf.val hr_37
        obtain ⟨q_38, hm_39, hl_40, hx⟩ := Zz hx
        refine Z2 (HF := (New H H)) 3 U38 I30 rfl rfl hr_35 rfl (SrcF.row 0 U38 rfl hr_37) hm_39 hl_40 rfl (Nat.le_refl _) rfl (fun vr_41 Kr_41 hr_41 => ?_)
        obtain ⟨ar_41, cr_41, rfl⟩ := RowOf.val hr_41
        refine ZA rfl rfl (ZG rfl) (ZD (ZC (ZB (ZA rfl rfl (ZI rfl) (ZA rfl rfl (ZG rfl) (ZD (Zl (ZC (ZB (ZA rfl rfl (ZI rfl) (ZA rfl rfl (R.inc rfl rfl (of_decide_eq_true c_12) (by decide)) ?_)))))))))))
        refine ZA rfl rfl (ZG rfl) (ZD ?_)
        replace hx := Zm hd_12 hx
        refine JN.forget 2 (JN.forget 0 (ZL 1 rfl (ZL 1 rfl ?_)))
        exact ZR ⟨(q_38, s_8.2 + 1), ar_41, q_38.length, cr_41, Kr_41, rfl, rfl, rfl, hx, hr_41⟩ ⟨rfl, rfl, rfl, trivial⟩ rfl rfl
       ·
        replace hx := ZV c_36 hx
        refine Za (ZC (ZB (ZA rfl rfl (ZI rfl) (ZA rfl rfl (ZG rfl) (ZD (Zl (ZC (ZB (ZA rfl rfl (ZI rfl) (ZA rfl rfl (R.inc rfl rfl (of_decide_eq_true c_12) (by decide)) (ZA rfl rfl (ZG rfl) ?_)))))))))))
        refine ZD ?_
        replace hx := Zm hd_12 hx
        refine JN.forget 1 (ZL 1 rfl (ZL 1 rfl ?_))
        exact ZR ⟨(t_28.1, s_8.2 + 1), ar_35, nr_35, cr_35, Kr_35, rfl, rfl, rfl, hx, hr_35⟩ ⟨rfl, rfl, rfl, trivial⟩ rfl rfl
      ·
       have hxo_29 := hx; clear hx; have hx := ht_30; clear ht_30
       refine JC.block (JC.seg0 (JC.forget 2 (Zv 1 rfl (Zv 3 rfl (Zv 3 rfl (Z9 (fun n l o g => ∃ s_31 : List Label × Bool × Nat, ∃ ar_34 : Option Addr, ∃ nr_34 : Nat, ∃ cr_34 : Nat, ∃ Kr_34 : Own, l = [(1, .pointer (some ⟨b_4, 0, none⟩)), (3, .slice ar_11 nr_11 cr_11), (4, .int .i64 ((s_8.2 : Nat) : Int)), (5, .pointer (some ⟨b_22, 0, none⟩)), (7, .slice ar_34 nr_34 cr_34), (8, .bool s_31.2.1), (9, .int .i64 ((s_31.2.2 : Nat) : Int))] ∧ o = [[(b_4, .cells #[.slice aa_2 na_2 ca_2, .slice aa_3 na_3 ca_3] 25 (0, 0))], Kr_11, [(b_22, .cells #[.int .u32 (x_20.1.Gen.toNat : Int), .int .u32 (x_20.1.Epoch.toNat : Int), .int .i64 x_20.1.Root.At, .int .u32 (x_20.1.Root.Birth.toNat : Int), .int .u32 (x_20.1.Root.Iv.toNat : Int), .int .u32 (x_20.1.Root.Tag.toNat : Int), .int .u32 (x_20.1.Root.Sum.toNat : Int)] 30 (0, 0))], Kr_34] ∧ H = g ∧ run (ref11_Stand_l1 s_8 x_20) n s_31 = some t_28 ∧ RowOf (New H H) R_Label w.heap.size 30 7 (.slice ar_34 nr_34 cr_34) s_31.1 Kr_34) FUEL ?_ ⟨(([] : List Label), false, 0), none, 0, 0, [], rfl, rfl, rfl, hx, (Zn _ _ _ _ _)⟩ ⟨rfl, rfl, rfl, rfl, rfl, rfl, rfl, trivial⟩ ?_))))))
       ·
        rintro _ _ _ ⟨s_31, ar_34, nr_34, cr_34, Kr_34, rfl, rfl, rfl, hn_32, hr_34⟩
        exact Z5 hn_32
       ·
        rintro n_33 _ _ _ ⟨s_31, ar_34, nr_34, cr_34, Kr_34, rfl, rfl, rfl, hn_32, hr_34⟩
        clear hx; obtain ⟨oo_36, hx, hd_35⟩ := Z6 hn_32
        unfold ref11_Stand_l1 at hx
        refine ZH (ZH (ZB (ZA rfl rfl (ZI rfl) (ZA rfl rfl (ZI rfl) (ZA rfl rfl (Zr U38 rfl (RowOf.long hr_11)) (ZA rfl rfl (Z1 rfl rfl) (ZD (ZC (ZY rfl (fun c_35 => ?_) (fun c_35 => ?_))))))))))
        ·
         replace hx := ZU c_35 hx
         refine Za (ZC (ZH (JC.block (ZH ?_))))
         obtain ⟨t_36, ht_38, hx⟩ := ZJ hx
         refine Zy (fun l o g => ∃ ar_57 : Option Addr, ∃ nr_57 : Nat, ∃ cr_57 : Nat, ∃ Kr_57 : Own, l = [(1, .pointer (some ⟨b_4, 0, none⟩)), (3, .slice ar_11 nr_11 cr_11), (4, .int .i64 ((s_8.2 : Nat) : Int)), (5, .pointer (some ⟨b_22, 0, none⟩)), (7, .slice ar_57 nr_57 cr_57), (8, .bool t_36.2), (9, .int .i64 ((s_31.2.2 : Nat) : Int))] ∧ o = [[(b_4, .cells #[.slice aa_2 na_2 ca_2, .slice aa_3 na_3 ca_3] 25 (0, 0))], Kr_11, [(b_22, .cells #[.int .u32 (x_20.1.Gen.toNat : Int), .int .u32 (x_20.1.Epoch.toNat : Int), .int .i64 x_20.1.Root.At, .int .u32 (x_20.1.Root.Birth.toNat : Int), .int .u32 (x_20.1.Root.Iv.toNat : Int), .int .u32 (x_20.1.Root.Tag.toNat : Int), .int .u32 (x_20.1.Root.Sum.toNat : Int)] 30 (0, 0))], Kr_57] ∧ H = g ∧ RowOf (New H H) R_Label w.heap.size 30 7 (.slice ar_57 nr_57 cr_57) t_36.1 Kr_57) ?_ ?_
         ·
          rintro _ _ _ ⟨ar_57, nr_57, cr_57, Kr_57, rfl, rfl, rfl, hr_57⟩
          refine ZC (ZB (ZA rfl rfl (ZI rfl) (ZA rfl rfl (ZI rfl) (ZA rfl rfl (ZI rfl) ?_))))
          obtain ⟨y_58, hN_59, hx⟩ := Zt hx
          obtain ⟨b_60, o_61, cs_62, cur_67, hK_68, hE_63, hR_64, hl_65, hc_66⟩ := RowOf.elem hr_11 hN_59
          subst hK_68
          obtain rfl := hR_64
          refine ZA rfl rfl (R.ix U38 S30 rfl rfl hE_63) (ZA rfl rfl (R.ldoE 1 (cs := [.int .u32 (y_58.Gen.toNat : Int), .int .u32 (y_58.Epoch.toNat : Int), .int .i64 y_58.Root.At, .int .u32 (y_58.Root.Birth.toNat : Int), .int .u32 (y_58.Root.Iv.toNat : Int), .int .u32 (y_58.Root.Tag.toNat : Int), .int .u32 (y_58.Root.Sum.toNat : Int)]) (k := 0) (vs := [.int .u32 (y_58.Gen.toNat : Int), .int .u32 (y_58.Epoch.toNat : Int), .int .i64 y_58.Root.At, .int .u32 (y_58.Root.Birth.toNat : Int), .int .u32 (y_58.Root.Iv.toNat : Int), .int .u32 (y_58.Root.Tag.toNat : Int), .int .u32 (y_58.Root.Sum.toNat : Int)]) S30 rfl rfl hc_66 rfl rfl) (JL.bslF (HF := (New H H)) (R := R_Label) (ls := [y_58]) (vs := [.agg #[.int .u32 (y_58.Gen.toNat : Int), .int .u32 (y_58.Epoch.toNat : Int), .int .i64 y_58.Root.At, .int .u32 (y_58.Root.Birth.toNat : Int), .int .u32 (y_58.Root.Iv.toNat : Int), .int .u32 (y_58.Root.Tag.toNat : Int), .int .u32 (y_58.Root.Sum.toNat : Int)]]) U38 I30 rfl rfl (⟨_, _, rfl, rfl, rfl, rfl⟩) R_Label.one rfl rfl rfl (by simp [maxLen]) rfl (fun vr_69 Kr_69 hr_69 => ?_)))
          obtain ⟨ar_69, cr_69, rfl⟩ := RowOf.val hr_69
          obtain ⟨q_70, hm_71, hl_72, hx⟩ := Zz hx
          refine Z2 (HF := (New H H)) 4 U38 I30 rfl rfl hr_57 rfl (SrcF.row 0 U38 rfl hr_69) hm_71 hl_72 rfl (Nat.le_refl _) rfl (fun vr_73 Kr_73 hr_73 => ?_)
          obtain ⟨ar_73, cr_73, rfl⟩ := RowOf.val hr_73
          refine ZA rfl rfl (ZG rfl) (ZD (Zl (ZC (ZB (ZA rfl rfl (ZI rfl) (ZA rfl rfl (R.inc rfl rfl (of_decide_eq_true c_35) (RowOf.lenI hr_11)) (ZA rfl rfl (ZG rfl) (ZD ?_))))))))
          replace hx := Zm hd_35 hx
          refine JN.forget 0 (ZL 3 rfl (ZL 3 rfl (ZL 3 rfl (ZL 3 rfl ?_))))
          exact ZR ⟨(q_70, t_36.2, s_31.2.2 + 1), ar_73, q_70.length, cr_73, Kr_73, rfl, rfl, rfl, hx, hr_73⟩ ⟨rfl, rfl, rfl, rfl, rfl, rfl, rfl, trivial⟩ rfl rfl
         ·
          have hxo_37 := hx; clear hx; have hx := ht_38; clear ht_38
          refine ZH (JC.draw (so := [_, _, _, _]) 12 rfl Mixed ⟨⟨0, rfl⟩, ⟨1, rfl⟩, ⟨2, rfl⟩, ⟨3, rfl⟩, trivial⟩ (JA.val ⟨by kernel_rfl, by kernel_rfl⟩ (ZF _) (i := 0) rfl ⟨by kernel_rfl, by kernel_rfl, rfl⟩ trivial (ZE (Hle.refl _) ⟨⟨0, rfl⟩, ⟨1, rfl⟩, ⟨2, rfl⟩, ⟨3, rfl⟩, trivial⟩) (ZI rfl) rfl (JA.val ⟨by kernel_rfl, by kernel_rfl⟩ (ZF _) (i := 1) rfl ⟨by kernel_rfl, by kernel_rfl, rfl⟩ trivial (ZE (Hle.refl _) ⟨⟨0, rfl⟩, ⟨1, rfl⟩, ⟨2, rfl⟩, ⟨3, rfl⟩, trivial⟩) (R.not rfl) rfl (JA.val ⟨by kernel_rfl, by kernel_rfl⟩ (ZF _) (i := 2) rfl ⟨by kernel_rfl, by kernel_rfl, rfl⟩ trivial (ZE (Hle.refl _) ⟨⟨0, rfl⟩, ⟨1, rfl⟩, ⟨2, rfl⟩, ⟨3, rfl⟩, trivial⟩) (ZI rfl) rfl (JA.gSplit (t := 38) rfl (fun c_39 => ?_) (fun c_39 => ?_))))))
          ·
           replace hx := ZU c_39 hx
           refine JA.val ⟨by kernel_rfl, by kernel_rfl⟩ (ZF _) (i := 3) rfl ⟨by kernel_rfl, by kernel_rfl, rfl⟩ ⟨_, _, rfl, rfl, rfl⟩ (ZE (Hle.refl _) ⟨⟨0, rfl⟩, ⟨1, rfl⟩, ⟨2, rfl⟩, ⟨3, rfl⟩, trivial⟩) (ZI rfl) rfl (JA.val ⟨by kernel_rfl, by kernel_rfl⟩ (ZF _) (i := 4) rfl ⟨by kernel_rfl, by kernel_rfl, rfl⟩ ⟨_, _, rfl, rfl, rfl⟩ (ZE (Hle.refl _) ⟨⟨0, rfl⟩, ⟨1, rfl⟩, ⟨2, rfl⟩, ⟨3, rfl⟩, trivial⟩) (ZI rfl) rfl ?_)
           obtain ⟨y_40, hN_41, hx⟩ := Zt hx
           obtain ⟨b_42, o_43, cs_44, cur_49, hK_50, hE_45, hR_46, hl_47, hc_48⟩ := RowOf.elem hr_11 hN_41
           subst hK_50
           obtain rfl := hR_46
           refine JA.val ⟨by kernel_rfl, by kernel_rfl⟩ (ZF _) (i := 5) rfl ⟨by kernel_rfl, by kernel_rfl, rfl⟩ ⟨_, _, rfl, rfl, rfl⟩ (ZE (Hle.refl _) ⟨⟨0, rfl⟩, ⟨1, rfl⟩, ⟨2, rfl⟩, ⟨3, rfl⟩, trivial⟩) (R.ix U38 S30 rfl rfl hE_45) rfl (JA.val ⟨by kernel_rfl, by kernel_rfl⟩ (ZF _) (i := 6) rfl ⟨by kernel_rfl, by kernel_rfl, rfl⟩ ⟨_, _, rfl, rfl, rfl⟩ (ZE (Hle.refl _) ⟨⟨0, rfl⟩, ⟨1, rfl⟩, ⟨2, rfl⟩, ⟨3, rfl⟩, trivial⟩) (Zo F30_0 rfl) rfl (JA.val ⟨by kernel_rfl, by kernel_rfl⟩ (ZF _) (i := 7) rfl ⟨by kernel_rfl, by kernel_rfl, rfl⟩ ⟨_, _, rfl, rfl, rfl⟩ (ZE (Hle.refl _) ⟨⟨0, rfl⟩, ⟨1, rfl⟩, ⟨2, rfl⟩, ⟨3, rfl⟩, trivial⟩) (ZZ 1 S26 rfl rfl (hc_48 0 _ rfl)) rfl (JA.val ⟨by kernel_rfl, by kernel_rfl⟩ (ZF _) (i := 8) rfl ⟨by kernel_rfl, by kernel_rfl, rfl⟩ ⟨_, _, rfl, rfl, rfl⟩ (ZE (Hle.refl _) ⟨⟨0, rfl⟩, ⟨1, rfl⟩, ⟨2, rfl⟩, ⟨3, rfl⟩, trivial⟩) (Zo F30_0 rfl) rfl (JA.val ⟨by kernel_rfl, by kernel_rfl⟩ (ZF _) (i := 9) rfl ⟨by kernel_rfl, by kernel_rfl, rfl⟩ ⟨_, _, rfl, rfl, rfl⟩ (ZE (Hle.refl _) ⟨⟨0, rfl⟩, ⟨1, rfl⟩, ⟨2, rfl⟩, ⟨3, rfl⟩, trivial⟩) (ZZ 2 S26 rfl rfl rfl) rfl (JA.val ⟨by kernel_rfl, by kernel_rfl⟩ (ZF _) (i := 10) rfl ⟨by kernel_rfl, by kernel_rfl, rfl⟩ ⟨_, _, rfl, rfl, rfl⟩ (ZE (Hle.refl _) ⟨⟨0, rfl⟩, ⟨1, rfl⟩, ⟨2, rfl⟩, ⟨3, rfl⟩, trivial⟩) (R.lss32 (a := y_40.Gen) (b := x_20.1.Gen) rfl rfl) rfl (JA.val ⟨by kernel_rfl, by kernel_rfl⟩ (ZF _) (i := 11) rfl ⟨by kernel_rfl, by kernel_rfl, rfl⟩ trivial (ZE (Hle.refl _) ⟨⟨0, rfl⟩, ⟨1, rfl⟩, ⟨2, rfl⟩, ⟨3, rfl⟩, trivial⟩) (Zf rfl rfl) rfl (Zg (by kernel_rfl) (ZC (ZY rfl (fun c_51 => ?_) (fun c_51 => ?_))))))))))
           ·
            replace hx := ZU c_51 hx
            refine ZH (ZB (ZA rfl rfl (ZI rfl) (ZA rfl rfl (Zh 2 (vs := [.int .u32 (x_20.1.Gen.toNat : Int), .int .u32 (x_20.1.Epoch.toNat : Int), .int .i64 x_20.1.Root.At, .int .u32 (x_20.1.Root.Birth.toNat : Int), .int .u32 (x_20.1.Root.Iv.toNat : Int), .int .u32 (x_20.1.Root.Tag.toNat : Int), .int .u32 (x_20.1.Root.Sum.toNat : Int)]) S30 rfl rfl rfl rfl) (JL.bslF (HF := (New H H)) (R := R_Label) (ls := [x_20.1]) (vs := [.agg #[.int .u32 (x_20.1.Gen.toNat : Int), .int .u32 (x_20.1.Epoch.toNat : Int), .int .i64 x_20.1.Root.At, .int .u32 (x_20.1.Root.Birth.toNat : Int), .int .u32 (x_20.1.Root.Iv.toNat : Int), .int .u32 (x_20.1.Root.Tag.toNat : Int), .int .u32 (x_20.1.Root.Sum.toNat : Int)]]) U38 I30 rfl rfl (⟨_, _, rfl, rfl, rfl, rfl⟩) R_Label.one rfl rfl rfl (by simp [maxLen]) rfl (fun vr_52 Kr_52 hr_52 => ?_)))))
            obtain ⟨ar_52, cr_52, rfl⟩ := RowOf.val hr_52
            obtain ⟨q_53, hm_54, hl_55, hx⟩ := Zz hx
            refine Z2 (HF := (New H H)) 4 U38 I30 rfl rfl hr_34 rfl (SrcF.row 0 U38 rfl hr_52) hm_54 hl_55 rfl (Nat.le_refl _) rfl (fun vr_56 Kr_56 hr_56 => ?_)
            obtain ⟨ar_56, cr_56, rfl⟩ := RowOf.val hr_56
            refine ZA rfl rfl (ZG rfl) (ZD (ZC (ZB (ZA rfl rfl (ZG rfl) (ZD ?_)))))
            obtain rfl := Option.some.inj hx
            refine JN.forget 0 (ZL 3 rfl (ZL 3 rfl (ZL 3 rfl (ZL 3 rfl ?_))))
            exact ZR ⟨ar_56, q_53.length, cr_56, Kr_56, rfl, rfl, rfl, hr_56⟩ ⟨rfl, rfl, rfl, rfl, rfl, rfl, rfl, trivial⟩ rfl rfl
           ·
            replace hx := ZV c_51 hx
            refine Za ?_
            obtain rfl := Option.some.inj hx
            refine ZL 3 rfl (ZL 3 rfl (ZL 3 rfl (ZL 3 rfl ?_)))
            exact ZR ⟨ar_34, nr_34, cr_34, Kr_34, rfl, rfl, rfl, hr_34⟩ ⟨rfl, rfl, rfl, rfl, rfl, rfl, rfl, trivial⟩ rfl rfl
          ·
           replace hx := ZV c_39 hx
           refine Zp ⟨by kernel_rfl, by kernel_rfl⟩ (ZF _) (i := 3) rfl ⟨by kernel_rfl, by kernel_rfl, rfl⟩ rfl rfl rfl rfl (ZE (Hle.refl _) ⟨⟨0, rfl⟩, ⟨1, rfl⟩, ⟨2, rfl⟩, ⟨3, rfl⟩, trivial⟩) rfl (Zp ⟨by kernel_rfl, by kernel_rfl⟩ (ZF _) (i := 4) rfl ⟨by kernel_rfl, by kernel_rfl, rfl⟩ rfl rfl rfl rfl (ZE (Hle.refl _) ⟨⟨0, rfl⟩, ⟨1, rfl⟩, ⟨2, rfl⟩, ⟨3, rfl⟩, trivial⟩) rfl (Zp ⟨by kernel_rfl, by kernel_rfl⟩ (ZF _) (i := 5) rfl ⟨by kernel_rfl, by kernel_rfl, rfl⟩ rfl rfl rfl rfl (ZE (Hle.refl _) ⟨⟨0, rfl⟩, ⟨1, rfl⟩, ⟨2, rfl⟩, ⟨3, rfl⟩, trivial⟩) rfl (Zp ⟨by kernel_rfl, by kernel_rfl⟩ (ZF _) (i := 6) rfl ⟨by kernel_rfl, by kernel_rfl, rfl⟩ rfl rfl rfl rfl (ZE (Hle.refl _) ⟨⟨0, rfl⟩, ⟨1, rfl⟩, ⟨2, rfl⟩, ⟨3, rfl⟩, trivial⟩) rfl (Zp ⟨by kernel_rfl, by kernel_rfl⟩ (ZF _) (i := 7) rfl ⟨by kernel_rfl, by kernel_rfl, rfl⟩ rfl rfl rfl rfl (ZE (Hle.refl _) ⟨⟨0, rfl⟩, ⟨1, rfl⟩, ⟨2, rfl⟩, ⟨3, rfl⟩, trivial⟩) rfl (Zp ⟨by kernel_rfl, by kernel_rfl⟩ (ZF _) (i := 8) rfl ⟨by kernel_rfl, by kernel_rfl, rfl⟩ rfl rfl rfl rfl (ZE (Hle.refl _) ⟨⟨0, rfl⟩, ⟨1, rfl⟩, ⟨2, rfl⟩, ⟨3, rfl⟩, trivial⟩) rfl (Zp ⟨by kernel_rfl, by kernel_rfl⟩ (ZF _) (i := 9) rfl ⟨by kernel_rfl, by kernel_rfl, rfl⟩ rfl rfl rfl rfl (ZE (Hle.refl _) ⟨⟨0, rfl⟩, ⟨1, rfl⟩, ⟨2, rfl⟩, ⟨3, rfl⟩, trivial⟩) rfl (Zp ⟨by kernel_rfl, by kernel_rfl⟩ (ZF _) (i := 10) rfl ⟨by kernel_rfl, by kernel_rfl, rfl⟩ rfl rfl rfl rfl (ZE (Hle.refl _) ⟨⟨0, rfl⟩, ⟨1, rfl⟩, ⟨2, rfl⟩, ⟨3, rfl⟩, trivial⟩) rfl (JA.val ⟨by kernel_rfl, by kernel_rfl⟩ (ZF _) (i := 11) rfl ⟨by kernel_rfl, by kernel_rfl, rfl⟩ trivial (ZE (Hle.refl _) ⟨⟨0, rfl⟩, ⟨1, rfl⟩, ⟨2, rfl⟩, ⟨3, rfl⟩, trivial⟩) (Zb rfl rfl) rfl (Zg (by kernel_rfl) (ZC (JC.condF rfl ?_)))))))))))
           refine Za ?_
           obtain rfl := Option.some.inj hx
           refine ZL 3 rfl (ZL 3 rfl (ZL 3 rfl (ZL 3 rfl ?_)))
           exact ZR ⟨ar_34, nr_34, cr_34, Kr_34, rfl, rfl, rfl, hr_34⟩ ⟨rfl, rfl, rfl, rfl, rfl, rfl, rfl, trivial⟩ rfl rfl
        ·
         replace hx := ZV c_35 hx
         refine Z0 (ZX ?_)
         obtain rfl := Zw hd_35 hx
         refine ZX (Zd (JN.forget 1 (ZL 2 rfl (ZL 2 rfl (ZL 2 rfl ?_)))))
         exact ZR ⟨ar_34, nr_34, cr_34, Kr_34, rfl, rfl, rfl, hr_34⟩ ⟨rfl, rfl, rfl, rfl, rfl, trivial⟩ rfl rfl
   ·
    replace hx := ZV c_12 hx
    refine Z0 (ZX ?_)
    obtain rfl := Zw hd_12 hx
    refine ZX (Zd (JN.forget 0 ?_))
    exact ZR ⟨ar_11, nr_11, cr_11, Kr_11, rfl, rfl, rfl, hr_11⟩ ⟨rfl, trivial⟩ rfl rfl

set_option maxHeartbeats 8000000 in
theorem ref11_Find_ok (p_1 : Disk) (H : Heaplet) {aa_2 : Option Addr} {na_2 : Nat} {ca_2 : Nat} {aa_3 : Option Addr} {na_3 : Nat} {ca_3 : Nat} (ha_2 : IsSlice H (RSl RU8 1) 1 (.slice aa_2 na_2 ca_2) p_1.Blocks) (ha_3 : IsSlice H R_Write 2 (.slice aa_3 na_3 ca_3) p_1.Waits) (r : List Label × Int) (hx : ref11_Find p_1 = some r) :
  Does Try.prog 15 #[.agg #[.slice aa_2 na_2 ca_2, .slice aa_3 na_3 ca_3]] [] H (fun u K' H' => ∃ ao0 : Option Addr, ∃ n0 : Nat, ∃ cap0 : Nat, ∃ K0 : Own, u = .tuple #[.slice ao0 n0 cap0, .int .i64 r.2] ∧ K' = [K0] ∧ H = H' ∧ RowOf (New H H) R_Label 0 30 7 (.slice ao0 n0 cap0) r.1 K0 ∧ (∀ p ∈ K0, p.1 ∉ ids (List.flatten [])) ∧ True) := by
 refine Does.enterL (vs := [.agg #[.slice aa_2 na_2 ca_2, .slice aa_3 na_3 ca_3]]) (l := [(0, .agg #[.slice aa_2 na_2 ca_2, .slice aa_3 na_3 ca_3])]) Try.func15 rfl rfl ⟨rfl, trivial⟩ (fun w hlt => ?_)
 unfold ref11_Find at hx
 refine ZH (ZB (Z7 rfl rfl (fun b_4 hb_4 => ZA rfl rfl (ZG rfl) (ZA rfl rfl (ZG rfl) (ZD (ZC (ZH (ZH (ZB (ZA rfl rfl (Zh 0 (vs := [.slice aa_2 na_2 ca_2, .slice aa_3 na_3 ca_3]) S25 rfl rfl rfl rfl) ?_))))))))))
 obtain ⟨x_5, hr_6, hx⟩ := ZJ hx
 refine ZO (vs := [_]) (args := [_]) (K := []) (rst := [_]) E40 rfl rfl rfl ZK (ref09_May_ok p_1 _ ha_2 ha_3 _ hr_6) rfl (fun u_7 Ku_7 Hu_7 hRu_7 hleu_7 hfu_7 => ?_)
 obtain ⟨rfl, rfl, rfl, -⟩ := hRu_7
 refine ZA rfl rfl (R.not rfl) (ZD (ZC (ZY rfl (fun c_8 => ?_) (fun c_8 => ?_))))
 ·
  replace hx := ZU c_8 hx
  refine ZH (ZB (ZA rfl rfl (ZG rfl) (ZA rfl rfl (ZG rfl) (ZD (ZC (ZW (Zc (JN.seg0 (ZS (vs := [.slice none 0 0, .int .i64 8]) (K := [_]) (rst := [_]) (.inl rfl) rfl rfl (ZQ rfl (ZQ rfl rfl)) (Ze 0 rfl ZK) ?_)))))))))
  obtain rfl := Option.some.inj hx
  exact ⟨none, 0, 0, [], rfl, rfl, rfl, (Zn _ _ _ _ _), (fun p hp => by cases hp), trivial⟩
 ·
  replace hx := ZV c_8 hx
  refine Za (ZC (ZH (ZB (ZA rfl rfl (Zh 0 (vs := [.slice aa_2 na_2 ca_2, .slice aa_3 na_3 ca_3]) S25 rfl rfl rfl rfl) ?_))))
  obtain ⟨x_9, hr_10, hx⟩ := ZJ hx
  refine ZO (vs := [_]) (args := [_]) (K := []) (rst := [_]) E48 rfl rfl rfl ZK (ref11_Stand_ok p_1 _ ha_2 ha_3 _ hr_10) rfl (fun u_11 Ku_11 Hu_11 hRu_11 hleu_11 hfu_11 => ?_)
  obtain ⟨ar_12, nr_12, cr_12, Kr_12, rfl, rfl, rfl, hr_12, hnewr_12, -⟩ := hRu_11
  replace hr_12 := (RowOf.base (Zj (H2 := New H H) R_Label.const hr_12) (fun p hp => (hfu_11 p (Zk 0 rfl hp)).resolve_left (hnewr_12 p hp)))
  refine ZA rfl rfl (ZG rfl) (ZA rfl rfl (ZG rfl) (ZD (ZC (ZW (ZS (vs := [.slice ar_12 nr_12 cr_12, .int .i64 0]) (K := [_]) (rst := [_]) (.inl rfl) rfl rfl (ZQ rfl (ZQ rfl rfl)) (Ze 0 rfl ZK) ?_)))))
  obtain rfl := Option.some.inj hx
  exact ⟨ar_12, nr_12, cr_12, Kr_12, rfl, rfl, rfl, (Zs (Nat.zero_le _) hr_12), (new_ids hr_12 hlt), trivial⟩

set_option maxHeartbeats 8000000 in
theorem ref09_Same_ok (p_1 : Disk) (p_4 : Disk) (H : Heaplet) {aa_2 : Option Addr} {na_2 : Nat} {ca_2 : Nat} {aa_3 : Option Addr} {na_3 : Nat} {ca_3 : Nat} {aa_5 : Option Addr} {na_5 : Nat} {ca_5 : Nat} {aa_6 : Option Addr} {na_6 : Nat} {ca_6 : Nat} (ha_2 : IsSlice H (RSl RU8 1) 1 (.slice aa_2 na_2 ca_2) p_1.Blocks) (ha_3 : IsSlice H R_Write 2 (.slice aa_3 na_3 ca_3) p_1.Waits) (ha_5 : IsSlice H (RSl RU8 1) 1 (.slice aa_5 na_5 ca_5) p_4.Blocks) (ha_6 : IsSlice H R_Write 2 (.slice aa_6 na_6 ca_6) p_4.Waits) (r : Bool) (hx : ref09_Same p_1 p_4 = some r) :
  Does Try.prog 16 #[.agg #[.slice aa_2 na_2 ca_2, .slice aa_3 na_3 ca_3], .agg #[.slice aa_5 na_5 ca_5, .slice aa_6 na_6 ca_6]] [] H (fun u K' H' => u = .bool r ∧ K' = [] ∧ H = H' ∧ True) := by
 refine Does.enterL (vs := [.agg #[.slice aa_2 na_2 ca_2, .slice aa_3 na_3 ca_3], .agg #[.slice aa_5 na_5 ca_5, .slice aa_6 na_6 ca_6]]) (l := [(0, .agg #[.slice aa_2 na_2 ca_2, .slice aa_3 na_3 ca_3]), (1, .agg #[.slice aa_5 na_5 ca_5, .slice aa_6 na_6 ca_6])]) Try.func16 rfl rfl ⟨rfl, rfl, trivial⟩ (fun w hlt => ?_)
 unfold ref09_Same at hx
 refine ZH (ZB (Z7 rfl rfl (fun b_7 hb_7 => Z7 rfl rfl (fun b_8 hb_8 => ZA rfl rfl (ZG rfl) (ZD (ZC (ZH (ZH (ZB (ZA rfl rfl (Zo F25_0 rfl) (ZA rfl rfl (ZZ 1 S22 rfl rfl rfl) ?_)))))))))))
 refine ZA rfl rfl (Zr U22 rfl (IsSlice.long ha_2)) (ZA rfl rfl (Zo F25_0 rfl) (ZA rfl rfl (ZZ 0 S22 rfl rfl rfl) (ZA rfl rfl (Zr U22 rfl (IsSlice.long ha_5)) (ZA rfl rfl (R.neq_i rfl rfl) (ZA rfl rfl (ZI rfl) (Zi (t := 17) rfl (fun c_9 => ?_) (fun c_9 => ?_)))))))
 ·
  replace hx := ZU c_9 hx
  refine ZM rfl rfl rfl rfl rfl (ZM rfl rfl rfl rfl rfl (ZM rfl rfl rfl rfl rfl (ZM rfl rfl rfl rfl rfl (ZM rfl rfl rfl rfl rfl (ZM rfl rfl rfl rfl rfl (ZM rfl rfl rfl rfl rfl (ZA rfl rfl (Zf rfl rfl) (ZD (ZC (JC.condT rfl (ZH ?_)))))))))))
  refine ZB (ZA rfl rfl (ZG rfl) (ZD (ZC (ZW (Zc (ZS (vs := [.bool false]) (K := []) (rst := [_, _]) (.inl rfl) rfl rfl (ZQ rfl rfl) ZK ?_))))))
  obtain rfl := Option.some.inj hx
  exact ⟨rfl, rfl, rfl, trivial⟩
 ·
  replace hx := ZV c_9 hx
  refine ZN rfl rfl rfl (ZA rfl rfl (Zo F25_1 rfl) (ZN rfl rfl rfl (ZA rfl rfl (ZZ 1 S23 rfl rfl rfl) (ZN rfl rfl rfl (ZA rfl rfl (Zr U23 rfl (IsSlice.long ha_3)) (ZN rfl rfl rfl (ZA rfl rfl (Zo F25_1 rfl) (ZN rfl rfl rfl (ZA rfl rfl (ZZ 0 S23 rfl rfl rfl) (ZN rfl rfl rfl (ZA rfl rfl (Zr U23 rfl (IsSlice.long ha_6)) ?_)))))))))))
  refine ZN rfl rfl rfl (ZA rfl rfl (R.neq_i rfl rfl) (ZA rfl rfl (Zb rfl rfl) (ZD (ZC (ZY rfl (fun c_10 => ?_) (fun c_10 => ?_))))))
  ·
   replace hx := ZU c_10 hx
   refine ZH (ZB (ZA rfl rfl (ZG rfl) (ZD (ZC (ZW (Zc (ZS (vs := [.bool false]) (K := []) (rst := [_, _]) (.inl rfl) rfl rfl (ZQ rfl rfl) ZK ?_)))))))
   obtain rfl := Option.some.inj hx
   exact ⟨rfl, rfl, rfl, trivial⟩
  ·
   replace hx := ZV c_10 hx
   refine Za (ZC (ZH (ZB (ZA rfl rfl (ZG rfl) (ZD (ZC (ZH (ZH (ZB (ZA rfl rfl (ZG rfl) (ZD ?_)))))))))))
   refine ZC ?_
   obtain ⟨t_11, ht_13, hx⟩ := ZJ hx
   refine Zy (fun l o g => l = [(2, .pointer (some ⟨b_7, 0, none⟩)), (3, .pointer (some ⟨b_8, 0, none⟩)), (5, .int .i64 t_11)] ∧ o = [[(b_7, .cells #[.slice aa_2 na_2 ca_2, .slice aa_3 na_3 ca_3] 25 (0, 0))], [(b_8, .cells #[.slice aa_5 na_5 ca_5, .slice aa_6 na_6 ca_6] 25 (0, 0))]] ∧ H = g) ?_ ?_
   ·
    rintro _ _ _ ⟨rfl, rfl, rfl⟩
    refine ZC (ZH (ZH (ZB (ZA rfl rfl (ZG rfl) (ZD (ZC ?_))))))
    obtain ⟨t_17, ht_19, hx⟩ := ZJ hx
    refine Zy (fun l o g => l = [(5, .int .i64 t_17)] ∧ o = [] ∧ H = g) ?_ ?_
    ·
     rintro _ _ _ ⟨rfl, rfl, rfl⟩
     refine ZC (ZH (ZB (ZA rfl rfl (ZI rfl) (ZA rfl rfl (R.eql_i rfl rfl) (ZA rfl rfl (ZG rfl) (ZD (ZC (ZW (ZS (vs := [.bool (decide (t_17 = 0))]) (K := []) (rst := []) (.inl rfl) rfl rfl (ZQ rfl rfl) ZK ?_)))))))))
     obtain rfl := Option.some.inj hx
     exact ⟨rfl, rfl, rfl, trivial⟩
    ·
     have hxo_18 := hx; clear hx; have hx := ht_19; clear ht_19
     refine JC.block (Zv 1 rfl (Zv 1 rfl (Z9 (fun n l o g => ∃ s_20 : Int × Nat, l = [(2, .pointer (some ⟨b_7, 0, none⟩)), (3, .pointer (some ⟨b_8, 0, none⟩)), (5, .int .i64 s_20.1), (7, .int .i64 ((s_20.2 : Nat) : Int))] ∧ o = [[(b_7, .cells #[.slice aa_2 na_2 ca_2, .slice aa_3 na_3 ca_3] 25 (0, 0))], [(b_8, .cells #[.slice aa_5 na_5 ca_5, .slice aa_6 na_6 ca_6] 25 (0, 0))]] ∧ H = g ∧ run (ref09_Same_l2 p_1 p_4) n s_20 = some t_17) FUEL ?_ ⟨(t_11, 0), rfl, rfl, rfl, hx⟩ ⟨rfl, rfl, rfl, rfl, trivial⟩ ?_)))
     ·
      rintro _ _ _ ⟨s_20, rfl, rfl, rfl, hn_21⟩
      exact Z5 hn_21
     ·
      rintro n_22 _ _ _ ⟨s_20, rfl, rfl, rfl, hn_21⟩
      clear hx; obtain ⟨oo_24, hx, hd_23⟩ := Z6 hn_21
      unfold ref09_Same_l2 at hx
      refine ZH (ZH (ZB (ZA rfl rfl (ZI rfl) (ZA rfl rfl (Zo F25_1 rfl) (ZA rfl rfl (ZZ 0 S23 rfl rfl rfl) (ZA rfl rfl (Zr U23 rfl (IsSlice.long ha_3)) (ZA rfl rfl (Z1 rfl rfl) (ZD (ZC (ZY rfl (fun c_23 => ?_) (fun c_23 => ?_)))))))))))
      ·
       replace hx := ZU c_23 hx
       refine Za (ZC (ZH (JC.block (ZH (ZB (ZA rfl rfl (Zo F25_1 rfl) (ZA rfl rfl (ZZ 0 S23 rfl rfl rfl) (ZA rfl rfl (ZI rfl) ?_))))))))
       obtain ⟨y_24, hN_25, hx⟩ := Zt hx
       obtain ⟨b_26, o_27, cs_28, hE_29, hR_30, hl_31, hc_32⟩ := IsSlice.elem ha_3 hN_25
       obtain ⟨v_33, rfl, hs_34⟩ := hR_30
       obtain ⟨av_33, cv_33, rfl⟩ := IsSlice.val hs_34
       refine ZA rfl rfl (R.ix U23 S47 rfl rfl hE_29) (ZA rfl rfl (R.ldHE (cs := [.int .i64 y_24.At, .slice av_33 y_24.Data.length cv_33]) (k := 0) (vs := [.int .i64 y_24.At, .slice av_33 y_24.Data.length cv_33]) S47 rfl hc_32 rfl rfl) (JL.alloc Z47 rfl (fun b_35 hb_35 => ZP 0 S47 rfl rfl rfl rfl rfl (Nat.le_of_ble_eq_true rfl) (ZD (ZC (ZH (ZB (ZA rfl rfl (Zo F25_1 rfl) (ZA rfl rfl (ZZ 2 S23 rfl rfl rfl) (ZA rfl rfl (ZI rfl) ?_))))))))))
       obtain ⟨y_36, hN_37, hx⟩ := Zt hx
       obtain ⟨b_38, o_39, cs_40, hE_41, hR_42, hl_43, hc_44⟩ := IsSlice.elem ha_6 hN_37
       obtain ⟨v_45, rfl, hs_46⟩ := hR_42
       obtain ⟨av_45, cv_45, rfl⟩ := IsSlice.val hs_46
       refine ZA rfl rfl (R.ix U23 S47 rfl rfl hE_41) (ZA rfl rfl (R.ldHE (cs := [.int .i64 y_36.At, .slice av_45 y_36.Data.length cv_45]) (k := 0) (vs := [.int .i64 y_36.At, .slice av_45 y_36.Data.length cv_45]) S47 rfl hc_44 rfl rfl) (JL.alloc Z47 rfl (fun b_47 hb_47 => ZP 0 S47 rfl rfl rfl rfl rfl (Nat.le_of_ble_eq_true rfl) (ZD (ZC (ZH (ZB (ZA rfl rfl (Zo F47_0 rfl) (ZA rfl rfl (ZZ 1 S3 rfl rfl rfl) (ZA rfl rfl (Zo F47_0 rfl) (ZA rfl rfl (ZZ 0 S3 rfl rfl rfl) ?_)))))))))))
       refine ZA rfl rfl (R.neq_i rfl rfl) (ZA rfl rfl (ZI rfl) (Zi (t := 70) rfl (fun c_48 => ?_) (fun c_48 => ?_)))
       ·
        replace hx := ZU c_48 hx
        refine ZM rfl rfl rfl rfl rfl (ZM rfl rfl rfl rfl rfl (ZM rfl rfl rfl rfl rfl (ZM rfl rfl rfl rfl rfl (ZM rfl rfl rfl rfl rfl (ZM rfl rfl rfl rfl rfl (ZM rfl rfl rfl rfl rfl (ZA rfl rfl (Zf rfl rfl) (ZD (ZC (JC.condT rfl (ZB ?_)))))))))))
        refine ZA rfl rfl (ZI rfl) (ZA rfl rfl (R.add_i rfl rfl) (ZA rfl rfl (ZG rfl) (ZD (Zl (ZC (ZB (ZA rfl rfl (ZI rfl) (ZA rfl rfl (R.inc rfl rfl (of_decide_eq_true c_23) (IsSlice.lenI ha_3)) (ZA rfl rfl (ZG rfl) (ZD ?_))))))))))
        replace hx := Zm hd_23 hx
        refine JN.forget 1 (JN.forget 0 (ZL 1 rfl (ZL 1 rfl ?_)))
        exact ZR ⟨(w64 (s_20.1 + 1), s_20.2 + 1), rfl, rfl, rfl, hx⟩ ⟨rfl, rfl, rfl, rfl, trivial⟩ rfl rfl
       ·
        replace hx := ZV c_48 hx
        refine ZN rfl rfl rfl (ZA rfl rfl (Zo F47_1 rfl) (ZN rfl rfl rfl (ZA rfl rfl (ZZ 1 S45 rfl rfl rfl) (ZN rfl rfl rfl (ZA rfl rfl (R.toStr U45 U5 U9 rfl hs_34) (ZN rfl rfl rfl (ZA rfl rfl (Zo F47_1 rfl) (ZN rfl rfl rfl (ZA rfl rfl (ZZ 0 S45 rfl rfl rfl) (ZN rfl rfl rfl (ZA rfl rfl (R.toStr U45 U5 U9 rfl hs_46) ?_)))))))))))
        refine ZN rfl rfl rfl (ZA rfl rfl (R.neqStr (a := y_24.Data) (b := y_36.Data) rfl rfl) (ZA rfl rfl (Zb rfl rfl) (ZD (ZC (ZY rfl (fun c_49 => ?_) (fun c_49 => ?_))))))
        ·
         replace hx := ZU c_49 hx
         refine ZB (ZA rfl rfl (ZI rfl) (ZA rfl rfl (R.add_i rfl rfl) (ZA rfl rfl (ZG rfl) (ZD (Zl (ZC (ZB (ZA rfl rfl (ZI rfl) (ZA rfl rfl (R.inc rfl rfl (of_decide_eq_true c_23) (IsSlice.lenI ha_3)) (ZA rfl rfl (ZG rfl) (ZD ?_)))))))))))
         replace hx := Zm hd_23 hx
         refine JN.forget 1 (JN.forget 0 (ZL 1 rfl (ZL 1 rfl ?_)))
         exact ZR ⟨(w64 (s_20.1 + 1), s_20.2 + 1), rfl, rfl, rfl, hx⟩ ⟨rfl, rfl, rfl, rfl, trivial⟩ rfl rfl
        ·
         replace hx := ZV c_49 hx
         refine Za (Zl (ZC (ZB (ZA rfl rfl (ZI rfl) (ZA rfl rfl (R.inc rfl rfl (of_decide_eq_true c_23) (IsSlice.lenI ha_3)) (ZA rfl rfl (ZG rfl) (ZD ?_)))))))
         replace hx := Zm hd_23 hx
         refine JN.forget 1 (JN.forget 0 (ZL 1 rfl (ZL 1 rfl ?_)))
         exact ZR ⟨(s_20.1, s_20.2 + 1), rfl, rfl, rfl, hx⟩ ⟨rfl, rfl, rfl, rfl, trivial⟩ rfl rfl
      ·
       replace hx := ZV c_23 hx
       refine Z0 (ZX ?_)
       obtain rfl := Zw hd_23 hx
       refine ZX (Zd (JN.forget 1 (JN.forget 0 ?_)))
       exact ZR ⟨rfl, rfl, rfl⟩ ⟨rfl, trivial⟩ rfl rfl
   ·
    have hxo_12 := hx; clear hx; have hx := ht_13; clear ht_13
    refine JC.block (Zv 1 rfl (Z9 (fun n l o g => ∃ s_14 : Int × Nat, l = [(2, .pointer (some ⟨b_7, 0, none⟩)), (3, .pointer (some ⟨b_8, 0, none⟩)), (5, .int .i64 s_14.1), (6, .int .i64 ((s_14.2 : Nat) : Int))] ∧ o = [[(b_7, .cells #[.slice aa_2 na_2 ca_2, .slice aa_3 na_3 ca_3] 25 (0, 0))], [(b_8, .cells #[.slice aa_5 na_5 ca_5, .slice aa_6 na_6 ca_6] 25 (0, 0))]] ∧ H = g ∧ run (ref09_Same_l1 p_1 p_4) n s_14 = some t_11) FUEL ?_ ⟨(0, 0), rfl, rfl, rfl, hx⟩ ⟨rfl, rfl, rfl, rfl, trivial⟩ ?_))
    ·
     rintro _ _ _ ⟨s_14, rfl, rfl, rfl, hn_15⟩
     exact Z5 hn_15
    ·
     rintro n_16 _ _ _ ⟨s_14, rfl, rfl, rfl, hn_15⟩
     clear hx; obtain ⟨oo_18, hx, hd_17⟩ := Z6 hn_15
     unfold ref09_Same_l1 at hx
     refine ZH (ZH (ZB (ZA rfl rfl (ZI rfl) (ZA rfl rfl (Zo F25_0 rfl) (ZA rfl rfl (ZZ 0 S22 rfl rfl rfl) (ZA rfl rfl (Zr U22 rfl (IsSlice.long ha_2)) (ZA rfl rfl (Z1 rfl rfl) (ZD (ZC (ZY rfl (fun c_17 => ?_) (fun c_17 => ?_)))))))))))
     ·
      replace hx := ZU c_17 hx
      refine Za (ZC (ZH (JC.block (ZH (JC.draw (so := [_, _]) 13 rfl Mixed ⟨⟨0, rfl⟩, ⟨1, rfl⟩, trivial⟩ (JA.val ⟨by kernel_rfl, by kernel_rfl⟩ (ZF _) (i := 0) rfl ⟨by kernel_rfl, by kernel_rfl, rfl⟩ trivial (ZE (Hle.refl _) ⟨⟨0, rfl⟩, ⟨1, rfl⟩, trivial⟩) (Zo F25_0 rfl) rfl (JA.val ⟨by kernel_rfl, by kernel_rfl⟩ (ZF _) (i := 1) rfl ⟨by kernel_rfl, by kernel_rfl, rfl⟩ trivial (ZE (Hle.refl _) ⟨⟨0, rfl⟩, ⟨1, rfl⟩, trivial⟩) (ZZ 0 S22 rfl rfl rfl) rfl (JA.val ⟨by kernel_rfl, by kernel_rfl⟩ (ZF _) (i := 2) rfl ⟨by kernel_rfl, by kernel_rfl, rfl⟩ trivial (ZE (Hle.refl _) ⟨⟨0, rfl⟩, ⟨1, rfl⟩, trivial⟩) (ZI rfl) rfl ?_))))))))
      obtain ⟨y_18, hN_19, hx⟩ := Zt hx
      obtain ⟨b_20, o_21, cs_22, hE_23, hR_24, hl_25, hc_26⟩ := IsSlice.elem ha_2 hN_19
      obtain ⟨v_27, rfl, hs_28⟩ := hR_24
      obtain ⟨av_27, cv_27, rfl⟩ := IsSlice.val hs_28
      refine JA.val ⟨by kernel_rfl, by kernel_rfl⟩ (ZF _) (i := 3) rfl ⟨by kernel_rfl, by kernel_rfl, rfl⟩ trivial (ZE (Hle.refl _) ⟨⟨0, rfl⟩, ⟨1, rfl⟩, trivial⟩) (R.ix U22 S45 rfl rfl hE_23) rfl (JA.val ⟨by kernel_rfl, by kernel_rfl⟩ (ZF _) (i := 4) rfl ⟨by kernel_rfl, by kernel_rfl, rfl⟩ trivial (ZE (Hle.refl _) ⟨⟨0, rfl⟩, ⟨1, rfl⟩, trivial⟩) (R.ldH S45 rfl (hc_26 0 _ rfl)) rfl (JA.val ⟨by kernel_rfl, by kernel_rfl⟩ (ZF _) (i := 5) rfl ⟨by kernel_rfl, by kernel_rfl, rfl⟩ trivial (ZE (Hle.refl _) ⟨⟨0, rfl⟩, ⟨1, rfl⟩, trivial⟩) (R.toStr U45 U5 U9 rfl hs_28) rfl (JA.val ⟨by kernel_rfl, by kernel_rfl⟩ (ZF _) (i := 6) rfl ⟨by kernel_rfl, by kernel_rfl, rfl⟩ trivial (ZE (Hle.refl _) ⟨⟨0, rfl⟩, ⟨1, rfl⟩, trivial⟩) (Zo F25_0 rfl) rfl (JA.val ⟨by kernel_rfl, by kernel_rfl⟩ (ZF _) (i := 7) rfl ⟨by kernel_rfl, by kernel_rfl, rfl⟩ trivial (ZE (Hle.refl _) ⟨⟨0, rfl⟩, ⟨1, rfl⟩, trivial⟩) (ZZ 1 S22 rfl rfl rfl) rfl (JA.val ⟨by kernel_rfl, by kernel_rfl⟩ (ZF _) (i := 8) rfl ⟨by kernel_rfl, by kernel_rfl, rfl⟩ trivial (ZE (Hle.refl _) ⟨⟨0, rfl⟩, ⟨1, rfl⟩, trivial⟩) (ZI rfl) rfl ?_)))))
      obtain ⟨y_29, hN_30, hx⟩ := Zt hx
      obtain ⟨b_31, o_32, cs_33, hE_34, hR_35, hl_36, hc_37⟩ := IsSlice.elem ha_5 hN_30
      obtain ⟨v_38, rfl, hs_39⟩ := hR_35
      obtain ⟨av_38, cv_38, rfl⟩ := IsSlice.val hs_39
      refine JA.val ⟨by kernel_rfl, by kernel_rfl⟩ (ZF _) (i := 9) rfl ⟨by kernel_rfl, by kernel_rfl, rfl⟩ trivial (ZE (Hle.refl _) ⟨⟨0, rfl⟩, ⟨1, rfl⟩, trivial⟩) (R.ix U22 S45 rfl rfl hE_34) rfl (JA.val ⟨by kernel_rfl, by kernel_rfl⟩ (ZF _) (i := 10) rfl ⟨by kernel_rfl, by kernel_rfl, rfl⟩ trivial (ZE (Hle.refl _) ⟨⟨0, rfl⟩, ⟨1, rfl⟩, trivial⟩) (R.ldH S45 rfl (hc_37 0 _ rfl)) rfl (JA.val ⟨by kernel_rfl, by kernel_rfl⟩ (ZF _) (i := 11) rfl ⟨by kernel_rfl, by kernel_rfl, rfl⟩ trivial (ZE (Hle.refl _) ⟨⟨0, rfl⟩, ⟨1, rfl⟩, trivial⟩) (R.toStr U45 U5 U9 rfl hs_39) rfl (JA.val ⟨by kernel_rfl, by kernel_rfl⟩ (ZF _) (i := 12) rfl ⟨by kernel_rfl, by kernel_rfl, rfl⟩ trivial (ZE (Hle.refl _) ⟨⟨0, rfl⟩, ⟨1, rfl⟩, trivial⟩) (R.neqStr (a := y_18) (b := y_29) rfl rfl) rfl (Zg (by kernel_rfl) (ZC (ZY rfl (fun c_40 => ?_) (fun c_40 => ?_)))))))
      ·
       replace hx := ZU c_40 hx
       refine ZB (ZA rfl rfl (ZI rfl) (ZA rfl rfl (R.add_i rfl rfl) (ZA rfl rfl (ZG rfl) (ZD (Zl (ZC (ZB (ZA rfl rfl (ZI rfl) (ZA rfl rfl (R.inc rfl rfl (of_decide_eq_true c_17) (IsSlice.lenI ha_2)) (ZA rfl rfl (ZG rfl) (ZD ?_)))))))))))
       replace hx := Zm hd_17 hx
       refine ZL 1 rfl (ZL 1 rfl ?_)
       exact ZR ⟨(w64 (s_14.1 + 1), s_14.2 + 1), rfl, rfl, rfl, hx⟩ ⟨rfl, rfl, rfl, rfl, trivial⟩ rfl rfl
      ·
       replace hx := ZV c_40 hx
       refine Za (Zl (ZC (ZB (ZA rfl rfl (ZI rfl) (ZA rfl rfl (R.inc rfl rfl (of_decide_eq_true c_17) (IsSlice.lenI ha_2)) (ZA rfl rfl (ZG rfl) (ZD ?_)))))))
       replace hx := Zm hd_17 hx
       refine ZL 1 rfl (ZL 1 rfl ?_)
       exact ZR ⟨(s_14.1, s_14.2 + 1), rfl, rfl, rfl, hx⟩ ⟨rfl, rfl, rfl, rfl, trivial⟩ rfl rfl
     ·
      replace hx := ZV c_17 hx
      refine Z0 (ZX ?_)
      obtain rfl := Zw hd_17 hx
      refine ZX (Zd (ZL 1 rfl (ZL 1 rfl ?_)))
      exact ZR ⟨rfl, rfl, rfl⟩ ⟨rfl, rfl, rfl, trivial⟩ rfl rfl
end Go.Proofs.Ytdoebbgjjlicjaa
