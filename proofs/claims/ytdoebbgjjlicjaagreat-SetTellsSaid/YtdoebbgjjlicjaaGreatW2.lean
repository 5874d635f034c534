import Derived.Test.YtdoebbgjjlicjaaGreatW2p2
/- walks: what the code computes, function by function. -/
namespace Go.Proofs.YtdoebbgjjlicjaaGreat
open Go.Ow Go.RowKit Go.Proofs
set_option linter.unusedVariables false
set_option linter.unusedSimpArgs false
set_option maxHeartbeats 8000000 in
theorem ref15_Young_ok (p_1 : Store) (p_5 : Ptr) (p_6 : UInt32) (H : Heaplet) {aa_2 : Option Addr} {na_2 : Nat} {ca_2 : Nat} {aa_3 : Option Addr} {na_3 : Nat} {ca_3 : Nat} {aa_4 : Option Addr} {na_4 : Nat} {ca_4 : Nat} (ha_2 : IsSlice H (RSl RU8 1) 1 (.slice aa_2 na_2 ca_2) p_1.Disk.Blocks) (ha_3 : IsSlice H R_Write 2 (.slice aa_3 na_3 ca_3) p_1.Disk.Waits) (ha_4 : IsSlice H RU8 1 (.slice aa_4 na_4 ca_4) p_1.Space) (r : List Ptr × Int) (hx : ref15_Young p_1 p_5 p_6 = some r) :
  Does Tryz.prog 37 #[.agg #[.slice aa_2 na_2 ca_2, .slice aa_3 na_3 ca_3, .slice aa_4 na_4 ca_4, .int .u32 (p_1.Epoch.toNat : Int), .int .u32 (p_1.Count.toNat : Int)], .agg #[.int .i64 p_5.At, .int .u32 (p_5.Birth.toNat : Int), .int .u32 (p_5.Iv.toNat : Int), .int .u32 (p_5.Tag.toNat : Int), .int .u32 (p_5.Sum.toNat : Int)], .int .u32 (p_6.toNat : Int)] [] H (fun u K' H' => ∃ ao0 : Option Addr, ∃ n0 : Nat, ∃ cap0 : Nat, ∃ K0 : Own, u = .tuple #[.slice ao0 n0 cap0, .int .i64 r.2] ∧ K' = [K0] ∧ RowOf (New H H') R_Ptr 0 31 5 (.slice ao0 n0 cap0) r.1 K0 ∧ (∀ p ∈ K0, p.1 ∉ ids (List.flatten [])) ∧ True) := by
 refine Does.enterL (vs := [.agg #[.slice aa_2 na_2 ca_2, .slice aa_3 na_3 ca_3, .slice aa_4 na_4 ca_4, .int .u32 (p_1.Epoch.toNat : Int), .int .u32 (p_1.Count.toNat : Int)], .agg #[.int .i64 p_5.At, .int .u32 (p_5.Birth.toNat : Int), .int .u32 (p_5.Iv.toNat : Int), .int .u32 (p_5.Tag.toNat : Int), .int .u32 (p_5.Sum.toNat : Int)], .int .u32 (p_6.toNat : Int)]) (l := [(0, .agg #[.slice aa_2 na_2 ca_2, .slice aa_3 na_3 ca_3, .slice aa_4 na_4 ca_4, .int .u32 (p_1.Epoch.toNat : Int), .int .u32 (p_1.Count.toNat : Int)]), (1, .agg #[.int .i64 p_5.At, .int .u32 (p_5.Birth.toNat : Int), .int .u32 (p_5.Iv.toNat : Int), .int .u32 (p_5.Tag.toNat : Int), .int .u32 (p_5.Sum.toNat : Int)]), (2, .int .u32 (p_6.toNat : Int))]) Tryz.func37 rfl rfl ⟨rfl, rfl, rfl, trivial⟩ (fun w hlt => ?_)
 unfold ref15_Young at hx
 refine ZF (ZB (Zv rfl rfl (fun b_7 hb_7 => Zv rfl rfl (fun b_8 hb_8 => ZA rfl rfl (ZE rfl) (ZA rfl rfl (ZE rfl) (ZD (ZC (ZF (ZF (ZB (ZA rfl rfl (Zg 0 (vs := [.int .i64 p_5.At, .int .u32 (p_5.Birth.toNat : Int), .int .u32 (p_5.Iv.toNat : Int), .int .u32 (p_5.Tag.toNat : Int), .int .u32 (p_5.Sum.toNat : Int)]) S31 rfl rfl rfl rfl) ?_)))))))))))
 obtain ⟨x_9, hr_10, hx⟩ := ZM hx
 refine ZR (vs := [_]) (args := [_]) (K := []) (rst := [_, _]) E61 rfl rfl rfl ZL (ref10_None_ok p_5 _ _ hr_10) rfl (fun u_11 Ku_11 Hu_11 hRu_11 hleu_11 hfu_11 => ?_)
 obtain ⟨rfl, rfl, rfl, -⟩ := hRu_11
 refine ZA rfl rfl (ZG rfl) (Ze (t := 17) rfl (fun c_12 => ?_) (fun c_12 => ?_))
 ·
  replace hx := ZT c_12 hx
  refine ZH rfl rfl rfl rfl rfl (ZH rfl rfl rfl rfl rfl (ZH rfl rfl rfl rfl rfl (ZH rfl rfl rfl rfl rfl (ZA rfl rfl (Zb rfl rfl) (ZD (ZC (Zu rfl (ZF (ZB (ZA rfl rfl (ZE rfl) (ZA rfl rfl (ZE rfl) ?_)))))))))))
  refine ZD (ZC (ZS (ZP (Z8 (ZQ (vs := [.slice none 0 0, .int .i64 0]) (K := [_]) (rst := [_, _]) (.inl rfl) rfl rfl (ZO rfl (ZO rfl rfl)) (Zf 0 rfl ZL) ?_)))))
  obtain rfl := Option.some.inj hx
  exact ⟨none, 0, 0, [], rfl, rfl, (Zi _ _ _ _ _), (fun p hp => by cases hp), trivial⟩
 ·
  replace hx := ZU c_12 hx
  refine ZK rfl rfl rfl (ZA rfl rfl (Zq F31_1 rfl) (ZK rfl rfl rfl (ZA rfl rfl (Zd 0 S27 rfl rfl rfl) (ZK rfl rfl rfl (ZA rfl rfl (ZG rfl) (ZK rfl rfl rfl (ZA rfl rfl (R.leq32 (a := p_5.Birth) (b := p_6) rfl rfl) (ZA rfl rfl (Za rfl rfl) (ZD (ZC (ZW rfl (fun c_13 => ?_) (fun c_13 => ?_))))))))))))
  ·
   replace hx := ZT c_13 hx
   refine ZF (ZB (ZA rfl rfl (ZE rfl) (ZA rfl rfl (ZE rfl) (ZD (ZC (ZS (ZP (Z8 (ZQ (vs := [.slice none 0 0, .int .i64 0]) (K := [_]) (rst := [_, _]) (.inl rfl) rfl rfl (ZO rfl (ZO rfl rfl)) (Zf 0 rfl ZL) ?_)))))))))
   obtain rfl := Option.some.inj hx
   exact ⟨none, 0, 0, [], rfl, rfl, (Zi _ _ _ _ _), (fun p hp => by cases hp), trivial⟩
  ·
   replace hx := ZU c_13 hx
   refine ZX (ZC (ZF (ZB (ZA rfl rfl (Zg 1 (vs := [.slice aa_2 na_2 ca_2, .slice aa_3 na_3 ca_3, .slice aa_4 na_4 ca_4, .int .u32 (p_1.Epoch.toNat : Int), .int .u32 (p_1.Count.toNat : Int)]) S29 rfl rfl rfl rfl) (ZA rfl rfl (Zg 0 (vs := [.int .i64 p_5.At, .int .u32 (p_5.Birth.toNat : Int), .int .u32 (p_5.Iv.toNat : Int), .int .u32 (p_5.Tag.toNat : Int), .int .u32 (p_5.Sum.toNat : Int)]) S31 rfl rfl rfl rfl) ?_)))))
   obtain ⟨x_14, hr_15, hx⟩ := ZM hx
   refine ZR (vs := [_, _]) (args := [_, _]) (K := []) (rst := [_, _]) E32 rfl rfl rfl ZL (ref15_Row_ok p_1 p_5 _ ha_2 ha_3 ha_4 _ hr_15) rfl (fun u_16 Ku_16 Hu_16 hRu_16 hleu_16 hfu_16 => ?_)
   obtain ⟨ar_17, nr_17, cr_17, Kr_17, rfl, rfl, rfl, hr_17, hnewr_17, -⟩ := hRu_16
   replace hr_17 := (RowOf.base (Zo (H2 := New H H) R_Ptr.const hr_17) (fun p hp => (hfu_16 p (Zw 0 rfl hp)).resolve_left (hnewr_17 p hp)))
   refine ZA rfl rfl (ZG rfl) (ZA rfl rfl (R.extract rfl rfl) (ZA rfl rfl (R.extract rfl rfl) (ZA rfl rfl (ZE rfl) (ZA rfl rfl (ZE rfl) (ZD (ZC (ZF (ZF (ZB (ZA rfl rfl (ZG rfl) (ZA rfl rfl (Zx rfl rfl) ?_)))))))))))
   refine ZD (ZC (ZW rfl (fun c_18 => ?_) (fun c_18 => ?_)))
   ·
    replace hx := ZT c_18 hx
    refine ZF (ZB (ZA rfl rfl (ZG rfl) (ZA rfl rfl (ZE rfl) (ZA rfl rfl (ZE rfl) (ZD (ZC (ZS (ZP (Z8 (ZQ (vs := [.slice none 0 0, .int .i64 x_14.2]) (K := [_]) (rst := [_, _, _]) (.inl rfl) rfl rfl (ZO rfl (ZO rfl rfl)) (Zf 0 rfl ZL) ?_))))))))))
    obtain rfl := Option.some.inj hx
    exact ⟨none, 0, 0, [], rfl, rfl, (Zi _ _ _ _ _), (fun p hp => by cases hp), trivial⟩
   ·
    replace hx := ZU c_18 hx
    refine ZX (ZC (ZF (ZB (ZA rfl rfl (Zg 1 (vs := [.int .i64 p_5.At, .int .u32 (p_5.Birth.toNat : Int), .int .u32 (p_5.Iv.toNat : Int), .int .u32 (p_5.Tag.toNat : Int), .int .u32 (p_5.Sum.toNat : Int)]) S31 rfl rfl rfl rfl) (JL.bslF (HF := (New H H)) (R := R_Ptr) (ls := [p_5]) (vs := [.agg #[.int .i64 p_5.At, .int .u32 (p_5.Birth.toNat : Int), .int .u32 (p_5.Iv.toNat : Int), .int .u32 (p_5.Tag.toNat : Int), .int .u32 (p_5.Sum.toNat : Int)]]) U34 I31 rfl rfl (⟨_, _, rfl, rfl, rfl, rfl⟩) R_Ptr.one rfl rfl rfl (by simp [maxLen]) rfl (fun vr_19 Kr_19 hr_19 => ?_))))))
    obtain ⟨ar_19, cr_19, rfl⟩ := RowOf.val hr_19
    refine ZA rfl rfl (ZE rfl) (ZD (ZC (ZF (ZF (ZB (ZA rfl rfl (ZE rfl) (ZD (ZC ?_))))))))
    obtain ⟨t_20, ht_22, hx⟩ := ZM hx
    refine Z1 (fun l o g => ∃ t_20a : List Ptr, ∃ H_28 : Heaplet, ∃ ar_29 : Option Addr, ∃ nr_29 : Nat, ∃ cr_29 : Nat, ∃ Kr_29 : Own, l = [(10, .slice ar_29 nr_29 cr_29)] ∧ o = [Kr_29] ∧ H_28 = g ∧ t_20 = .inl t_20a ∧ Hle H H_28 ∧ RowOf (New H H_28) R_Ptr w.heap.size 31 5 (.slice ar_29 nr_29 cr_29) t_20a Kr_29) ?_ ?_
    ·
     rintro _ _ _ ⟨t_20a, H_28, ar_29, nr_29, cr_29, Kr_29, rfl, rfl, rfl, rfl, hleH_28, hr_29⟩
     simp only [Sum.elim_inl] at hx
     refine ZC (ZF (ZB (ZA rfl rfl (ZG rfl) (ZA rfl rfl (ZE rfl) (ZA rfl rfl (ZE rfl) (ZD (ZC (ZS (ZQ (vs := [.slice ar_29 nr_29 cr_29, .int .i64 0]) (K := [_]) (rst := []) (.inl rfl) rfl rfl (ZO rfl (ZO rfl rfl)) (Zf 0 rfl ZL) ?_)))))))))
     obtain rfl := Option.some.inj hx
     exact ⟨ar_29, nr_29, cr_29, Kr_29, rfl, rfl, (Zt (Nat.zero_le _) hr_29), (new_ids hr_29 hlt), trivial⟩
    ·
     have hxo_21 := hx; clear hx; have hx := ht_22; clear ht_22
     refine JC.block (JC.forget 2 (Zj 1 rfl (Zj 2 rfl (Z5 (fun n l o g => ∃ s_23 : List Ptr × Nat, ∃ H_26 : Heaplet, ∃ ar_27 : Option Addr, ∃ nr_27 : Nat, ∃ cr_27 : Nat, ∃ Kr_27 : Own, l = [(2, .int .u32 (p_6.toNat : Int)), (3, .pointer (some ⟨b_7, 0, none⟩)), (8, .slice ar_17 nr_17 cr_17), (10, .slice ar_27 nr_27 cr_27), (11, .int .i64 ((s_23.2 : Nat) : Int))] ∧ o = [[(b_7, .cells #[.slice aa_2 na_2 ca_2, .slice aa_3 na_3 ca_3, .slice aa_4 na_4 ca_4, .int .u32 (p_1.Epoch.toNat : Int), .int .u32 (p_1.Count.toNat : Int)] 29 (0, 0))], Kr_17, Kr_27] ∧ H_26 = g ∧ run (ref15_Young_l2 p_1 p_6 x_14) n s_23 = some t_20 ∧ Hle H H_26 ∧ RowOf (New H H_26) R_Ptr w.heap.size 31 5 (.slice ar_27 nr_27 cr_27) s_23.1 Kr_27) FUEL ?_ ⟨([p_5], 0), H, ar_19, ([p_5]).length, cr_19, Kr_19, rfl, rfl, rfl, hx, (Hle.refl _), hr_19⟩ ⟨rfl, rfl, rfl, rfl, rfl, trivial⟩ ?_))))
     ·
      rintro _ _ _ ⟨s_23, H_26, ar_27, nr_27, cr_27, Kr_27, rfl, rfl, rfl, hn_24, hleH_26, hr_27⟩
      exact Z2 hn_24
     ·
      rintro n_25 _ _ _ ⟨s_23, H_26, ar_27, nr_27, cr_27, Kr_27, rfl, rfl, rfl, hn_24, hleH_26, hr_27⟩
      clear hx; obtain ⟨oo_29, hx, hd_28⟩ := Z4 hn_24
      unfold ref15_Young_l2 at hx
      refine ZF (ZF (ZB (ZA rfl rfl (ZG rfl) (ZA rfl rfl (Zy rfl rfl) (ZD (ZC (ZW rfl (fun c_28 => ?_) (fun c_28 => ?_))))))))
      ·
       replace hx := ZT c_28 hx
       refine ZX (ZC (ZF (JC.block (ZF (ZF (ZB (ZA rfl rfl (ZG rfl) (ZA rfl rfl (ZG rfl) ?_))))))))
       obtain ⟨y_29, hN_30, hx⟩ := Zl hx
       obtain ⟨b_31, o_32, cs_33, cur_38, hK_39, hE_34, hR_35, hl_36, hc_37⟩ := RowOf.elem (hr_17.mono R_Ptr.mono (New.mono hleH_26)) hN_30
       subst hK_39
       obtain rfl := hR_35
       refine ZA rfl rfl (R.ix U34 S31 rfl rfl hE_34) (ZA rfl rfl (R.ldoE 1 (cs := [.int .i64 y_29.At, .int .u32 (y_29.Birth.toNat : Int), .int .u32 (y_29.Iv.toNat : Int), .int .u32 (y_29.Tag.toNat : Int), .int .u32 (y_29.Sum.toNat : Int)]) (k := 0) (vs := [.int .i64 y_29.At, .int .u32 (y_29.Birth.toNat : Int), .int .u32 (y_29.Iv.toNat : Int), .int .u32 (y_29.Tag.toNat : Int), .int .u32 (y_29.Sum.toNat : Int)]) S31 rfl rfl hc_37 rfl rfl) ?_)
       obtain ⟨x_40, hr_41, hx⟩ := ZM hx
       refine ZR (vs := [_]) (args := [_]) (K := []) (rst := [_, _, _]) E61 rfl rfl rfl ZL (ref10_None_ok y_29 _ _ hr_41) rfl (fun u_42 Ku_42 Hu_42 hRu_42 hleu_42 hfu_42 => ?_)
       obtain ⟨rfl, rfl, rfl, -⟩ := hRu_42
       refine ZA rfl rfl (ZG rfl) (Ze (t := 43) rfl (fun c_43 => ?_) (fun c_43 => ?_))
       ·
        replace hx := ZT c_43 hx
        refine ZH rfl rfl rfl rfl rfl (ZH rfl rfl rfl rfl rfl (ZH rfl rfl rfl rfl rfl (ZH rfl rfl rfl rfl rfl (ZH rfl rfl rfl rfl rfl (ZH rfl rfl rfl rfl rfl (ZH rfl rfl rfl rfl rfl (ZA rfl rfl (Zb rfl rfl) (ZD (ZC (Zu rfl (Z0 ?_)))))))))))
        refine Zc (Zh (ZC (ZB (ZA rfl rfl (ZG rfl) (ZA rfl rfl (R.inc rfl rfl (of_decide_eq_true c_28) (by decide)) (ZA rfl rfl (ZE rfl) (ZD ?_)))))))
        replace hx := Zp hd_28 hx
        refine ZN 2 rfl (ZN 2 rfl (ZN 2 rfl ?_))
        exact ZZ ⟨(s_23.1, s_23.2 + 1), H_26, ar_27, nr_27, cr_27, Kr_27, rfl, rfl, rfl, hx, (hleH_26), hr_27⟩ ⟨rfl, rfl, rfl, rfl, rfl, trivial⟩ rfl rfl
       ·
        replace hx := ZU c_43 hx
        refine ZK rfl rfl rfl (ZA rfl rfl (ZG rfl) (ZK rfl rfl rfl (ZA rfl rfl (ZG rfl) (ZK rfl rfl rfl ?_))))
        obtain ⟨y_44, hN_45, hx⟩ := Zl hx
        obtain ⟨b_46, o_47, cs_48, cur_53, hK_54, hE_49, hR_50, hl_51, hc_52⟩ := RowOf.elem (hr_17.mono R_Ptr.mono (New.mono hleH_26)) hN_45
        obtain ⟨rfl, rfl⟩ : b_31 = b_46 ∧ cur_38 = cur_53 := by simpa using hK_54
        obtain rfl := hR_50
        refine ZA rfl rfl (R.ix U34 S31 rfl rfl hE_49) (ZK rfl rfl rfl (ZA rfl rfl (Zq F31_1 rfl) (ZK rfl rfl rfl (ZA rfl rfl (Zd 1 S27 rfl rfl (hc_52 1 _ rfl)) (ZK rfl rfl rfl (ZA rfl rfl (ZG rfl) (ZK rfl rfl rfl (ZA rfl rfl (R.leq32 (a := y_44.Birth) (b := p_6) rfl rfl) (ZA rfl rfl (Za rfl rfl) (ZD (ZC ?_)))))))))))
        refine ZW rfl (fun c_55 => ?_) (fun c_55 => ?_)
        ·
         replace hx := ZT c_55 hx
         refine Z0 (Zc (Zh (ZC (ZB (ZA rfl rfl (ZG rfl) (ZA rfl rfl (R.inc rfl rfl (of_decide_eq_true c_28) (by decide)) (ZA rfl rfl (ZE rfl) (ZD ?_))))))))
         replace hx := Zp hd_28 hx
         refine ZN 2 rfl (ZN 2 rfl (ZN 2 rfl ?_))
         exact ZZ ⟨(s_23.1, s_23.2 + 1), H_26, ar_27, nr_27, cr_27, Kr_27, rfl, rfl, rfl, hx, (hleH_26), hr_27⟩ ⟨rfl, rfl, rfl, rfl, rfl, trivial⟩ rfl rfl
        ·
         replace hx := ZU c_55 hx
         refine ZX (ZC (ZF (JC.draw (so := [_, _, _]) 12 rfl Mixed ⟨⟨0, rfl⟩, ⟨1, rfl⟩, ⟨2, rfl⟩, trivial⟩ (JA.val ⟨by kernel_rfl, by kernel_rfl⟩ (ZI _) (i := 0) rfl ⟨by kernel_rfl, by kernel_rfl, rfl⟩ trivial (ZJ (Hle.refl _) ⟨⟨0, rfl⟩, ⟨1, rfl⟩, ⟨2, rfl⟩, trivial⟩) (Zg 0 (vs := [.slice aa_2 na_2 ca_2, .slice aa_3 na_3 ca_3, .slice aa_4 na_4 ca_4, .int .u32 (p_1.Epoch.toNat : Int), .int .u32 (p_1.Count.toNat : Int)]) S29 rfl rfl rfl rfl) rfl (JA.val ⟨by kernel_rfl, by kernel_rfl⟩ (ZI _) (i := 1) rfl ⟨by kernel_rfl, by kernel_rfl, rfl⟩ trivial (ZJ (Hle.refl _) ⟨⟨0, rfl⟩, ⟨1, rfl⟩, ⟨2, rfl⟩, trivial⟩) (ZG rfl) rfl (JA.val ⟨by kernel_rfl, by kernel_rfl⟩ (ZI _) (i := 2) rfl ⟨by kernel_rfl, by kernel_rfl, rfl⟩ trivial (ZJ (Hle.refl _) ⟨⟨0, rfl⟩, ⟨1, rfl⟩, ⟨2, rfl⟩, trivial⟩) (ZG rfl) rfl ?_))))))
         obtain ⟨y_56, hN_57, hx⟩ := Zl hx
         obtain ⟨b_58, o_59, cs_60, cur_65, hK_66, hE_61, hR_62, hl_63, hc_64⟩ := RowOf.elem (hr_17.mono R_Ptr.mono (New.mono hleH_26)) hN_57
         obtain ⟨rfl, rfl⟩ : b_31 = b_58 ∧ cur_38 = cur_65 := by simpa using hK_66
         obtain rfl := hR_62
         refine JA.val ⟨by kernel_rfl, by kernel_rfl⟩ (ZI _) (i := 3) rfl ⟨by kernel_rfl, by kernel_rfl, rfl⟩ trivial (ZJ (Hle.refl _) ⟨⟨0, rfl⟩, ⟨1, rfl⟩, ⟨2, rfl⟩, trivial⟩) (R.ix U34 S31 rfl rfl hE_61) rfl (JA.val ⟨by kernel_rfl, by kernel_rfl⟩ (ZI _) (i := 4) rfl ⟨by kernel_rfl, by kernel_rfl, rfl⟩ trivial (ZJ (Hle.refl _) ⟨⟨0, rfl⟩, ⟨1, rfl⟩, ⟨2, rfl⟩, trivial⟩) (R.ldoE 1 (cs := [.int .i64 y_56.At, .int .u32 (y_56.Birth.toNat : Int), .int .u32 (y_56.Iv.toNat : Int), .int .u32 (y_56.Tag.toNat : Int), .int .u32 (y_56.Sum.toNat : Int)]) (k := 0) (vs := [.int .i64 y_56.At, .int .u32 (y_56.Birth.toNat : Int), .int .u32 (y_56.Iv.toNat : Int), .int .u32 (y_56.Tag.toNat : Int), .int .u32 (y_56.Sum.toNat : Int)]) S31 rfl rfl hc_64 rfl rfl) rfl (JAA.start [⟨9, 12, 41, .agg #[.int .u8 0, .int .i64 0, .int .i64 0, .slice none 0 0]⟩] rfl (JAA.one (i := 5) ⟨⟨_, _, _, rfl, Z41, rfl⟩, trivial⟩ (Hle.refl _) ⟨⟨0, rfl⟩, ⟨1, rfl⟩, ⟨2, rfl⟩, trivial⟩ rfl (by kernel_rfl) (JOA.step rfl trivial rfl (fun tl_67 to_68 K hK => ?_)))))
         obtain ⟨x_69, hr_70, hx⟩ := ZM hx
         refine ZR (vs := [_, _]) (args := [_, _]) (K := []) (rst := _ :: _ :: _ :: to_68) E34 rfl rfl rfl ZL (ref15_One_ok p_1 y_56 _ (ha_2.mono (RSl.mono RU8.mono) hleH_26) (ha_3.mono R_Write.mono hleH_26) (ha_4.mono RU8.mono hleH_26) _ hr_70) rfl (fun u_71 Ku_71 Hu_71 hRu_71 hleu_71 hfu_71 => ?_)
         obtain ⟨ar_72, nr_72, cr_72, Kr_72, rfl, rfl, hr_72, hnewr_72, -⟩ := hRu_71
         replace hr_72 := (RowOf.base (Zo (H2 := New H Hu_71) R_Ptr.const hr_72) (fun p hp => (hfu_71 p (Zw 0 rfl hp)).resolve_left (hnewr_72 p hp)))
         refine ZD (hK (by repeat constructor) (by repeat constructor) (ZJ hleu_71 ⟨⟨1, rfl⟩, ⟨2, rfl⟩, ⟨3, rfl⟩, trivial⟩) (JAA.val ⟨by kernel_rfl, by kernel_rfl⟩ (ZI _) (i := 6) rfl (by kernel_rfl) rfl trivial hleu_71 ⟨⟨1, rfl⟩, ⟨2, rfl⟩, ⟨3, rfl⟩, trivial⟩ (ZG rfl) rfl (JAA.val ⟨by kernel_rfl, by kernel_rfl⟩ (ZI _) (i := 7) rfl (by kernel_rfl) rfl trivial hleu_71 ⟨⟨1, rfl⟩, ⟨2, rfl⟩, ⟨3, rfl⟩, trivial⟩ (R.extract rfl rfl) rfl (JAA.val ⟨by kernel_rfl, by kernel_rfl⟩ (ZI _) (i := 8) rfl (by kernel_rfl) rfl trivial hleu_71 ⟨⟨1, rfl⟩, ⟨2, rfl⟩, ⟨3, rfl⟩, trivial⟩ (R.extract rfl rfl) rfl (JAA.all ⟨⟨_, _, _, rfl, Z41, rfl⟩, trivial⟩ hleu_71 ⟨⟨1, rfl⟩, ⟨2, rfl⟩, ⟨3, rfl⟩, trivial⟩ rfl (by kernel_rfl) (fun b_73 hb_73 => JA.one (i := 10) (by kernel_rfl) (JO.step rfl trivial rfl (fun K hK => ZV 4 S41 rfl rfl rfl rfl rfl (Nat.le_of_ble_eq_true rfl) (ZD (hK _ _ _ (ZJ hleu_71 ⟨⟨1, rfl⟩, ⟨2, rfl⟩, ⟨3, rfl⟩, trivial⟩) (JA.val ⟨by kernel_rfl, by kernel_rfl⟩ (ZI _) (i := 11) rfl ⟨by kernel_rfl, by kernel_rfl, rfl⟩ trivial (ZJ hleu_71 ⟨⟨1, rfl⟩, ⟨2, rfl⟩, ⟨3, rfl⟩, trivial⟩) (ZE rfl) rfl ?_)))))))))))
         refine Zz (by kernel_rfl) (ZC (ZF (ZF (ZB (ZA rfl rfl (ZG rfl) (ZA rfl rfl (Zx rfl rfl) (ZD (ZC (ZW rfl (fun c_74 => ?_) (fun c_74 => ?_))))))))))
         ·
          replace hx := ZT c_74 hx
          refine ZF (ZB (ZA rfl rfl (ZG rfl) (ZA rfl rfl (ZE rfl) (ZA rfl rfl (ZE rfl) (ZD (ZC (ZS (ZP (Z9 (ZP ?_))))))))))
          obtain rfl := Zr hd_28 hx
          refine ZP (Z9 ?_)
          clear hx; have hx := hxo_21
          simp only [Sum.elim_inl, Sum.elim_inr] at hx
          refine ZP (ZP (Z8 (ZQ (vs := [.slice none 0 0, .int .i64 x_69.2]) (K := [_]) (rst := [_, _, _, _, _]) (.inl rfl) rfl rfl (ZO rfl (ZO rfl rfl)) (Zf 0 rfl ZL) ?_)))
          obtain rfl := Option.some.inj hx
          exact ⟨none, 0, 0, [], rfl, rfl, (Zi _ _ _ _ _), (fun p hp => by cases hp), trivial⟩
         ·
          replace hx := ZU c_74 hx
          refine ZX (ZC (ZF (ZB (ZA rfl rfl (ZG rfl) (ZA rfl rfl (ZG rfl) (ZA rfl rfl (ZG rfl) ?_))))))
          obtain ⟨y_75, hN_76, hx⟩ := Zl hx
          obtain ⟨b_77, o_78, cs_79, cur_84, hK_85, hE_80, hR_81, hl_82, hc_83⟩ := RowOf.elem (hr_17.mono R_Ptr.mono (New.mono (hleH_26.trans hleu_71))) hN_76
          obtain ⟨rfl, rfl⟩ : b_31 = b_77 ∧ cur_38 = cur_84 := by simpa using hK_85
          obtain rfl := hR_81
          refine ZA rfl rfl (R.ix U34 S31 rfl rfl hE_80) (ZA rfl rfl (R.ldoE 2 (cs := [.int .i64 y_75.At, .int .u32 (y_75.Birth.toNat : Int), .int .u32 (y_75.Iv.toNat : Int), .int .u32 (y_75.Tag.toNat : Int), .int .u32 (y_75.Sum.toNat : Int)]) (k := 0) (vs := [.int .i64 y_75.At, .int .u32 (y_75.Birth.toNat : Int), .int .u32 (y_75.Iv.toNat : Int), .int .u32 (y_75.Tag.toNat : Int), .int .u32 (y_75.Sum.toNat : Int)]) S31 rfl rfl hc_83 rfl rfl) (JL.bslF (HF := (New H Hu_71)) (R := R_Ptr) (ls := [y_75]) (vs := [.agg #[.int .i64 y_75.At, .int .u32 (y_75.Birth.toNat : Int), .int .u32 (y_75.Iv.toNat : Int), .int .u32 (y_75.Tag.toNat : Int), .int .u32 (y_75.Sum.toNat : Int)]]) U34 I31 rfl rfl (⟨_, _, rfl, rfl, rfl, rfl⟩) R_Ptr.one rfl rfl rfl (by simp [maxLen]) rfl (fun vr_86 Kr_86 hr_86 => ?_)))
          obtain ⟨ar_86, cr_86, rfl⟩ := RowOf.val hr_86
          obtain ⟨q_87, hm_88, hl_89, hx⟩ := YC hx
          refine JL.appF (HF := (New H Hu_71)) 4 U34 I31 rfl rfl (hr_27.mono R_Ptr.mono (New.mono hleu_71)) rfl (SrcF.row 0 U34 rfl hr_86) hm_88 hl_89 rfl (Nat.le_refl _) rfl (fun vr_90 Kr_90 hr_90 => ?_)
          obtain ⟨ar_90, cr_90, rfl⟩ := RowOf.val hr_90
          refine ZA rfl rfl (ZE rfl) (ZD (ZC (ZF (ZB (ZA rfl rfl (ZE rfl) (ZD (ZC ?_)))))))
          obtain ⟨t_91, ht_93, hx⟩ := ZM hx
          refine Z1 (fun l o g => ∃ ar_98 : Option Addr, ∃ nr_98 : Nat, ∃ cr_98 : Nat, ∃ Kr_98 : Own, l = [(2, .int .u32 (p_6.toNat : Int)), (3, .pointer (some ⟨b_7, 0, none⟩)), (8, .slice ar_17 nr_17 cr_17), (10, .slice ar_98 nr_98 cr_98), (11, .int .i64 ((s_23.2 : Nat) : Int))] ∧ o = [[(b_7, .cells #[.slice aa_2 na_2 ca_2, .slice aa_3 na_3 ca_3, .slice aa_4 na_4 ca_4, .int .u32 (p_1.Epoch.toNat : Int), .int .u32 (p_1.Count.toNat : Int)] 29 (0, 0))], [(b_31, .cells cur_38 31 (0, 0))], Kr_98] ∧ Hu_71 = g ∧ RowOf (New H Hu_71) R_Ptr w.heap.size 31 5 (.slice ar_98 nr_98 cr_98) t_91 Kr_98) ?_ ?_
          ·
           rintro _ _ _ ⟨ar_98, nr_98, cr_98, Kr_98, rfl, rfl, rfl, hr_98⟩
           refine Zm (ZC (ZB (ZA rfl rfl (ZG rfl) (ZA rfl rfl (R.inc rfl rfl (of_decide_eq_true c_28) (by decide)) (ZA rfl rfl (ZE rfl) (ZD ?_))))))
           replace hx := Zp hd_28 hx
           refine ZN 2 rfl (ZN 2 rfl (ZN 2 rfl ?_))
           exact ZZ ⟨(t_91, s_23.2 + 1), Hu_71, ar_98, nr_98, cr_98, Kr_98, rfl, rfl, rfl, hx, ((hleH_26.trans hleu_71)), hr_98⟩ ⟨rfl, rfl, rfl, rfl, rfl, trivial⟩ rfl rfl
          ·
           have hxo_92 := hx; clear hx; have hx := ht_93; clear ht_93
           refine JC.block (JC.forget 0 (Zj 4 rfl (Zj 4 rfl (Zj 4 rfl (Zj 4 rfl (Z5 (fun n l o g => ∃ s_94 : List Ptr × Nat, ∃ ar_97 : Option Addr, ∃ nr_97 : Nat, ∃ cr_97 : Nat, ∃ Kr_97 : Own, l = [(2, .int .u32 (p_6.toNat : Int)), (3, .pointer (some ⟨b_7, 0, none⟩)), (8, .slice ar_17 nr_17 cr_17), (10, .slice ar_97 nr_97 cr_97), (11, .int .i64 ((s_23.2 : Nat) : Int)), (12, .pointer (some ⟨b_73, 0, none⟩)), (14, .int .i64 ((s_94.2 : Nat) : Int))] ∧ o = [[(b_7, .cells #[.slice aa_2 na_2 ca_2, .slice aa_3 na_3 ca_3, .slice aa_4 na_4 ca_4, .int .u32 (p_1.Epoch.toNat : Int), .int .u32 (p_1.Count.toNat : Int)] 29 (0, 0))], [(b_31, .cells cur_38 31 (0, 0))], Kr_97, [(b_73, .cells #[.int .u8 (x_69.1.Kind.toNat : Int), .int .i64 x_69.1.Links, .int .i64 x_69.1.Size, .slice ar_72 nr_72 cr_72] 41 (0, 0))], Kr_72] ∧ Hu_71 = g ∧ run (ref15_Young_l1 p_6 x_69) n s_94 = some t_91 ∧ RowOf (New H Hu_71) R_Ptr w.heap.size 31 5 (.slice ar_97 nr_97 cr_97) s_94.1 Kr_97) FUEL ?_ ⟨(q_87, 0), ar_90, q_87.length, cr_90, Kr_90, rfl, rfl, rfl, hx, hr_90⟩ ⟨rfl, rfl, rfl, rfl, rfl, rfl, rfl, trivial⟩ ?_))))))
           ·
            rintro _ _ _ ⟨s_94, ar_97, nr_97, cr_97, Kr_97, rfl, rfl, rfl, hn_95, hr_97⟩
            exact Z2 hn_95
           ·
            rintro n_96 _ _ _ ⟨s_94, ar_97, nr_97, cr_97, Kr_97, rfl, rfl, rfl, hn_95, hr_97⟩
            clear hx; obtain ⟨oo_99, hx, hd_98⟩ := Z4 hn_95
            unfold ref15_Young_l1 at hx
            refine ZF (ZF (ZB (ZA rfl rfl (ZG rfl) (ZA rfl rfl (Zq F41_3 rfl) (ZA rfl rfl (Zd 3 S34 rfl rfl rfl) (ZA rfl rfl (Zs U34 rfl (RowOf.long hr_72)) (ZA rfl rfl (Zy rfl rfl) (ZD (ZC (ZW rfl (fun c_98 => ?_) (fun c_98 => ?_)))))))))))
            ·
             replace hx := ZT c_98 hx
             refine ZX (ZC (ZF (JC.block (ZF (ZB (ZA rfl rfl (Zq F41_3 rfl) (ZA rfl rfl (Zd 3 S34 rfl rfl rfl) (ZA rfl rfl (ZG rfl) ?_))))))))
             obtain ⟨y_99, hN_100, hx⟩ := Zl hx
             obtain ⟨b_101, o_102, cs_103, cur_108, hK_109, hE_104, hR_105, hl_106, hc_107⟩ := RowOf.elem hr_72 hN_100
             subst hK_109
             obtain rfl := hR_105
             refine ZA rfl rfl (R.ix U34 S31 rfl rfl hE_104) (ZA rfl rfl (R.ldoE 4 (cs := [.int .i64 y_99.At, .int .u32 (y_99.Birth.toNat : Int), .int .u32 (y_99.Iv.toNat : Int), .int .u32 (y_99.Tag.toNat : Int), .int .u32 (y_99.Sum.toNat : Int)]) (k := 0) (vs := [.int .i64 y_99.At, .int .u32 (y_99.Birth.toNat : Int), .int .u32 (y_99.Iv.toNat : Int), .int .u32 (y_99.Tag.toNat : Int), .int .u32 (y_99.Sum.toNat : Int)]) S31 rfl rfl hc_107 rfl rfl) ?_)
             obtain ⟨x_110, hr_111, hx⟩ := ZM hx
             refine ZR (vs := [_]) (args := [_]) (K := []) (rst := [_, _, _, _, _]) E61 rfl rfl rfl ZL (ref10_None_ok y_99 _ _ hr_111) rfl (fun u_112 Ku_112 Hu_112 hRu_112 hleu_112 hfu_112 => ?_)
             obtain ⟨rfl, rfl, rfl, -⟩ := hRu_112
             refine ZA rfl rfl (R.not rfl) (ZA rfl rfl (ZG rfl) (Ze (t := 85) rfl (fun c_113 => ?_) (fun c_113 => ?_)))
             ·
              replace hx := ZT c_113 hx
              refine ZK rfl rfl rfl (ZA rfl rfl (Zq F41_3 rfl) (ZK rfl rfl rfl (ZA rfl rfl (Zd 3 S34 rfl rfl rfl) (ZK rfl rfl rfl (ZA rfl rfl (ZG rfl) (ZK rfl rfl rfl ?_))))))
              obtain ⟨y_114, hN_115, hx⟩ := Zl hx
              obtain ⟨b_116, o_117, cs_118, cur_123, hK_124, hE_119, hR_120, hl_121, hc_122⟩ := RowOf.elem hr_72 hN_115
              obtain ⟨rfl, rfl⟩ : b_101 = b_116 ∧ cur_108 = cur_123 := by simpa using hK_124
              obtain rfl := hR_120
              refine ZA rfl rfl (R.ix U34 S31 rfl rfl hE_119) (ZK rfl rfl rfl (ZA rfl rfl (Zq F31_1 rfl) (ZK rfl rfl rfl (ZA rfl rfl (Zd 4 S27 rfl rfl (hc_122 1 _ rfl)) (ZK rfl rfl rfl (ZA rfl rfl (ZG rfl) (ZK rfl rfl rfl (ZA rfl rfl (R.gtr32 (a := y_114.Birth) (b := p_6) rfl rfl) (ZA rfl rfl (Zb rfl rfl) (ZD (ZC ?_)))))))))))
              refine ZW rfl (fun c_125 => ?_) (fun c_125 => ?_)
              ·
               replace hx := ZT c_125 hx
               refine ZB (ZA rfl rfl (ZG rfl) (ZA rfl rfl (Zq F41_3 rfl) (ZA rfl rfl (Zd 3 S34 rfl rfl rfl) (ZA rfl rfl (ZG rfl) ?_))))
               obtain ⟨y_126, hN_127, hx⟩ := Zl hx
               obtain ⟨b_128, o_129, cs_130, cur_135, hK_136, hE_131, hR_132, hl_133, hc_134⟩ := RowOf.elem hr_72 hN_127
               obtain ⟨rfl, rfl⟩ : b_101 = b_128 ∧ cur_108 = cur_135 := by simpa using hK_136
               obtain rfl := hR_132
               refine ZA rfl rfl (R.ix U34 S31 rfl rfl hE_131) (ZA rfl rfl (R.ldoE 4 (cs := [.int .i64 y_126.At, .int .u32 (y_126.Birth.toNat : Int), .int .u32 (y_126.Iv.toNat : Int), .int .u32 (y_126.Tag.toNat : Int), .int .u32 (y_126.Sum.toNat : Int)]) (k := 0) (vs := [.int .i64 y_126.At, .int .u32 (y_126.Birth.toNat : Int), .int .u32 (y_126.Iv.toNat : Int), .int .u32 (y_126.Tag.toNat : Int), .int .u32 (y_126.Sum.toNat : Int)]) S31 rfl rfl hc_134 rfl rfl) (JL.bslF (HF := (New H Hu_71)) (R := R_Ptr) (ls := [y_126]) (vs := [.agg #[.int .i64 y_126.At, .int .u32 (y_126.Birth.toNat : Int), .int .u32 (y_126.Iv.toNat : Int), .int .u32 (y_126.Tag.toNat : Int), .int .u32 (y_126.Sum.toNat : Int)]]) U34 I31 rfl rfl (⟨_, _, rfl, rfl, rfl, rfl⟩) R_Ptr.one rfl rfl rfl (by simp [maxLen]) rfl (fun vr_137 Kr_137 hr_137 => ?_)))
               obtain ⟨ar_137, cr_137, rfl⟩ := RowOf.val hr_137
               obtain ⟨q_138, hm_139, hl_140, hx⟩ := YC hx
               refine JL.appF (HF := (New H Hu_71)) 3 U34 I31 rfl rfl hr_97 rfl (SrcF.row 0 U34 rfl hr_137) hm_139 hl_140 rfl (Nat.le_refl _) rfl (fun vr_141 Kr_141 hr_141 => ?_)
               obtain ⟨ar_141, cr_141, rfl⟩ := RowOf.val hr_141
               refine ZA rfl rfl (ZE rfl) (ZD (Zm (ZC (ZB (ZA rfl rfl (ZG rfl) (ZA rfl rfl (R.inc rfl rfl (of_decide_eq_true c_98) (RowOf.lenI hr_72)) (ZA rfl rfl (ZE rfl) (ZD ?_))))))))
               replace hx := Zp hd_98 hx
               refine JN.forget 0 (ZN 4 rfl (ZN 4 rfl (ZN 4 rfl (ZN 4 rfl (ZN 4 rfl ?_)))))
               exact ZZ ⟨(q_138, s_94.2 + 1), ar_141, q_138.length, cr_141, Kr_141, rfl, rfl, rfl, hx, hr_141⟩ ⟨rfl, rfl, rfl, rfl, rfl, rfl, rfl, trivial⟩ rfl rfl
              ·
               replace hx := ZU c_125 hx
               refine ZX (Zm (ZC (ZB (ZA rfl rfl (ZG rfl) (ZA rfl rfl (R.inc rfl rfl (of_decide_eq_true c_98) (RowOf.lenI hr_72)) (ZA rfl rfl (ZE rfl) (ZD ?_)))))))
               replace hx := Zp hd_98 hx
               refine ZN 4 rfl (ZN 4 rfl (ZN 4 rfl (ZN 4 rfl (ZN 4 rfl ?_))))
               exact ZZ ⟨(s_94.1, s_94.2 + 1), ar_97, nr_97, cr_97, Kr_97, rfl, rfl, rfl, hx, hr_97⟩ ⟨rfl, rfl, rfl, rfl, rfl, rfl, rfl, trivial⟩ rfl rfl
             ·
              replace hx := ZU c_113 hx
              refine ZH rfl rfl rfl rfl rfl (ZH rfl rfl rfl rfl rfl (ZH rfl rfl rfl rfl rfl (ZH rfl rfl rfl rfl rfl (ZH rfl rfl rfl rfl rfl (ZH rfl rfl rfl rfl rfl (ZH rfl rfl rfl rfl rfl (ZH rfl rfl rfl rfl rfl (ZA rfl rfl (Za rfl rfl) (ZD (ZC (JC.condF rfl ?_)))))))))))
              refine ZX (Zm (ZC (ZB (ZA rfl rfl (ZG rfl) (ZA rfl rfl (R.inc rfl rfl (of_decide_eq_true c_98) (RowOf.lenI hr_72)) (ZA rfl rfl (ZE rfl) (ZD ?_)))))))
              replace hx := Zp hd_98 hx
              refine ZN 4 rfl (ZN 4 rfl (ZN 4 rfl (ZN 4 rfl (ZN 4 rfl ?_))))
              exact ZZ ⟨(s_94.1, s_94.2 + 1), ar_97, nr_97, cr_97, Kr_97, rfl, rfl, rfl, hx, hr_97⟩ ⟨rfl, rfl, rfl, rfl, rfl, rfl, rfl, trivial⟩ rfl rfl
            ·
             replace hx := ZU c_98 hx
             refine Z0 (Zc ?_)
             obtain rfl := Zr hd_98 hx
             refine Zc (Zh (JN.forget 4 (JN.forget 3 (ZN 2 rfl (ZN 2 rfl (ZN 2 rfl ?_))))))
             exact ZZ ⟨ar_97, nr_97, cr_97, Kr_97, rfl, rfl, rfl, hr_97⟩ ⟨rfl, rfl, rfl, rfl, rfl, trivial⟩ rfl rfl
      ·
       replace hx := ZU c_28 hx
       refine Z0 (Zc ?_)
       obtain rfl := Zr hd_28 hx
       refine Zc (Zh (JN.forget 1 (JN.forget 0 ?_)))
       exact ZZ ⟨s_23.1, H_26, ar_27, nr_27, cr_27, Kr_27, rfl, rfl, rfl, rfl, (hleH_26), hr_27⟩ ⟨rfl, trivial⟩ rfl rfl

set_option maxHeartbeats 8000000 in
theorem ref15_Walk_ok (p_1 : Store) (p_5 : Ptr) (p_6 : UInt32) (H : Heaplet) {aa_2 : Option Addr} {na_2 : Nat} {ca_2 : Nat} {aa_3 : Option Addr} {na_3 : Nat} {ca_3 : Nat} {aa_4 : Option Addr} {na_4 : Nat} {ca_4 : Nat} (ha_2 : IsSlice H (RSl RU8 1) 1 (.slice aa_2 na_2 ca_2) p_1.Disk.Blocks) (ha_3 : IsSlice H R_Write 2 (.slice aa_3 na_3 ca_3) p_1.Disk.Waits) (ha_4 : IsSlice H RU8 1 (.slice aa_4 na_4 ca_4) p_1.Space) (r : List Ptr × Int) (hx : ref15_Walk p_1 p_5 p_6 = some r) :
  Does Tryz.prog 13 #[.agg #[.slice aa_2 na_2 ca_2, .slice aa_3 na_3 ca_3, .slice aa_4 na_4 ca_4, .int .u32 (p_1.Epoch.toNat : Int), .int .u32 (p_1.Count.toNat : Int)], .agg #[.int .i64 p_5.At, .int .u32 (p_5.Birth.toNat : Int), .int .u32 (p_5.Iv.toNat : Int), .int .u32 (p_5.Tag.toNat : Int), .int .u32 (p_5.Sum.toNat : Int)], .int .u32 (p_6.toNat : Int)] [] H (fun u K' H' => ∃ ao0 : Option Addr, ∃ n0 : Nat, ∃ cap0 : Nat, ∃ K0 : Own, u = .tuple #[.slice ao0 n0 cap0, .int .i64 r.2] ∧ K' = [K0] ∧ RowOf (New H H') R_Ptr 0 31 5 (.slice ao0 n0 cap0) r.1 K0 ∧ (∀ p ∈ K0, p.1 ∉ ids (List.flatten [])) ∧ True) := by
 refine Does.enterL (vs := [.agg #[.slice aa_2 na_2 ca_2, .slice aa_3 na_3 ca_3, .slice aa_4 na_4 ca_4, .int .u32 (p_1.Epoch.toNat : Int), .int .u32 (p_1.Count.toNat : Int)], .agg #[.int .i64 p_5.At, .int .u32 (p_5.Birth.toNat : Int), .int .u32 (p_5.Iv.toNat : Int), .int .u32 (p_5.Tag.toNat : Int), .int .u32 (p_5.Sum.toNat : Int)], .int .u32 (p_6.toNat : Int)]) (l := [(0, .agg #[.slice aa_2 na_2 ca_2, .slice aa_3 na_3 ca_3, .slice aa_4 na_4 ca_4, .int .u32 (p_1.Epoch.toNat : Int), .int .u32 (p_1.Count.toNat : Int)]), (1, .agg #[.int .i64 p_5.At, .int .u32 (p_5.Birth.toNat : Int), .int .u32 (p_5.Iv.toNat : Int), .int .u32 (p_5.Tag.toNat : Int), .int .u32 (p_5.Sum.toNat : Int)]), (2, .int .u32 (p_6.toNat : Int))]) Tryz.func13 rfl rfl ⟨rfl, rfl, rfl, trivial⟩ (fun w hlt => ?_)
 unfold ref15_Walk at hx
 refine ZF (ZB (Zv rfl rfl (fun b_7 hb_7 => Zv rfl rfl (fun b_8 hb_8 => ZA rfl rfl (ZE rfl) (ZA rfl rfl (ZE rfl) (ZD (ZC (ZF (ZF (ZB (ZA rfl rfl (Zg 1 (vs := [.slice aa_2 na_2 ca_2, .slice aa_3 na_3 ca_3, .slice aa_4 na_4 ca_4, .int .u32 (p_1.Epoch.toNat : Int), .int .u32 (p_1.Count.toNat : Int)]) S29 rfl rfl rfl rfl) ?_)))))))))))
 refine ZA rfl rfl (Zg 0 (vs := [.int .i64 p_5.At, .int .u32 (p_5.Birth.toNat : Int), .int .u32 (p_5.Iv.toNat : Int), .int .u32 (p_5.Tag.toNat : Int), .int .u32 (p_5.Sum.toNat : Int)]) S31 rfl rfl rfl rfl) ?_
 obtain ⟨x_9, hr_10, hx⟩ := ZM hx
 refine ZR (vs := [_, _]) (args := [_, _]) (K := []) (rst := [_, _]) E31 rfl rfl rfl ZL (ref15_may_ok p_1 p_5 _ ha_2 ha_3 ha_4 _ hr_10) rfl (fun u_11 Ku_11 Hu_11 hRu_11 hleu_11 hfu_11 => ?_)
 obtain ⟨rfl, rfl, rfl, -⟩ := hRu_11
 refine ZA rfl rfl (R.not rfl) (ZD (ZC (ZW rfl (fun c_12 => ?_) (fun c_12 => ?_))))
 ·
  replace hx := ZT c_12 hx
  refine ZF (ZB (ZA rfl rfl (ZE rfl) (ZA rfl rfl (ZE rfl) (ZD (ZC (ZS (ZP (Z8 (ZQ (vs := [.slice none 0 0, .int .i64 8]) (K := [_]) (rst := [_, _]) (.inl rfl) rfl rfl (ZO rfl (ZO rfl rfl)) (Zf 0 rfl ZL) ?_)))))))))
  obtain rfl := Option.some.inj hx
  exact ⟨none, 0, 0, [], rfl, rfl, (Zi _ _ _ _ _), (fun p hp => by cases hp), trivial⟩
 ·
  replace hx := ZU c_12 hx
  refine ZX (ZC (ZF (ZB (ZA rfl rfl (Zg 1 (vs := [.slice aa_2 na_2 ca_2, .slice aa_3 na_3 ca_3, .slice aa_4 na_4 ca_4, .int .u32 (p_1.Epoch.toNat : Int), .int .u32 (p_1.Count.toNat : Int)]) S29 rfl rfl rfl rfl) (ZA rfl rfl (Zg 0 (vs := [.int .i64 p_5.At, .int .u32 (p_5.Birth.toNat : Int), .int .u32 (p_5.Iv.toNat : Int), .int .u32 (p_5.Tag.toNat : Int), .int .u32 (p_5.Sum.toNat : Int)]) S31 rfl rfl rfl rfl) (ZA rfl rfl (ZG rfl) ?_))))))
  obtain ⟨x_13, hr_14, hx⟩ := ZM hx
  refine ZR (vs := [_, _, _]) (args := [_, _, _]) (K := []) (rst := [_, _]) E37 rfl rfl rfl ZL (ref15_Young_ok p_1 p_5 p_6 _ ha_2 ha_3 ha_4 _ hr_14) rfl (fun u_15 Ku_15 Hu_15 hRu_15 hleu_15 hfu_15 => ?_)
  obtain ⟨ar_16, nr_16, cr_16, Kr_16, rfl, rfl, hr_16, hnewr_16, -⟩ := hRu_15
  replace hr_16 := (RowOf.base (Zo (H2 := New H Hu_15) R_Ptr.const hr_16) (fun p hp => (hfu_15 p (Zw 0 rfl hp)).resolve_left (hnewr_16 p hp)))
  refine ZA rfl rfl (R.extract rfl rfl) (ZA rfl rfl (R.extract rfl rfl) (ZA rfl rfl (ZE rfl) (ZA rfl rfl (ZE rfl) (ZD (ZC (ZS (ZQ (vs := [.slice ar_16 nr_16 cr_16, .int .i64 x_13.2]) (K := [_]) (rst := [_, _]) (.inl rfl) rfl rfl (ZO rfl (ZO rfl rfl)) (Zf 0 rfl ZL) ?_)))))))
  obtain rfl := Option.some.inj hx
  exact ⟨ar_16, nr_16, cr_16, Kr_16, rfl, rfl, (Zt (Nat.zero_le _) hr_16), (new_ids hr_16 hlt), trivial⟩

set_option maxHeartbeats 8000000 in
theorem ref10_Same_ok (p_1 : List Ptr) (p_3 : List Ptr) (H : Heaplet) {aa_2 : Option Addr} {na_2 : Nat} {ca_2 : Nat} {aa_4 : Option Addr} {na_4 : Nat} {ca_4 : Nat} (ha_2 : IsSlice H R_Ptr 5 (.slice aa_2 na_2 ca_2) p_1) (ha_4 : IsSlice H R_Ptr 5 (.slice aa_4 na_4 ca_4) p_3) (r : Bool) (hx : ref10_Same p_1 p_3 = some r) :
  Does Tryz.prog 14 #[.slice aa_2 na_2 ca_2, .slice aa_4 na_4 ca_4] [] H (fun u K' H' => u = .bool r ∧ K' = [] ∧ H = H' ∧ True) := by
 refine Does.enterL (vs := [.slice aa_2 na_2 ca_2, .slice aa_4 na_4 ca_4]) (l := [(0, .slice aa_2 na_2 ca_2), (1, .slice aa_4 na_4 ca_4)]) Tryz.func14 rfl rfl ⟨rfl, rfl, trivial⟩ (fun w hlt => ?_)
 unfold ref10_Same at hx
 refine ZF (ZB (ZA rfl rfl (ZE rfl) (ZD (ZC (ZF (ZF (ZB (ZA rfl rfl (ZG rfl) (ZA rfl rfl (Zs U34 rfl (IsSlice.long ha_2)) (ZA rfl rfl (ZG rfl) (ZA rfl rfl (Zs U34 rfl (IsSlice.long ha_4)) ?_)))))))))))
 refine ZA rfl rfl (Zx rfl rfl) (ZD (ZC (ZW rfl (fun c_5 => ?_) (fun c_5 => ?_))))
 ·
  replace hx := ZT c_5 hx
  refine ZF (ZB (ZA rfl rfl (ZE rfl) (ZD (ZC (ZS (ZP (ZQ (vs := [.bool false]) (K := []) (rst := []) (.inl rfl) rfl rfl (ZO rfl rfl) ZL ?_)))))))
  obtain rfl := Option.some.inj hx
  exact ⟨rfl, rfl, rfl, trivial⟩
 ·
  replace hx := ZU c_5 hx
  refine ZX (ZC (ZF (ZF (ZB (ZA rfl rfl (ZE rfl) (ZD (ZC ?_)))))))
  obtain ⟨t_6, ht_8, hx⟩ := ZM hx
  refine Z1 (fun l o g => ∃ t_6a : Unit, l = [] ∧ o = [] ∧ H = g ∧ t_6 = .inl t_6a) ?_ ?_
  ·
   rintro _ _ _ ⟨t_6a, rfl, rfl, rfl, rfl⟩
   simp only [Sum.elim_inl] at hx
   refine ZC (ZF (ZB (ZA rfl rfl (ZE rfl) (ZD (ZC (ZS (ZQ (vs := [.bool true]) (K := []) (rst := []) (.inl rfl) rfl rfl (ZO rfl rfl) ZL ?_)))))))
   obtain rfl := Option.some.inj hx
   exact ⟨rfl, rfl, rfl, trivial⟩
  ·
   have hxo_7 := hx; clear hx; have hx := ht_8; clear ht_8
   refine JC.block (Z5 (fun n l o g => ∃ s_9 : Nat, l = [(0, .slice aa_2 na_2 ca_2), (1, .slice aa_4 na_4 ca_4), (5, .int .i64 ((s_9 : Nat) : Int))] ∧ o = [] ∧ H = g ∧ run (ref10_Same_l1 p_1 p_3) n s_9 = some t_6) FUEL ?_ ⟨0, rfl, rfl, rfl, hx⟩ ⟨rfl, rfl, rfl, trivial⟩ ?_)
   ·
    rintro _ _ _ ⟨s_9, rfl, rfl, rfl, hn_10⟩
    exact Z2 hn_10
   ·
    rintro n_11 _ _ _ ⟨s_9, rfl, rfl, rfl, hn_10⟩
    clear hx; obtain ⟨oo_13, hx, hd_12⟩ := Z4 hn_10
    unfold ref10_Same_l1 at hx
    refine ZF (ZF (ZB (ZA rfl rfl (ZG rfl) (ZA rfl rfl (ZG rfl) (ZA rfl rfl (Zs U34 rfl (IsSlice.long ha_2)) (ZA rfl rfl (Zy rfl rfl) (ZD (ZC (ZW rfl (fun c_12 => ?_) (fun c_12 => ?_))))))))))
    ·
     replace hx := ZT c_12 hx
     refine ZX (ZC (ZF (JC.block (ZF (JC.draw (so := []) 9 rfl Mixed trivial (JA.val ⟨by kernel_rfl, by kernel_rfl⟩ (ZI _) (i := 0) rfl ⟨by kernel_rfl, by kernel_rfl, rfl⟩ trivial (ZJ (Hle.refl _) trivial) (ZG rfl) rfl (JA.val ⟨by kernel_rfl, by kernel_rfl⟩ (ZI _) (i := 1) rfl ⟨by kernel_rfl, by kernel_rfl, rfl⟩ trivial (ZJ (Hle.refl _) trivial) (ZG rfl) rfl ?_)))))))
     obtain ⟨y_13, hN_14, hx⟩ := Zl hx
     obtain ⟨b_15, o_16, cs_17, hE_18, hR_19, hl_20, hc_21⟩ := IsSlice.elem ha_2 hN_14
     obtain rfl := hR_19
     refine JA.val ⟨by kernel_rfl, by kernel_rfl⟩ (ZI _) (i := 2) rfl ⟨by kernel_rfl, by kernel_rfl, rfl⟩ trivial (ZJ (Hle.refl _) trivial) (R.ix U34 S31 rfl rfl hE_18) rfl (JA.val ⟨by kernel_rfl, by kernel_rfl⟩ (ZI _) (i := 3) rfl ⟨by kernel_rfl, by kernel_rfl, rfl⟩ trivial (ZJ (Hle.refl _) trivial) (R.ldHE (cs := [.int .i64 y_13.At, .int .u32 (y_13.Birth.toNat : Int), .int .u32 (y_13.Iv.toNat : Int), .int .u32 (y_13.Tag.toNat : Int), .int .u32 (y_13.Sum.toNat : Int)]) (k := 0) (vs := [.int .i64 y_13.At, .int .u32 (y_13.Birth.toNat : Int), .int .u32 (y_13.Iv.toNat : Int), .int .u32 (y_13.Tag.toNat : Int), .int .u32 (y_13.Sum.toNat : Int)]) S31 rfl hc_21 rfl rfl) rfl (JA.val ⟨by kernel_rfl, by kernel_rfl⟩ (ZI _) (i := 4) rfl ⟨by kernel_rfl, by kernel_rfl, rfl⟩ trivial (ZJ (Hle.refl _) trivial) (ZG rfl) rfl (JA.val ⟨by kernel_rfl, by kernel_rfl⟩ (ZI _) (i := 5) rfl ⟨by kernel_rfl, by kernel_rfl, rfl⟩ trivial (ZJ (Hle.refl _) trivial) (ZG rfl) rfl ?_)))
     obtain ⟨y_22, hN_23, hx⟩ := Zl hx
     obtain ⟨b_24, o_25, cs_26, hE_27, hR_28, hl_29, hc_30⟩ := IsSlice.elem ha_4 hN_23
     obtain rfl := hR_28
     refine JA.val ⟨by kernel_rfl, by kernel_rfl⟩ (ZI _) (i := 6) rfl ⟨by kernel_rfl, by kernel_rfl, rfl⟩ trivial (ZJ (Hle.refl _) trivial) (R.ix U34 S31 rfl rfl hE_27) rfl (JA.val ⟨by kernel_rfl, by kernel_rfl⟩ (ZI _) (i := 7) rfl ⟨by kernel_rfl, by kernel_rfl, rfl⟩ trivial (ZJ (Hle.refl _) trivial) (R.ldHE (cs := [.int .i64 y_22.At, .int .u32 (y_22.Birth.toNat : Int), .int .u32 (y_22.Iv.toNat : Int), .int .u32 (y_22.Tag.toNat : Int), .int .u32 (y_22.Sum.toNat : Int)]) (k := 0) (vs := [.int .i64 y_22.At, .int .u32 (y_22.Birth.toNat : Int), .int .u32 (y_22.Iv.toNat : Int), .int .u32 (y_22.Tag.toNat : Int), .int .u32 (y_22.Sum.toNat : Int)]) S31 rfl hc_30 rfl rfl) rfl (JA.val ⟨by kernel_rfl, by kernel_rfl⟩ (ZI _) (i := 8) rfl ⟨by kernel_rfl, by kernel_rfl, rfl⟩ trivial (ZJ (Hle.refl _) trivial) (R.neqAgg QU31 QP31 QG31 QF31 rfl rfl (EqF.i (by decide) S3 U3 rfl rfl (EqF.u32 (a := y_13.Birth) (b := y_22.Birth) (by decide) S27 U27 rfl rfl (EqF.u32 (a := y_13.Iv) (b := y_22.Iv) (by decide) S27 U27 rfl rfl (EqF.u32 (a := y_13.Tag) (b := y_22.Tag) (by decide) S27 U27 rfl rfl (EqF.u32 (a := y_13.Sum) (b := y_22.Sum) (by decide) S27 U27 rfl rfl EqF.nil)))))) rfl (Zz (by kernel_rfl) (ZC (ZW rfl (fun c_31 => ?_) (fun c_31 => ?_))))))
     ·
      replace hx := ZT c_31 hx
      refine ZF (ZB (ZA rfl rfl (ZE rfl) (ZD (ZC (ZS (Z9 (ZP ?_)))))))
      obtain rfl := Zr hd_12 hx
      refine ZP (Z9 ?_)
      clear hx; have hx := hxo_7
      simp only [Sum.elim_inl, Sum.elim_inr] at hx
      refine ZP (ZP (ZQ (vs := [.bool false]) (K := []) (rst := []) (.inl rfl) rfl rfl (ZO rfl rfl) ZL ?_))
      obtain rfl := Option.some.inj hx
      exact ⟨rfl, rfl, rfl, trivial⟩
     ·
      replace hx := ZU c_31 hx
      refine ZX (Zm (ZC (ZB (ZA rfl rfl (ZG rfl) (ZA rfl rfl (R.inc rfl rfl (of_decide_eq_true c_12) (IsSlice.lenI ha_2)) (ZA rfl rfl (ZE rfl) (ZD ?_)))))))
      replace hx := Zp hd_12 hx
      exact ZZ ⟨s_9 + 1, rfl, rfl, rfl, hx⟩ ⟨rfl, rfl, rfl, trivial⟩ rfl rfl
    ·
     replace hx := ZU c_12 hx
     refine Z0 (Zc ?_)
     obtain rfl := Zr hd_12 hx
     refine Zc (Zh ?_)
     exact ZZ ⟨(), rfl, rfl, rfl, rfl⟩ trivial rfl rfl

set_option maxHeartbeats 8000000 in
theorem ref14_Same_ok (p_1 : Object) (p_3 : Object) (H : Heaplet) {aa_2 : Option Addr} {na_2 : Nat} {ca_2 : Nat} {aa_4 : Option Addr} {na_4 : Nat} {ca_4 : Nat} (ha_2 : IsSlice H R_Ptr 5 (.slice aa_2 na_2 ca_2) p_1.Data) (ha_4 : IsSlice H R_Ptr 5 (.slice aa_4 na_4 ca_4) p_3.Data) (r : Bool) (hx : ref14_Same p_1 p_3 = some r) :
  Does Tryz.prog 15 #[.agg #[.int .u8 (p_1.Kind.toNat : Int), .int .i64 p_1.Links, .int .i64 p_1.Size, .slice aa_2 na_2 ca_2], .agg #[.int .u8 (p_3.Kind.toNat : Int), .int .i64 p_3.Links, .int .i64 p_3.Size, .slice aa_4 na_4 ca_4]] [] H (fun u K' H' => u = .bool r ∧ K' = [] ∧ H = H' ∧ True) := by
 refine Does.enterL (vs := [.agg #[.int .u8 (p_1.Kind.toNat : Int), .int .i64 p_1.Links, .int .i64 p_1.Size, .slice aa_2 na_2 ca_2], .agg #[.int .u8 (p_3.Kind.toNat : Int), .int .i64 p_3.Links, .int .i64 p_3.Size, .slice aa_4 na_4 ca_4]]) (l := [(0, .agg #[.int .u8 (p_1.Kind.toNat : Int), .int .i64 p_1.Links, .int .i64 p_1.Size, .slice aa_2 na_2 ca_2]), (1, .agg #[.int .u8 (p_3.Kind.toNat : Int), .int .i64 p_3.Links, .int .i64 p_3.Size, .slice aa_4 na_4 ca_4])]) Tryz.func15 rfl rfl ⟨rfl, rfl, trivial⟩ (fun w hlt => ?_)
 unfold ref14_Same at hx
 refine ZF (ZB (Zv rfl rfl (fun b_5 hb_5 => Zv rfl rfl (fun b_6 hb_6 => ZA rfl rfl (ZE rfl) (ZD (ZC (ZF ?_)))))))
 obtain ⟨t_7, ht_9, hx⟩ := ZM hx
 refine Z1 (fun l o g => l = [(4, .bool t_7)] ∧ o = [] ∧ H = g) ?_ ?_
 ·
  rintro _ _ _ ⟨rfl, rfl, rfl⟩
  refine ZC (ZS (ZQ (vs := [.bool t_7]) (K := []) (rst := []) (.inl rfl) rfl rfl (ZO rfl rfl) ZL ?_))
  obtain rfl := Option.some.inj hx
  exact ⟨rfl, rfl, rfl, trivial⟩
 ·
  have hxo_8 := hx; clear hx; have hx := ht_9; clear ht_9
  refine ZB (ZA rfl rfl (Zq F41_0 rfl) (ZA rfl rfl (Zd 1 S5 rfl rfl rfl) (ZA rfl rfl (Zq F41_0 rfl) (ZA rfl rfl (Zd 0 S5 rfl rfl rfl) (ZA rfl rfl (R.eql8 (a := p_1.Kind) (b := p_3.Kind) rfl rfl) (ZA rfl rfl (ZG rfl) (Ze (t := 10) rfl (fun c_10 => ?_) (fun c_10 => ?_))))))))
  ·
   replace hx := ZT c_10 hx
   refine ZK rfl rfl rfl (ZA rfl rfl (Zq F41_1 rfl) (ZK rfl rfl rfl (ZA rfl rfl (Zd 1 S3 rfl rfl rfl) (ZK rfl rfl rfl (ZA rfl rfl (Zq F41_1 rfl) (ZK rfl rfl rfl (ZA rfl rfl (Zd 0 S3 rfl rfl rfl) (ZK rfl rfl rfl (ZA rfl rfl (R.eql_i rfl rfl) (ZA rfl rfl (Zb rfl rfl) (ZA rfl rfl (ZG rfl) ?_)))))))))))
   refine Ze (t := 17) rfl (fun c_11 => ?_) (fun c_11 => ?_)
   ·
    replace hx := ZT c_11 hx
    refine ZK rfl rfl rfl (ZA rfl rfl (Zq F41_2 rfl) (ZK rfl rfl rfl (ZA rfl rfl (Zd 1 S3 rfl rfl rfl) (ZK rfl rfl rfl (ZA rfl rfl (Zq F41_2 rfl) (ZK rfl rfl rfl (ZA rfl rfl (Zd 0 S3 rfl rfl rfl) (ZK rfl rfl rfl (ZA rfl rfl (R.eql_i rfl rfl) (ZA rfl rfl (Zb rfl rfl) (ZA rfl rfl (ZG rfl) ?_)))))))))))
    refine Ze (t := 24) rfl (fun c_12 => ?_) (fun c_12 => ?_)
    ·
     replace hx := ZT c_12 hx
     refine ZK rfl rfl rfl (ZA rfl rfl (Zq F41_3 rfl) (ZK rfl rfl rfl (ZA rfl rfl (Zd 1 S34 rfl rfl rfl) (ZK rfl rfl rfl (ZA rfl rfl (Zq F41_3 rfl) (ZK rfl rfl rfl (ZA rfl rfl (Zd 0 S34 rfl rfl rfl) (ZK rfl rfl rfl ?_))))))))
     obtain ⟨x_13, hr_14, hx⟩ := ZM hx
     refine ZR (vs := [_, _]) (args := [_, _]) (K := []) (rst := [_, _]) E14 rfl rfl rfl ZL (ref10_Same_ok p_1.Data p_3.Data _ ha_2 ha_4 _ hr_14) rfl (fun u_15 Ku_15 Hu_15 hRu_15 hleu_15 hfu_15 => ?_)
     obtain ⟨rfl, rfl, rfl, -⟩ := hRu_15
     refine ZA rfl rfl (Zb rfl rfl) (ZA rfl rfl (ZE rfl) (ZD ?_))
     obtain rfl := Option.some.inj hx
     refine JN.forget 1 (JN.forget 0 ?_)
     exact ZZ ⟨rfl, rfl, rfl⟩ ⟨rfl, trivial⟩ rfl rfl
    ·
     replace hx := ZU c_12 hx
     refine ZH rfl rfl rfl rfl rfl (ZH rfl rfl rfl rfl rfl (ZH rfl rfl rfl rfl rfl (ZH rfl rfl rfl rfl rfl (ZH rfl rfl rfl rfl rfl (ZA rfl rfl (Za rfl rfl) (ZA rfl rfl (ZE rfl) (ZD ?_)))))))
     obtain rfl := Option.some.inj hx
     refine JN.forget 1 (JN.forget 0 ?_)
     exact ZZ ⟨rfl, rfl, rfl⟩ ⟨rfl, trivial⟩ rfl rfl
   ·
    replace hx := ZU c_11 hx
    refine ZH rfl rfl rfl rfl rfl (ZH rfl rfl rfl rfl rfl (ZH rfl rfl rfl rfl rfl (ZH rfl rfl rfl rfl rfl (ZH rfl rfl rfl rfl rfl (ZA rfl rfl (Za rfl rfl) (ZA rfl rfl (ZG rfl) (ZH rfl rfl rfl rfl rfl (ZH rfl rfl rfl rfl rfl (ZH rfl rfl rfl rfl rfl (ZH rfl rfl rfl rfl rfl (ZH rfl rfl rfl rfl rfl ?_)))))))))))
    refine ZA rfl rfl (Za rfl rfl) (ZA rfl rfl (ZE rfl) (ZD ?_))
    obtain rfl := Option.some.inj hx
    refine JN.forget 1 (JN.forget 0 ?_)
    exact ZZ ⟨rfl, rfl, rfl⟩ ⟨rfl, trivial⟩ rfl rfl
  ·
   replace hx := ZU c_10 hx
   refine ZH rfl rfl rfl rfl rfl (ZH rfl rfl rfl rfl rfl (ZH rfl rfl rfl rfl rfl (ZH rfl rfl rfl rfl rfl (ZH rfl rfl rfl rfl rfl (ZA rfl rfl (Za rfl rfl) (ZA rfl rfl (ZG rfl) (ZH rfl rfl rfl rfl rfl (ZH rfl rfl rfl rfl rfl (ZH rfl rfl rfl rfl rfl (ZH rfl rfl rfl rfl rfl (ZH rfl rfl rfl rfl rfl ?_)))))))))))
   refine ZA rfl rfl (Za rfl rfl) (ZA rfl rfl (ZG rfl) (ZH rfl rfl rfl rfl rfl (ZH rfl rfl rfl rfl rfl (ZH rfl rfl rfl rfl rfl (ZH rfl rfl rfl rfl rfl (ZH rfl rfl rfl rfl rfl (ZA rfl rfl (Za rfl rfl) (ZA rfl rfl (ZE rfl) (ZD ?_)))))))))
   obtain rfl := Option.some.inj hx
   refine JN.forget 1 (JN.forget 0 ?_)
   exact ZZ ⟨rfl, rfl, rfl⟩ ⟨rfl, trivial⟩ rfl rfl

set_option maxHeartbeats 8000000 in
theorem ref09_Same_ok (p_1 : Disk) (p_4 : Disk) (H : Heaplet) {aa_2 : Option Addr} {na_2 : Nat} {ca_2 : Nat} {aa_3 : Option Addr} {na_3 : Nat} {ca_3 : Nat} {aa_5 : Option Addr} {na_5 : Nat} {ca_5 : Nat} {aa_6 : Option Addr} {na_6 : Nat} {ca_6 : Nat} (ha_2 : IsSlice H (RSl RU8 1) 1 (.slice aa_2 na_2 ca_2) p_1.Blocks) (ha_3 : IsSlice H R_Write 2 (.slice aa_3 na_3 ca_3) p_1.Waits) (ha_5 : IsSlice H (RSl RU8 1) 1 (.slice aa_5 na_5 ca_5) p_4.Blocks) (ha_6 : IsSlice H R_Write 2 (.slice aa_6 na_6 ca_6) p_4.Waits) (r : Bool) (hx : ref09_Same p_1 p_4 = some r) :
  Does Tryz.prog 38 #[.agg #[.slice aa_2 na_2 ca_2, .slice aa_3 na_3 ca_3], .agg #[.slice aa_5 na_5 ca_5, .slice aa_6 na_6 ca_6]] [] H (fun u K' H' => u = .bool r ∧ K' = [] ∧ H = H' ∧ True) := by
 refine Does.enterL (vs := [.agg #[.slice aa_2 na_2 ca_2, .slice aa_3 na_3 ca_3], .agg #[.slice aa_5 na_5 ca_5, .slice aa_6 na_6 ca_6]]) (l := [(0, .agg #[.slice aa_2 na_2 ca_2, .slice aa_3 na_3 ca_3]), (1, .agg #[.slice aa_5 na_5 ca_5, .slice aa_6 na_6 ca_6])]) Tryz.func38 rfl rfl ⟨rfl, rfl, trivial⟩ (fun w hlt => ?_)
 unfold ref09_Same at hx
 refine ZF (ZB (Zv rfl rfl (fun b_7 hb_7 => Zv rfl rfl (fun b_8 hb_8 => ZA rfl rfl (ZE rfl) (ZD (ZC (ZF (ZF (ZB (ZA rfl rfl (Zq F25_0 rfl) (ZA rfl rfl (Zd 1 S22 rfl rfl rfl) ?_)))))))))))
 refine ZA rfl rfl (Zs U22 rfl (IsSlice.long ha_2)) (ZA rfl rfl (Zq F25_0 rfl) (ZA rfl rfl (Zd 0 S22 rfl rfl rfl) (ZA rfl rfl (Zs U22 rfl (IsSlice.long ha_5)) (ZA rfl rfl (Zx rfl rfl) (ZA rfl rfl (ZG rfl) (Ze (t := 17) rfl (fun c_9 => ?_) (fun c_9 => ?_)))))))
 ·
  replace hx := ZT c_9 hx
  refine ZH rfl rfl rfl rfl rfl (ZH rfl rfl rfl rfl rfl (ZH rfl rfl rfl rfl rfl (ZH rfl rfl rfl rfl rfl (ZH rfl rfl rfl rfl rfl (ZH rfl rfl rfl rfl rfl (ZH rfl rfl rfl rfl rfl (ZA rfl rfl (Zb rfl rfl) (ZD (ZC (Zu rfl (ZF ?_)))))))))))
  refine ZB (ZA rfl rfl (ZE rfl) (ZD (ZC (ZS (ZP (ZQ (vs := [.bool false]) (K := []) (rst := [_, _]) (.inl rfl) rfl rfl (ZO rfl rfl) ZL ?_))))))
  obtain rfl := Option.some.inj hx
  exact ⟨rfl, rfl, rfl, trivial⟩
 ·
  replace hx := ZU c_9 hx
  refine ZK rfl rfl rfl (ZA rfl rfl (Zq F25_1 rfl) (ZK rfl rfl rfl (ZA rfl rfl (Zd 1 S23 rfl rfl rfl) (ZK rfl rfl rfl (ZA rfl rfl (Zs U23 rfl (IsSlice.long ha_3)) (ZK rfl rfl rfl (ZA rfl rfl (Zq F25_1 rfl) (ZK rfl rfl rfl (ZA rfl rfl (Zd 0 S23 rfl rfl rfl) (ZK rfl rfl rfl (ZA rfl rfl (Zs U23 rfl (IsSlice.long ha_6)) ?_)))))))))))
  refine ZK rfl rfl rfl (ZA rfl rfl (Zx rfl rfl) (ZA rfl rfl (Za rfl rfl) (ZD (ZC (ZW rfl (fun c_10 => ?_) (fun c_10 => ?_))))))
  ·
   replace hx := ZT c_10 hx
   refine ZF (ZB (ZA rfl rfl (ZE rfl) (ZD (ZC (ZS (ZP (ZQ (vs := [.bool false]) (K := []) (rst := [_, _]) (.inl rfl) rfl rfl (ZO rfl rfl) ZL ?_)))))))
   obtain rfl := Option.some.inj hx
   exact ⟨rfl, rfl, rfl, trivial⟩
  ·
   replace hx := ZU c_10 hx
   refine ZX (ZC (ZF (ZB (ZA rfl rfl (ZE rfl) (ZD (ZC (ZF (ZF (ZB (ZA rfl rfl (ZE rfl) (ZD ?_)))))))))))
   refine ZC ?_
   obtain ⟨t_11, ht_13, hx⟩ := ZM hx
   refine Z1 (fun l o g => l = [(2, .pointer (some ⟨b_7, 0, none⟩)), (3, .pointer (some ⟨b_8, 0, none⟩)), (5, .int .i64 t_11)] ∧ o = [[(b_7, .cells #[.slice aa_2 na_2 ca_2, .slice aa_3 na_3 ca_3] 25 (0, 0))], [(b_8, .cells #[.slice aa_5 na_5 ca_5, .slice aa_6 na_6 ca_6] 25 (0, 0))]] ∧ H = g) ?_ ?_
   ·
    rintro _ _ _ ⟨rfl, rfl, rfl⟩
    refine ZC (ZF (ZF (ZB (ZA rfl rfl (ZE rfl) (ZD (ZC ?_))))))
    obtain ⟨t_17, ht_19, hx⟩ := ZM hx
    refine Z1 (fun l o g => l = [(5, .int .i64 t_17)] ∧ o = [] ∧ H = g) ?_ ?_
    ·
     rintro _ _ _ ⟨rfl, rfl, rfl⟩
     refine ZC (ZF (ZB (ZA rfl rfl (ZG rfl) (ZA rfl rfl (R.eql_i rfl rfl) (ZA rfl rfl (ZE rfl) (ZD (ZC (ZS (ZQ (vs := [.bool (decide (t_17 = 0))]) (K := []) (rst := []) (.inl rfl) rfl rfl (ZO rfl rfl) ZL ?_)))))))))
     obtain rfl := Option.some.inj hx
     exact ⟨rfl, rfl, rfl, trivial⟩
    ·
     have hxo_18 := hx; clear hx; have hx := ht_19; clear ht_19
     refine JC.block (Zj 1 rfl (Zj 1 rfl (Z5 (fun n l o g => ∃ s_20 : Int × Nat, l = [(2, .pointer (some ⟨b_7, 0, none⟩)), (3, .pointer (some ⟨b_8, 0, none⟩)), (5, .int .i64 s_20.1), (7, .int .i64 ((s_20.2 : Nat) : Int))] ∧ o = [[(b_7, .cells #[.slice aa_2 na_2 ca_2, .slice aa_3 na_3 ca_3] 25 (0, 0))], [(b_8, .cells #[.slice aa_5 na_5 ca_5, .slice aa_6 na_6 ca_6] 25 (0, 0))]] ∧ H = g ∧ run (ref09_Same_l2 p_1 p_4) n s_20 = some t_17) FUEL ?_ ⟨(t_11, 0), rfl, rfl, rfl, hx⟩ ⟨rfl, rfl, rfl, rfl, trivial⟩ ?_)))
     ·
      rintro _ _ _ ⟨s_20, rfl, rfl, rfl, hn_21⟩
      exact Z2 hn_21
     ·
      rintro n_22 _ _ _ ⟨s_20, rfl, rfl, rfl, hn_21⟩
      clear hx; obtain ⟨oo_24, hx, hd_23⟩ := Z4 hn_21
      unfold ref09_Same_l2 at hx
      refine ZF (ZF (ZB (ZA rfl rfl (ZG rfl) (ZA rfl rfl (Zq F25_1 rfl) (ZA rfl rfl (Zd 0 S23 rfl rfl rfl) (ZA rfl rfl (Zs U23 rfl (IsSlice.long ha_3)) (ZA rfl rfl (Zy rfl rfl) (ZD (ZC (ZW rfl (fun c_23 => ?_) (fun c_23 => ?_)))))))))))
      ·
       replace hx := ZT c_23 hx
       refine ZX (ZC (ZF (JC.block (ZF (ZB (ZA rfl rfl (Zq F25_1 rfl) (ZA rfl rfl (Zd 0 S23 rfl rfl rfl) (ZA rfl rfl (ZG rfl) ?_))))))))
       obtain ⟨y_24, hN_25, hx⟩ := Zl hx
       obtain ⟨b_26, o_27, cs_28, hE_29, hR_30, hl_31, hc_32⟩ := IsSlice.elem ha_3 hN_25
       obtain ⟨v_33, rfl, hs_34⟩ := hR_30
       obtain ⟨av_33, cv_33', rfl⟩ := IsSlice.val hs_34
       refine ZA rfl rfl (R.ix U23 S101 rfl rfl hE_29) (ZA rfl rfl (R.ldHE (cs := [.int .i64 y_24.At, .slice av_33 y_24.Data.length cv_33']) (k := 0) (vs := [.int .i64 y_24.At, .slice av_33 y_24.Data.length cv_33']) S101 rfl hc_32 rfl rfl) (JL.alloc Z101 rfl (fun b_35 hb_35 => ZV 0 S101 rfl rfl rfl rfl rfl (Nat.le_of_ble_eq_true rfl) (ZD (ZC (ZF (ZB (ZA rfl rfl (Zq F25_1 rfl) (ZA rfl rfl (Zd 2 S23 rfl rfl rfl) (ZA rfl rfl (ZG rfl) ?_))))))))))
       obtain ⟨y_36, hN_37, hx⟩ := Zl hx
       obtain ⟨b_38, o_39, cs_40, hE_41, hR_42, hl_43, hc_44⟩ := IsSlice.elem ha_6 hN_37
       obtain ⟨v_45, rfl, hs_46⟩ := hR_42
       obtain ⟨av_45, cv_45, rfl⟩ := IsSlice.val hs_46
       refine ZA rfl rfl (R.ix U23 S101 rfl rfl hE_41) (ZA rfl rfl (R.ldHE (cs := [.int .i64 y_36.At, .slice av_45 y_36.Data.length cv_45]) (k := 0) (vs := [.int .i64 y_36.At, .slice av_45 y_36.Data.length cv_45]) S101 rfl hc_44 rfl rfl) (JL.alloc Z101 rfl (fun b_47 hb_47 => ZV 0 S101 rfl rfl rfl rfl rfl (Nat.le_of_ble_eq_true rfl) (ZD (ZC (ZF (ZB (ZA rfl rfl (Zq F101_0 rfl) (ZA rfl rfl (Zd 1 S3 rfl rfl rfl) (ZA rfl rfl (Zq F101_0 rfl) (ZA rfl rfl (Zd 0 S3 rfl rfl rfl) ?_)))))))))))
       refine ZA rfl rfl (Zx rfl rfl) (ZA rfl rfl (ZG rfl) (Ze (t := 70) rfl (fun c_48 => ?_) (fun c_48 => ?_)))
       ·
        replace hx := ZT c_48 hx
        refine ZH rfl rfl rfl rfl rfl (ZH rfl rfl rfl rfl rfl (ZH rfl rfl rfl rfl rfl (ZH rfl rfl rfl rfl rfl (ZH rfl rfl rfl rfl rfl (ZH rfl rfl rfl rfl rfl (ZH rfl rfl rfl rfl rfl (ZA rfl rfl (Zb rfl rfl) (ZD (ZC (Zu rfl (ZB ?_)))))))))))
        refine ZA rfl rfl (ZG rfl) (ZA rfl rfl (YA rfl rfl) (ZA rfl rfl (ZE rfl) (ZD (Zm (ZC (ZB (ZA rfl rfl (ZG rfl) (ZA rfl rfl (R.inc rfl rfl (of_decide_eq_true c_23) (IsSlice.lenI ha_3)) (ZA rfl rfl (ZE rfl) (ZD ?_))))))))))
        replace hx := Zp hd_23 hx
        refine JN.forget 1 (JN.forget 0 (ZN 1 rfl (ZN 1 rfl ?_)))
        exact ZZ ⟨(w64 (s_20.1 + 1), s_20.2 + 1), rfl, rfl, rfl, hx⟩ ⟨rfl, rfl, rfl, rfl, trivial⟩ rfl rfl
       ·
        replace hx := ZU c_48 hx
        refine ZK rfl rfl rfl (ZA rfl rfl (Zq F101_1 rfl) (ZK rfl rfl rfl (ZA rfl rfl (Zd 1 S26 rfl rfl rfl) (ZK rfl rfl rfl (ZA rfl rfl (R.toStr U26 U5 U9 rfl hs_34) (ZK rfl rfl rfl (ZA rfl rfl (Zq F101_1 rfl) (ZK rfl rfl rfl (ZA rfl rfl (Zd 0 S26 rfl rfl rfl) (ZK rfl rfl rfl (ZA rfl rfl (R.toStr U26 U5 U9 rfl hs_46) ?_)))))))))))
        refine ZK rfl rfl rfl (ZA rfl rfl (R.neqStr (a := y_24.Data) (b := y_36.Data) rfl rfl) (ZA rfl rfl (Za rfl rfl) (ZD (ZC (ZW rfl (fun c_49 => ?_) (fun c_49 => ?_))))))
        ·
         replace hx := ZT c_49 hx
         refine ZB (ZA rfl rfl (ZG rfl) (ZA rfl rfl (YA rfl rfl) (ZA rfl rfl (ZE rfl) (ZD (Zm (ZC (ZB (ZA rfl rfl (ZG rfl) (ZA rfl rfl (R.inc rfl rfl (of_decide_eq_true c_23) (IsSlice.lenI ha_3)) (ZA rfl rfl (ZE rfl) (ZD ?_)))))))))))
         replace hx := Zp hd_23 hx
         refine JN.forget 1 (JN.forget 0 (ZN 1 rfl (ZN 1 rfl ?_)))
         exact ZZ ⟨(w64 (s_20.1 + 1), s_20.2 + 1), rfl, rfl, rfl, hx⟩ ⟨rfl, rfl, rfl, rfl, trivial⟩ rfl rfl
        ·
         replace hx := ZU c_49 hx
         refine ZX (Zm (ZC (ZB (ZA rfl rfl (ZG rfl) (ZA rfl rfl (R.inc rfl rfl (of_decide_eq_true c_23) (IsSlice.lenI ha_3)) (ZA rfl rfl (ZE rfl) (ZD ?_)))))))
         replace hx := Zp hd_23 hx
         refine JN.forget 1 (JN.forget 0 (ZN 1 rfl (ZN 1 rfl ?_)))
         exact ZZ ⟨(s_20.1, s_20.2 + 1), rfl, rfl, rfl, hx⟩ ⟨rfl, rfl, rfl, rfl, trivial⟩ rfl rfl
      ·
       replace hx := ZU c_23 hx
       refine Z0 (Zc ?_)
       obtain rfl := Zr hd_23 hx
       refine Zc (Zh (JN.forget 1 (JN.forget 0 ?_)))
       exact ZZ ⟨rfl, rfl, rfl⟩ ⟨rfl, trivial⟩ rfl rfl
   ·
    have hxo_12 := hx; clear hx; have hx := ht_13; clear ht_13
    refine JC.block (Zj 1 rfl (Z5 (fun n l o g => ∃ s_14 : Int × Nat, l = [(2, .pointer (some ⟨b_7, 0, none⟩)), (3, .pointer (some ⟨b_8, 0, none⟩)), (5, .int .i64 s_14.1), (6, .int .i64 ((s_14.2 : Nat) : Int))] ∧ o = [[(b_7, .cells #[.slice aa_2 na_2 ca_2, .slice aa_3 na_3 ca_3] 25 (0, 0))], [(b_8, .cells #[.slice aa_5 na_5 ca_5, .slice aa_6 na_6 ca_6] 25 (0, 0))]] ∧ H = g ∧ run (ref09_Same_l1 p_1 p_4) n s_14 = some t_11) FUEL ?_ ⟨(0, 0), rfl, rfl, rfl, hx⟩ ⟨rfl, rfl, rfl, rfl, trivial⟩ ?_))
    ·
     rintro _ _ _ ⟨s_14, rfl, rfl, rfl, hn_15⟩
     exact Z2 hn_15
    ·
     rintro n_16 _ _ _ ⟨s_14, rfl, rfl, rfl, hn_15⟩
     clear hx; obtain ⟨oo_18, hx, hd_17⟩ := Z4 hn_15
     unfold ref09_Same_l1 at hx
     refine ZF (ZF (ZB (ZA rfl rfl (ZG rfl) (ZA rfl rfl (Zq F25_0 rfl) (ZA rfl rfl (Zd 0 S22 rfl rfl rfl) (ZA rfl rfl (Zs U22 rfl (IsSlice.long ha_2)) (ZA rfl rfl (Zy rfl rfl) (ZD (ZC (ZW rfl (fun c_17 => ?_) (fun c_17 => ?_)))))))))))
     ·
      replace hx := ZT c_17 hx
      refine ZX (ZC (ZF (JC.block (ZF (JC.draw (so := [_, _]) 13 rfl Mixed ⟨⟨0, rfl⟩, ⟨1, rfl⟩, trivial⟩ (JA.val ⟨by kernel_rfl, by kernel_rfl⟩ (ZI _) (i := 0) rfl ⟨by kernel_rfl, by kernel_rfl, rfl⟩ trivial (ZJ (Hle.refl _) ⟨⟨0, rfl⟩, ⟨1, rfl⟩, trivial⟩) (Zq F25_0 rfl) rfl (JA.val ⟨by kernel_rfl, by kernel_rfl⟩ (ZI _) (i := 1) rfl ⟨by kernel_rfl, by kernel_rfl, rfl⟩ trivial (ZJ (Hle.refl _) ⟨⟨0, rfl⟩, ⟨1, rfl⟩, trivial⟩) (Zd 0 S22 rfl rfl rfl) rfl (JA.val ⟨by kernel_rfl, by kernel_rfl⟩ (ZI _) (i := 2) rfl ⟨by kernel_rfl, by kernel_rfl, rfl⟩ trivial (ZJ (Hle.refl _) ⟨⟨0, rfl⟩, ⟨1, rfl⟩, trivial⟩) (ZG rfl) rfl ?_))))))))
      obtain ⟨y_18, hN_19, hx⟩ := Zl hx
      obtain ⟨b_20, o_21, cs_22, hE_23, hR_24, hl_25, hc_26⟩ := IsSlice.elem ha_2 hN_19
      obtain ⟨v_27, rfl, hs_28⟩ := hR_24
      obtain ⟨av_27, cv_27, rfl⟩ := IsSlice.val hs_28
      refine JA.val ⟨by kernel_rfl, by kernel_rfl⟩ (ZI _) (i := 3) rfl ⟨by kernel_rfl, by kernel_rfl, rfl⟩ trivial (ZJ (Hle.refl _) ⟨⟨0, rfl⟩, ⟨1, rfl⟩, trivial⟩) (R.ix U22 S26 rfl rfl hE_23) rfl (JA.val ⟨by kernel_rfl, by kernel_rfl⟩ (ZI _) (i := 4) rfl ⟨by kernel_rfl, by kernel_rfl, rfl⟩ trivial (ZJ (Hle.refl _) ⟨⟨0, rfl⟩, ⟨1, rfl⟩, trivial⟩) (R.ldH S26 rfl (hc_26 0 _ rfl)) rfl (JA.val ⟨by kernel_rfl, by kernel_rfl⟩ (ZI _) (i := 5) rfl ⟨by kernel_rfl, by kernel_rfl, rfl⟩ trivial (ZJ (Hle.refl _) ⟨⟨0, rfl⟩, ⟨1, rfl⟩, trivial⟩) (R.toStr U26 U5 U9 rfl hs_28) rfl (JA.val ⟨by kernel_rfl, by kernel_rfl⟩ (ZI _) (i := 6) rfl ⟨by kernel_rfl, by kernel_rfl, rfl⟩ trivial (ZJ (Hle.refl _) ⟨⟨0, rfl⟩, ⟨1, rfl⟩, trivial⟩) (Zq F25_0 rfl) rfl (JA.val ⟨by kernel_rfl, by kernel_rfl⟩ (ZI _) (i := 7) rfl ⟨by kernel_rfl, by kernel_rfl, rfl⟩ trivial (ZJ (Hle.refl _) ⟨⟨0, rfl⟩, ⟨1, rfl⟩, trivial⟩) (Zd 1 S22 rfl rfl rfl) rfl (JA.val ⟨by kernel_rfl, by kernel_rfl⟩ (ZI _) (i := 8) rfl ⟨by kernel_rfl, by kernel_rfl, rfl⟩ trivial (ZJ (Hle.refl _) ⟨⟨0, rfl⟩, ⟨1, rfl⟩, trivial⟩) (ZG rfl) rfl ?_)))))
      obtain ⟨y_29, hN_30, hx⟩ := Zl hx
      obtain ⟨b_31, o_32, cs_33, hE_34, hR_35, hl_36, hc_37⟩ := IsSlice.elem ha_5 hN_30
      obtain ⟨v_38, rfl, hs_39⟩ := hR_35
      obtain ⟨av_38, cv_38, rfl⟩ := IsSlice.val hs_39
      refine JA.val ⟨by kernel_rfl, by kernel_rfl⟩ (ZI _) (i := 9) rfl ⟨by kernel_rfl, by kernel_rfl, rfl⟩ trivial (ZJ (Hle.refl _) ⟨⟨0, rfl⟩, ⟨1, rfl⟩, trivial⟩) (R.ix U22 S26 rfl rfl hE_34) rfl (JA.val ⟨by kernel_rfl, by kernel_rfl⟩ (ZI _) (i := 10) rfl ⟨by kernel_rfl, by kernel_rfl, rfl⟩ trivial (ZJ (Hle.refl _) ⟨⟨0, rfl⟩, ⟨1, rfl⟩, trivial⟩) (R.ldH S26 rfl (hc_37 0 _ rfl)) rfl (JA.val ⟨by kernel_rfl, by kernel_rfl⟩ (ZI _) (i := 11) rfl ⟨by kernel_rfl, by kernel_rfl, rfl⟩ trivial (ZJ (Hle.refl _) ⟨⟨0, rfl⟩, ⟨1, rfl⟩, trivial⟩) (R.toStr U26 U5 U9 rfl hs_39) rfl (JA.val ⟨by kernel_rfl, by kernel_rfl⟩ (ZI _) (i := 12) rfl ⟨by kernel_rfl, by kernel_rfl, rfl⟩ trivial (ZJ (Hle.refl _) ⟨⟨0, rfl⟩, ⟨1, rfl⟩, trivial⟩) (R.neqStr (a := y_18) (b := y_29) rfl rfl) rfl (Zz (by kernel_rfl) (ZC (ZW rfl (fun c_40 => ?_) (fun c_40 => ?_)))))))
      ·
       replace hx := ZT c_40 hx
       refine ZB (ZA rfl rfl (ZG rfl) (ZA rfl rfl (YA rfl rfl) (ZA rfl rfl (ZE rfl) (ZD (Zm (ZC (ZB (ZA rfl rfl (ZG rfl) (ZA rfl rfl (R.inc rfl rfl (of_decide_eq_true c_17) (IsSlice.lenI ha_2)) (ZA rfl rfl (ZE rfl) (ZD ?_)))))))))))
       replace hx := Zp hd_17 hx
       refine ZN 1 rfl (ZN 1 rfl ?_)
       exact ZZ ⟨(w64 (s_14.1 + 1), s_14.2 + 1), rfl, rfl, rfl, hx⟩ ⟨rfl, rfl, rfl, rfl, trivial⟩ rfl rfl
      ·
       replace hx := ZU c_40 hx
       refine ZX (Zm (ZC (ZB (ZA rfl rfl (ZG rfl) (ZA rfl rfl (R.inc rfl rfl (of_decide_eq_true c_17) (IsSlice.lenI ha_2)) (ZA rfl rfl (ZE rfl) (ZD ?_)))))))
       replace hx := Zp hd_17 hx
       refine ZN 1 rfl (ZN 1 rfl ?_)
       exact ZZ ⟨(s_14.1, s_14.2 + 1), rfl, rfl, rfl, hx⟩ ⟨rfl, rfl, rfl, rfl, trivial⟩ rfl rfl
     ·
      replace hx := ZU c_17 hx
      refine Z0 (Zc ?_)
      obtain rfl := Zr hd_17 hx
      refine Zc (Zh (ZN 1 rfl (ZN 1 rfl ?_)))
      exact ZZ ⟨rfl, rfl, rfl⟩ ⟨rfl, rfl, rfl, trivial⟩ rfl rfl

set_option maxHeartbeats 8000000 in
theorem ref13_Same_ok (p_1 : Store) (p_5 : Store) (H : Heaplet) {aa_2 : Option Addr} {na_2 : Nat} {ca_2 : Nat} {aa_3 : Option Addr} {na_3 : Nat} {ca_3 : Nat} {aa_4 : Option Addr} {na_4 : Nat} {ca_4 : Nat} {aa_6 : Option Addr} {na_6 : Nat} {ca_6 : Nat} {aa_7 : Option Addr} {na_7 : Nat} {ca_7 : Nat} {aa_8 : Option Addr} {na_8 : Nat} {ca_8 : Nat} (ha_2 : IsSlice H (RSl RU8 1) 1 (.slice aa_2 na_2 ca_2) p_1.Disk.Blocks) (ha_3 : IsSlice H R_Write 2 (.slice aa_3 na_3 ca_3) p_1.Disk.Waits) (ha_4 : IsSlice H RU8 1 (.slice aa_4 na_4 ca_4) p_1.Space) (ha_6 : IsSlice H (RSl RU8 1) 1 (.slice aa_6 na_6 ca_6) p_5.Disk.Blocks) (ha_7 : IsSlice H R_Write 2 (.slice aa_7 na_7 ca_7) p_5.Disk.Waits) (ha_8 : IsSlice H RU8 1 (.slice aa_8 na_8 ca_8) p_5.Space) (r : Bool) (hx : ref13_Same p_1 p_5 = some r) :
  Does Tryz.prog 16 #[.agg #[.slice aa_2 na_2 ca_2, .slice aa_3 na_3 ca_3, .slice aa_4 na_4 ca_4, .int .u32 (p_1.Epoch.toNat : Int), .int .u32 (p_1.Count.toNat : Int)], .agg #[.slice aa_6 na_6 ca_6, .slice aa_7 na_7 ca_7, .slice aa_8 na_8 ca_8, .int .u32 (p_5.Epoch.toNat : Int), .int .u32 (p_5.Count.toNat : Int)]] [] H (fun u K' H' => u = .bool r ∧ K' = [] ∧ H = H' ∧ True) := by
 refine Does.enterL (vs := [.agg #[.slice aa_2 na_2 ca_2, .slice aa_3 na_3 ca_3, .slice aa_4 na_4 ca_4, .int .u32 (p_1.Epoch.toNat : Int), .int .u32 (p_1.Count.toNat : Int)], .agg #[.slice aa_6 na_6 ca_6, .slice aa_7 na_7 ca_7, .slice aa_8 na_8 ca_8, .int .u32 (p_5.Epoch.toNat : Int), .int .u32 (p_5.Count.toNat : Int)]]) (l := [(0, .agg #[.slice aa_2 na_2 ca_2, .slice aa_3 na_3 ca_3, .slice aa_4 na_4 ca_4, .int .u32 (p_1.Epoch.toNat : Int), .int .u32 (p_1.Count.toNat : Int)]), (1, .agg #[.slice aa_6 na_6 ca_6, .slice aa_7 na_7 ca_7, .slice aa_8 na_8 ca_8, .int .u32 (p_5.Epoch.toNat : Int), .int .u32 (p_5.Count.toNat : Int)])]) Tryz.func16 rfl rfl ⟨rfl, rfl, trivial⟩ (fun w hlt => ?_)
 unfold ref13_Same at hx
 refine ZF (ZB (Zv rfl rfl (fun b_9 hb_9 => Zv rfl rfl (fun b_10 hb_10 => ZA rfl rfl (ZE rfl) (ZD (ZC (ZF ?_)))))))
 obtain ⟨t_11, ht_13, hx⟩ := ZM hx
 refine Z1 (fun l o g => l = [(4, .bool t_11)] ∧ o = [] ∧ H = g) ?_ ?_
 ·
  rintro _ _ _ ⟨rfl, rfl, rfl⟩
  refine ZC (ZS (ZQ (vs := [.bool t_11]) (K := []) (rst := []) (.inl rfl) rfl rfl (ZO rfl rfl) ZL ?_))
  obtain rfl := Option.some.inj hx
  exact ⟨rfl, rfl, rfl, trivial⟩
 ·
  have hxo_12 := hx; clear hx; have hx := ht_13; clear ht_13
  refine ZB (ZA rfl rfl (Zq F29_0 rfl) (ZA rfl rfl (Zg 1 (vs := [.slice aa_2 na_2 ca_2, .slice aa_3 na_3 ca_3]) S25 rfl rfl rfl rfl) (ZA rfl rfl (Zq F29_0 rfl) (ZA rfl rfl (Zg 0 (vs := [.slice aa_6 na_6 ca_6, .slice aa_7 na_7 ca_7]) S25 rfl rfl rfl rfl) ?_))))
  obtain ⟨x_14, hr_15, hx⟩ := ZM hx
  refine ZR (vs := [_, _]) (args := [_, _]) (K := []) (rst := [_, _]) E38 rfl rfl rfl ZL (ref09_Same_ok (Disk.mk p_1.Disk.Blocks p_1.Disk.Waits) (Disk.mk p_5.Disk.Blocks p_5.Disk.Waits) _ ha_2 ha_3 ha_6 ha_7 _ hr_15) rfl (fun u_16 Ku_16 Hu_16 hRu_16 hleu_16 hfu_16 => ?_)
  obtain ⟨rfl, rfl, rfl, -⟩ := hRu_16
  refine ZA rfl rfl (ZG rfl) (Ze (t := 10) rfl (fun c_17 => ?_) (fun c_17 => ?_))
  ·
   replace hx := ZT c_17 hx
   refine ZK rfl rfl rfl (ZA rfl rfl (Zq F29_1 rfl) (ZK rfl rfl rfl (ZA rfl rfl (Zd 1 S26 rfl rfl rfl) (ZK rfl rfl rfl (ZA rfl rfl (R.toStr U26 U5 U9 rfl ha_4) (ZK rfl rfl rfl (ZA rfl rfl (Zq F29_1 rfl) (ZK rfl rfl rfl (ZA rfl rfl (Zd 0 S26 rfl rfl rfl) (ZK rfl rfl rfl (ZA rfl rfl (R.toStr U26 U5 U9 rfl ha_8) ?_)))))))))))
   refine ZK rfl rfl rfl (ZA rfl rfl (R.eqlStr (a := p_1.Space) (b := p_5.Space) rfl rfl) (ZA rfl rfl (Zb rfl rfl) (ZA rfl rfl (ZG rfl) (Ze (t := 19) rfl (fun c_18 => ?_) (fun c_18 => ?_)))))
   ·
    replace hx := ZT c_18 hx
    refine ZK rfl rfl rfl (ZA rfl rfl (Zq F29_2 rfl) (ZK rfl rfl rfl (ZA rfl rfl (Zd 1 S27 rfl rfl rfl) (ZK rfl rfl rfl (ZA rfl rfl (Zq F29_2 rfl) (ZK rfl rfl rfl (ZA rfl rfl (Zd 0 S27 rfl rfl rfl) (ZK rfl rfl rfl (ZA rfl rfl (R.eql32 (a := p_1.Epoch) (b := p_5.Epoch) rfl rfl) (ZA rfl rfl (Zb rfl rfl) (ZA rfl rfl (ZG rfl) ?_)))))))))))
    refine Ze (t := 26) rfl (fun c_19 => ?_) (fun c_19 => ?_)
    ·
     replace hx := ZT c_19 hx
     refine ZK rfl rfl rfl (ZA rfl rfl (Zq F29_3 rfl) (ZK rfl rfl rfl (ZA rfl rfl (Zd 1 S27 rfl rfl rfl) (ZK rfl rfl rfl (ZA rfl rfl (Zq F29_3 rfl) (ZK rfl rfl rfl (ZA rfl rfl (Zd 0 S27 rfl rfl rfl) (ZK rfl rfl rfl (ZA rfl rfl (R.eql32 (a := p_1.Count) (b := p_5.Count) rfl rfl) (ZA rfl rfl (Zb rfl rfl) (ZA rfl rfl (ZE rfl) ?_)))))))))))
     refine ZD ?_
     obtain rfl := Option.some.inj hx
     refine JN.forget 1 (JN.forget 0 ?_)
     exact ZZ ⟨rfl, rfl, rfl⟩ ⟨rfl, trivial⟩ rfl rfl
    ·
     replace hx := ZU c_19 hx
     refine ZH rfl rfl rfl rfl rfl (ZH rfl rfl rfl rfl rfl (ZH rfl rfl rfl rfl rfl (ZH rfl rfl rfl rfl rfl (ZH rfl rfl rfl rfl rfl (ZA rfl rfl (Za rfl rfl) (ZA rfl rfl (ZE rfl) (ZD ?_)))))))
     obtain rfl := Option.some.inj hx
     refine JN.forget 1 (JN.forget 0 ?_)
     exact ZZ ⟨rfl, rfl, rfl⟩ ⟨rfl, trivial⟩ rfl rfl
   ·
    replace hx := ZU c_18 hx
    refine ZH rfl rfl rfl rfl rfl (ZH rfl rfl rfl rfl rfl (ZH rfl rfl rfl rfl rfl (ZH rfl rfl rfl rfl rfl (ZH rfl rfl rfl rfl rfl (ZA rfl rfl (Za rfl rfl) (ZA rfl rfl (ZG rfl) (ZH rfl rfl rfl rfl rfl (ZH rfl rfl rfl rfl rfl (ZH rfl rfl rfl rfl rfl (ZH rfl rfl rfl rfl rfl (ZH rfl rfl rfl rfl rfl ?_)))))))))))
    refine ZA rfl rfl (Za rfl rfl) (ZA rfl rfl (ZE rfl) (ZD ?_))
    obtain rfl := Option.some.inj hx
    refine JN.forget 1 (JN.forget 0 ?_)
    exact ZZ ⟨rfl, rfl, rfl⟩ ⟨rfl, trivial⟩ rfl rfl
  ·
   replace hx := ZU c_17 hx
   refine ZH rfl rfl rfl rfl rfl (ZH rfl rfl rfl rfl rfl (ZH rfl rfl rfl rfl rfl (ZH rfl rfl rfl rfl rfl (ZH rfl rfl rfl rfl rfl (ZH rfl rfl rfl rfl rfl (ZH rfl rfl rfl rfl rfl (ZA rfl rfl (Za rfl rfl) (ZA rfl rfl (ZG rfl) (ZH rfl rfl rfl rfl rfl (ZH rfl rfl rfl rfl rfl (ZH rfl rfl rfl rfl rfl ?_)))))))))))
   refine ZH rfl rfl rfl rfl rfl (ZH rfl rfl rfl rfl rfl (ZA rfl rfl (Za rfl rfl) (ZA rfl rfl (ZG rfl) (ZH rfl rfl rfl rfl rfl (ZH rfl rfl rfl rfl rfl (ZH rfl rfl rfl rfl rfl (ZH rfl rfl rfl rfl rfl (ZH rfl rfl rfl rfl rfl (ZA rfl rfl (Za rfl rfl) (ZA rfl rfl (ZE rfl) (ZD ?_)))))))))))
   obtain rfl := Option.some.inj hx
   refine JN.forget 1 (JN.forget 0 ?_)
   exact ZZ ⟨rfl, rfl, rfl⟩ ⟨rfl, trivial⟩ rfl rfl

set_option maxHeartbeats 8000000 in
theorem law15_SetTells_ok (p_1 : Store) (p_5 : Ptr) (p_6 : Int) (p_7 : UInt32) (H : Heaplet) {aa_2 : Option Addr} {na_2 : Nat} {ca_2 : Nat} {aa_3 : Option Addr} {na_3 : Nat} {ca_3 : Nat} {aa_4 : Option Addr} {na_4 : Nat} {ca_4 : Nat} (ha_2 : IsSlice H (RSl RU8 1) 1 (.slice aa_2 na_2 ca_2) p_1.Disk.Blocks) (ha_3 : IsSlice H R_Write 2 (.slice aa_3 na_3 ca_3) p_1.Disk.Waits) (ha_4 : IsSlice H RU8 1 (.slice aa_4 na_4 ca_4) p_1.Space) (r : Bool) (hx : law15_SetTells p_1 p_5 p_6 p_7 = some r) :
  Does Tryz.prog 3 #[.agg #[.slice aa_2 na_2 ca_2, .slice aa_3 na_3 ca_3, .slice aa_4 na_4 ca_4, .int .u32 (p_1.Epoch.toNat : Int), .int .u32 (p_1.Count.toNat : Int)], .agg #[.int .i64 p_5.At, .int .u32 (p_5.Birth.toNat : Int), .int .u32 (p_5.Iv.toNat : Int), .int .u32 (p_5.Tag.toNat : Int), .int .u32 (p_5.Sum.toNat : Int)], .int .i64 p_6, .int .u32 (p_7.toNat : Int)] [] H (fun u K' H' => u = .bool r ∧ K' = [] ∧ True) := by
 refine Does.enterL (vs := [.agg #[.slice aa_2 na_2 ca_2, .slice aa_3 na_3 ca_3, .slice aa_4 na_4 ca_4, .int .u32 (p_1.Epoch.toNat : Int), .int .u32 (p_1.Count.toNat : Int)], .agg #[.int .i64 p_5.At, .int .u32 (p_5.Birth.toNat : Int), .int .u32 (p_5.Iv.toNat : Int), .int .u32 (p_5.Tag.toNat : Int), .int .u32 (p_5.Sum.toNat : Int)], .int .i64 p_6, .int .u32 (p_7.toNat : Int)]) (l := [(0, .agg #[.slice aa_2 na_2 ca_2, .slice aa_3 na_3 ca_3, .slice aa_4 na_4 ca_4, .int .u32 (p_1.Epoch.toNat : Int), .int .u32 (p_1.Count.toNat : Int)]), (1, .agg #[.int .i64 p_5.At, .int .u32 (p_5.Birth.toNat : Int), .int .u32 (p_5.Iv.toNat : Int), .int .u32 (p_5.Tag.toNat : Int), .int .u32 (p_5.Sum.toNat : Int)]), (2, .int .i64 p_6), (3, .int .u32 (p_7.toNat : Int))]) Tryz.func3 rfl rfl ⟨rfl, rfl, rfl, rfl, trivial⟩ (fun w hlt => ?_)
 unfold law15_SetTells at hx
 refine ZF (ZB (Zv rfl rfl (fun b_8 hb_8 => Zv rfl rfl (fun b_9 hb_9 => ZA rfl rfl (ZE rfl) (ZD (ZC (ZF (ZF (ZB (ZA rfl rfl (Zg 1 (vs := [.slice aa_2 na_2 ca_2, .slice aa_3 na_3 ca_3, .slice aa_4 na_4 ca_4, .int .u32 (p_1.Epoch.toNat : Int), .int .u32 (p_1.Count.toNat : Int)]) S29 rfl rfl rfl rfl) ?_))))))))))
 obtain ⟨x_10, hr_11, hx⟩ := ZM hx
 refine ZR (vs := [_]) (args := [_]) (K := []) (rst := [_, _]) E6 rfl rfl rfl ZL (ref13_Great_ok p_1 _ ha_2 ha_3 ha_4 _ hr_11) rfl (fun u_12 Ku_12 Hu_12 hRu_12 hleu_12 hfu_12 => ?_)
 obtain ⟨rfl, rfl, rfl, -⟩ := hRu_12
 refine ZD (ZC (ZW rfl (fun c_13 => ?_) (fun c_13 => ?_)))
 ·
  replace hx := ZT c_13 hx
  refine ZF (ZB (ZA rfl rfl (ZE rfl) (ZD (ZC (ZS (ZP (ZQ (vs := [.bool true]) (K := []) (rst := [_, _]) (.inl rfl) rfl rfl (ZO rfl rfl) ZL ?_)))))))
  obtain rfl := Option.some.inj hx
  exact ⟨rfl, rfl, trivial⟩
 ·
  replace hx := ZU c_13 hx
  refine ZX (ZC (ZF (ZB (ZA rfl rfl (Zg 1 (vs := [.slice aa_2 na_2 ca_2, .slice aa_3 na_3 ca_3, .slice aa_4 na_4 ca_4, .int .u32 (p_1.Epoch.toNat : Int), .int .u32 (p_1.Count.toNat : Int)]) S29 rfl rfl rfl rfl) ?_))))
  obtain ⟨x_14, hr_15, hx⟩ := ZM hx
  refine ZR (vs := [_]) (args := [_]) (K := []) (rst := [_, _]) E7 rfl rfl rfl ZL (ref13_Twin_ok p_1 _ ha_2 ha_3 ha_4 _ hr_15) rfl (fun u_16 Ku_16 Hu_16 hRu_16 hleu_16 hfu_16 => ?_)
  obtain ⟨ar_17, nr_17, cr_17, Kr_17, ar_18, nr_18, cr_18, Kr_18, ar_19, nr_19, cr_19, Kr_19, rfl, rfl, hr_17, hnewr_17, hr_18, hnewr_18, hr_19, hnewr_19, -⟩ := hRu_16
  replace hr_17 := (RowOf.base (RowOf.mono (RSl.mono RU8.mono) (New.call (Hle.refl _)) hr_17) (fun p hp => (hfu_16 p (Zw 0 rfl hp)).resolve_left (hnewr_17 p hp)))
  replace hr_18 := (RowOf.base (RowOf.mono R_Write.mono (New.call (Hle.refl _)) hr_18) (fun p hp => (hfu_16 p (Zw 1 rfl hp)).resolve_left (hnewr_18 p hp)))
  replace hr_19 := (RowOf.base (Zo (H2 := New H Hu_16) RU8.const hr_19) (fun p hp => (hfu_16 p (Zw 2 rfl hp)).resolve_left (hnewr_19 p hp)))
  refine JL.alloc Z29 rfl (fun b_20 hb_20 => ZV 0 S29 rfl rfl rfl rfl rfl (Nat.le_of_ble_eq_true rfl) (ZD (ZC (ZF (ZB (ZA rfl rfl (Zg 0 (vs := [.slice ar_17 nr_17 cr_17, .slice ar_18 nr_18 cr_18, .slice ar_19 nr_19 cr_19, .int .u32 (x_14.Epoch.toNat : Int), .int .u32 (x_14.Count.toNat : Int)]) S29 rfl rfl rfl rfl) (ZA rfl rfl (Zg 4 (vs := [.int .i64 p_5.At, .int .u32 (p_5.Birth.toNat : Int), .int .u32 (p_5.Iv.toNat : Int), .int .u32 (p_5.Tag.toNat : Int), .int .u32 (p_5.Sum.toNat : Int)]) S31 rfl rfl rfl rfl) ?_)))))))
  obtain ⟨x_24, hr_25, hx⟩ := ZM hx
  refine JL.callL3 (vs := [_, _]) E8 rfl rfl (fun H_23 hle_22 hl_21 => set_Ptrs_ok x_14 p_5 _ (Lent.row' 1 hl_21 (RSl.mono RU8.mono) hle_22 rfl (hr_17.old (RSl.mono RU8.mono))) (Lent.row' 2 hl_21 R_Write.mono hle_22 rfl (hr_18.old R_Write.mono)) (Lent.row' 3 hl_21 RU8.mono hle_22 rfl (hr_19.old RU8.mono)) _ hr_25) rfl (fun _ _ _ _ hR_27 hf_28 => ?_)
  obtain ⟨ar_26, nr_26, cr_26, Kr_26, rfl, rfl, hr_26, -, -⟩ := hR_27
  replace hr_26 := RowOf.base (Zo (H2 := New H Hu_16) R_Ptr.const hr_26) (fun p hp => hf_28 p (Zw 0 rfl hp))
  refine ZA rfl rfl (ZG rfl) (ZA rfl rfl (R.extract rfl rfl) (ZA rfl rfl (R.extract rfl rfl) (ZA rfl rfl (ZE rfl) (ZA rfl rfl (ZE rfl) (ZD (ZC (ZF (ZB (ZA rfl rfl (Zg 6 (vs := [.slice aa_2 na_2 ca_2, .slice aa_3 na_3 ca_3, .slice aa_4 na_4 ca_4, .int .u32 (p_1.Epoch.toNat : Int), .int .u32 (p_1.Count.toNat : Int)]) S29 rfl rfl rfl rfl) (ZA rfl rfl (Zg 5 (vs := [.int .i64 p_5.At, .int .u32 (p_5.Birth.toNat : Int), .int .u32 (p_5.Iv.toNat : Int), .int .u32 (p_5.Tag.toNat : Int), .int .u32 (p_5.Sum.toNat : Int)]) S31 rfl rfl rfl rfl) ?_))))))))))
  obtain ⟨x_29, hr_30, hx⟩ := ZM hx
  refine ZR (vs := [_, _]) (args := [_, _]) (K := []) (rst := [_, _, _, _, _, _, _]) E9 rfl rfl rfl ZL (ref15_Ptrs_ok p_1 p_5 _ (ha_2.mono (RSl.mono RU8.mono) hleu_16) (ha_3.mono R_Write.mono hleu_16) (ha_4.mono RU8.mono hleu_16) _ hr_30) rfl (fun u_31 Ku_31 Hu_31 hRu_31 hleu_31 hfu_31 => ?_)
  obtain ⟨ar_32, nr_32, cr_32, Kr_32, rfl, rfl, rfl, hr_32, hnewr_32, -⟩ := hRu_31
  replace hr_32 := (RowOf.base (Zo (H2 := New H Hu_16) R_Ptr.const hr_32) (fun p hp => (hfu_31 p (Zw 0 rfl hp)).resolve_left (hnewr_32 p hp)))
  refine ZA rfl rfl (ZG rfl) (ZA rfl rfl (R.extract rfl rfl) (ZA rfl rfl (R.extract rfl rfl) (ZA rfl rfl (ZE rfl) (ZA rfl rfl (ZE rfl) (ZD (ZC (ZF (ZB (ZA rfl rfl (Zg 2 (vs := [.slice ar_17 nr_17 cr_17, .slice ar_18 nr_18 cr_18, .slice ar_19 nr_19 cr_19, .int .u32 (x_14.Epoch.toNat : Int), .int .u32 (x_14.Count.toNat : Int)]) S29 rfl rfl rfl rfl) (ZA rfl rfl (Zg 6 (vs := [.int .i64 p_5.At, .int .u32 (p_5.Birth.toNat : Int), .int .u32 (p_5.Iv.toNat : Int), .int .u32 (p_5.Tag.toNat : Int), .int .u32 (p_5.Sum.toNat : Int)]) S31 rfl rfl rfl rfl) (ZA rfl rfl (ZG rfl) ?_)))))))))))
  refine JL.pubN 3 (RSl.mono RU8.mono) rfl hr_17 (Nat.le_refl _) (fun H_33 hleH_33 hsH_33 => JL.forget 3 (JL.pubN 3 R_Write.mono rfl (hr_18.mono R_Write.mono (New.mono hleH_33)) (Nat.le_refl _) (fun H_34 hleH_34 hsH_34 => JL.forget 3 (JL.pubN 3 RU8.mono rfl (hr_19.mono RU8.mono (New.mono (hleH_33.trans hleH_34))) (Nat.le_refl _) (fun H_35 hleH_35 hsH_35 => JL.forget 3 ?_)))))
  obtain ⟨x_36, hr_37, hx⟩ := ZM hx
  refine ZR (vs := [_, _, _]) (args := [_, _, _]) (K := []) (rst := [_, _, _, _, _]) E10 rfl rfl rfl ZL (set_Object_ok x_14 p_5 p_6 _ ((hsH_33.mono (RSl.mono RU8.mono) (New.mono (hleH_34.trans hleH_35))).old (RSl.mono RU8.mono)) ((hsH_34.mono R_Write.mono (New.mono hleH_35)).old R_Write.mono) (hsH_35.old RU8.mono) _ hr_37) rfl (fun u_38 Ku_38 Hu_38 hRu_38 hleu_38 hfu_38 => ?_)
  obtain ⟨az_39, nz_39, rfl, rfl, hz_39, -⟩ := hRu_38
  replace hz_39 := IsSlice.mono R_Ptr.mono (New.call (hleu_16.trans (hleH_33.trans (hleH_34.trans hleH_35)))) hz_39
  refine ZA rfl rfl (ZG rfl) (ZA rfl rfl (R.extract rfl rfl) (ZA rfl rfl (R.extract rfl rfl) (JL.alloc Z41 rfl (fun b_40 hb_40 => ZV 0 S41 rfl rfl rfl rfl rfl (Nat.le_of_ble_eq_true rfl) (ZA rfl rfl (ZE rfl) (ZD (ZC (ZF (ZB (ZA rfl rfl (Zg 5 (vs := [.slice aa_2 na_2 ca_2, .slice aa_3 na_3 ca_3, .slice aa_4 na_4 ca_4, .int .u32 (p_1.Epoch.toNat : Int), .int .u32 (p_1.Count.toNat : Int)]) S29 rfl rfl rfl rfl) (ZA rfl rfl (Zg 4 (vs := [.int .i64 p_5.At, .int .u32 (p_5.Birth.toNat : Int), .int .u32 (p_5.Iv.toNat : Int), .int .u32 (p_5.Tag.toNat : Int), .int .u32 (p_5.Sum.toNat : Int)]) S31 rfl rfl rfl rfl) ?_)))))))))))
  refine ZA rfl rfl (ZG rfl) ?_
  obtain ⟨x_41, hr_42, hx⟩ := ZM hx
  refine ZR (vs := [_, _, _]) (args := [_, _, _]) (K := []) (rst := [_, _, _, _, _, _]) E11 rfl rfl rfl ZL (ref15_Object_ok p_1 p_5 p_6 _ (ha_2.mono (RSl.mono RU8.mono) (hleu_16.trans (hleH_33.trans (hleH_34.trans (hleH_35.trans hleu_38))))) (ha_3.mono R_Write.mono (hleu_16.trans (hleH_33.trans (hleH_34.trans (hleH_35.trans hleu_38))))) (ha_4.mono RU8.mono (hleu_16.trans (hleH_33.trans (hleH_34.trans (hleH_35.trans hleu_38))))) _ hr_42) rfl (fun u_43 Ku_43 Hu_43 hRu_43 hleu_43 hfu_43 => ?_)
  obtain ⟨ar_44, nr_44, cr_44, Kr_44, rfl, rfl, hr_44, hnewr_44, -⟩ := hRu_43
  replace hr_44 := (RowOf.base (Zo (H2 := New H Hu_43) R_Ptr.const hr_44) (fun p hp => (hfu_43 p (Zw 0 rfl hp)).resolve_left (hnewr_44 p hp)))
  refine ZA rfl rfl (ZG rfl) (ZA rfl rfl (R.extract rfl rfl) (ZA rfl rfl (R.extract rfl rfl) (JL.alloc Z41 rfl (fun b_45 hb_45 => ZV 0 S41 rfl rfl rfl rfl rfl (Nat.le_of_ble_eq_true rfl) (ZA rfl rfl (ZE rfl) (ZD (ZC (JC.tidyP (l' := [(3, .int .u32 (p_7.toNat : Int)), (4, .pointer (some ⟨b_8, 0, none⟩)), (5, .pointer (some ⟨b_9, 0, none⟩)), (8, .bool false), (9, .pointer (some ⟨b_20, 0, none⟩)), (10, .slice ar_26 nr_26 cr_26), (11, .int .i64 x_24.2), (12, .slice ar_32 nr_32 cr_32), (13, .int .i64 x_29.2), (14, .pointer (some ⟨b_40, 0, none⟩)), (15, .int .i64 x_36.2), (16, .pointer (some ⟨b_45, 0, none⟩)), (17, .int .i64 x_41.2)]) (own' := [[(b_45, .cells #[.int .u8 (x_41.1.Kind.toNat : Int), .int .i64 x_41.1.Links, .int .i64 x_41.1.Size, .slice ar_44 nr_44 cr_44] 41 (0, 0))], Kr_44, [(b_40, .cells #[.int .u8 (x_36.1.Kind.toNat : Int), .int .i64 x_36.1.Links, .int .i64 x_36.1.Size, .slice az_39 nz_39 nz_39] 41 (0, 0))], Kr_32, Kr_26, [(b_20, .cells #[.slice ar_17 nr_17 cr_17, .slice ar_18 nr_18 cr_18, .slice ar_19 nr_19 cr_19, .int .u32 (x_14.Epoch.toNat : Int), .int .u32 (x_14.Count.toNat : Int)] 29 (0, 0))], [(b_9, .cells #[.int .i64 p_5.At, .int .u32 (p_5.Birth.toNat : Int), .int .u32 (p_5.Iv.toNat : Int), .int .u32 (p_5.Tag.toNat : Int), .int .u32 (p_5.Sum.toNat : Int)] 31 (0, 0))], [(b_8, .cells #[.slice aa_2 na_2 ca_2, .slice aa_3 na_3 ca_3, .slice aa_4 na_4 ca_4, .int .u32 (p_1.Epoch.toNat : Int), .int .u32 (p_1.Count.toNat : Int)] 29 (0, 0))]]) (rst := []) ⟨rfl, rfl, rfl, rfl, rfl, rfl, rfl, rfl, rfl, rfl, rfl, rfl, rfl, trivial⟩ (Zf 0 rfl (Zf 0 rfl (Zf 0 rfl (Zf 0 rfl (Zf 0 rfl (Zf 0 rfl (Zf 0 rfl (Zf 0 rfl ZL)))))))) (ZF (ZB (ZA rfl rfl (Zg 5 (vs := [.slice ar_17 nr_17 cr_17, .slice ar_18 nr_18 cr_18, .slice ar_19 nr_19 cr_19, .int .u32 (x_14.Epoch.toNat : Int), .int .u32 (x_14.Count.toNat : Int)]) S29 rfl rfl rfl rfl) ?_)))))))))))
  refine ZA rfl rfl (Zg 6 (vs := [.int .i64 p_5.At, .int .u32 (p_5.Birth.toNat : Int), .int .u32 (p_5.Iv.toNat : Int), .int .u32 (p_5.Tag.toNat : Int), .int .u32 (p_5.Sum.toNat : Int)]) S31 rfl rfl rfl rfl) (ZA rfl rfl (ZG rfl) ?_)
  obtain ⟨x_46, hr_47, hx⟩ := ZM hx
  refine ZR (vs := [_, _, _]) (args := [_, _, _]) (K := []) (rst := [_, _, _, _, _, _, _, _]) E12 rfl rfl rfl ZL (set_Walk_ok x_14 p_5 p_7 _ ((hsH_33.mono (RSl.mono RU8.mono) (New.mono (hleH_34.trans (hleH_35.trans (hleu_38.trans hleu_43))))).old (RSl.mono RU8.mono)) ((hsH_34.mono R_Write.mono (New.mono (hleH_35.trans (hleu_38.trans hleu_43)))).old R_Write.mono) ((hsH_35.mono RU8.mono (New.mono (hleu_38.trans hleu_43))).old RU8.mono) _ hr_47) rfl (fun u_48 Ku_48 Hu_48 hRu_48 hleu_48 hfu_48 => ?_)
  obtain ⟨ar_49, nr_49, cr_49, Kr_49, rfl, rfl, hr_49, hnewr_49, -⟩ := hRu_48
  replace hr_49 := (RowOf.base (Zo (H2 := New H Hu_48) R_Ptr.const hr_49) (fun p hp => (hfu_48 p (Zw 0 rfl hp)).resolve_left (hnewr_49 p hp)))
  refine ZA rfl rfl (ZG rfl) (ZA rfl rfl (R.extract rfl rfl) (ZA rfl rfl (R.extract rfl rfl) (ZA rfl rfl (ZE rfl) (ZA rfl rfl (ZE rfl) (ZD (ZC (ZF (ZB (ZA rfl rfl (Zg 8 (vs := [.slice aa_2 na_2 ca_2, .slice aa_3 na_3 ca_3, .slice aa_4 na_4 ca_4, .int .u32 (p_1.Epoch.toNat : Int), .int .u32 (p_1.Count.toNat : Int)]) S29 rfl rfl rfl rfl) (ZA rfl rfl (Zg 7 (vs := [.int .i64 p_5.At, .int .u32 (p_5.Birth.toNat : Int), .int .u32 (p_5.Iv.toNat : Int), .int .u32 (p_5.Tag.toNat : Int), .int .u32 (p_5.Sum.toNat : Int)]) S31 rfl rfl rfl rfl) (ZA rfl rfl (ZG rfl) ?_)))))))))))
  obtain ⟨x_50, hr_51, hx⟩ := ZM hx
  refine ZR (vs := [_, _, _]) (args := [_, _, _]) (K := []) (rst := [_, _, _, _, _, _, _, _, _]) E13 rfl rfl rfl ZL (ref15_Walk_ok p_1 p_5 p_7 _ (ha_2.mono (RSl.mono RU8.mono) (hleu_16.trans (hleH_33.trans (hleH_34.trans (hleH_35.trans (hleu_38.trans (hleu_43.trans hleu_48))))))) (ha_3.mono R_Write.mono (hleu_16.trans (hleH_33.trans (hleH_34.trans (hleH_35.trans (hleu_38.trans (hleu_43.trans hleu_48))))))) (ha_4.mono RU8.mono (hleu_16.trans (hleH_33.trans (hleH_34.trans (hleH_35.trans (hleu_38.trans (hleu_43.trans hleu_48))))))) _ hr_51) rfl (fun u_52 Ku_52 Hu_52 hRu_52 hleu_52 hfu_52 => ?_)
  obtain ⟨ar_53, nr_53, cr_53, Kr_53, rfl, rfl, hr_53, hnewr_53, -⟩ := hRu_52
  replace hr_53 := (RowOf.base (Zo (H2 := New H Hu_52) R_Ptr.const hr_53) (fun p hp => (hfu_52 p (Zw 0 rfl hp)).resolve_left (hnewr_53 p hp)))
  refine ZA rfl rfl (ZG rfl) (ZA rfl rfl (R.extract rfl rfl) (ZA rfl rfl (R.extract rfl rfl) (ZA rfl rfl (ZE rfl) (ZA rfl rfl (ZE rfl) (ZD (ZC (ZF ?_)))))))
  obtain ⟨t_54, ht_56, hx⟩ := ZM hx
  refine Z1 (fun l o g => l = [(8, .bool t_54)] ∧ o = [] ∧ Hu_52 = g) ?_ ?_
  ·
   rintro _ _ _ ⟨rfl, rfl, rfl⟩
   refine ZC (ZS (ZQ (vs := [.bool t_54]) (K := []) (rst := []) (.inl rfl) rfl rfl (ZO rfl rfl) ZL ?_))
   obtain rfl := Option.some.inj hx
   exact ⟨rfl, rfl, trivial⟩
  ·
   have hxo_55 := hx; clear hx; have hx := ht_56; clear ht_56
   refine ZB (ZA rfl rfl (ZG rfl) (ZA rfl rfl (ZG rfl) ?_))
   obtain ⟨x_60, hr_61, hx⟩ := ZM hx
   refine JL.callL2 (vs := [_, _]) (v := .bool x_60) E14 rfl rfl (fun H_59 hle_58 hl_57 => Does.mono (ref10_Same_ok x_24.1 x_29.1 _ (Lent.row' 6 hl_57 R_Ptr.mono hle_58 rfl ((hr_26.mono R_Ptr.mono (New.mono (hleH_33.trans (hleH_34.trans (hleH_35.trans (hleu_38.trans (hleu_43.trans (hleu_48.trans hleu_52)))))))).old R_Ptr.mono)) (Lent.row' 5 hl_57 R_Ptr.mono hle_58 rfl ((hr_32.mono R_Ptr.mono (New.mono (hleH_33.trans (hleH_34.trans (hleH_35.trans (hleu_38.trans (hleu_43.trans (hleu_48.trans hleu_52)))))))).old R_Ptr.mono)) _ hr_61) (fun _ _ _ h => h.1)) rfl (ZA rfl rfl (ZG rfl) (Ze (t := 69) rfl (fun c_62 => ?_) (fun c_62 => ?_)))
   ·
    replace hx := ZT c_62 hx
    refine ZK rfl rfl rfl (ZA rfl rfl (ZG rfl) (ZK rfl rfl rfl (ZA rfl rfl (ZG rfl) (ZK rfl rfl rfl (ZA rfl rfl (R.eql_i rfl rfl) (ZA rfl rfl (Zb rfl rfl) (ZA rfl rfl (ZG rfl) (Ze (t := 74) rfl (fun c_63 => ?_) (fun c_63 => ?_)))))))))
    ·
     replace hx := ZT c_63 hx
     refine ZK rfl rfl rfl (ZA rfl rfl (Zg 4 (vs := [.int .u8 (x_36.1.Kind.toNat : Int), .int .i64 x_36.1.Links, .int .i64 x_36.1.Size, .slice az_39 nz_39 nz_39]) S41 rfl rfl rfl rfl) (ZK rfl rfl rfl (ZA rfl rfl (Zg 2 (vs := [.int .u8 (x_41.1.Kind.toNat : Int), .int .i64 x_41.1.Links, .int .i64 x_41.1.Size, .slice ar_44 nr_44 cr_44]) S41 rfl rfl rfl rfl) (ZK rfl rfl rfl ?_))))
     obtain ⟨x_67, hr_68, hx⟩ := ZM hx
     refine JL.callL2 (vs := [_, _]) (v := .bool x_67) E15 rfl rfl (fun H_66 hle_65 hl_64 => Does.mono (ref14_Same_ok x_36.1 x_41.1 _ (IsSlice.mono R_Ptr.mono hle_65 ((hz_39.mono R_Ptr.mono (New.mono (hleu_43.trans (hleu_48.trans hleu_52)))).old R_Ptr.mono)) (Lent.row' 3 hl_64 R_Ptr.mono hle_65 rfl ((hr_44.mono R_Ptr.mono (New.mono (hleu_48.trans hleu_52))).old R_Ptr.mono)) _ hr_68) (fun _ _ _ h => h.1)) rfl (ZA rfl rfl (Zb rfl rfl) (ZA rfl rfl (ZG rfl) (Ze (t := 79) rfl (fun c_69 => ?_) (fun c_69 => ?_))))
     ·
      replace hx := ZT c_69 hx
      refine ZK rfl rfl rfl (ZA rfl rfl (ZG rfl) (ZK rfl rfl rfl (ZA rfl rfl (ZG rfl) (ZK rfl rfl rfl (ZA rfl rfl (R.eql_i rfl rfl) (ZA rfl rfl (Zb rfl rfl) (ZA rfl rfl (ZG rfl) (Ze (t := 84) rfl (fun c_70 => ?_) (fun c_70 => ?_)))))))))
      ·
       replace hx := ZT c_70 hx
       refine ZK rfl rfl rfl (ZA rfl rfl (ZG rfl) (ZK rfl rfl rfl (ZA rfl rfl (ZG rfl) (ZK rfl rfl rfl ?_))))
       obtain ⟨x_74, hr_75, hx⟩ := ZM hx
       refine JL.callL2 (vs := [_, _]) (v := .bool x_74) E14 rfl rfl (fun H_73 hle_72 hl_71 => Does.mono (ref10_Same_ok x_46.1 x_50.1 _ (Lent.row' 1 hl_71 R_Ptr.mono hle_72 rfl ((hr_49.mono R_Ptr.mono (New.mono hleu_52)).old R_Ptr.mono)) (Lent.row' 0 hl_71 R_Ptr.mono hle_72 rfl (hr_53.old R_Ptr.mono)) _ hr_75) (fun _ _ _ h => h.1)) rfl (ZA rfl rfl (Zb rfl rfl) (ZA rfl rfl (ZG rfl) (Ze (t := 89) rfl (fun c_76 => ?_) (fun c_76 => ?_))))
       ·
        replace hx := ZT c_76 hx
        refine ZK rfl rfl rfl (ZA rfl rfl (ZG rfl) (ZK rfl rfl rfl (ZA rfl rfl (ZG rfl) (ZK rfl rfl rfl (ZA rfl rfl (R.eql_i rfl rfl) (ZA rfl rfl (Zb rfl rfl) (ZA rfl rfl (ZG rfl) (Ze (t := 94) rfl (fun c_77 => ?_) (fun c_77 => ?_)))))))))
        ·
         replace hx := ZT c_77 hx
         refine ZK rfl rfl rfl (ZA rfl rfl (Zg 7 (vs := [.slice ar_17 nr_17 cr_17, .slice ar_18 nr_18 cr_18, .slice ar_19 nr_19 cr_19, .int .u32 (x_14.Epoch.toNat : Int), .int .u32 (x_14.Count.toNat : Int)]) S29 rfl rfl rfl rfl) (ZK rfl rfl rfl (ZA rfl rfl (Zg 9 (vs := [.slice aa_2 na_2 ca_2, .slice aa_3 na_3 ca_3, .slice aa_4 na_4 ca_4, .int .u32 (p_1.Epoch.toNat : Int), .int .u32 (p_1.Count.toNat : Int)]) S29 rfl rfl rfl rfl) (ZK rfl rfl rfl ?_))))
         obtain ⟨x_78, hr_79, hx⟩ := ZM hx
         refine ZR (vs := [_, _]) (args := [_, _]) (K := []) (rst := [_, _, _, _, _, _, _, _, _, _]) E16 rfl rfl rfl ZL (ref13_Same_ok x_14 p_1 _ ((hsH_33.mono (RSl.mono RU8.mono) (New.mono (hleH_34.trans (hleH_35.trans (hleu_38.trans (hleu_43.trans (hleu_48.trans hleu_52))))))).old (RSl.mono RU8.mono)) ((hsH_34.mono R_Write.mono (New.mono (hleH_35.trans (hleu_38.trans (hleu_43.trans (hleu_48.trans hleu_52)))))).old R_Write.mono) ((hsH_35.mono RU8.mono (New.mono (hleu_38.trans (hleu_43.trans (hleu_48.trans hleu_52))))).old RU8.mono) (ha_2.mono (RSl.mono RU8.mono) (hleu_16.trans (hleH_33.trans (hleH_34.trans (hleH_35.trans (hleu_38.trans (hleu_43.trans (hleu_48.trans hleu_52)))))))) (ha_3.mono R_Write.mono (hleu_16.trans (hleH_33.trans (hleH_34.trans (hleH_35.trans (hleu_38.trans (hleu_43.trans (hleu_48.trans hleu_52)))))))) (ha_4.mono RU8.mono (hleu_16.trans (hleH_33.trans (hleH_34.trans (hleH_35.trans (hleu_38.trans (hleu_43.trans (hleu_48.trans hleu_52)))))))) _ hr_79) rfl (fun u_80 Ku_80 Hu_80 hRu_80 hleu_80 hfu_80 => ?_)
         obtain ⟨rfl, rfl, rfl, -⟩ := hRu_80
         refine ZA rfl rfl (Zb rfl rfl) (ZA rfl rfl (ZE rfl) (ZD ?_))
         obtain rfl := Option.some.inj hx
         refine JN.forget 9 (JN.forget 8 (JN.forget 7 (JN.forget 6 (JN.forget 5 (JN.forget 4 (JN.forget 3 (JN.forget 2 (JN.forget 1 (JN.forget 0 ?_)))))))))
         exact ZZ ⟨rfl, rfl, rfl⟩ ⟨rfl, trivial⟩ rfl rfl
        ·
         replace hx := ZU c_77 hx
         refine ZH rfl rfl rfl rfl rfl (ZH rfl rfl rfl rfl rfl (ZH rfl rfl rfl rfl rfl (ZA rfl rfl (Za rfl rfl) (ZA rfl rfl (ZE rfl) (ZD ?_)))))
         obtain rfl := Option.some.inj hx
         refine JN.forget 9 (JN.forget 8 (JN.forget 7 (JN.forget 6 (JN.forget 5 (JN.forget 4 (JN.forget 3 (JN.forget 2 (JN.forget 1 (JN.forget 0 ?_)))))))))
         exact ZZ ⟨rfl, rfl, rfl⟩ ⟨rfl, trivial⟩ rfl rfl
       ·
        replace hx := ZU c_76 hx
        refine ZH rfl rfl rfl rfl rfl (ZH rfl rfl rfl rfl rfl (ZH rfl rfl rfl rfl rfl (ZA rfl rfl (Za rfl rfl) (ZA rfl rfl (ZG rfl) (ZH rfl rfl rfl rfl rfl (ZH rfl rfl rfl rfl rfl (ZH rfl rfl rfl rfl rfl (ZA rfl rfl (Za rfl rfl) (ZA rfl rfl (ZE rfl) (ZD ?_))))))))))
        obtain rfl := Option.some.inj hx
        refine JN.forget 9 (JN.forget 8 (JN.forget 7 (JN.forget 6 (JN.forget 5 (JN.forget 4 (JN.forget 3 (JN.forget 2 (JN.forget 1 (JN.forget 0 ?_)))))))))
        exact ZZ ⟨rfl, rfl, rfl⟩ ⟨rfl, trivial⟩ rfl rfl
      ·
       replace hx := ZU c_70 hx
       refine ZH rfl rfl rfl rfl rfl (ZH rfl rfl rfl rfl rfl (ZH rfl rfl rfl rfl rfl (ZA rfl rfl (Za rfl rfl) (ZA rfl rfl (ZG rfl) (ZH rfl rfl rfl rfl rfl (ZH rfl rfl rfl rfl rfl (ZH rfl rfl rfl rfl rfl (ZA rfl rfl (Za rfl rfl) (ZA rfl rfl (ZG rfl) (ZH rfl rfl rfl rfl rfl (ZH rfl rfl rfl rfl rfl ?_)))))))))))
       refine ZH rfl rfl rfl rfl rfl (ZA rfl rfl (Za rfl rfl) (ZA rfl rfl (ZE rfl) (ZD ?_)))
       obtain rfl := Option.some.inj hx
       refine JN.forget 9 (JN.forget 8 (JN.forget 7 (JN.forget 6 (JN.forget 5 (JN.forget 4 (JN.forget 3 (JN.forget 2 (JN.forget 1 (JN.forget 0 ?_)))))))))
       exact ZZ ⟨rfl, rfl, rfl⟩ ⟨rfl, trivial⟩ rfl rfl
     ·
      replace hx := ZU c_69 hx
      refine ZH rfl rfl rfl rfl rfl (ZH rfl rfl rfl rfl rfl (ZH rfl rfl rfl rfl rfl (ZA rfl rfl (Za rfl rfl) (ZA rfl rfl (ZG rfl) (ZH rfl rfl rfl rfl rfl (ZH rfl rfl rfl rfl rfl (ZH rfl rfl rfl rfl rfl (ZA rfl rfl (Za rfl rfl) (ZA rfl rfl (ZG rfl) (ZH rfl rfl rfl rfl rfl (ZH rfl rfl rfl rfl rfl ?_)))))))))))
      refine ZH rfl rfl rfl rfl rfl (ZA rfl rfl (Za rfl rfl) (ZA rfl rfl (ZG rfl) (ZH rfl rfl rfl rfl rfl (ZH rfl rfl rfl rfl rfl (ZH rfl rfl rfl rfl rfl (ZA rfl rfl (Za rfl rfl) (ZA rfl rfl (ZE rfl) (ZD ?_))))))))
      obtain rfl := Option.some.inj hx
      refine JN.forget 9 (JN.forget 8 (JN.forget 7 (JN.forget 6 (JN.forget 5 (JN.forget 4 (JN.forget 3 (JN.forget 2 (JN.forget 1 (JN.forget 0 ?_)))))))))
      exact ZZ ⟨rfl, rfl, rfl⟩ ⟨rfl, trivial⟩ rfl rfl
    ·
     replace hx := ZU c_63 hx
     refine ZH rfl rfl rfl rfl rfl (ZH rfl rfl rfl rfl rfl (ZH rfl rfl rfl rfl rfl (ZA rfl rfl (Za rfl rfl) (ZA rfl rfl (ZG rfl) (ZH rfl rfl rfl rfl rfl (ZH rfl rfl rfl rfl rfl (ZH rfl rfl rfl rfl rfl (ZA rfl rfl (Za rfl rfl) (ZA rfl rfl (ZG rfl) (ZH rfl rfl rfl rfl rfl (ZH rfl rfl rfl rfl rfl ?_)))))))))))
     refine ZH rfl rfl rfl rfl rfl (ZA rfl rfl (Za rfl rfl) (ZA rfl rfl (ZG rfl) (ZH rfl rfl rfl rfl rfl (ZH rfl rfl rfl rfl rfl (ZH rfl rfl rfl rfl rfl (ZA rfl rfl (Za rfl rfl) (ZA rfl rfl (ZG rfl) (ZH rfl rfl rfl rfl rfl (ZH rfl rfl rfl rfl rfl (ZH rfl rfl rfl rfl rfl (ZA rfl rfl (Za rfl rfl) ?_)))))))))))
     refine ZA rfl rfl (ZE rfl) (ZD ?_)
     obtain rfl := Option.some.inj hx
     refine JN.forget 9 (JN.forget 8 (JN.forget 7 (JN.forget 6 (JN.forget 5 (JN.forget 4 (JN.forget 3 (JN.forget 2 (JN.forget 1 (JN.forget 0 ?_)))))))))
     exact ZZ ⟨rfl, rfl, rfl⟩ ⟨rfl, trivial⟩ rfl rfl
   ·
    replace hx := ZU c_62 hx
    refine ZH rfl rfl rfl rfl rfl (ZH rfl rfl rfl rfl rfl (ZH rfl rfl rfl rfl rfl (ZA rfl rfl (Za rfl rfl) (ZA rfl rfl (ZG rfl) (ZH rfl rfl rfl rfl rfl (ZH rfl rfl rfl rfl rfl (ZH rfl rfl rfl rfl rfl (ZA rfl rfl (Za rfl rfl) (ZA rfl rfl (ZG rfl) (ZH rfl rfl rfl rfl rfl (ZH rfl rfl rfl rfl rfl ?_)))))))))))
    refine ZH rfl rfl rfl rfl rfl (ZA rfl rfl (Za rfl rfl) (ZA rfl rfl (ZG rfl) (ZH rfl rfl rfl rfl rfl (ZH rfl rfl rfl rfl rfl (ZH rfl rfl rfl rfl rfl (ZA rfl rfl (Za rfl rfl) (ZA rfl rfl (ZG rfl) (ZH rfl rfl rfl rfl rfl (ZH rfl rfl rfl rfl rfl (ZH rfl rfl rfl rfl rfl (ZA rfl rfl (Za rfl rfl) ?_)))))))))))
    refine ZA rfl rfl (ZG rfl) (ZH rfl rfl rfl rfl rfl (ZH rfl rfl rfl rfl rfl (ZH rfl rfl rfl rfl rfl (ZA rfl rfl (Za rfl rfl) (ZA rfl rfl (ZE rfl) (ZD ?_))))))
    obtain rfl := Option.some.inj hx
    refine JN.forget 9 (JN.forget 8 (JN.forget 7 (JN.forget 6 (JN.forget 5 (JN.forget 4 (JN.forget 3 (JN.forget 2 (JN.forget 1 (JN.forget 0 ?_)))))))))
    exact ZZ ⟨rfl, rfl, rfl⟩ ⟨rfl, trivial⟩ rfl rfl
end Go.Proofs.YtdoebbgjjlicjaaGreat
