import Derived.Test.YtebhagohhbmgoaaW2p1
/- walks: what the code computes, function by function. -/
namespace Go.Proofs.Ytebhagohhbmgoaa
open Go.Ow Go.RowKit Go.Proofs
set_option linter.unusedVariables false
set_option linter.unusedSimpArgs false
set_option maxHeartbeats 8000000 in
theorem law29_SendBytes_ok (p_1 : Stream) (p_5 : List UInt8) (H : Heaplet) {aa_2 : Option Addr} {na_2 : Nat} {ca_2 : Nat} {aa_3 : Option Addr} {na_3 : Nat} {ca_3 : Nat} {aa_4 : Option Addr} {na_4 : Nat} {ca_4 : Nat} {aa_6 : Option Addr} {na_6 : Nat} {ca_6 : Nat} (ha_2 : IsSlice H RU8 1 (.slice aa_2 na_2 ca_2) p_1.Key) (ha_3 : IsSlice H R_Part 5 (.slice aa_3 na_3 ca_3) p_1.Parts) (ha_4 : IsSlice H RU8 1 (.slice aa_4 na_4 ca_4) p_1.Sign) (ha_6 : IsSlice H RU8 1 (.slice aa_6 na_6 ca_6) p_5) (r : Bool) (hx : law29_SendBytes p_1 p_5 = some r) :
  Does Try.prog 3 #[.agg #[.int .u32 (p_1.Guid.toNat : Int), .int .u32 (p_1.Base.toNat : Int), .slice aa_2 na_2 ca_2, .slice aa_3 na_3 ca_3, .slice aa_4 na_4 ca_4], .slice aa_6 na_6 ca_6] [] H (fun u K' H' => u = .bool r ∧ K' = [] ∧ True) := by
 refine Does.enterL (vs := [.agg #[.int .u32 (p_1.Guid.toNat : Int), .int .u32 (p_1.Base.toNat : Int), .slice aa_2 na_2 ca_2, .slice aa_3 na_3 ca_3, .slice aa_4 na_4 ca_4], .slice aa_6 na_6 ca_6]) (l := [(0, .agg #[.int .u32 (p_1.Guid.toNat : Int), .int .u32 (p_1.Base.toNat : Int), .slice aa_2 na_2 ca_2, .slice aa_3 na_3 ca_3, .slice aa_4 na_4 ca_4]), (1, .slice aa_6 na_6 ca_6)]) Try.func3 rfl rfl ⟨rfl, rfl, trivial⟩ (fun w hlt => ?_)
 unfold law29_SendBytes at hx
 refine ZG (ZB (JL.box rfl rfl (fun b_7 hb_7 => ZA rfl rfl (ZE rfl) (ZD (ZC (ZG (ZG (ZB (ZA rfl rfl (R.ldoN 0 (vs := [.int .u32 (p_1.Guid.toNat : Int), .int .u32 (p_1.Base.toNat : Int), .slice aa_2 na_2 ca_2, .slice aa_3 na_3 ca_3, .slice aa_4 na_4 ca_4]) S26 rfl rfl rfl rfl) ?_)))))))))
 obtain ⟨x_8, hr_9, hx⟩ := ZM hx
 refine ZT (vs := [_]) (args := [_]) (K := []) (rst := [_]) E5 rfl rfl rfl ZL (ref29_Great_ok p_1 _ ha_2 ha_3 ha_4 _ hr_9) rfl (fun u_10 Ku_10 Hu_10 hRu_10 hleu_10 hfu_10 => ?_)
 obtain ⟨rfl, rfl, rfl, -⟩ := hRu_10
 refine ZA rfl rfl (ZH rfl) (ZZ (t := 19) rfl (fun c_11 => ?_) (fun c_11 => ?_))
 ·
  replace hx := ZP c_11 hx
  refine ZF rfl rfl rfl rfl rfl (ZF rfl rfl rfl rfl rfl (ZF rfl rfl rfl rfl rfl (ZA rfl rfl (ZR rfl rfl) (ZD (ZC (Zm rfl (ZG (ZB (ZA rfl rfl (ZE rfl) (ZD (ZC ?_)))))))))))
  refine ZV (ZJ (ZO (vs := [.bool true]) (K := []) (rst := [_]) (.inl rfl) rfl rfl (ZN rfl rfl) ZL ?_))
  obtain rfl := Option.some.inj hx
  exact ⟨rfl, rfl, trivial⟩
 ·
  replace hx := ZQ c_11 hx
  refine ZI rfl rfl rfl (ZA rfl rfl (ZH rfl) (ZI rfl rfl rfl (ZA rfl rfl (Zs U23 rfl (IsSlice.long ha_6)) (ZI rfl rfl rfl (ZA rfl rfl (R.gtr_i rfl rfl) (ZA rfl rfl (Za rfl rfl) (ZD (ZC (ZY rfl (fun c_12 => ?_) (fun c_12 => ?_))))))))))
  ·
   replace hx := ZP c_12 hx
   refine ZG (ZB (ZA rfl rfl (ZE rfl) (ZD (ZC (ZV (ZJ (ZO (vs := [.bool true]) (K := []) (rst := [_]) (.inl rfl) rfl rfl (ZN rfl rfl) ZL ?_)))))))
   obtain rfl := Option.some.inj hx
   exact ⟨rfl, rfl, trivial⟩
  ·
   replace hx := ZQ c_12 hx
   refine JC.skip (ZC (ZG (ZB (ZA rfl rfl (ZH rfl) (ZA rfl rfl (R.toStr U23 U5 U9 rfl ha_6) (ZA rfl rfl (ZE rfl) (ZD (ZC (JC.tidy (l' := [(1, .slice aa_6 na_6 ca_6), (2, .pointer (some ⟨b_7, 0, none⟩)), (4, .bool false), (5, .string (bs p_5))]) (own' := [[(b_7, .cells #[.int .u32 (p_1.Guid.toNat : Int), .int .u32 (p_1.Base.toNat : Int), .slice aa_2 na_2 ca_2, .slice aa_3 na_3 ca_3, .slice aa_4 na_4 ca_4] 26 (0, 0))]]) ⟨rfl, rfl, rfl, rfl, trivial⟩ rfl (JC.tidyP (l' := [(1, .slice aa_6 na_6 ca_6), (2, .pointer (some ⟨b_7, 0, none⟩)), (4, .bool false), (5, .string (bs p_5))]) (own' := [[(b_7, .cells #[.int .u32 (p_1.Guid.toNat : Int), .int .u32 (p_1.Base.toNat : Int), .slice aa_2 na_2 ca_2, .slice aa_3 na_3 ca_3, .slice aa_4 na_4 ca_4] 26 (0, 0))]]) (rst := []) ⟨rfl, rfl, rfl, rfl, trivial⟩ (ZS 0 rfl ZL) ?_))))))))))
   have ho_13 := ha_6
   have ho_14 := ha_2
   have ho_15 := ha_3
   have ho_16 := ha_4
   refine JC.root (fun w_17 hw_17 low_18 hlt => ZG (ZB (ZA rfl rfl (R.ldoN 0 (vs := [.int .u32 (p_1.Guid.toNat : Int), .int .u32 (p_1.Base.toNat : Int), .slice aa_2 na_2 ca_2, .slice aa_3 na_3 ca_3, .slice aa_4 na_4 ca_4]) S26 rfl rfl rfl rfl) ?_)))
   obtain ⟨x_19, hr_20, hx⟩ := ZM hx
   refine ZT (vs := [_]) (args := [_]) (K := []) (rst := [_]) E6 rfl rfl rfl ZL (send_Write_ok p_1 _ ho_14 ho_15 ho_16 _ hr_20) rfl (fun u_21 Ku_21 Hu_21 hRu_21 hleu_21 hfu_21 => ?_)
   obtain ⟨ar_22, nr_22, cr_22, Kr_22, rfl, rfl, hr_22, hnewr_22, -⟩ := hRu_21
   replace hr_22 := (RowOf.base (ZX (H2 := New H Hu_21) RU8.const hr_22) (fun p hp => (hfu_21 p (Zr 0 rfl hp)).resolve_left (hnewr_22 p hp)))
   refine ZA rfl rfl (ZH rfl) (ZA rfl rfl (R.extract rfl rfl) (ZA rfl rfl (R.extract rfl rfl) (ZA rfl rfl (ZE rfl) (ZA rfl rfl (ZE rfl) (ZD (ZC (ZG (ZB (ZA rfl rfl (R.ldoN 1 (vs := [.int .u32 (p_1.Guid.toNat : Int), .int .u32 (p_1.Base.toNat : Int), .slice aa_2 na_2 ca_2, .slice aa_3 na_3 ca_3, .slice aa_4 na_4 ca_4]) S26 rfl rfl rfl rfl) ?_)))))))))
   obtain ⟨x_23, hr_24, hx⟩ := ZM hx
   refine ZT (vs := [_]) (args := [_]) (K := []) (rst := [_, _]) E7 rfl rfl rfl ZL (ref29_Write_ok p_1 _ (ho_14.mono RU8.mono hleu_21) (ho_15.mono R_Part.mono hleu_21) (ho_16.mono RU8.mono hleu_21) _ hr_24) rfl (fun u_25 Ku_25 Hu_25 hRu_25 hleu_25 hfu_25 => ?_)
   obtain ⟨ar_26, nr_26, cr_26, Kr_26, rfl, rfl, rfl, hr_26, hnewr_26, -⟩ := hRu_25
   replace hr_26 := (RowOf.base (ZX (H2 := New H Hu_21) RU8.const hr_26) (fun p hp => (hfu_25 p (Zr 0 rfl hp)).resolve_left (hnewr_26 p hp)))
   refine ZA rfl rfl (ZH rfl) (ZA rfl rfl (R.extract rfl rfl) (ZA rfl rfl (R.extract rfl rfl) (ZA rfl rfl (ZE rfl) (ZA rfl rfl (ZE rfl) (ZD (ZC (ZG (ZB (ZA rfl rfl (ZH rfl) ?_)))))))))
   obtain ⟨x_27, hr_28, hx⟩ := ZM hx
   refine ZT (vs := [_]) (args := [_]) (K := []) (rst := [_, _, _]) E8 rfl rfl rfl ZL (send_Parse_ok p_5 _ (ho_13.mono RU8.mono hleu_21) _ hr_28) rfl (fun u_29 Ku_29 Hu_29 hRu_29 hleu_29 hfu_29 => ?_)
   obtain ⟨ar_30, nr_30, cr_30, Kr_30, ar_31, nr_31, cr_31, Kr_31, ar_32, nr_32, cr_32, Kr_32, rfl, rfl, hr_30, hnewr_30, hr_31, hnewr_31, hr_32, hnewr_32, -⟩ := hRu_29
   replace hr_30 := (RowOf.base (ZX (H2 := New H Hu_29) RU8.const hr_30) (fun p hp => (hfu_29 p (Zr 0 rfl hp)).resolve_left (hnewr_30 p hp)))
   replace hr_31 := (RowOf.base (RowOf.mono R_Part.mono (New.call hleu_21) hr_31) (fun p hp => (hfu_29 p (Zr 1 rfl hp)).resolve_left (hnewr_31 p hp)))
   replace hr_32 := (RowOf.base (ZX (H2 := New H Hu_29) RU8.const hr_32) (fun p hp => (hfu_29 p (Zr 2 rfl hp)).resolve_left (hnewr_32 p hp)))
   refine ZA rfl rfl (ZH rfl) (ZA rfl rfl (R.extract rfl rfl) (ZA rfl rfl (R.extract rfl rfl) (JL.alloc Z26 rfl (fun b_33 hb_33 => Zh 0 S26 rfl rfl rfl rfl rfl (Nat.le_of_ble_eq_true rfl) (ZA rfl rfl (ZE rfl) (ZD (ZC (ZG (ZB (ZA rfl rfl (ZH rfl) ?_))))))))))
   obtain ⟨x_34, hr_35, hx⟩ := ZM hx
   refine ZT (vs := [_]) (args := [_]) (K := []) (rst := [_, _, _, _, _, _, _]) E9 rfl rfl rfl ZL (ref29_Parse_ok p_5 _ (ho_13.mono RU8.mono (hleu_21.trans hleu_29)) _ hr_35) rfl (fun u_36 Ku_36 Hu_36 hRu_36 hleu_36 hfu_36 => ?_)
   obtain ⟨ar_37, nr_37, cr_37, Kr_37, ar_38, nr_38, cr_38, Kr_38, ar_39, nr_39, cr_39, Kr_39, rfl, rfl, hr_37, hnewr_37, hr_38, hnewr_38, hr_39, hnewr_39, -⟩ := hRu_36
   replace hr_37 := (RowOf.base (ZX (H2 := New H Hu_36) RU8.const hr_37) (fun p hp => (hfu_36 p (Zr 0 rfl hp)).resolve_left (hnewr_37 p hp)))
   replace hr_38 := (RowOf.base (RowOf.mono R_Part.mono (New.call (hleu_21.trans hleu_29)) hr_38) (fun p hp => (hfu_36 p (Zr 1 rfl hp)).resolve_left (hnewr_38 p hp)))
   replace hr_39 := (RowOf.base (ZX (H2 := New H Hu_36) RU8.const hr_39) (fun p hp => (hfu_36 p (Zr 2 rfl hp)).resolve_left (hnewr_39 p hp)))
   refine ZA rfl rfl (ZH rfl) (ZA rfl rfl (R.extract rfl rfl) (ZA rfl rfl (R.extract rfl rfl) (JL.alloc Z26 rfl (fun b_40 hb_40 => Zh 0 S26 rfl rfl rfl rfl rfl (Nat.le_of_ble_eq_true rfl) (ZA rfl rfl (ZE rfl) (ZD (ZC (ZG ?_))))))))
   obtain ⟨t_41, ht_43, hx⟩ := ZM hx
   refine Zv (fun l o g => ∃ H_54 : Heaplet, l = [(1, .slice aa_6 na_6 ca_6), (5, .string (bs p_5)), (10, .pointer (some ⟨b_33, 0, none⟩)), (14, .bool t_41)] ∧ o = [[(b_33, .cells #[.int .u32 (x_27.1.Guid.toNat : Int), .int .u32 (x_27.1.Base.toNat : Int), .slice ar_30 nr_30 cr_30, .slice ar_31 nr_31 cr_31, .slice ar_32 nr_32 cr_32] 26 (0, 0))], Kr_30, Kr_31, Kr_32] ∧ H_54 = g ∧ Hle Hu_36 H_54) ?_ ?_
   ·
    rintro _ _ _ ⟨H_54, rfl, rfl, rfl, hleH_54⟩
    refine ZC (JC.tidy (l' := [(1, .slice aa_6 na_6 ca_6), (5, .string (bs p_5)), (10, .pointer (some ⟨b_33, 0, none⟩)), (14, .bool t_41)]) (own' := [[(b_33, .cells #[.int .u32 (x_27.1.Guid.toNat : Int), .int .u32 (x_27.1.Base.toNat : Int), .slice ar_30 nr_30 cr_30, .slice ar_31 nr_31 cr_31, .slice ar_32 nr_32 cr_32] 26 (0, 0))], Kr_30, Kr_31, Kr_32]) ⟨rfl, rfl, rfl, rfl, trivial⟩ rfl (JC.tidyP (l' := [(1, .slice aa_6 na_6 ca_6), (5, .string (bs p_5)), (10, .pointer (some ⟨b_33, 0, none⟩)), (14, .bool t_41)]) (own' := [[(b_33, .cells #[.int .u32 (x_27.1.Guid.toNat : Int), .int .u32 (x_27.1.Base.toNat : Int), .slice ar_30 nr_30 cr_30, .slice ar_31 nr_31 cr_31, .slice ar_32 nr_32 cr_32] 26 (0, 0))], Kr_30, Kr_31, Kr_32]) (rst := []) ⟨rfl, rfl, rfl, rfl, trivial⟩ (ZS 0 rfl (ZS 0 rfl (ZS 0 rfl (ZS 0 rfl ZL)))) (JC.pubN 1 RU8.mono rfl (hr_30.mono RU8.mono (New.mono (hleu_36.trans hleH_54))) (Nat.le_refl _) (fun H_55 hleH_55 hsH_55 => JC.forget 1 (JC.tidy (l' := [(1, .slice aa_6 na_6 ca_6), (5, .string (bs p_5)), (10, .pointer (some ⟨b_33, 0, none⟩)), (14, .bool t_41)]) (own' := [[(b_33, .cells #[.int .u32 (x_27.1.Guid.toNat : Int), .int .u32 (x_27.1.Base.toNat : Int), .slice ar_30 nr_30 cr_30, .slice ar_31 nr_31 cr_31, .slice ar_32 nr_32 cr_32] 26 (0, 0))], Kr_31, Kr_32]) ⟨rfl, rfl, rfl, rfl, trivial⟩ rfl (JC.tidyP (l' := [(1, .slice aa_6 na_6 ca_6), (5, .string (bs p_5)), (10, .pointer (some ⟨b_33, 0, none⟩)), (14, .bool t_41)]) (own' := [[(b_33, .cells #[.int .u32 (x_27.1.Guid.toNat : Int), .int .u32 (x_27.1.Base.toNat : Int), .slice ar_30 nr_30 cr_30, .slice ar_31 nr_31 cr_31, .slice ar_32 nr_32 cr_32] 26 (0, 0))], Kr_31, Kr_32]) (rst := []) ⟨rfl, rfl, rfl, rfl, trivial⟩ (ZS 0 rfl (ZS 0 rfl (ZS 0 rfl ZL))) (JC.pubN 1 R_Part.mono rfl (hr_31.mono R_Part.mono (New.mono (hleu_36.trans (hleH_54.trans hleH_55)))) (Nat.le_refl _) (fun H_56 hleH_56 hsH_56 => JC.forget 1 (JC.tidy (l' := [(1, .slice aa_6 na_6 ca_6), (5, .string (bs p_5)), (10, .pointer (some ⟨b_33, 0, none⟩)), (14, .bool t_41)]) (own' := [[(b_33, .cells #[.int .u32 (x_27.1.Guid.toNat : Int), .int .u32 (x_27.1.Base.toNat : Int), .slice ar_30 nr_30 cr_30, .slice ar_31 nr_31 cr_31, .slice ar_32 nr_32 cr_32] 26 (0, 0))], Kr_32]) ⟨rfl, rfl, rfl, rfl, trivial⟩ rfl (JC.tidyP (l' := [(1, .slice aa_6 na_6 ca_6), (5, .string (bs p_5)), (10, .pointer (some ⟨b_33, 0, none⟩)), (14, .bool t_41)]) (own' := [[(b_33, .cells #[.int .u32 (x_27.1.Guid.toNat : Int), .int .u32 (x_27.1.Base.toNat : Int), .slice ar_30 nr_30 cr_30, .slice ar_31 nr_31 cr_31, .slice ar_32 nr_32 cr_32] 26 (0, 0))], Kr_32]) (rst := []) ⟨rfl, rfl, rfl, rfl, trivial⟩ (ZS 0 rfl (ZS 0 rfl ZL)) (JC.pubN 1 RU8.mono rfl (hr_32.mono RU8.mono (New.mono (hleu_36.trans (hleH_54.trans (hleH_55.trans hleH_56))))) (Nat.le_refl _) (fun H_57 hleH_57 hsH_57 => ?_))))))))))))
    refine JC.forget 1 (JC.tidy (l' := [(1, .slice aa_6 na_6 ca_6), (5, .string (bs p_5)), (10, .pointer (some ⟨b_33, 0, none⟩)), (14, .bool t_41)]) (own' := [[(b_33, .cells #[.int .u32 (x_27.1.Guid.toNat : Int), .int .u32 (x_27.1.Base.toNat : Int), .slice ar_30 nr_30 cr_30, .slice ar_31 nr_31 cr_31, .slice ar_32 nr_32 cr_32] 26 (0, 0))]]) ⟨rfl, rfl, rfl, rfl, trivial⟩ rfl (JC.tidyP (l' := [(1, .slice aa_6 na_6 ca_6), (5, .string (bs p_5)), (10, .pointer (some ⟨b_33, 0, none⟩)), (14, .bool t_41)]) (own' := [[(b_33, .cells #[.int .u32 (x_27.1.Guid.toNat : Int), .int .u32 (x_27.1.Base.toNat : Int), .slice ar_30 nr_30 cr_30, .slice ar_31 nr_31 cr_31, .slice ar_32 nr_32 cr_32] 26 (0, 0))]]) (rst := []) ⟨rfl, rfl, rfl, rfl, trivial⟩ (ZS 0 rfl ZL) ?_))
    have hth_58 := (hsH_55.mono RU8.mono (New.mono (hleH_56.trans hleH_57)))
    have hth_59 := (hsH_56.mono R_Part.mono (New.mono hleH_57))
    have hth_60 := hsH_57
    refine JC.thaw low_18 (fun D_61 hTD_61 => ZG (ZG (ZB (ZA rfl rfl (ZE rfl) (ZD (ZC ?_))))))
    obtain ⟨t_62, ht_64, hx⟩ := ZM hx
    refine Zv (fun l o g => ∃ D_70 : Own, l = [(1, .slice aa_6 na_6 ca_6), (5, .string (bs p_5)), (14, .bool t_41)] ∧ o = [D_70] ∧ H = g ∧ TH (New H H_57) D_70) ?_ ?_
    ·
     rintro _ _ _ ⟨D_70, rfl, rfl, rfl, hT_71⟩
     refine ZC (ZG ?_)
     obtain ⟨t_72, ht_74, hx⟩ := ZM hx
     refine Zv (fun l o g => l = [(4, .bool t_72)] ∧ o = [D_70] ∧ H = g) ?_ ?_
     ·
      rintro _ _ _ ⟨rfl, rfl, rfl⟩
      refine ZC (ZV (ZO (vs := [.bool t_72]) (K := []) (rst := [_]) (.inl rfl) rfl rfl (ZN rfl rfl) ZL ?_))
      obtain rfl := Option.some.inj hx
      exact ⟨rfl, rfl, trivial⟩
     ·
      have hxo_73 := hx; clear hx; have hx := ht_74; clear ht_74
      refine ZB (ZA rfl rfl (ZH rfl) (ZA rfl rfl (ZH rfl) (ZZ (t := 96) rfl (fun c_75 => ?_) (fun c_75 => ?_))))
      ·
       replace hx := ZP c_75 hx
       refine ZI rfl rfl rfl (ZA rfl rfl (ZH rfl) (ZI rfl rfl rfl (ZA rfl rfl (R.toStr U23 U5 U9 rfl ho_13) (ZI rfl rfl rfl (ZA rfl rfl (ZH rfl) (ZI rfl rfl rfl (ZA rfl rfl (R.eqlStr (a := p_5) (b := p_5) rfl rfl) (ZA rfl rfl (ZR rfl rfl) (ZA rfl rfl (ZE rfl) (ZD ?_))))))))))
       obtain rfl := Option.some.inj hx
       exact ZW ⟨rfl, rfl, rfl⟩ ⟨rfl, trivial⟩ rfl rfl
      ·
       replace hx := ZQ c_75 hx
       refine ZF rfl rfl rfl rfl rfl (ZF rfl rfl rfl rfl rfl (ZF rfl rfl rfl rfl rfl (ZF rfl rfl rfl rfl rfl (ZA rfl rfl (Za rfl rfl) (ZA rfl rfl (ZE rfl) (ZD ?_))))))
       obtain rfl := Option.some.inj hx
       exact ZW ⟨rfl, rfl, rfl⟩ ⟨rfl, trivial⟩ rfl rfl
    ·
     have hxo_63 := hx; clear hx; have hx := ht_64; clear ht_64
     refine JC.block (JC.front 1 rfl (JC.loopI (fun n l o g => ∃ s_65 : Nat, ∃ D_68 : Own, l = [(1, .slice aa_6 na_6 ca_6), (5, .string (bs p_5)), (10, .pointer (some ⟨b_33, 0, none⟩)), (14, .bool t_41), (15, .int .i64 ((s_65 : Nat) : Int))] ∧ o = [[(b_33, .cells #[.int .u32 (x_27.1.Guid.toNat : Int), .int .u32 (x_27.1.Base.toNat : Int), .slice ar_30 nr_30 cr_30, .slice ar_31 nr_31 cr_31, .slice ar_32 nr_32 cr_32] 26 (0, 0))], D_68] ∧ H = g ∧ run (law29_SendBytes_l2 x_27) n s_65 = some t_62 ∧ TH (New H H_57) D_68) FUEL ?_ ⟨0, D_61, rfl, rfl, rfl, hx, hTD_61⟩ ⟨rfl, rfl, rfl, rfl, rfl, trivial⟩ ?_))
     ·
      rintro _ _ _ ⟨s_65, D_68, rfl, rfl, rfl, hn_66, hT_69⟩
      exact run_zero hn_66
     ·
      rintro n_67 _ _ _ ⟨s_65, D_68, rfl, rfl, rfl, hn_66, hT_69⟩
      clear hx; obtain ⟨oo_71, hx, hd_70⟩ := run_some hn_66
      unfold law29_SendBytes_l2 at hx
      refine ZG (ZG (ZB (ZA rfl rfl (ZH rfl) (ZA rfl rfl (Zf F26_3 rfl) (ZA rfl rfl (ZU 0 S24 rfl rfl rfl) (ZA rfl rfl (Zs U24 rfl (IsSlice.long hth_59)) (ZA rfl rfl (Zu rfl rfl) (ZD (ZC (ZY rfl (fun c_70 => ?_) (fun c_70 => ?_)))))))))))
      ·
       replace hx := ZP c_70 hx
       refine JC.skip (ZC (ZG (JC.block (ZG (ZB (ZA rfl rfl (ZE rfl) (ZD (ZC ?_))))))))
       obtain ⟨t_71, ht_73, hx⟩ := ZM hx
       refine Zv (fun l o g => ∃ D_79 : Own, l = [(1, .slice aa_6 na_6 ca_6), (5, .string (bs p_5)), (10, .pointer (some ⟨b_33, 0, none⟩)), (14, .bool t_41), (15, .int .i64 ((s_65 : Nat) : Int))] ∧ o = [[(b_33, .cells #[.int .u32 (x_27.1.Guid.toNat : Int), .int .u32 (x_27.1.Base.toNat : Int), .slice ar_30 nr_30 cr_30, .slice ar_31 nr_31 cr_31, .slice ar_32 nr_32 cr_32] 26 (0, 0))], D_79] ∧ H = g ∧ TH (New H H_57) D_79) ?_ ?_
       ·
        rintro _ _ _ ⟨D_79, rfl, rfl, rfl, hT_80⟩
        refine JN.blkN (ZC (ZB (ZA rfl rfl (ZH rfl) (ZA rfl rfl (R.inc rfl rfl (of_decide_eq_true c_70) (IsSlice.lenI hth_59)) (ZA rfl rfl (ZE rfl) (ZD ?_))))))
        replace hx := run_next hd_70 hx
        refine ZK 1 rfl (ZK 1 rfl ?_)
        exact ZW ⟨s_65 + 1, D_79, rfl, rfl, rfl, hx, hT_80⟩ ⟨rfl, rfl, rfl, rfl, rfl, trivial⟩ rfl rfl
       ·
        have hxo_72 := hx; clear hx; have hx := ht_73; clear ht_73
        refine JC.block (JC.front 1 rfl (JC.front 1 rfl (JC.loopI (fun n l o g => ∃ s_74 : Nat, ∃ D_77 : Own, l = [(1, .slice aa_6 na_6 ca_6), (5, .string (bs p_5)), (10, .pointer (some ⟨b_33, 0, none⟩)), (14, .bool t_41), (15, .int .i64 ((s_65 : Nat) : Int)), (16, .int .i64 ((s_74 : Nat) : Int))] ∧ o = [[(b_33, .cells #[.int .u32 (x_27.1.Guid.toNat : Int), .int .u32 (x_27.1.Base.toNat : Int), .slice ar_30 nr_30 cr_30, .slice ar_31 nr_31 cr_31, .slice ar_32 nr_32 cr_32] 26 (0, 0))], D_77] ∧ H = g ∧ run (law29_SendBytes_l1 x_27 s_65) n s_74 = some t_71 ∧ TH (New H H_57) D_77) FUEL ?_ ⟨0, D_68, rfl, rfl, rfl, hx, hT_69⟩ ⟨rfl, rfl, rfl, rfl, rfl, rfl, trivial⟩ ?_)))
        ·
         rintro _ _ _ ⟨s_74, D_77, rfl, rfl, rfl, hn_75, hT_78⟩
         exact run_zero hn_75
        ·
         rintro n_76 _ _ _ ⟨s_74, D_77, rfl, rfl, rfl, hn_75, hT_78⟩
         clear hx; obtain ⟨oo_80, hx, hd_79⟩ := run_some hn_75
         unfold law29_SendBytes_l1 at hx
         refine ZG (ZG (ZB (ZA rfl rfl (ZH rfl) (ZA rfl rfl (Zf F26_3 rfl) (ZA rfl rfl (ZU 0 S24 rfl rfl rfl) (ZA rfl rfl (ZH rfl) ?_))))))
         obtain ⟨y_79, hN_80, hx⟩ := Zo hx
         obtain ⟨b_81, o_82, cs_83, hE_84, hR_85, hl_86, hc_87⟩ := IsSlice.elem hth_59 hN_80
         obtain ⟨v_88, rfl, hs_89⟩ := hR_85
         obtain ⟨av_88, cv_88, rfl⟩ := IsSlice.val hs_89
         refine ZA rfl rfl (R.ix U24 S39 rfl rfl hE_84) (ZA rfl rfl (Zf F39_4 rfl) ?_)
         obtain ⟨cur_90, tt_91, hm_92, hcc_93⟩ := TH.exact hT_78 (hc_87 4 _ rfl) (by intro k n e; cases e)
         refine ZA rfl rfl (R.ldM 1 S23 rfl rfl hm_92 hcc_93) (ZA rfl rfl (Zs U23 rfl (IsSlice.long hs_89)) (ZA rfl rfl (Zu rfl rfl) (ZD (ZC (ZY rfl (fun c_95 => ?_) (fun c_95 => ?_))))))
         ·
          replace hx := ZP c_95 hx
          refine JC.skip (ZC (ZG (JC.block (ZB (ZA rfl rfl (Zf F26_3 rfl) (ZA rfl rfl (ZU 0 S24 rfl rfl rfl) (ZA rfl rfl (ZH rfl) ?_)))))))
          obtain ⟨y_96, hN_97, hx⟩ := Zo hx
          obtain ⟨b_98, o_99, cs_100, hE_101, hR_102, hl_103, hc_104⟩ := IsSlice.elem hth_59 hN_97
          obtain ⟨v_105, rfl, hs_106⟩ := hR_102
          obtain ⟨av_105, cv_105, rfl⟩ := IsSlice.val hs_106
          refine ZA rfl rfl (R.ix U24 S39 rfl rfl hE_101) (ZA rfl rfl (Zf F39_4 rfl) ?_)
          obtain ⟨cur_107, tt_108, hm_109, hcc_110⟩ := TH.exact hT_78 (hc_104 4 _ rfl) (by intro k n e; cases e)
          refine ZA rfl rfl (R.ldM 1 S23 rfl rfl hm_109 hcc_110) (ZA rfl rfl (ZH rfl) ?_)
          obtain ⟨y_112, hN_113, hx⟩ := Zo hx
          obtain ⟨b_114, o_115, cs_116, hE_117, hR_118, hl_119, hc_120⟩ := IsSlice.elem hs_106 hN_113
          obtain rfl := hR_118
          refine ZA rfl rfl (R.ix U23 S5 rfl rfl hE_117) ?_
          obtain ⟨ua_125, cur_121, tt_122, hm_123, hcc_124⟩ := TH.u8 (y := y_112) hT_78 (hc_120 0 _ rfl)
          refine ZA rfl rfl (R.ldM 1 S5 rfl rfl hm_123 hcc_124) (ZA rfl rfl (R.add8 (a := ua_125) (b := (1 : UInt8)) rfl rfl) ?_)
          obtain ⟨y_126, hN_127, hx⟩ := Zo hx
          obtain ⟨b_128, o_129, cs_130, hE_131, hR_132, hl_133, hc_134⟩ := IsSlice.elem hs_106 hN_127
          obtain rfl := hR_132
          refine ZA rfl rfl (R.ix U23 S5 rfl rfl hE_131) (JL.stT 1 S5 rfl hT_78 (hc_134 0 _ rfl) rfl rfl ⟨_, _, rfl⟩ (Kin.u8 (y := y_126) (a := ua_125 + (1 : UInt8))) (fun D_135 hTD_135 => ZD (JN.blkN (ZC (ZB (ZA rfl rfl (ZH rfl) (ZA rfl rfl (R.inc rfl rfl (of_decide_eq_true c_95) (IsSlice.lenI hs_89)) (ZA rfl rfl (ZE rfl) (ZD ?_)))))))))
          replace hx := run_next hd_79 hx
          refine ZK 1 rfl (ZK 1 rfl ?_)
          exact ZW ⟨s_74 + 1, D_135, rfl, rfl, rfl, hx, hTD_135⟩ ⟨rfl, rfl, rfl, rfl, rfl, rfl, trivial⟩ rfl rfl
         ·
          replace hx := ZQ c_95 hx
          refine JC.exit (Zg ?_)
          obtain rfl := Zj hd_79 hx
          refine Zg (Zl (ZK 1 rfl (ZK 1 rfl ?_)))
          exact ZW ⟨D_77, rfl, rfl, rfl, hT_78⟩ ⟨rfl, rfl, rfl, rfl, rfl, trivial⟩ rfl rfl
      ·
       replace hx := ZQ c_70 hx
       refine JC.exit (Zg ?_)
       obtain rfl := Zj hd_70 hx
       refine Zg (Zl (JN.forget 0 ?_))
       exact ZW ⟨D_68, rfl, rfl, rfl, hT_69⟩ ⟨rfl, rfl, rfl, trivial⟩ rfl rfl
   ·
    have hxo_42 := hx; clear hx; have hx := ht_43; clear ht_43
    refine ZB (ZA rfl rfl (ZH rfl) (JL.pubN 9 RU8.mono rfl (hr_22.mono RU8.mono (New.mono (hleu_29.trans hleu_36))) (Nat.le_refl _) (fun H_44 hleH_44 hsH_44 => JL.forget 9 (ZA rfl rfl (R.toStr U23 U5 U9 rfl (hsH_44.old RU8.mono)) (ZA rfl rfl (ZH rfl) (JL.pubN 8 RU8.mono rfl (hr_26.mono RU8.mono (New.mono (hleu_29.trans (hleu_36.trans hleH_44)))) (Nat.le_refl _) (fun H_45 hleH_45 hsH_45 => JL.forget 8 (ZA rfl rfl (R.toStr U23 U5 U9 rfl (hsH_45.old RU8.mono)) (ZA rfl rfl (R.eqlStr (a := x_19.1) (b := x_23.1) rfl rfl) (ZA rfl rfl (ZH rfl) (ZZ (t := 51) rfl (fun c_46 => ?_) (fun c_46 => ?_))))))))))))
    ·
     replace hx := ZP c_46 hx
     refine ZI rfl rfl rfl (ZA rfl rfl (ZH rfl) (ZI rfl rfl rfl (ZA rfl rfl (ZH rfl) (ZI rfl rfl rfl (ZA rfl rfl (R.eql_i rfl rfl) (ZA rfl rfl (ZR rfl rfl) (ZA rfl rfl (ZH rfl) (ZZ (t := 56) rfl (fun c_47 => ?_) (fun c_47 => ?_)))))))))
     ·
      replace hx := ZP c_47 hx
      refine ZI rfl rfl rfl (ZA rfl rfl (R.ldoN 4 (vs := [.int .u32 (x_27.1.Guid.toNat : Int), .int .u32 (x_27.1.Base.toNat : Int), .slice ar_30 nr_30 cr_30, .slice ar_31 nr_31 cr_31, .slice ar_32 nr_32 cr_32]) S26 rfl rfl rfl rfl) (ZI rfl rfl rfl (ZA rfl rfl (R.ldoN 0 (vs := [.int .u32 (x_34.1.Guid.toNat : Int), .int .u32 (x_34.1.Base.toNat : Int), .slice ar_37 nr_37 cr_37, .slice ar_38 nr_38 cr_38, .slice ar_39 nr_39 cr_39]) S26 rfl rfl rfl rfl) (ZI rfl rfl rfl ?_))))
      obtain ⟨x_51, hr_52, hx⟩ := ZM hx
      refine JL.callL2 (vs := [_, _]) (v := .bool x_51) E10 rfl rfl (fun H_50 hle_49 hl_48 => Does.mono (ref29_Same_ok x_27.1 x_34.1 _ (Lent.row' 5 hl_48 RU8.mono hle_49 rfl ((hr_30.mono RU8.mono (New.mono (hleu_36.trans (hleH_44.trans hleH_45)))).old RU8.mono)) (Lent.row' 6 hl_48 R_Part.mono hle_49 rfl ((hr_31.mono R_Part.mono (New.mono (hleu_36.trans (hleH_44.trans hleH_45)))).old R_Part.mono)) (Lent.row' 7 hl_48 RU8.mono hle_49 rfl ((hr_32.mono RU8.mono (New.mono (hleu_36.trans (hleH_44.trans hleH_45)))).old RU8.mono)) (Lent.row' 1 hl_48 RU8.mono hle_49 rfl ((hr_37.mono RU8.mono (New.mono (hleH_44.trans hleH_45))).old RU8.mono)) (Lent.row' 2 hl_48 R_Part.mono hle_49 rfl ((hr_38.mono R_Part.mono (New.mono (hleH_44.trans hleH_45))).old R_Part.mono)) (Lent.row' 3 hl_48 RU8.mono hle_49 rfl ((hr_39.mono RU8.mono (New.mono (hleH_44.trans hleH_45))).old RU8.mono)) _ hr_52) (fun _ _ _ h => h.1)) rfl (ZA rfl rfl (ZR rfl rfl) (ZA rfl rfl (ZH rfl) (ZZ (t := 61) rfl (fun c_53 => ?_) (fun c_53 => ?_))))
      ·
       replace hx := ZP c_53 hx
       refine ZI rfl rfl rfl (ZA rfl rfl (ZH rfl) (ZI rfl rfl rfl (ZA rfl rfl (ZH rfl) (ZI rfl rfl rfl (ZA rfl rfl (R.eql_i rfl rfl) (ZA rfl rfl (ZR rfl rfl) (ZA rfl rfl (ZE rfl) (ZD ?_))))))))
       obtain rfl := Option.some.inj hx
       refine JN.forget 8 (JN.forget 3 (JN.forget 2 (JN.forget 1 (JN.forget 0 (ZK 3 rfl (ZK 3 rfl (ZK 3 rfl (ZK 3 rfl ?_))))))))
       exact ZW ⟨H_45, rfl, rfl, rfl, ((hleH_44.trans hleH_45))⟩ ⟨rfl, rfl, rfl, rfl, trivial⟩ rfl rfl
      ·
       replace hx := ZQ c_53 hx
       refine ZF rfl rfl rfl rfl rfl (ZF rfl rfl rfl rfl rfl (ZF rfl rfl rfl rfl rfl (ZA rfl rfl (Za rfl rfl) (ZA rfl rfl (ZE rfl) (ZD ?_)))))
       obtain rfl := Option.some.inj hx
       refine JN.forget 8 (JN.forget 3 (JN.forget 2 (JN.forget 1 (JN.forget 0 (ZK 3 rfl (ZK 3 rfl (ZK 3 rfl (ZK 3 rfl ?_))))))))
       exact ZW ⟨H_45, rfl, rfl, rfl, ((hleH_44.trans hleH_45))⟩ ⟨rfl, rfl, rfl, rfl, trivial⟩ rfl rfl
     ·
      replace hx := ZQ c_47 hx
      refine ZF rfl rfl rfl rfl rfl (ZF rfl rfl rfl rfl rfl (ZF rfl rfl rfl rfl rfl (ZA rfl rfl (Za rfl rfl) (ZA rfl rfl (ZH rfl) (ZF rfl rfl rfl rfl rfl (ZF rfl rfl rfl rfl rfl (ZF rfl rfl rfl rfl rfl (ZA rfl rfl (Za rfl rfl) (ZA rfl rfl (ZE rfl) (ZD ?_))))))))))
      obtain rfl := Option.some.inj hx
      refine JN.forget 8 (JN.forget 3 (JN.forget 2 (JN.forget 1 (JN.forget 0 (ZK 3 rfl (ZK 3 rfl (ZK 3 rfl (ZK 3 rfl ?_))))))))
      exact ZW ⟨H_45, rfl, rfl, rfl, ((hleH_44.trans hleH_45))⟩ ⟨rfl, rfl, rfl, rfl, trivial⟩ rfl rfl
    ·
     replace hx := ZQ c_46 hx
     refine ZF rfl rfl rfl rfl rfl (ZF rfl rfl rfl rfl rfl (ZF rfl rfl rfl rfl rfl (ZA rfl rfl (Za rfl rfl) (ZA rfl rfl (ZH rfl) (ZF rfl rfl rfl rfl rfl (ZF rfl rfl rfl rfl rfl (ZF rfl rfl rfl rfl rfl (ZA rfl rfl (Za rfl rfl) (ZA rfl rfl (ZH rfl) (ZF rfl rfl rfl rfl rfl (ZF rfl rfl rfl rfl rfl ?_)))))))))))
     refine ZF rfl rfl rfl rfl rfl (ZA rfl rfl (Za rfl rfl) (ZA rfl rfl (ZE rfl) (ZD ?_)))
     obtain rfl := Option.some.inj hx
     refine JN.forget 8 (JN.forget 3 (JN.forget 2 (JN.forget 1 (JN.forget 0 (ZK 3 rfl (ZK 3 rfl (ZK 3 rfl (ZK 3 rfl ?_))))))))
     exact ZW ⟨H_45, rfl, rfl, rfl, ((hleH_44.trans hleH_45))⟩ ⟨rfl, rfl, rfl, rfl, trivial⟩ rfl rfl
end Go.Proofs.Ytebhagohhbmgoaa
