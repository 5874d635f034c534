import Derived.Test.YtdoebbgjjlicjaaW2p0
/- walks: what the code computes, function by function. -/
namespace Go.Proofs.Ytdoebbgjjlicjaa
open Go.Ow Go.RowKit Go.Proofs
set_option linter.unusedVariables false
set_option linter.unusedSimpArgs false
set_option maxHeartbeats 8000000 in
theorem dev_Twin_ok (p_1 : Disk) (H : Heaplet) {aa_2 : Option Addr} {na_2 : Nat} {ca_2 : Nat} {aa_3 : Option Addr} {na_3 : Nat} {ca_3 : Nat} (ha_2 : IsSlice H (RSl RU8 1) 1 (.slice aa_2 na_2 ca_2) p_1.Blocks) (ha_3 : IsSlice H R_Write 2 (.slice aa_3 na_3 ca_3) p_1.Waits) (r : Disk) (hx : dev_Twin p_1 = some r) :
  Does Try.prog 70 #[.agg #[.slice aa_2 na_2 ca_2, .slice aa_3 na_3 ca_3]] [] H (fun u K' H' => ∃ ao0 : Option Addr, ∃ n0 : Nat, ∃ cap0 : Nat, ∃ K0 : Own, ∃ ao1 : Option Addr, ∃ n1 : Nat, ∃ cap1 : Nat, ∃ K1 : Own, u = .agg #[.slice ao0 n0 cap0, .slice ao1 n1 cap1] ∧ K' = [K0, K1] ∧ Pcs 0 5 45 (.slice ao0 n0 cap0) r.Blocks K0 ∧ (∀ p ∈ K0, p.1 ∉ ids (List.flatten [])) ∧ RowOf (New H H') R_Write 0 47 2 (.slice ao1 n1 cap1) r.Waits K1 ∧ (∀ p ∈ K1, p.1 ∉ ids (List.flatten [])) ∧ True) := by
 refine Does.enterL (vs := [.agg #[.slice aa_2 na_2 ca_2, .slice aa_3 na_3 ca_3]]) (l := [(0, .agg #[.slice aa_2 na_2 ca_2, .slice aa_3 na_3 ca_3])]) Try.func70 rfl rfl ⟨rfl, trivial⟩ (fun w hlt => ?_)
 unfold dev_Twin at hx
 refine ZH (ZB (Z7 rfl rfl (fun b_4 hb_4 => JL.alloc Z25 rfl (fun b_5 hb_5 => ZD (ZC (ZH (ZB (ZA rfl rfl (ZG rfl) (ZD (ZC (ZH ?_)))))))))))
 refine ZH (ZB (ZA rfl rfl (Zo F25_0 rfl) (ZA rfl rfl (ZZ 1 S22 rfl rfl rfl) (ZA rfl rfl (Zr U22 rfl (IsSlice.long ha_2)) (ZA rfl rfl (ZI rfl) (ZD (ZC ?_)))))))
 obtain ⟨t_6, ht_8, hx⟩ := ZJ hx
 refine Zy (fun l o g => ∃ ar_13 : Option Addr, ∃ nr_13 : Nat, ∃ cr_13 : Nat, ∃ Kr_13 : Own, l = [(1, .pointer (some ⟨b_4, 0, none⟩)), (2, .pointer (some ⟨b_5, 0, none⟩)), (3, .slice ar_13 nr_13 cr_13)] ∧ o = [[(b_4, .cells #[.slice aa_2 na_2 ca_2, .slice aa_3 na_3 ca_3] 25 (0, 0))], [(b_5, .cells #[.slice none 0 0, .slice none 0 0] 25 (0, 0))], Kr_13] ∧ H = g ∧ RowOf (New H H) RInt w.heap.size 3 1 (.slice ar_13 nr_13 cr_13) t_6 Kr_13) ?_ ?_
 ·
  rintro _ _ _ ⟨ar_13, nr_13, cr_13, Kr_13, rfl, rfl, rfl, hr_13⟩
  refine ZC (ZH (ZB (ZA rfl rfl (ZI rfl) (JL.pubN 2 RInt.mono rfl hr_13 (Nat.le_refl _) (fun H_14 hleH_14 hsH_14 => JL.forget 2 ?_)))))
  obtain ⟨x_15, hr_16, hx⟩ := ZJ hx
  refine ZO (vs := [_]) (args := [_]) (K := []) (rst := [_, _]) E107 rfl rfl rfl ZK (dev_cut_ok t_6 _ (hsH_14.old RInt.mono) _ hr_16) rfl (fun u_17 Ku_17 Hu_17 hRu_17 hleu_17 hfu_17 => ?_)
  obtain ⟨ar_18, nr_18, cr_18, Kr_18, rfl, rfl, rfl, hr_18, hnewr_18, -⟩ := hRu_17
  replace hr_18 := (Pcs.base hr_18 (fun p hp => (hfu_17 p (Zk 0 rfl hp)).resolve_left (hnewr_18 p hp)))
  refine ZA rfl rfl (Zo F25_0 rfl) (ZP 2 S22 rfl rfl rfl rfl rfl (Nat.le_of_ble_eq_true rfl) (ZD (ZC (ZH (ZH (ZB (ZA rfl rfl (Zo F25_0 rfl) (ZA rfl rfl (ZZ 1 S22 rfl rfl rfl) (ZA rfl rfl (Zr U22 rfl (IsSlice.long ha_2)) (ZA rfl rfl (ZI rfl) (ZD ?_)))))))))))
  refine ZC ?_
  obtain ⟨t_19, ht_21, hx⟩ := ZJ hx
  refine Zy (fun l o g => ∃ Kr_26 : Own, l = [(1, .pointer (some ⟨b_4, 0, none⟩)), (2, .pointer (some ⟨b_5, 0, none⟩))] ∧ o = [[(b_4, .cells #[.slice aa_2 na_2 ca_2, .slice aa_3 na_3 ca_3] 25 (0, 0))], [(b_5, .cells #[.slice ar_18 nr_18 cr_18, .slice none 0 0] 25 (0, 0))], Kr_26] ∧ H_14 = g ∧ Pcs w.heap.size 5 45 (.slice ar_18 nr_18 cr_18) t_19 Kr_26) ?_ ?_
  ·
   rintro _ _ _ ⟨Kr_26, rfl, rfl, rfl, hr_26⟩
   refine ZC (ZH (ZH (ZB (ZA rfl rfl (Zo F25_1 rfl) (ZA rfl rfl (ZZ 0 S23 rfl rfl rfl) (ZA rfl rfl (Zr U23 rfl (IsSlice.long ha_3)) (ZA rfl rfl (ZI rfl) (ZD (ZC ?_)))))))))
   obtain ⟨t_27, ht_29, hx⟩ := ZJ hx
   refine Zy (fun l o g => ∃ H_35 : Heaplet, ∃ ar_36 : Option Addr, ∃ nr_36 : Nat, ∃ cr_36 : Nat, ∃ Kr_36 : Own, l = [(2, .pointer (some ⟨b_5, 0, none⟩))] ∧ o = [[(b_5, .cells #[.slice ar_18 nr_18 cr_18, .slice ar_36 nr_36 cr_36] 25 (0, 0))], Kr_26, Kr_36] ∧ H_35 = g ∧ Hle H_14 H_35 ∧ RowOf (New H H_35) R_Write w.heap.size 47 2 (.slice ar_36 nr_36 cr_36) t_27 Kr_36) ?_ ?_
   ·
    rintro _ _ _ ⟨H_35, ar_36, nr_36, cr_36, Kr_36, rfl, rfl, rfl, hleH_35, hr_36⟩
    refine ZC (ZW (ZS (vs := [.agg #[.slice ar_18 nr_18 cr_18, .slice ar_36 nr_36 cr_36]]) (K := [_, _]) (rst := [_]) (.inl rfl) rfl rfl (Zq 0 rfl rfl S25 rfl) (Ze 1 rfl (Ze 1 rfl ZK)) ?_))
    obtain rfl := Option.some.inj hx
    exact ⟨ar_18, nr_18, cr_18, Kr_26, ar_36, nr_36, cr_36, Kr_36, rfl, rfl, (Pcs.weak (Nat.zero_le _) hr_26), (newP_ids hr_26 hlt), (Zs (Nat.zero_le _) hr_36), (new_ids hr_36 hlt), trivial⟩
   ·
    have hxo_28 := hx; clear hx; have hx := ht_29; clear ht_29
    refine JC.block (JC.seg0 (JC.forget 1 (Zv 2 rfl (Zv 2 rfl (Z9 (fun n l o g => ∃ s_30 : List Write × Nat, ∃ H_33 : Heaplet, ∃ ar_34 : Option Addr, ∃ nr_34 : Nat, ∃ cr_34 : Nat, ∃ Kr_34 : Own, l = [(2, .pointer (some ⟨b_5, 0, none⟩)), (43, .slice aa_3 na_3 ca_3), (44, .int .i64 (p_1.Waits.length : Int)), (45, .int .i64 ((s_30.2 : Nat) : Int))] ∧ o = [[(b_5, .cells #[.slice ar_18 nr_18 cr_18, .slice ar_34 nr_34 cr_34] 25 (0, 0))], Kr_26, Kr_34] ∧ H_33 = g ∧ run (dev_Twin_l3 p_1) n s_30 = some t_27 ∧ Hle H_14 H_33 ∧ RowOf (New H H_33) R_Write w.heap.size 47 2 (.slice ar_34 nr_34 cr_34) s_30.1 Kr_34) FUEL ?_ ⟨(([] : List Write), 0), H_14, none, 0, 0, [], rfl, rfl, rfl, hx, (Hle.refl _), (Zn _ _ _ _ _)⟩ ⟨rfl, rfl, rfl, rfl, trivial⟩ ?_)))))
    ·
     rintro _ _ _ ⟨s_30, H_33, ar_34, nr_34, cr_34, Kr_34, rfl, rfl, rfl, hn_31, hleH_33, hr_34⟩
     exact Z5 hn_31
    ·
     rintro n_32 _ _ _ ⟨s_30, H_33, ar_34, nr_34, cr_34, Kr_34, rfl, rfl, rfl, hn_31, hleH_33, hr_34⟩
     clear hx; obtain ⟨oo_36, hx, hd_35⟩ := Z6 hn_31
     unfold dev_Twin_l3 at hx
     refine ZH (ZB (ZA rfl rfl (Z1 rfl rfl) (ZD (ZC (ZH (ZY rfl (fun c_35 => ?_) (fun c_35 => ?_)))))))
     ·
      replace hx := ZU c_35 hx
      refine Za (ZC (ZH (JC.block (ZH (ZB ?_)))))
      obtain ⟨y_36, hN_37, hx⟩ := Zt hx
      obtain ⟨b_38, o_39, cs_40, hE_41, hR_42, hl_43, hc_44⟩ := IsSlice.elem (ha_3.mono R_Write.mono (hleH_14.trans hleH_33)) hN_37
      obtain ⟨v_45, rfl, hs_46⟩ := hR_42
      obtain ⟨av_45, cv_45, rfl⟩ := IsSlice.val hs_46
      refine ZA rfl rfl (R.ix U23 S47 rfl rfl hE_41) (ZA rfl rfl (R.ldHE (cs := [.int .i64 y_36.At, .slice av_45 y_36.Data.length cv_45]) (k := 0) (vs := [.int .i64 y_36.At, .slice av_45 y_36.Data.length cv_45]) S47 rfl hc_44 rfl rfl) (JL.alloc Z47 rfl (fun b_47 hb_47 => ZP 0 S47 rfl rfl rfl rfl rfl (Nat.le_of_ble_eq_true rfl) (ZD (ZC (JC.draw (so := [_, _]) 12 rfl Mixed ⟨⟨0, rfl⟩, ⟨2, rfl⟩, trivial⟩ (JA.val ⟨by kernel_rfl, by kernel_rfl⟩ (ZF _) (i := 0) rfl ⟨by kernel_rfl, by kernel_rfl, rfl⟩ trivial (ZE (Hle.refl _) ⟨⟨0, rfl⟩, ⟨2, rfl⟩, trivial⟩) (Zo F25_1 rfl) rfl (JA.val ⟨by kernel_rfl, by kernel_rfl⟩ (ZF _) (i := 2) rfl ⟨by kernel_rfl, by kernel_rfl, rfl⟩ trivial (ZE (Hle.refl _) ⟨⟨0, rfl⟩, ⟨2, rfl⟩, trivial⟩) (Zo F47_0 rfl) rfl (JA.val ⟨by kernel_rfl, by kernel_rfl⟩ (ZF _) (i := 3) rfl ⟨by kernel_rfl, by kernel_rfl, rfl⟩ trivial (ZE (Hle.refl _) ⟨⟨0, rfl⟩, ⟨2, rfl⟩, trivial⟩) (ZZ 0 S3 rfl rfl rfl) rfl (JA.val ⟨by kernel_rfl, by kernel_rfl⟩ (ZF _) (i := 4) rfl ⟨by kernel_rfl, by kernel_rfl, rfl⟩ trivial (ZE (Hle.refl _) ⟨⟨0, rfl⟩, ⟨2, rfl⟩, trivial⟩) (Zo F47_1 rfl) rfl (JA.val ⟨by kernel_rfl, by kernel_rfl⟩ (ZF _) (i := 5) rfl ⟨by kernel_rfl, by kernel_rfl, rfl⟩ trivial (ZE (Hle.refl _) ⟨⟨0, rfl⟩, ⟨2, rfl⟩, trivial⟩) (ZZ 0 S45 rfl rfl rfl) rfl ?_)))))))))))
      obtain ⟨x_48, hr_49, hx⟩ := ZJ hx
      obtain ⟨q_54, hm_55, hl_56, hx⟩ := Zz hx
      refine JA.two (i := 1) (j := 6) (by kernel_rfl) ?_ ?_
      ·
       refine JO.step rfl trivial rfl (fun K hK => ZA rfl rfl (ZZ 1 S23 rfl rfl rfl) (ZD (hK _ _ _ (ZE (Hle.refl _) ⟨⟨0, rfl⟩, ⟨2, rfl⟩, trivial⟩) (JA.one (i := 6) (by kernel_rfl) (JO.step rfl trivial rfl (fun K hK => ZO (vs := [_]) (args := [_]) (K := []) (rst := [_, _, _, _]) E105 rfl rfl rfl ZK (bytes_Clone_ok y_36.Data _ hs_46 _ hr_49) rfl (fun u_50 Ku_50 Hu_50 hRu_50 hleu_50 hfu_50 => ?_)))))))
       obtain ⟨ar_51, nr_51, cr_51, Kr_51, rfl, rfl, rfl, hr_51, hnewr_51, -⟩ := hRu_50
       replace hr_51 := (RowOf.base (Zj (H2 := New H H_33) RU8.const hr_51) (fun p hp => (hfu_50 p (Zk 0 rfl hp)).resolve_left (hnewr_51 p hp)))
       refine ZD (hK _ _ _ (ZE (Hle.refl _) ⟨⟨1, rfl⟩, ⟨3, rfl⟩, trivial⟩) (JA.val ⟨by kernel_rfl, by kernel_rfl⟩ (ZF _) (i := 7) rfl ⟨by kernel_rfl, by kernel_rfl, rfl⟩ trivial (ZE (Hle.refl _) ⟨⟨1, rfl⟩, ⟨3, rfl⟩, trivial⟩) (R.bldP (vs := [(0, .int .i64 y_36.At), (1, .slice ar_51 nr_51 cr_51)]) (cs := [.int .i64 y_36.At, .slice ar_51 nr_51 cr_51]) Z47 B47 rfl rfl rfl) rfl (JA.one (i := 8) (by kernel_rfl) (JO.step rfl trivial rfl (fun K hK => JL.pubN 0 RU8.mono rfl hr_51 (Nat.le_refl _) (fun H_52 hleH_52 hsH_52 => JL.forget 0 (JL.bslF (HF := (New H H_52)) (R := R_Write) (ls := [Write.mk y_36.At x_48]) (vs := [.agg #[.int .i64 y_36.At, .slice ar_51 nr_51 cr_51]]) U23 I47 rfl rfl (⟨_, _, rfl, rfl, ⟨_, rfl, hsH_52⟩, rfl⟩) R_Write.one rfl rfl rfl (by simp [maxLen]) rfl (fun vr_53 Kr_53 hr_53 => ?_))))))))
       obtain ⟨ar_53, cr_53, rfl⟩ := RowOf.val hr_53
       refine ZD (hK _ _ _ (ZE hleH_52 ⟨⟨1, rfl⟩, ⟨3, rfl⟩, trivial⟩) (JA.one (i := 9) (by kernel_rfl) (JO.step rfl trivial rfl (fun K hK => Z2 (HF := (New H H_52)) 4 U23 I47 rfl rfl (hr_34.mono R_Write.mono (New.mono hleH_52)) rfl (SrcF.row 0 U23 rfl hr_53) hm_55 hl_56 rfl (Nat.le_refl _) rfl (fun vr_57 Kr_57 hr_57 => ?_)))))
       obtain ⟨ar_57, cr_57, rfl⟩ := RowOf.val hr_57
       refine ZD (hK _ _ _ (ZE hleH_52 ⟨⟨1, rfl⟩, ⟨3, rfl⟩, trivial⟩) (JA.val ⟨by kernel_rfl, by kernel_rfl⟩ (ZF _) (i := 10) rfl ⟨by kernel_rfl, by kernel_rfl, rfl⟩ trivial (ZE hleH_52 ⟨⟨1, rfl⟩, ⟨3, rfl⟩, trivial⟩) (Zo F25_1 rfl) rfl (JA.one (i := 11) (by kernel_rfl) (JO.step rfl trivial rfl (fun K hK => ZP 2 S23 rfl rfl rfl rfl rfl (Nat.le_of_ble_eq_true rfl) (ZD (hK _ _ _ (ZE hleH_52 ⟨⟨1, rfl⟩, ⟨3, rfl⟩, trivial⟩) (Zg (by kernel_rfl) (Zl (ZC (ZB ?_)))))))))))
       refine ZA rfl rfl (R.inc rfl rfl (of_decide_eq_true c_35) (IsSlice.lenI ha_3)) (ZA rfl rfl (ZI rfl) (ZD ?_))
       replace hx := Zm hd_35 hx
       refine JN.forget 1 (JN.forget 0 (ZL 2 rfl (ZL 2 rfl (ZL 2 rfl ?_))))
       exact ZR ⟨(q_54, s_30.2 + 1), H_52, ar_57, q_54.length, cr_57, Kr_57, rfl, rfl, rfl, hx, ((hleH_33.trans hleH_52)), hr_57⟩ ⟨rfl, rfl, rfl, rfl, trivial⟩ rfl rfl
      ·
       refine JO.step rfl trivial rfl (fun K hK => ZO (vs := [_]) (args := [_]) (K := []) (rst := [_, _, _, _]) E105 rfl rfl rfl ZK (bytes_Clone_ok y_36.Data _ hs_46 _ hr_49) rfl (fun u_50 Ku_50 Hu_50 hRu_50 hleu_50 hfu_50 => ?_))
       obtain ⟨ar_51, nr_51, cr_51, Kr_51, rfl, rfl, rfl, hr_51, hnewr_51, -⟩ := hRu_50
       replace hr_51 := (RowOf.base (Zj (H2 := New H H_33) RU8.const hr_51) (fun p hp => (hfu_50 p (Zk 0 rfl hp)).resolve_left (hnewr_51 p hp)))
       refine ZD (hK _ _ _ (ZE (Hle.refl _) ⟨⟨1, rfl⟩, ⟨3, rfl⟩, trivial⟩) (JA.val ⟨by kernel_rfl, by kernel_rfl⟩ (ZF _) (i := 7) rfl ⟨by kernel_rfl, by kernel_rfl, rfl⟩ trivial (ZE (Hle.refl _) ⟨⟨1, rfl⟩, ⟨3, rfl⟩, trivial⟩) (R.bldP (vs := [(0, .int .i64 y_36.At), (1, .slice ar_51 nr_51 cr_51)]) (cs := [.int .i64 y_36.At, .slice ar_51 nr_51 cr_51]) Z47 B47 rfl rfl rfl) rfl (JA.two (i := 1) (j := 8) (by kernel_rfl) ?_ ?_)))
       ·
        refine JO.step rfl trivial rfl (fun K hK => ZA rfl rfl (ZZ 2 S23 rfl rfl rfl) (ZD (hK _ _ _ (ZE (Hle.refl _) ⟨⟨1, rfl⟩, ⟨3, rfl⟩, trivial⟩) (JA.one (i := 8) (by kernel_rfl) (JO.step rfl trivial rfl (fun K hK => JL.pubN 0 RU8.mono rfl hr_51 (Nat.le_refl _) (fun H_52 hleH_52 hsH_52 => JL.forget 0 (JL.bslF (HF := (New H H_52)) (R := R_Write) (ls := [Write.mk y_36.At x_48]) (vs := [.agg #[.int .i64 y_36.At, .slice ar_51 nr_51 cr_51]]) U23 I47 rfl rfl (⟨_, _, rfl, rfl, ⟨_, rfl, hsH_52⟩, rfl⟩) R_Write.one rfl rfl rfl (by simp [maxLen]) rfl (fun vr_53 Kr_53 hr_53 => ?_)))))))))
        obtain ⟨ar_53, cr_53, rfl⟩ := RowOf.val hr_53
        refine ZD (hK _ _ _ (ZE hleH_52 ⟨⟨1, rfl⟩, ⟨3, rfl⟩, trivial⟩) (JA.one (i := 9) (by kernel_rfl) (JO.step rfl trivial rfl (fun K hK => Z2 (HF := (New H H_52)) 4 U23 I47 rfl rfl (hr_34.mono R_Write.mono (New.mono hleH_52)) rfl (SrcF.row 0 U23 rfl hr_53) hm_55 hl_56 rfl (Nat.le_refl _) rfl (fun vr_57 Kr_57 hr_57 => ?_)))))
        obtain ⟨ar_57, cr_57, rfl⟩ := RowOf.val hr_57
        refine ZD (hK _ _ _ (ZE hleH_52 ⟨⟨1, rfl⟩, ⟨3, rfl⟩, trivial⟩) (JA.val ⟨by kernel_rfl, by kernel_rfl⟩ (ZF _) (i := 10) rfl ⟨by kernel_rfl, by kernel_rfl, rfl⟩ trivial (ZE hleH_52 ⟨⟨1, rfl⟩, ⟨3, rfl⟩, trivial⟩) (Zo F25_1 rfl) rfl (JA.one (i := 11) (by kernel_rfl) (JO.step rfl trivial rfl (fun K hK => ZP 2 S23 rfl rfl rfl rfl rfl (Nat.le_of_ble_eq_true rfl) (ZD (hK _ _ _ (ZE hleH_52 ⟨⟨1, rfl⟩, ⟨3, rfl⟩, trivial⟩) (Zg (by kernel_rfl) (Zl (ZC (ZB ?_)))))))))))
        refine ZA rfl rfl (R.inc rfl rfl (of_decide_eq_true c_35) (IsSlice.lenI ha_3)) (ZA rfl rfl (ZI rfl) (ZD ?_))
        replace hx := Zm hd_35 hx
        refine JN.forget 1 (JN.forget 0 (ZL 2 rfl (ZL 2 rfl (ZL 2 rfl ?_))))
        exact ZR ⟨(q_54, s_30.2 + 1), H_52, ar_57, q_54.length, cr_57, Kr_57, rfl, rfl, rfl, hx, ((hleH_33.trans hleH_52)), hr_57⟩ ⟨rfl, rfl, rfl, rfl, trivial⟩ rfl rfl
       ·
        refine JO.step rfl trivial rfl (fun K hK => JL.pubN 0 RU8.mono rfl hr_51 (Nat.le_refl _) (fun H_52 hleH_52 hsH_52 => JL.forget 0 (JL.bslF (HF := (New H H_52)) (R := R_Write) (ls := [Write.mk y_36.At x_48]) (vs := [.agg #[.int .i64 y_36.At, .slice ar_51 nr_51 cr_51]]) U23 I47 rfl rfl (⟨_, _, rfl, rfl, ⟨_, rfl, hsH_52⟩, rfl⟩) R_Write.one rfl rfl rfl (by simp [maxLen]) rfl (fun vr_53 Kr_53 hr_53 => ?_))))
        obtain ⟨ar_53, cr_53, rfl⟩ := RowOf.val hr_53
        refine ZD (hK _ _ _ (ZE hleH_52 ⟨⟨1, rfl⟩, ⟨3, rfl⟩, trivial⟩) (JA.one (i := 1) (by kernel_rfl) (JO.step rfl trivial rfl (fun K hK => ZA rfl rfl (ZZ 2 S23 rfl rfl rfl) (ZD (hK _ _ _ (ZE hleH_52 ⟨⟨1, rfl⟩, ⟨3, rfl⟩, trivial⟩) (JA.one (i := 9) (by kernel_rfl) (JO.step rfl trivial rfl (fun K hK => Z2 (HF := (New H H_52)) 4 U23 I47 rfl rfl (hr_34.mono R_Write.mono (New.mono hleH_52)) rfl (SrcF.row 0 U23 rfl hr_53) hm_55 hl_56 rfl (Nat.le_refl _) rfl (fun vr_57 Kr_57 hr_57 => ?_))))))))))
        obtain ⟨ar_57, cr_57, rfl⟩ := RowOf.val hr_57
        refine ZD (hK _ _ _ (ZE hleH_52 ⟨⟨1, rfl⟩, ⟨3, rfl⟩, trivial⟩) (JA.val ⟨by kernel_rfl, by kernel_rfl⟩ (ZF _) (i := 10) rfl ⟨by kernel_rfl, by kernel_rfl, rfl⟩ trivial (ZE hleH_52 ⟨⟨1, rfl⟩, ⟨3, rfl⟩, trivial⟩) (Zo F25_1 rfl) rfl (JA.one (i := 11) (by kernel_rfl) (JO.step rfl trivial rfl (fun K hK => ZP 2 S23 rfl rfl rfl rfl rfl (Nat.le_of_ble_eq_true rfl) (ZD (hK _ _ _ (ZE hleH_52 ⟨⟨1, rfl⟩, ⟨3, rfl⟩, trivial⟩) (Zg (by kernel_rfl) (Zl (ZC (ZB ?_)))))))))))
        refine ZA rfl rfl (R.inc rfl rfl (of_decide_eq_true c_35) (IsSlice.lenI ha_3)) (ZA rfl rfl (ZI rfl) (ZD ?_))
        replace hx := Zm hd_35 hx
        refine JN.forget 1 (JN.forget 0 (ZL 2 rfl (ZL 2 rfl (ZL 2 rfl ?_))))
        exact ZR ⟨(q_54, s_30.2 + 1), H_52, ar_57, q_54.length, cr_57, Kr_57, rfl, rfl, rfl, hx, ((hleH_33.trans hleH_52)), hr_57⟩ ⟨rfl, rfl, rfl, rfl, trivial⟩ rfl rfl
     ·
      replace hx := ZV c_35 hx
      refine Z0 (ZX ?_)
      obtain rfl := Zw hd_35 hx
      refine ZX (Zd (ZL 2 rfl (ZL 2 rfl (ZL 2 rfl ?_))))
      exact ZR ⟨H_33, ar_34, nr_34, cr_34, Kr_34, rfl, rfl, rfl, (hleH_33), hr_34⟩ ⟨rfl, trivial⟩ rfl rfl
  ·
   have hxo_20 := hx; clear hx; have hx := ht_21; clear ht_21
   refine JC.block (Zv 2 rfl (Zv 2 rfl (Z9 (fun n l o g => ∃ s_22 : List (List UInt8) × Nat, ∃ Kr_25 : Own, l = [(1, .pointer (some ⟨b_4, 0, none⟩)), (2, .pointer (some ⟨b_5, 0, none⟩)), (27, .slice aa_2 na_2 ca_2), (28, .int .i64 (p_1.Blocks.length : Int)), (29, .int .i64 ((s_22.2 : Nat) : Int))] ∧ o = [[(b_4, .cells #[.slice aa_2 na_2 ca_2, .slice aa_3 na_3 ca_3] 25 (0, 0))], [(b_5, .cells #[.slice ar_18 nr_18 cr_18, .slice none 0 0] 25 (0, 0))], Kr_25] ∧ H_14 = g ∧ run (dev_Twin_l2 p_1) n s_22 = some t_19 ∧ Pcs w.heap.size 5 45 (.slice ar_18 nr_18 cr_18) s_22.1 Kr_25) FUEL ?_ ⟨(x_15, 0), Kr_18, rfl, rfl, rfl, hx, hr_18⟩ ⟨rfl, rfl, rfl, rfl, rfl, trivial⟩ ?_)))
   ·
    rintro _ _ _ ⟨s_22, Kr_25, rfl, rfl, rfl, hn_23, hr_25⟩
    exact Z5 hn_23
   ·
    rintro n_24 _ _ _ ⟨s_22, Kr_25, rfl, rfl, rfl, hn_23, hr_25⟩
    clear hx; obtain ⟨oo_27, hx, hd_26⟩ := Z6 hn_23
    unfold dev_Twin_l2 at hx
    refine ZH (ZB (ZA rfl rfl (Z1 rfl rfl) (ZD (ZC (ZH (ZY rfl (fun c_26 => ?_) (fun c_26 => ?_)))))))
    ·
     replace hx := ZU c_26 hx
     refine Za (ZC (ZH (JC.block (ZH (ZB (ZA rfl rfl (ZI rfl) ?_))))))
     obtain ⟨y_27, hN_28, hx⟩ := Zt hx
     obtain ⟨b_29, o_30, cs_31, hE_32, hR_33, hl_34, hc_35⟩ := IsSlice.elem (ha_2.mono (RSl.mono RU8.mono) hleH_14) hN_28
     obtain ⟨v_36, rfl, hs_37⟩ := hR_33
     obtain ⟨av_36, cv_36, rfl⟩ := IsSlice.val hs_37
     refine ZA rfl rfl (R.ix U22 S45 rfl rfl hE_32) (ZA rfl rfl (R.ldH S45 rfl (hc_35 0 _ rfl)) (ZA rfl rfl (ZG rfl) (ZA rfl rfl (ZG rfl) (ZD (ZC (ZB (ZA rfl rfl (Zo F25_0 rfl) (ZA rfl rfl (ZZ 1 S22 rfl rfl rfl) (ZA rfl rfl (ZI rfl) ?_)))))))))
     obtain ⟨y_38, hN_39, hx⟩ := Zt hx
     obtain ⟨b_41, o_40, cur_42, pv_43, hE_44, hm_45, hc_46, hA_47⟩ := Pcs.at hr_25 hN_39
     refine ZA rfl rfl (R.ix U22 S45 rfl rfl hE_44) (ZA rfl rfl (R.ldM 2 S45 rfl rfl hm_45 hc_46) (ZA rfl rfl (ZI rfl) ?_))
     obtain ⟨hl_48, hx⟩ := chk_some hx
     obtain ⟨m_51, hm_49, hi_50, hx⟩ := setI_some hx
     refine JL.copyP 2 U45 S5 rfl hr_25 hN_39 hA_47 rfl rfl (Hle.refl _) hs_37 hl_48 rfl (fun Kr_52 hr_52 => ?_)
     rw [← hm_49] at hr_52
     refine ZD (Zl (ZC (ZB (ZA rfl rfl (R.inc rfl rfl (of_decide_eq_true c_26) (IsSlice.lenI ha_2)) (ZA rfl rfl (ZI rfl) (ZD ?_))))))
     replace hx := Zm hd_26 hx
     refine ZL 2 rfl (ZL 2 rfl (ZL 2 rfl ?_))
     exact ZR ⟨(m_51, s_22.2 + 1), Kr_52, rfl, rfl, rfl, hx, hr_52⟩ ⟨rfl, rfl, rfl, rfl, rfl, trivial⟩ rfl rfl
    ·
     replace hx := ZV c_26 hx
     refine Z0 (ZX ?_)
     obtain rfl := Zw hd_26 hx
     refine ZX (Zd (ZL 2 rfl (ZL 2 rfl (ZL 2 rfl ?_))))
     exact ZR ⟨Kr_25, rfl, rfl, rfl, hr_25⟩ ⟨rfl, rfl, trivial⟩ rfl rfl
 ·
  have hxo_7 := hx; clear hx; have hx := ht_8; clear ht_8
  refine JC.block (JC.seg0 (Zv 1 rfl (Zv 2 rfl (Z9 (fun n l o g => ∃ s_9 : List Int × Nat, ∃ ar_12 : Option Addr, ∃ nr_12 : Nat, ∃ cr_12 : Nat, ∃ Kr_12 : Own, l = [(1, .pointer (some ⟨b_4, 0, none⟩)), (2, .pointer (some ⟨b_5, 0, none⟩)), (3, .slice ar_12 nr_12 cr_12), (11, .slice aa_2 na_2 ca_2), (12, .int .i64 (p_1.Blocks.length : Int)), (13, .int .i64 ((s_9.2 : Nat) : Int))] ∧ o = [[(b_4, .cells #[.slice aa_2 na_2 ca_2, .slice aa_3 na_3 ca_3] 25 (0, 0))], [(b_5, .cells #[.slice none 0 0, .slice none 0 0] 25 (0, 0))], Kr_12] ∧ H = g ∧ run (dev_Twin_l1 p_1) n s_9 = some t_6 ∧ RowOf (New H H) RInt w.heap.size 3 1 (.slice ar_12 nr_12 cr_12) s_9.1 Kr_12) FUEL ?_ ⟨(([] : List Int), 0), none, 0, 0, [], rfl, rfl, rfl, hx, (Zn _ _ _ _ _)⟩ ⟨rfl, rfl, rfl, rfl, rfl, rfl, trivial⟩ ?_))))
  ·
   rintro _ _ _ ⟨s_9, ar_12, nr_12, cr_12, Kr_12, rfl, rfl, rfl, hn_10, hr_12⟩
   exact Z5 hn_10
  ·
   rintro n_11 _ _ _ ⟨s_9, ar_12, nr_12, cr_12, Kr_12, rfl, rfl, rfl, hn_10, hr_12⟩
   clear hx; obtain ⟨oo_14, hx, hd_13⟩ := Z6 hn_10
   unfold dev_Twin_l1 at hx
   refine ZH (ZB (ZA rfl rfl (Z1 rfl rfl) (ZD (ZC (ZH (ZY rfl (fun c_13 => ?_) (fun c_13 => ?_)))))))
   ·
    replace hx := ZU c_13 hx
    refine Za (ZC (ZH (JC.block (ZH (ZB ?_)))))
    obtain ⟨y_14, hN_15, hx⟩ := Zt hx
    obtain ⟨b_16, o_17, cs_18, hE_19, hR_20, hl_21, hc_22⟩ := IsSlice.elem ha_2 hN_15
    obtain ⟨v_23, rfl, hs_24⟩ := hR_20
    obtain ⟨av_23, cv_23, rfl⟩ := IsSlice.val hs_24
    refine ZA rfl rfl (R.ix U22 S45 rfl rfl hE_19) (ZA rfl rfl (R.ldH S45 rfl (hc_22 0 _ rfl)) (ZA rfl rfl (ZG rfl) (ZD (ZC (ZB (ZA rfl rfl (ZI rfl) (ZA rfl rfl (ZI rfl) (ZA rfl rfl (Zr U45 rfl (IsSlice.long hs_24)) (JL.bslF (HF := (New H H)) (R := RInt) (ls := [(y_14.length : Int)]) (vs := [.int .i64 (y_14.length : Int)]) U75 I3 rfl rfl (⟨_, _, rfl, rfl, rfl, rfl⟩) RInt.one rfl rfl rfl (by simp [maxLen]) rfl (fun vr_25 Kr_25 hr_25 => ?_))))))))))
    obtain ⟨ar_25, cr_25, rfl⟩ := RowOf.val hr_25
    obtain ⟨q_26, hm_27, hl_28, hx⟩ := Zz hx
    refine Z2 (HF := (New H H)) 3 U75 I3 rfl rfl hr_12 rfl (SrcF.row 0 U75 rfl hr_25) hm_27 hl_28 rfl (Nat.le_refl _) rfl (fun vr_29 Kr_29 hr_29 => ?_)
    obtain ⟨ar_29, cr_29, rfl⟩ := RowOf.val hr_29
    refine ZA rfl rfl (ZG rfl) (ZD (Zl (ZC (ZB (ZA rfl rfl (R.inc rfl rfl (of_decide_eq_true c_13) (IsSlice.lenI ha_2)) (ZA rfl rfl (ZI rfl) (ZD ?_)))))))
    replace hx := Zm hd_13 hx
    refine JN.forget 0 (ZL 2 rfl (ZL 2 rfl (ZL 2 rfl ?_)))
    exact ZR ⟨(q_26, s_9.2 + 1), ar_29, q_26.length, cr_29, Kr_29, rfl, rfl, rfl, hx, hr_29⟩ ⟨rfl, rfl, rfl, rfl, rfl, rfl, trivial⟩ rfl rfl
   ·
    replace hx := ZV c_13 hx
    refine Z0 (ZX ?_)
    obtain rfl := Zw hd_13 hx
    refine ZX (Zd (ZL 2 rfl (ZL 2 rfl (ZL 2 rfl ?_))))
    exact ZR ⟨ar_12, nr_12, cr_12, Kr_12, rfl, rfl, rfl, hr_12⟩ ⟨rfl, rfl, rfl, trivial⟩ rfl rfl

set_option maxHeartbeats 8000000 in
theorem dev_Write_ok (p_1 : Disk) (p_4 : Int) (p_5 : List UInt8) (H : Heaplet) {aa_2 : Option Addr} {na_2 : Nat} {ca_2 : Nat} {aa_3 : Option Addr} {na_3 : Nat} {ca_3 : Nat} {aa_6 : Option Addr} {na_6 : Nat} {ca_6 : Nat} (ha_2 : IsSlice H (RSl RU8 1) 1 (.slice aa_2 na_2 ca_2) p_1.Blocks) (ha_3 : IsSlice H R_Write 2 (.slice aa_3 na_3 ca_3) p_1.Waits) (ha_6 : IsSlice H RU8 1 (.slice aa_6 na_6 ca_6) p_5) (r : Disk × Int) (hx : dev_Write p_1 p_4 p_5 = some r) :
  Does Try.prog 38 #[.agg #[.slice aa_2 na_2 ca_2, .slice aa_3 na_3 ca_3], .int .i64 p_4, .slice aa_6 na_6 ca_6] [] H (fun u K' H' => ∃ ao0 : Option Addr, ∃ n0 : Nat, ∃ cap0 : Nat, ∃ ao1 : Option Addr, ∃ n1 : Nat, ∃ cap1 : Nat, ∃ K1 : Own, u = .tuple #[.agg #[.slice ao0 n0 cap0, .slice ao1 n1 cap1], .int .i64 r.2] ∧ K' = [K1] ∧ IsSlice (New H H') (RSl RU8 1) 1 (.slice ao0 n0 cap0) r.1.Blocks ∧ RowOf (New H H') R_Write 0 47 2 (.slice ao1 n1 cap1) r.1.Waits K1 ∧ (∀ p ∈ K1, p.1 ∉ ids (List.flatten [])) ∧ True) := by
 refine Does.enterL (vs := [.agg #[.slice aa_2 na_2 ca_2, .slice aa_3 na_3 ca_3], .int .i64 p_4, .slice aa_6 na_6 ca_6]) (l := [(0, .agg #[.slice aa_2 na_2 ca_2, .slice aa_3 na_3 ca_3]), (1, .int .i64 p_4), (2, .slice aa_6 na_6 ca_6)]) Try.func38 rfl rfl ⟨rfl, rfl, rfl, trivial⟩ (fun w hlt => ?_)
 unfold dev_Write at hx
 refine ZH (ZB (Z7 rfl rfl (fun b_7 hb_7 => JL.alloc Z25 rfl (fun b_8 hb_8 => ZA rfl rfl (ZG rfl) (ZD (ZC (ZH (ZH ?_))))))))
 obtain ⟨t_9, ht_11, hx⟩ := ZJ hx
 refine Zy (fun l o g => ∃ az_37 : Option Addr, ∃ nz_37 : Nat, ∃ cz_37 : Nat, ∃ az_38 : Option Addr, ∃ nz_38 : Nat, ∃ cz_38 : Nat, l = [(1, .int .i64 p_4), (2, .slice aa_6 na_6 ca_6), (3, .pointer (some ⟨b_7, 0, none⟩)), (6, .pointer (some ⟨b_8, 0, none⟩)), (9, .int .i64 t_9.2.2)] ∧ o = [[(b_7, .cells #[.slice az_37 nz_37 cz_37, .slice az_38 nz_38 cz_38] 25 (0, 0))], [(b_8, .cells #[.slice none 0 0, .slice none 0 0] 25 (0, 0))]] ∧ H = g ∧ IsSlice H (RSl RU8 1) 1 (.slice az_37 nz_37 cz_37) t_9.1 ∧ IsSlice H R_Write 2 (.slice az_38 nz_38 cz_38) t_9.2.1) ?_ ?_
 ·
  rintro _ _ _ ⟨az_37, nz_37, cz_37, az_38, nz_38, cz_38, rfl, rfl, rfl, hz_37, hz_38⟩
  refine ZC (ZH (ZB (ZA rfl rfl (ZI rfl) (ZA rfl rfl (R.neq_i rfl rfl) (ZD (ZC (ZY rfl (fun c_39 => ?_) (fun c_39 => ?_))))))))
  ·
   replace hx := ZU c_39 hx
   refine ZH (ZB (ZA rfl rfl (R.bldP (vs := []) (cs := [.slice none 0 0, .slice none 0 0]) Z25 B25 rfl rfl rfl) (ZA rfl rfl (ZI rfl) (ZP 1 S25 rfl rfl rfl rfl rfl (Nat.le_of_ble_eq_true rfl) (ZA rfl rfl (ZG rfl) (ZD (ZC (ZW (Zc (JN.seg0 (ZS (vs := [.agg #[.slice none 0 0, .slice none 0 0], .int .i64 t_9.2.2]) (K := [_]) (rst := [_, _]) (.inl rfl) rfl rfl (Zq 2 rfl rfl S25 (ZQ rfl rfl)) (Ze 0 rfl ZK) ?_)))))))))))
   obtain rfl := Option.some.inj hx
   exact ⟨none, 0, 0, none, 0, 0, [], rfl, rfl, (IsSlice.nil _ _ _), (Zn _ _ _ _ _), (fun p hp => by cases hp), trivial⟩
  ·
   replace hx := ZV c_39 hx
   refine Za (ZC (ZH (JC.block (ZH (ZB (ZA rfl rfl (ZI rfl) (ZA rfl rfl (Zr U45 rfl (IsSlice.long ha_6)) (ZA rfl rfl (R.neq_i rfl rfl) (ZA rfl rfl (ZG rfl) (ZD (ZC ?_)))))))))))
   refine ZY rfl (fun c_40 => ?_) (fun c_40 => ?_)
   ·
    replace hx := ZU c_40 hx
    refine ZH (ZB (ZA rfl rfl (R.bldP (vs := []) (cs := [.slice none 0 0, .slice none 0 0]) Z25 B25 rfl rfl rfl) (ZP 1 S25 rfl rfl rfl rfl rfl (Nat.le_of_ble_eq_true rfl) (ZA rfl rfl (ZG rfl) (ZD (ZC (ZW (JN.blkR (Zc (JN.seg0 (ZS (vs := [.agg #[.slice none 0 0, .slice none 0 0], .int .i64 3]) (K := [_]) (rst := [_, _]) (.inl rfl) rfl rfl (Zq 2 rfl rfl S25 (ZQ rfl rfl)) (Ze 0 rfl ZK) ?_)))))))))))
    obtain rfl := Option.some.inj hx
    exact ⟨none, 0, 0, none, 0, 0, [], rfl, rfl, (IsSlice.nil _ _ _), (Zn _ _ _ _ _), (fun p hp => by cases hp), trivial⟩
   ·
    replace hx := ZV c_40 hx
    refine ZH (ZB (ZA rfl rfl (Zo F25_1 rfl) (ZA rfl rfl (ZZ 0 S23 rfl rfl rfl) (ZA rfl rfl (Zr U23 rfl (IsSlice.long hz_38)) (ZA rfl rfl (R.eql_i rfl rfl) (ZA rfl rfl (ZG rfl) (ZD (ZC (ZY rfl (fun c_41 => ?_) (fun c_41 => ?_))))))))))
    ·
     replace hx := ZU c_41 hx
     refine ZH (ZB (ZA rfl rfl (R.bldP (vs := []) (cs := [.slice none 0 0, .slice none 0 0]) Z25 B25 rfl rfl rfl) (ZP 1 S25 rfl rfl rfl rfl rfl (Nat.le_of_ble_eq_true rfl) (ZA rfl rfl (ZG rfl) (ZD (ZC (ZW (JN.blkR (Zc (JN.seg0 (ZS (vs := [.agg #[.slice none 0 0, .slice none 0 0], .int .i64 9]) (K := [_]) (rst := [_, _]) (.inl rfl) rfl rfl (Zq 2 rfl rfl S25 (ZQ rfl rfl)) (Ze 0 rfl ZK) ?_)))))))))))
     obtain rfl := Option.some.inj hx
     exact ⟨none, 0, 0, none, 0, 0, [], rfl, rfl, (IsSlice.nil _ _ _), (Zn _ _ _ _ _), (fun p hp => by cases hp), trivial⟩
    ·
     replace hx := ZV c_41 hx
     refine Za (Zl (ZC (ZH ?_)))
     obtain ⟨t_42, ht_44, hx⟩ := ZJ hx
     refine Zy (fun l o g => ∃ H_60 : Heaplet, ∃ ar_61 : Option Addr, ∃ nr_61 : Nat, ∃ cr_61 : Nat, ∃ Kr_61 : Own, ∃ ar_62 : Option Addr, ∃ nr_62 : Nat, ∃ cr_62 : Nat, ∃ Kr_62 : Own, l = [(6, .pointer (some ⟨b_8, 0, none⟩)), (7, .int .i64 0)] ∧ o = [[(b_8, .cells #[.slice ar_61 nr_61 cr_61, .slice ar_62 nr_62 cr_62] 25 (0, 0))], Kr_61, Kr_62] ∧ H_60 = g ∧ Hle H H_60 ∧ Pcs w.heap.size 5 45 (.slice ar_61 nr_61 cr_61) t_42.1 Kr_61 ∧ RowOf (New H H_60) R_Write w.heap.size 47 2 (.slice ar_62 nr_62 cr_62) t_42.2 Kr_62) ?_ ?_
     ·
      rintro _ _ _ ⟨H_60, ar_61, nr_61, cr_61, Kr_61, ar_62, nr_62, cr_62, Kr_62, rfl, rfl, rfl, hleH_60, hr_61, hr_62⟩
      refine ZC (ZW (JN.pubPcs 1  rfl hr_61 (Nat.le_refl _) (fun H_63 hleH_63 hsH_63 => JN.forget 1 (ZS (vs := [.agg #[.slice ar_61 nr_61 cr_61, .slice ar_62 nr_62 cr_62], .int .i64 0]) (K := [_]) (rst := [_]) (.inl rfl) rfl rfl (Zq 0 rfl rfl S25 (ZQ rfl rfl)) (Ze 1 rfl ZK) ?_))))
      obtain rfl := Option.some.inj hx
      exact ⟨ar_61, nr_61, cr_61, ar_62, nr_62, cr_62, Kr_62, rfl, rfl, hsH_63, (Zs (Nat.zero_le _) (hr_62.mono R_Write.mono (New.mono hleH_63))), (new_ids (hr_62.mono R_Write.mono (New.mono hleH_63)) hlt), trivial⟩
     ·
      have hxo_43 := hx; clear hx; have hx := ht_44; clear ht_44
      refine JC.draw (so := [_]) 14 rfl Mixed ⟨⟨0, rfl⟩, trivial⟩ (JA.val ⟨by kernel_rfl, by kernel_rfl⟩ (ZF _) (i := 0) rfl ⟨by kernel_rfl, by kernel_rfl, rfl⟩ trivial (ZE (Hle.refl _) ⟨⟨0, rfl⟩, trivial⟩) (Zo F25_0 rfl) rfl (JA.val ⟨by kernel_rfl, by kernel_rfl⟩ (ZF _) (i := 1) rfl ⟨by kernel_rfl, by kernel_rfl, rfl⟩ trivial (ZE (Hle.refl _) ⟨⟨0, rfl⟩, trivial⟩) (ZZ 0 S22 rfl rfl rfl) rfl (JA.val ⟨by kernel_rfl, by kernel_rfl⟩ (ZF _) (i := 2) rfl ⟨by kernel_rfl, by kernel_rfl, rfl⟩ trivial (ZE (Hle.refl _) ⟨⟨0, rfl⟩, trivial⟩) (Zo F25_1 rfl) rfl (JA.val ⟨by kernel_rfl, by kernel_rfl⟩ (ZF _) (i := 3) rfl ⟨by kernel_rfl, by kernel_rfl, rfl⟩ trivial (ZE (Hle.refl _) ⟨⟨0, rfl⟩, trivial⟩) (ZZ 0 S23 rfl rfl rfl) rfl (JA.val ⟨by kernel_rfl, by kernel_rfl⟩ (ZF _) (i := 5) rfl ⟨by kernel_rfl, by kernel_rfl, rfl⟩ trivial (ZE (Hle.refl _) ⟨⟨0, rfl⟩, trivial⟩) (ZI rfl) rfl (JA.val ⟨by kernel_rfl, by kernel_rfl⟩ (ZF _) (i := 6) rfl ⟨by kernel_rfl, by kernel_rfl, rfl⟩ trivial (ZE (Hle.refl _) ⟨⟨0, rfl⟩, trivial⟩) (ZI rfl) rfl (JA.val ⟨by kernel_rfl, by kernel_rfl⟩ (ZF _) (i := 7) rfl ⟨by kernel_rfl, by kernel_rfl, rfl⟩ trivial (ZE (Hle.refl _) ⟨⟨0, rfl⟩, trivial⟩) (R.bldP (vs := [(0, .int .i64 p_4), (1, .slice aa_6 na_6 ca_6)]) (cs := [.int .i64 p_4, .slice aa_6 na_6 ca_6]) Z47 B47 rfl rfl rfl) rfl ?_)))))))
      obtain ⟨x_45, hr_46, hx⟩ := ZJ hx
      obtain ⟨q_50, hm_51, hl_52, hx⟩ := Zz hx
      obtain ⟨x_55, hr_56, hx⟩ := ZJ hx
      refine JA.two (i := 4) (j := 8) (by kernel_rfl) ?_ ?_
      ·
       refine JO.step rfl trivial rfl (fun K hK => ZO (vs := [_]) (args := [_]) (K := []) (rst := [_, _]) E71 rfl rfl rfl ZK (slices_Clip_Write_ok t_9.2.1 _ hz_38 _ hr_46) rfl (fun u_47 Ku_47 Hu_47 hRu_47 hleu_47 hfu_47 => ?_))
       obtain ⟨az_48, nz_48, rfl, rfl, rfl, hz_48, -⟩ := hRu_47
       refine ZD (hK _ _ _ (ZE (Hle.refl _) ⟨⟨0, rfl⟩, trivial⟩) (JA.one (i := 8) (by kernel_rfl) (JO.step rfl trivial rfl (fun K hK => JL.bslF (HF := H) (R := R_Write) (ls := [Write.mk p_4 p_5]) (vs := [.agg #[.int .i64 p_4, .slice aa_6 na_6 ca_6]]) U23 I47 rfl rfl (⟨_, _, rfl, rfl, ⟨_, rfl, ha_6⟩, rfl⟩) R_Write.one rfl rfl rfl (by simp [maxLen]) rfl (fun vr_49 Kr_49 hr_49 => ?_)))))
       obtain ⟨ar_49, cr_49, rfl⟩ := RowOf.val hr_49
       refine ZD (hK _ _ _ (ZE (Hle.refl _) ⟨⟨1, rfl⟩, trivial⟩) (JA.one (i := 9) (by kernel_rfl) (JO.step rfl trivial rfl (fun K hK => JL.appC (HF := H) U23 I47 rfl R_Write.one (Hle.refl _) hz_48 (fun _ _ h => h) rfl (SrcF.row 0 U23 rfl hr_49) (List.cons_ne_nil _ _) hm_51 hl_52 rfl rfl (fun vr_53 Kr_53 hr_53 => ?_)))))
       obtain ⟨ar_53, cr_53, rfl⟩ := RowOf.val hr_53
       refine ZD (hK _ _ _ (ZE (Hle.refl _) ⟨⟨2, rfl⟩, trivial⟩) (JA.val ⟨by kernel_rfl, by kernel_rfl⟩ (ZF _) (i := 10) rfl ⟨by kernel_rfl, by kernel_rfl, rfl⟩ trivial (ZE (Hle.refl _) ⟨⟨2, rfl⟩, trivial⟩) (R.bldP (vs := [(0, .slice az_37 nz_37 cz_37), (1, .slice ar_53 q_50.length cr_53)]) (cs := [.slice az_37 nz_37 cz_37, .slice ar_53 q_50.length cr_53]) Z25 B25 rfl rfl rfl) rfl (JA.one (i := 11) (by kernel_rfl) (JO.step rfl trivial rfl (fun K hK => JL.pub 0 R_Write.mono rfl hr_53 (Nat.le_refl _) (fun H_54 hleH_54 hsH_54 => JL.forget 0 (ZO (vs := [_]) (args := [_]) (K := []) (rst := [_, _, _]) E70 rfl rfl rfl ZK (dev_Twin_ok (Disk.mk t_9.1 q_50) _ (hz_37.mono (RSl.mono RU8.mono) hleH_54) hsH_54 _ hr_56) rfl (fun u_57 Ku_57 Hu_57 hRu_57 hleu_57 hfu_57 => ?_))))))))
       obtain ⟨ar_58, nr_58, cr_58, Kr_58, ar_59, nr_59, cr_59, Kr_59, rfl, rfl, hr_58, hnewr_58, hr_59, hnewr_59, -⟩ := hRu_57
       replace hr_58 := (Pcs.base hr_58 (fun p hp => (hfu_57 p (Zk 0 rfl hp)).resolve_left (hnewr_58 p hp)))
       replace hr_59 := (RowOf.base (RowOf.mono R_Write.mono (New.call hleH_54) hr_59) (fun p hp => (hfu_57 p (Zk 1 rfl hp)).resolve_left (hnewr_59 p hp)))
       refine ZD (hK _ _ _ (ZE (hleH_54.trans hleu_57) ⟨⟨3, rfl⟩, trivial⟩) (JA.one (i := 12) (by kernel_rfl) (JO.step rfl trivial rfl (fun K hK => ZP 4 S25 rfl rfl rfl rfl rfl (Nat.le_of_ble_eq_true rfl) (ZD (hK _ _ _ (ZE (hleH_54.trans hleu_57) ⟨⟨3, rfl⟩, trivial⟩) (JA.val ⟨by kernel_rfl, by kernel_rfl⟩ (ZF _) (i := 13) rfl ⟨by kernel_rfl, by kernel_rfl, rfl⟩ trivial (ZE (hleH_54.trans hleu_57) ⟨⟨3, rfl⟩, trivial⟩) (ZG rfl) rfl (Zg (by kernel_rfl) ?_))))))))
       obtain rfl := Option.some.inj hx
       refine JN.forget 3 (JN.forget 2 (ZL 1 rfl (ZL 1 rfl (ZL 2 rfl ?_))))
       exact ZR ⟨Hu_57, ar_58, nr_58, cr_58, Kr_58, ar_59, nr_59, cr_59, Kr_59, rfl, rfl, rfl, ((hleH_54.trans hleu_57)), hr_58, hr_59⟩ ⟨rfl, rfl, trivial⟩ rfl rfl
      ·
       refine JO.step rfl trivial rfl (fun K hK => JL.bslF (HF := H) (R := R_Write) (ls := [Write.mk p_4 p_5]) (vs := [.agg #[.int .i64 p_4, .slice aa_6 na_6 ca_6]]) U23 I47 rfl rfl (⟨_, _, rfl, rfl, ⟨_, rfl, ha_6⟩, rfl⟩) R_Write.one rfl rfl rfl (by simp [maxLen]) rfl (fun vr_49 Kr_49 hr_49 => ?_))
       obtain ⟨ar_49, cr_49, rfl⟩ := RowOf.val hr_49
       refine ZD (hK _ _ _ (ZE (Hle.refl _) ⟨⟨1, rfl⟩, trivial⟩) (JA.one (i := 4) (by kernel_rfl) (JO.step rfl trivial rfl (fun K hK => ZO (vs := [_]) (args := [_]) (K := []) (rst := [_, _, _]) E71 rfl rfl rfl ZK (slices_Clip_Write_ok t_9.2.1 _ hz_38 _ hr_46) rfl (fun u_47 Ku_47 Hu_47 hRu_47 hleu_47 hfu_47 => ?_)))))
       obtain ⟨az_48, nz_48, rfl, rfl, rfl, hz_48, -⟩ := hRu_47
       refine ZD (hK _ _ _ (ZE (Hle.refl _) ⟨⟨1, rfl⟩, trivial⟩) (JA.one (i := 9) (by kernel_rfl) (JO.step rfl trivial rfl (fun K hK => JL.appC (HF := H) U23 I47 rfl R_Write.one (Hle.refl _) hz_48 (fun _ _ h => h) rfl (SrcF.row 0 U23 rfl hr_49) (List.cons_ne_nil _ _) hm_51 hl_52 rfl rfl (fun vr_53 Kr_53 hr_53 => ?_)))))
       obtain ⟨ar_53, cr_53, rfl⟩ := RowOf.val hr_53
       refine ZD (hK _ _ _ (ZE (Hle.refl _) ⟨⟨2, rfl⟩, trivial⟩) (JA.val ⟨by kernel_rfl, by kernel_rfl⟩ (ZF _) (i := 10) rfl ⟨by kernel_rfl, by kernel_rfl, rfl⟩ trivial (ZE (Hle.refl _) ⟨⟨2, rfl⟩, trivial⟩) (R.bldP (vs := [(0, .slice az_37 nz_37 cz_37), (1, .slice ar_53 q_50.length cr_53)]) (cs := [.slice az_37 nz_37 cz_37, .slice ar_53 q_50.length cr_53]) Z25 B25 rfl rfl rfl) rfl (JA.one (i := 11) (by kernel_rfl) (JO.step rfl trivial rfl (fun K hK => JL.pub 0 R_Write.mono rfl hr_53 (Nat.le_refl _) (fun H_54 hleH_54 hsH_54 => JL.forget 0 (ZO (vs := [_]) (args := [_]) (K := []) (rst := [_, _, _]) E70 rfl rfl rfl ZK (dev_Twin_ok (Disk.mk t_9.1 q_50) _ (hz_37.mono (RSl.mono RU8.mono) hleH_54) hsH_54 _ hr_56) rfl (fun u_57 Ku_57 Hu_57 hRu_57 hleu_57 hfu_57 => ?_))))))))
       obtain ⟨ar_58, nr_58, cr_58, Kr_58, ar_59, nr_59, cr_59, Kr_59, rfl, rfl, hr_58, hnewr_58, hr_59, hnewr_59, -⟩ := hRu_57
       replace hr_58 := (Pcs.base hr_58 (fun p hp => (hfu_57 p (Zk 0 rfl hp)).resolve_left (hnewr_58 p hp)))
       replace hr_59 := (RowOf.base (RowOf.mono R_Write.mono (New.call hleH_54) hr_59) (fun p hp => (hfu_57 p (Zk 1 rfl hp)).resolve_left (hnewr_59 p hp)))
       refine ZD (hK _ _ _ (ZE (hleH_54.trans hleu_57) ⟨⟨3, rfl⟩, trivial⟩) (JA.one (i := 12) (by kernel_rfl) (JO.step rfl trivial rfl (fun K hK => ZP 4 S25 rfl rfl rfl rfl rfl (Nat.le_of_ble_eq_true rfl) (ZD (hK _ _ _ (ZE (hleH_54.trans hleu_57) ⟨⟨3, rfl⟩, trivial⟩) (JA.val ⟨by kernel_rfl, by kernel_rfl⟩ (ZF _) (i := 13) rfl ⟨by kernel_rfl, by kernel_rfl, rfl⟩ trivial (ZE (hleH_54.trans hleu_57) ⟨⟨3, rfl⟩, trivial⟩) (ZG rfl) rfl (Zg (by kernel_rfl) ?_))))))))
       obtain rfl := Option.some.inj hx
       refine JN.forget 3 (JN.forget 2 (ZL 1 rfl (ZL 1 rfl (ZL 2 rfl ?_))))
       exact ZR ⟨Hu_57, ar_58, nr_58, cr_58, Kr_58, ar_59, nr_59, cr_59, Kr_59, rfl, rfl, rfl, ((hleH_54.trans hleu_57)), hr_58, hr_59⟩ ⟨rfl, rfl, trivial⟩ rfl rfl
 ·
  have hxo_10 := hx; clear hx; have hx := ht_11; clear ht_11
  refine JC.draw (so := [_]) 11 rfl Mixed ⟨⟨0, rfl⟩, trivial⟩ (JA.val ⟨by kernel_rfl, by kernel_rfl⟩ (ZF _) (i := 1) rfl ⟨by kernel_rfl, by kernel_rfl, rfl⟩ trivial (ZE (Hle.refl _) ⟨⟨0, rfl⟩, trivial⟩) (ZI rfl) rfl (JA.val ⟨by kernel_rfl, by kernel_rfl⟩ (ZF _) (i := 3) rfl ⟨by kernel_rfl, by kernel_rfl, rfl⟩ trivial (ZE (Hle.refl _) ⟨⟨0, rfl⟩, trivial⟩) (R.func (vf := []) (vc := [_]) rfl rfl) rfl (JAA.start [⟨8, 8, 25, .agg #[.slice none 0 0, .slice none 0 0]⟩] rfl ?_)))
  obtain ⟨x_12, hr_13, hx⟩ := ZJ hx
  obtain ⟨x_15, hr_16, hx⟩ := ZJ hx
  refine JAA.two (i := 0) (j := 2) ⟨⟨_, _, _, rfl, Z25, rfl⟩, trivial⟩ (Hle.refl _) ⟨⟨0, rfl⟩, trivial⟩ rfl (by kernel_rfl) ?_ ?_
  ·
   refine JOA.step rfl trivial rfl (fun tl_23 to_24 K hK => ZA rfl rfl (Zh 1 (vs := [.slice aa_2 na_2 ca_2, .slice aa_3 na_3 ca_3]) S25 rfl rfl rfl rfl) (ZD (hK (by repeat constructor) (by repeat constructor) (ZE (Hle.refl _) ⟨⟨0, rfl⟩, trivial⟩) (JAA.one (i := 2) ⟨⟨_, _, _, rfl, Z25, rfl⟩, trivial⟩ (Hle.refl _) ⟨⟨0, rfl⟩, trivial⟩ rfl (by kernel_rfl) (JOA.step rfl trivial rfl (fun tl_25 to_26 K hK => ZO (vs := [_]) (args := [_]) (K := []) (rst := _ :: _ :: to_26) E67 rfl rfl rfl ZK (dev_place_ok p_4 _ _ hr_13) rfl (fun u_14 Ku_14 Hu_14 hRu_14 hleu_14 hfu_14 => ?_)))))))
   obtain ⟨rfl, rfl, rfl, -⟩ := hRu_14
   refine ZD (hK (by repeat constructor) (by repeat constructor) (ZE (Hle.refl _) ⟨⟨0, rfl⟩, trivial⟩) (JAA.one (i := 4) ⟨⟨_, _, _, rfl, Z25, rfl⟩, trivial⟩ (Hle.refl _) ⟨⟨0, rfl⟩, trivial⟩ rfl (by kernel_rfl) (JOA.step rfl trivial rfl (fun tl_27 to_28 K hK => ZO (vs := [_, _, _]) (args := [_, _, _]) (K := [_]) (rst := _ :: to_28) E68 rfl rfl rfl (Ze 1 rfl ZK) (dev_guarded_ok p_1 x_12 p_1 _ ha_2 ha_3 ha_2 ha_3 _ hr_16) rfl (fun u_17 Ku_17 Hu_17 hRu_17 hleu_17 hfu_17 => ?_)))))
   obtain ⟨az_18, nz_18, cz_18, az_19, nz_19, cz_19, az_20, nz_20, cz_20, az_21, nz_21, cz_21, rfl, rfl, rfl, hz_18, hz_19, hz_20, hz_21, -⟩ := hRu_17
   refine ZD (hK (by repeat constructor) (by repeat constructor) (ZE (Hle.refl _) ⟨⟨1, rfl⟩, trivial⟩) (JAA.val ⟨by kernel_rfl, by kernel_rfl⟩ (ZF _) (i := 5) rfl (by kernel_rfl) rfl trivial (Hle.refl _) ⟨⟨1, rfl⟩, trivial⟩ (ZI rfl) rfl (JAA.val ⟨by kernel_rfl, by kernel_rfl⟩ (ZF _) (i := 6) rfl (by kernel_rfl) rfl trivial (Hle.refl _) ⟨⟨1, rfl⟩, trivial⟩ (R.extract rfl rfl) rfl (JAA.val ⟨by kernel_rfl, by kernel_rfl⟩ (ZF _) (i := 7) rfl (by kernel_rfl) rfl trivial (Hle.refl _) ⟨⟨1, rfl⟩, trivial⟩ (R.extract rfl rfl) rfl (JAA.all ⟨⟨_, _, _, rfl, Z25, rfl⟩, trivial⟩ (Hle.refl _) ⟨⟨1, rfl⟩, trivial⟩ rfl (by kernel_rfl) (fun b_29 hb_29 => JA.one (i := 9) (by kernel_rfl) (JO.step rfl trivial rfl (fun K hK => ZP 2 S25 rfl rfl rfl rfl rfl (Nat.le_of_ble_eq_true rfl) (ZD (hK _ _ _ (ZE (Hle.refl _) ⟨⟨1, rfl⟩, trivial⟩) (JA.val ⟨by kernel_rfl, by kernel_rfl⟩ (ZF _) (i := 10) rfl ⟨by kernel_rfl, by kernel_rfl, rfl⟩ trivial (ZE (Hle.refl _) ⟨⟨1, rfl⟩, trivial⟩) (ZG rfl) rfl ?_)))))))))))
   refine Zg (by kernel_rfl) ?_
   obtain rfl := Option.some.inj hx
   refine JN.forget 2 (ZL 1 rfl (ZL 1 rfl ?_))
   exact ZR ⟨az_18, nz_18, cz_18, az_19, nz_19, cz_19, rfl, rfl, rfl, hz_18, hz_19⟩ ⟨rfl, rfl, rfl, rfl, rfl, trivial⟩ rfl rfl
  ·
   refine JOA.step rfl trivial rfl (fun tl_30 to_31 K hK => ZO (vs := [_]) (args := [_]) (K := []) (rst := _ :: _ :: to_31) E67 rfl rfl rfl ZK (dev_place_ok p_4 _ _ hr_13) rfl (fun u_14 Ku_14 Hu_14 hRu_14 hleu_14 hfu_14 => ?_))
   obtain ⟨rfl, rfl, rfl, -⟩ := hRu_14
   refine ZD (hK (by repeat constructor) (by repeat constructor) (ZE (Hle.refl _) ⟨⟨0, rfl⟩, trivial⟩) (JAA.one (i := 0) ⟨⟨_, _, _, rfl, Z25, rfl⟩, trivial⟩ (Hle.refl _) ⟨⟨0, rfl⟩, trivial⟩ rfl (by kernel_rfl) (JOA.step rfl trivial rfl (fun tl_32 to_33 K hK => ZA rfl rfl (Zh 1 (vs := [.slice aa_2 na_2 ca_2, .slice aa_3 na_3 ca_3]) S25 rfl rfl rfl rfl) (ZD (hK (by repeat constructor) (by repeat constructor) (ZE (Hle.refl _) ⟨⟨0, rfl⟩, trivial⟩) (JAA.one (i := 4) ⟨⟨_, _, _, rfl, Z25, rfl⟩, trivial⟩ (Hle.refl _) ⟨⟨0, rfl⟩, trivial⟩ rfl (by kernel_rfl) (JOA.step rfl trivial rfl (fun tl_34 to_35 K hK => ZO (vs := [_, _, _]) (args := [_, _, _]) (K := [_]) (rst := _ :: to_35) E68 rfl rfl rfl (Ze 1 rfl ZK) (dev_guarded_ok p_1 x_12 p_1 _ ha_2 ha_3 ha_2 ha_3 _ hr_16) rfl (fun u_17 Ku_17 Hu_17 hRu_17 hleu_17 hfu_17 => ?_))))))))))
   obtain ⟨az_18, nz_18, cz_18, az_19, nz_19, cz_19, az_20, nz_20, cz_20, az_21, nz_21, cz_21, rfl, rfl, rfl, hz_18, hz_19, hz_20, hz_21, -⟩ := hRu_17
   refine ZD (hK (by repeat constructor) (by repeat constructor) (ZE (Hle.refl _) ⟨⟨1, rfl⟩, trivial⟩) (JAA.val ⟨by kernel_rfl, by kernel_rfl⟩ (ZF _) (i := 5) rfl (by kernel_rfl) rfl trivial (Hle.refl _) ⟨⟨1, rfl⟩, trivial⟩ (ZI rfl) rfl (JAA.val ⟨by kernel_rfl, by kernel_rfl⟩ (ZF _) (i := 6) rfl (by kernel_rfl) rfl trivial (Hle.refl _) ⟨⟨1, rfl⟩, trivial⟩ (R.extract rfl rfl) rfl (JAA.val ⟨by kernel_rfl, by kernel_rfl⟩ (ZF _) (i := 7) rfl (by kernel_rfl) rfl trivial (Hle.refl _) ⟨⟨1, rfl⟩, trivial⟩ (R.extract rfl rfl) rfl (JAA.all ⟨⟨_, _, _, rfl, Z25, rfl⟩, trivial⟩ (Hle.refl _) ⟨⟨1, rfl⟩, trivial⟩ rfl (by kernel_rfl) (fun b_36 hb_36 => JA.one (i := 9) (by kernel_rfl) (JO.step rfl trivial rfl (fun K hK => ZP 2 S25 rfl rfl rfl rfl rfl (Nat.le_of_ble_eq_true rfl) (ZD (hK _ _ _ (ZE (Hle.refl _) ⟨⟨1, rfl⟩, trivial⟩) (JA.val ⟨by kernel_rfl, by kernel_rfl⟩ (ZF _) (i := 10) rfl ⟨by kernel_rfl, by kernel_rfl, rfl⟩ trivial (ZE (Hle.refl _) ⟨⟨1, rfl⟩, trivial⟩) (ZG rfl) rfl ?_)))))))))))
   refine Zg (by kernel_rfl) ?_
   obtain rfl := Option.some.inj hx
   refine JN.forget 2 (ZL 1 rfl (ZL 1 rfl ?_))
   exact ZR ⟨az_18, nz_18, cz_18, az_19, nz_19, cz_19, rfl, rfl, rfl, hz_18, hz_19⟩ ⟨rfl, rfl, rfl, rfl, rfl, trivial⟩ rfl rfl

set_option maxHeartbeats 8000000 in
theorem label_Put_ok (p_1 : Disk) (p_4 : Label) (H : Heaplet) {aa_2 : Option Addr} {na_2 : Nat} {ca_2 : Nat} {aa_3 : Option Addr} {na_3 : Nat} {ca_3 : Nat} (ha_2 : IsSlice H (RSl RU8 1) 1 (.slice aa_2 na_2 ca_2) p_1.Blocks) (ha_3 : IsSlice H R_Write 2 (.slice aa_3 na_3 ca_3) p_1.Waits) (r : Disk × Int) (hx : label_Put p_1 p_4 = some r) :
  Does Try.prog 12 #[.agg #[.slice aa_2 na_2 ca_2, .slice aa_3 na_3 ca_3], .agg #[.int .u32 (p_4.Gen.toNat : Int), .int .u32 (p_4.Epoch.toNat : Int), .int .i64 p_4.Root.At, .int .u32 (p_4.Root.Birth.toNat : Int), .int .u32 (p_4.Root.Iv.toNat : Int), .int .u32 (p_4.Root.Tag.toNat : Int), .int .u32 (p_4.Root.Sum.toNat : Int)]] [] H (fun u K' H' => ∃ ao0 : Option Addr, ∃ n0 : Nat, ∃ cap0 : Nat, ∃ ao1 : Option Addr, ∃ n1 : Nat, ∃ cap1 : Nat, ∃ K1 : Own, u = .tuple #[.agg #[.slice ao0 n0 cap0, .slice ao1 n1 cap1], .int .i64 r.2] ∧ K' = [K1] ∧ IsSlice (New H H') (RSl RU8 1) 1 (.slice ao0 n0 cap0) r.1.Blocks ∧ RowOf (New H H') R_Write 0 47 2 (.slice ao1 n1 cap1) r.1.Waits K1 ∧ (∀ p ∈ K1, p.1 ∉ ids (List.flatten [])) ∧ True) := by
 refine Does.enterL (vs := [.agg #[.slice aa_2 na_2 ca_2, .slice aa_3 na_3 ca_3], .agg #[.int .u32 (p_4.Gen.toNat : Int), .int .u32 (p_4.Epoch.toNat : Int), .int .i64 p_4.Root.At, .int .u32 (p_4.Root.Birth.toNat : Int), .int .u32 (p_4.Root.Iv.toNat : Int), .int .u32 (p_4.Root.Tag.toNat : Int), .int .u32 (p_4.Root.Sum.toNat : Int)]]) (l := [(0, .agg #[.slice aa_2 na_2 ca_2, .slice aa_3 na_3 ca_3]), (1, .agg #[.int .u32 (p_4.Gen.toNat : Int), .int .u32 (p_4.Epoch.toNat : Int), .int .i64 p_4.Root.At, .int .u32 (p_4.Root.Birth.toNat : Int), .int .u32 (p_4.Root.Iv.toNat : Int), .int .u32 (p_4.Root.Tag.toNat : Int), .int .u32 (p_4.Root.Sum.toNat : Int)])]) Try.func12 rfl rfl ⟨rfl, rfl, trivial⟩ (fun w hlt => ?_)
 unfold label_Put at hx
 refine ZH (ZB (Z7 rfl rfl (fun b_5 hb_5 => Z7 rfl rfl (fun b_6 hb_6 => JL.alloc Z25 rfl (fun b_7 hb_7 => ZA rfl rfl (ZG rfl) (ZD (ZC (ZH (ZH (ZB (ZA rfl rfl (Zh 2 (vs := [.slice aa_2 na_2 ca_2, .slice aa_3 na_3 ca_3]) S25 rfl rfl rfl rfl) ?_)))))))))))
 obtain ⟨x_8, hr_9, hx⟩ := ZJ hx
 refine ZO (vs := [_]) (args := [_]) (K := []) (rst := [_, _, _]) E36 rfl rfl rfl ZK (dev_Check_ok p_1 _ ha_2 ha_3 _ hr_9) rfl (fun u_10 Ku_10 Hu_10 hRu_10 hleu_10 hfu_10 => ?_)
 obtain ⟨rfl, rfl, rfl, -⟩ := hRu_10
 refine ZA rfl rfl (ZG rfl) (ZD (ZC (ZH (ZB (ZA rfl rfl (ZI rfl) (ZA rfl rfl (R.neq_i rfl rfl) (ZD (ZC (ZY rfl (fun c_11 => ?_) (fun c_11 => ?_))))))))))
 ·
  replace hx := ZU c_11 hx
  refine ZH (ZB (ZA rfl rfl (R.bldP (vs := []) (cs := [.slice none 0 0, .slice none 0 0]) Z25 B25 rfl rfl rfl) (ZA rfl rfl (ZI rfl) (ZP 0 S25 rfl rfl rfl rfl rfl (Nat.le_of_ble_eq_true rfl) (ZA rfl rfl (ZG rfl) (ZD (ZC (ZW (Zc (JN.seg0 (ZS (vs := [.agg #[.slice none 0 0, .slice none 0 0], .int .i64 x_8]) (K := [_]) (rst := [_, _, _]) (.inl rfl) rfl rfl (Zq 1 rfl rfl S25 (ZQ rfl rfl)) (Ze 0 rfl ZK) ?_)))))))))))
  obtain rfl := Option.some.inj hx
  exact ⟨none, 0, 0, none, 0, 0, [], rfl, rfl, (IsSlice.nil _ _ _), (Zn _ _ _ _ _), (fun p hp => by cases hp), trivial⟩
 ·
  replace hx := ZV c_11 hx
  refine Za (ZC (ZH (ZH (ZB (ZA rfl rfl (Zh 1 (vs := [.int .u32 (p_4.Gen.toNat : Int), .int .u32 (p_4.Epoch.toNat : Int), .int .i64 p_4.Root.At, .int .u32 (p_4.Root.Birth.toNat : Int), .int .u32 (p_4.Root.Iv.toNat : Int), .int .u32 (p_4.Root.Tag.toNat : Int), .int .u32 (p_4.Root.Sum.toNat : Int)]) S30 rfl rfl rfl rfl) ?_)))))
  obtain ⟨x_12, hr_13, hx⟩ := ZJ hx
  refine ZO (vs := [_]) (args := [_]) (K := []) (rst := [_, _, _]) E37 rfl rfl rfl ZK (label_may_ok p_4 _ _ hr_13) rfl (fun u_14 Ku_14 Hu_14 hRu_14 hleu_14 hfu_14 => ?_)
  obtain ⟨rfl, rfl, rfl, -⟩ := hRu_14
  refine ZA rfl rfl (R.not rfl) (ZD (ZC (ZY rfl (fun c_15 => ?_) (fun c_15 => ?_))))
  ·
   replace hx := ZU c_15 hx
   refine ZH (ZB (ZA rfl rfl (R.bldP (vs := []) (cs := [.slice none 0 0, .slice none 0 0]) Z25 B25 rfl rfl rfl) (ZP 0 S25 rfl rfl rfl rfl rfl (Nat.le_of_ble_eq_true rfl) (ZA rfl rfl (ZG rfl) (ZD (ZC (ZW (Zc (JN.seg0 (ZS (vs := [.agg #[.slice none 0 0, .slice none 0 0], .int .i64 8]) (K := [_]) (rst := [_, _, _]) (.inl rfl) rfl rfl (Zq 1 rfl rfl S25 (ZQ rfl rfl)) (Ze 0 rfl ZK) ?_))))))))))
   obtain rfl := Option.some.inj hx
   exact ⟨none, 0, 0, none, 0, 0, [], rfl, rfl, (IsSlice.nil _ _ _), (Zn _ _ _ _ _), (fun p hp => by cases hp), trivial⟩
  ·
   replace hx := ZV c_15 hx
   refine Za (ZC (ZH (JC.draw (so := [_, _]) 11 rfl Mixed ⟨⟨1, rfl⟩, ⟨2, rfl⟩, trivial⟩ (JA.val ⟨by kernel_rfl, by kernel_rfl⟩ (ZF _) (i := 0) rfl ⟨by kernel_rfl, by kernel_rfl, rfl⟩ trivial (ZE (Hle.refl _) ⟨⟨1, rfl⟩, ⟨2, rfl⟩, trivial⟩) (Zh 1 (vs := [.slice aa_2 na_2 ca_2, .slice aa_3 na_3 ca_3]) S25 rfl rfl rfl rfl) rfl (JA.val ⟨by kernel_rfl, by kernel_rfl⟩ (ZF _) (i := 1) rfl ⟨by kernel_rfl, by kernel_rfl, rfl⟩ trivial (ZE (Hle.refl _) ⟨⟨1, rfl⟩, ⟨2, rfl⟩, trivial⟩) (Zo F30_0 rfl) rfl (JA.val ⟨by kernel_rfl, by kernel_rfl⟩ (ZF _) (i := 2) rfl ⟨by kernel_rfl, by kernel_rfl, rfl⟩ trivial (ZE (Hle.refl _) ⟨⟨1, rfl⟩, ⟨2, rfl⟩, trivial⟩) (ZZ 0 S26 rfl rfl rfl) rfl (JA.val ⟨by kernel_rfl, by kernel_rfl⟩ (ZF _) (i := 4) rfl ⟨by kernel_rfl, by kernel_rfl, rfl⟩ trivial (ZE (Hle.refl _) ⟨⟨1, rfl⟩, ⟨2, rfl⟩, trivial⟩) (Zh 0 (vs := [.int .u32 (p_4.Gen.toNat : Int), .int .u32 (p_4.Epoch.toNat : Int), .int .i64 p_4.Root.At, .int .u32 (p_4.Root.Birth.toNat : Int), .int .u32 (p_4.Root.Iv.toNat : Int), .int .u32 (p_4.Root.Tag.toNat : Int), .int .u32 (p_4.Root.Sum.toNat : Int)]) S30 rfl rfl rfl rfl) rfl (JA.one (i := 3) (by kernel_rfl) (JO.step rfl trivial rfl (fun K hK => ?_))))))))))
   obtain ⟨x_16, hr_17, hx⟩ := ZJ hx
   refine ZO (vs := [_]) (args := [_]) (K := []) (rst := [_, _, _]) E17 rfl rfl rfl ZK (label_Slot_ok p_4.Gen _ _ hr_17) rfl (fun u_18 Ku_18 Hu_18 hRu_18 hleu_18 hfu_18 => ?_)
   obtain ⟨rfl, rfl, rfl, -⟩ := hRu_18
   refine ZD (hK _ _ _ (ZE (Hle.refl _) ⟨⟨1, rfl⟩, ⟨2, rfl⟩, trivial⟩) (JA.one (i := 5) (by kernel_rfl) (JO.step rfl trivial rfl (fun K hK => ?_))))
   obtain ⟨x_19, hr_20, hx⟩ := ZJ hx
   refine ZO (vs := [_]) (args := [_]) (K := []) (rst := [_, _, _]) E39 rfl rfl rfl ZK (label_block_ok p_4 _ _ hr_20) rfl (fun u_21 Ku_21 Hu_21 hRu_21 hleu_21 hfu_21 => ?_)
   obtain ⟨ar_22, nr_22, cr_22, Kr_22, rfl, rfl, rfl, hr_22, hnewr_22, -⟩ := hRu_21
   replace hr_22 := (RowOf.base (Zj (H2 := New H H) RU8.const hr_22) (fun p hp => (hfu_21 p (Zk 0 rfl hp)).resolve_left (hnewr_22 p hp)))
   refine ZD (hK _ _ _ (ZE (Hle.refl _) ⟨⟨2, rfl⟩, ⟨3, rfl⟩, trivial⟩) (JA.one (i := 6) (by kernel_rfl) (JO.step rfl trivial rfl (fun K hK => JL.pubN 0 RU8.mono rfl hr_22 (Nat.le_refl _) (fun H_23 hleH_23 hsH_23 => JL.forget 0 ?_)))))
   obtain ⟨x_24, hr_25, hx⟩ := ZJ hx
   refine ZO (vs := [_, _, _]) (args := [_, _, _]) (K := []) (rst := [_, _, _]) E38 rfl rfl rfl ZK (dev_Write_ok p_1 x_16 x_19 _ (ha_2.mono (RSl.mono RU8.mono) hleH_23) (ha_3.mono R_Write.mono hleH_23) (hsH_23.old RU8.mono) _ hr_25) rfl (fun u_26 Ku_26 Hu_26 hRu_26 hleu_26 hfu_26 => ?_)
   obtain ⟨az_27, nz_27, cz_27, ar_28, nr_28, cr_28, Kr_28, rfl, rfl, hz_27, hr_28, hnewr_28, -⟩ := hRu_26
   replace hr_28 := (RowOf.base (RowOf.mono R_Write.mono (New.call hleH_23) hr_28) (fun p hp => (hfu_26 p (Zk 0 rfl hp)).resolve_left (hnewr_28 p hp)))
   replace hz_27 := IsSlice.mono (RSl.mono RU8.mono) (New.call hleH_23) hz_27
   refine ZD (hK _ _ _ (ZE (hleH_23.trans hleu_26) ⟨⟨2, rfl⟩, ⟨3, rfl⟩, trivial⟩) (JA.val ⟨by kernel_rfl, by kernel_rfl⟩ (ZF _) (i := 7) rfl ⟨by kernel_rfl, by kernel_rfl, rfl⟩ trivial (ZE (hleH_23.trans hleu_26) ⟨⟨2, rfl⟩, ⟨3, rfl⟩, trivial⟩) (R.extract rfl rfl) rfl (JA.val ⟨by kernel_rfl, by kernel_rfl⟩ (ZF _) (i := 8) rfl ⟨by kernel_rfl, by kernel_rfl, rfl⟩ trivial (ZE (hleH_23.trans hleu_26) ⟨⟨2, rfl⟩, ⟨3, rfl⟩, trivial⟩) (R.extract rfl rfl) rfl (JA.one (i := 9) (by kernel_rfl) (JO.step rfl trivial rfl (fun K hK => ZP 1 S25 rfl rfl rfl rfl rfl (Nat.le_of_ble_eq_true rfl) (ZD (hK _ _ _ (ZE (hleH_23.trans hleu_26) ⟨⟨2, rfl⟩, ⟨3, rfl⟩, trivial⟩) (JA.val ⟨by kernel_rfl, by kernel_rfl⟩ (ZF _) (i := 10) rfl ⟨by kernel_rfl, by kernel_rfl, rfl⟩ trivial (ZE (hleH_23.trans hleu_26) ⟨⟨2, rfl⟩, ⟨3, rfl⟩, trivial⟩) (ZG rfl) rfl (Zg (by kernel_rfl) (ZC ?_)))))))))))
   refine ZW (ZS (vs := [.agg #[.slice az_27 nz_27 cz_27, .slice ar_28 nr_28 cr_28], .int .i64 x_24.2]) (K := [_]) (rst := [_, _, _]) (.inl rfl) rfl rfl (Zq 1 rfl rfl S25 (ZQ rfl rfl)) (Ze 0 rfl ZK) ?_)
   obtain rfl := Option.some.inj hx
   exact ⟨az_27, nz_27, cz_27, ar_28, nr_28, cr_28, Kr_28, rfl, rfl, hz_27, (Zs (Nat.zero_le _) hr_28), (new_ids hr_28 hlt), trivial⟩

set_option maxHeartbeats 8000000 in
theorem ref09_place_ok (p_1 : Int) (H : Heaplet) (r : Bool) (hx : ref09_place p_1 = some r) :
  Does Try.prog 75 #[.int .i64 p_1] [] H (fun u K' H' => u = .bool r ∧ K' = [] ∧ H = H' ∧ True) := by
 refine Does.enterL (vs := [.int .i64 p_1]) (l := [(0, .int .i64 p_1)]) Try.func75 rfl rfl ⟨rfl, trivial⟩ (fun w hlt => ?_)
 unfold ref09_place at hx
 refine ZH (ZB (ZA rfl rfl (ZG rfl) (ZD (ZC (ZH ?_)))))
 obtain ⟨t_2, ht_4, hx⟩ := ZJ hx
 refine Zy (fun l o g => l = [(2, .bool t_2)] ∧ o = [] ∧ H = g) ?_ ?_
 ·
  rintro _ _ _ ⟨rfl, rfl, rfl⟩
  refine ZC (ZW (ZS (vs := [.bool t_2]) (K := []) (rst := []) (.inl rfl) rfl rfl (ZQ rfl rfl) ZK ?_))
  obtain rfl := Option.some.inj hx
  exact ⟨rfl, rfl, rfl, trivial⟩
 ·
  have hxo_3 := hx; clear hx; have hx := ht_4; clear ht_4
  refine ZB (ZA rfl rfl (ZI rfl) (ZA rfl rfl (R.leq_i rfl rfl) (ZA rfl rfl (ZI rfl) (Zi (t := 5) rfl (fun c_5 => ?_) (fun c_5 => ?_)))))
  ·
   replace hx := ZU c_5 hx
   refine ZN rfl rfl rfl (ZA rfl rfl (ZI rfl) (ZN rfl rfl rfl (ZA rfl rfl (Z1 rfl rfl) (ZA rfl rfl (Zf rfl rfl) (ZA rfl rfl (ZG rfl) (ZD ?_))))))
   obtain rfl := Option.some.inj hx
   exact ZR ⟨rfl, rfl, rfl⟩ ⟨rfl, trivial⟩ rfl rfl
  ·
   replace hx := ZV c_5 hx
   refine ZM rfl rfl rfl rfl rfl (ZM rfl rfl rfl rfl rfl (ZA rfl rfl (Zb rfl rfl) (ZA rfl rfl (ZG rfl) (ZD ?_))))
   obtain rfl := Option.some.inj hx
   exact ZR ⟨rfl, rfl, rfl⟩ ⟨rfl, trivial⟩ rfl rfl

set_option maxHeartbeats 8000000 in
theorem ref09_May_ok (p_1 : Disk) (H : Heaplet) {aa_2 : Option Addr} {na_2 : Nat} {ca_2 : Nat} {aa_3 : Option Addr} {na_3 : Nat} {ca_3 : Nat} (ha_2 : IsSlice H (RSl RU8 1) 1 (.slice aa_2 na_2 ca_2) p_1.Blocks) (ha_3 : IsSlice H R_Write 2 (.slice aa_3 na_3 ca_3) p_1.Waits) (r : Bool) (hx : ref09_May p_1 = some r) :
  Does Try.prog 40 #[.agg #[.slice aa_2 na_2 ca_2, .slice aa_3 na_3 ca_3]] [] H (fun u K' H' => u = .bool r ∧ K' = [] ∧ H = H' ∧ True) := by
 refine Does.enterL (vs := [.agg #[.slice aa_2 na_2 ca_2, .slice aa_3 na_3 ca_3]]) (l := [(0, .agg #[.slice aa_2 na_2 ca_2, .slice aa_3 na_3 ca_3])]) Try.func40 rfl rfl ⟨rfl, trivial⟩ (fun w hlt => ?_)
 unfold ref09_May at hx
 refine ZH (ZB (Z7 rfl rfl (fun b_4 hb_4 => ZA rfl rfl (ZG rfl) (ZD (ZC (ZH (ZB (ZA rfl rfl (ZG rfl) (ZD (ZC (ZH ?_)))))))))))
 refine ZH (ZB (ZA rfl rfl (ZG rfl) (ZD (ZC ?_))))
 obtain ⟨t_5, ht_7, hx⟩ := ZJ hx
 refine Zy (fun l o g => l = [(1, .pointer (some ⟨b_4, 0, none⟩)), (3, .int .i64 t_5)] ∧ o = [[(b_4, .cells #[.slice aa_2 na_2 ca_2, .slice aa_3 na_3 ca_3] 25 (0, 0))]] ∧ H = g) ?_ ?_
 ·
  rintro _ _ _ ⟨rfl, rfl, rfl⟩
  refine ZC (ZH (ZH (ZB (ZA rfl rfl (ZG rfl) (ZD (ZC ?_))))))
  obtain ⟨t_11, ht_13, hx⟩ := ZJ hx
  refine Zy (fun l o g => l = [(1, .pointer (some ⟨b_4, 0, none⟩)), (3, .int .i64 t_11)] ∧ o = [[(b_4, .cells #[.slice aa_2 na_2 ca_2, .slice aa_3 na_3 ca_3] 25 (0, 0))]] ∧ H = g) ?_ ?_
  ·
   rintro _ _ _ ⟨rfl, rfl, rfl⟩
   refine ZC (ZH ?_)
   obtain ⟨t_17, ht_19, hx⟩ := ZJ hx
   refine Zy (fun l o g => l = [(2, .bool t_17)] ∧ o = [] ∧ H = g) ?_ ?_
   ·
    rintro _ _ _ ⟨rfl, rfl, rfl⟩
    refine ZC (ZW (ZS (vs := [.bool t_17]) (K := []) (rst := []) (.inl rfl) rfl rfl (ZQ rfl rfl) ZK ?_))
    obtain rfl := Option.some.inj hx
    exact ⟨rfl, rfl, rfl, trivial⟩
   ·
    have hxo_18 := hx; clear hx; have hx := ht_19; clear ht_19
    refine ZB (ZA rfl rfl (ZI rfl) (ZA rfl rfl (R.eql_i rfl rfl) (ZA rfl rfl (ZI rfl) (Zi (t := 59) rfl (fun c_20 => ?_) (fun c_20 => ?_)))))
    ·
     replace hx := ZU c_20 hx
     refine ZN rfl rfl rfl (ZA rfl rfl (Zo F25_0 rfl) (ZN rfl rfl rfl (ZA rfl rfl (ZZ 0 S22 rfl rfl rfl) (ZN rfl rfl rfl (ZA rfl rfl (Zr U22 rfl (IsSlice.long ha_2)) (ZN rfl rfl rfl (ZA rfl rfl (R.eql_i rfl rfl) (ZA rfl rfl (Zf rfl rfl) (ZA rfl rfl (ZI rfl) (Zi (t := 65) rfl (fun c_21 => ?_) (fun c_21 => ?_)))))))))))
     ·
      replace hx := ZU c_21 hx
      refine ZN rfl rfl rfl (ZA rfl rfl (Zo F25_1 rfl) (ZN rfl rfl rfl (ZA rfl rfl (ZZ 0 S23 rfl rfl rfl) (ZN rfl rfl rfl (ZA rfl rfl (Zr U23 rfl (IsSlice.long ha_3)) (ZN rfl rfl rfl (ZA rfl rfl (R.leq_i rfl rfl) (ZA rfl rfl (Zf rfl rfl) (ZA rfl rfl (ZG rfl) (ZD ?_))))))))))
      obtain rfl := Option.some.inj hx
      refine JN.forget 0 ?_
      exact ZR ⟨rfl, rfl, rfl⟩ ⟨rfl, trivial⟩ rfl rfl
     ·
      replace hx := ZV c_21 hx
      refine ZM rfl rfl rfl rfl rfl (ZM rfl rfl rfl rfl rfl (ZM rfl rfl rfl rfl rfl (ZM rfl rfl rfl rfl rfl (ZA rfl rfl (Zb rfl rfl) (ZA rfl rfl (ZG rfl) (ZD ?_))))))
      obtain rfl := Option.some.inj hx
      refine JN.forget 0 ?_
      exact ZR ⟨rfl, rfl, rfl⟩ ⟨rfl, trivial⟩ rfl rfl
    ·
     replace hx := ZV c_20 hx
     refine ZM rfl rfl rfl rfl rfl (ZM rfl rfl rfl rfl rfl (ZM rfl rfl rfl rfl rfl (ZM rfl rfl rfl rfl rfl (ZA rfl rfl (Zb rfl rfl) (ZA rfl rfl (ZI rfl) (ZM rfl rfl rfl rfl rfl (ZM rfl rfl rfl rfl rfl (ZM rfl rfl rfl rfl rfl (ZM rfl rfl rfl rfl rfl (ZA rfl rfl (Zb rfl rfl) (ZA rfl rfl (ZG rfl) ?_)))))))))))
     refine ZD ?_
     obtain rfl := Option.some.inj hx
     refine JN.forget 0 ?_
     exact ZR ⟨rfl, rfl, rfl⟩ ⟨rfl, trivial⟩ rfl rfl
  ·
   have hxo_12 := hx; clear hx; have hx := ht_13; clear ht_13
   refine JC.block (Z9 (fun n l o g => ∃ s_14 : Int × Nat, l = [(1, .pointer (some ⟨b_4, 0, none⟩)), (3, .int .i64 s_14.1), (5, .int .i64 ((s_14.2 : Nat) : Int))] ∧ o = [[(b_4, .cells #[.slice aa_2 na_2 ca_2, .slice aa_3 na_3 ca_3] 25 (0, 0))]] ∧ H = g ∧ run (ref09_May_l2 p_1) n s_14 = some t_11) FUEL ?_ ⟨(t_5, 0), rfl, rfl, rfl, hx⟩ ⟨rfl, rfl, rfl, trivial⟩ ?_)
   ·
    rintro _ _ _ ⟨s_14, rfl, rfl, rfl, hn_15⟩
    exact Z5 hn_15
   ·
    rintro n_16 _ _ _ ⟨s_14, rfl, rfl, rfl, hn_15⟩
    clear hx; obtain ⟨oo_18, hx, hd_17⟩ := Z6 hn_15
    unfold ref09_May_l2 at hx
    refine ZH (ZH (ZB (ZA rfl rfl (ZI rfl) (ZA rfl rfl (Zo F25_1 rfl) (ZA rfl rfl (ZZ 0 S23 rfl rfl rfl) (ZA rfl rfl (Zr U23 rfl (IsSlice.long ha_3)) (ZA rfl rfl (Z1 rfl rfl) (ZA rfl rfl (ZI rfl) (Zi (t := 31) rfl (fun c_17 => ?_) (fun c_17 => ?_))))))))))
    ·
     replace hx := ZU c_17 hx
     refine ZN rfl rfl rfl (ZA rfl rfl (ZI rfl) (ZN rfl rfl rfl (ZA rfl rfl (R.leq_i rfl rfl) (ZA rfl rfl (Zf rfl rfl) (ZD (ZC (ZY rfl (fun c_18 => ?_) (fun c_18 => ?_))))))))
     ·
      replace hx := ZU c_18 hx
      refine Za (ZC (ZH (JC.block (ZH (ZB (ZA rfl rfl (Zo F25_1 rfl) (ZA rfl rfl (ZZ 0 S23 rfl rfl rfl) (ZA rfl rfl (ZI rfl) ?_))))))))
      obtain ⟨y_19, hN_20, hx⟩ := Zt hx
      obtain ⟨b_21, o_22, cs_23, hE_24, hR_25, hl_26, hc_27⟩ := IsSlice.elem ha_3 hN_20
      obtain ⟨v_28, rfl, hs_29⟩ := hR_25
      obtain ⟨av_28, cv_28, rfl⟩ := IsSlice.val hs_29
      refine ZA rfl rfl (R.ix U23 S47 rfl rfl hE_24) (ZA rfl rfl (Zo F47_1 rfl) (ZA rfl rfl (R.ldH S45 rfl (hc_27 1 _ rfl)) (ZA rfl rfl (Zr U45 rfl (IsSlice.long hs_29)) (ZA rfl rfl (R.neq_i rfl rfl) (ZA rfl rfl (ZI rfl) (Zi (t := 45) rfl (fun c_30 => ?_) (fun c_30 => ?_)))))))
      ·
       replace hx := ZU c_30 hx
       refine ZM rfl rfl rfl rfl rfl (ZM rfl rfl rfl rfl rfl (ZM rfl rfl rfl rfl rfl (ZM rfl rfl rfl rfl rfl (ZM rfl rfl rfl rfl rfl (ZM rfl rfl rfl rfl rfl (ZM rfl rfl rfl rfl rfl (ZM rfl rfl rfl rfl rfl (ZA rfl rfl (Zf rfl rfl) (ZD (ZC (JC.condT rfl ?_)))))))))))
       refine ZB (ZA rfl rfl (ZI rfl) (ZA rfl rfl (R.add_i rfl rfl) (ZA rfl rfl (ZG rfl) (ZD (Zl (ZC (ZB (ZA rfl rfl (ZI rfl) (ZA rfl rfl (R.inc rfl rfl (of_decide_eq_true c_17) (IsSlice.lenI ha_3)) (ZA rfl rfl (ZG rfl) (ZD ?_)))))))))))
       replace hx := Zm hd_17 hx
       exact ZR ⟨(w64 (s_14.1 + 1), s_14.2 + 1), rfl, rfl, rfl, hx⟩ ⟨rfl, rfl, rfl, trivial⟩ rfl rfl
      ·
       replace hx := ZV c_30 hx
       refine ZN rfl rfl rfl (ZA rfl rfl (Zo F25_1 rfl) (ZN rfl rfl rfl (ZA rfl rfl (ZZ 0 S23 rfl rfl rfl) (ZN rfl rfl rfl (ZA rfl rfl (ZI rfl) (ZN rfl rfl rfl ?_))))))
       obtain ⟨y_31, hN_32, hx⟩ := Zt hx
       obtain ⟨b_33, o_34, cs_35, hE_36, hR_37, hl_38, hc_39⟩ := IsSlice.elem ha_3 hN_32
       obtain ⟨v_40, rfl, hs_41⟩ := hR_37
       obtain ⟨av_40, cv_40, rfl⟩ := IsSlice.val hs_41
       refine ZA rfl rfl (R.ix U23 S47 rfl rfl hE_36) (ZN rfl rfl rfl (ZA rfl rfl (Zo F47_0 rfl) (ZN rfl rfl rfl (ZA rfl rfl (R.ldH S3 rfl (hc_39 0 _ rfl)) (ZN rfl rfl rfl ?_)))))
       obtain ⟨x_42, hr_43, hx⟩ := ZJ hx
       refine ZO (vs := [_]) (args := [_]) (K := []) (rst := [_]) E75 rfl rfl rfl ZK (ref09_place_ok y_31.At _ _ hr_43) rfl (fun u_44 Ku_44 Hu_44 hRu_44 hleu_44 hfu_44 => ?_)
       obtain ⟨rfl, rfl, rfl, -⟩ := hRu_44
       refine ZN rfl rfl rfl (ZA rfl rfl (R.not rfl) (ZA rfl rfl (Zb rfl rfl) (ZD (ZC (ZY rfl (fun c_45 => ?_) (fun c_45 => ?_))))))
       ·
        replace hx := ZU c_45 hx
        refine ZB (ZA rfl rfl (ZI rfl) (ZA rfl rfl (R.add_i rfl rfl) (ZA rfl rfl (ZG rfl) (ZD (Zl (ZC (ZB (ZA rfl rfl (ZI rfl) (ZA rfl rfl (R.inc rfl rfl (of_decide_eq_true c_17) (IsSlice.lenI ha_3)) (ZA rfl rfl (ZG rfl) (ZD ?_)))))))))))
        replace hx := Zm hd_17 hx
        exact ZR ⟨(w64 (s_14.1 + 1), s_14.2 + 1), rfl, rfl, rfl, hx⟩ ⟨rfl, rfl, rfl, trivial⟩ rfl rfl
       ·
        replace hx := ZV c_45 hx
        refine Za (Zl (ZC (ZB (ZA rfl rfl (ZI rfl) (ZA rfl rfl (R.inc rfl rfl (of_decide_eq_true c_17) (IsSlice.lenI ha_3)) (ZA rfl rfl (ZG rfl) (ZD ?_)))))))
        replace hx := Zm hd_17 hx
        exact ZR ⟨(s_14.1, s_14.2 + 1), rfl, rfl, rfl, hx⟩ ⟨rfl, rfl, rfl, trivial⟩ rfl rfl
     ·
      replace hx := ZV c_18 hx
      refine Z0 (ZX ?_)
      obtain rfl := Zw hd_17 hx
      refine ZX (Zd ?_)
      exact ZR ⟨rfl, rfl, rfl⟩ ⟨rfl, rfl, trivial⟩ rfl rfl
    ·
     replace hx := ZV c_17 hx
     refine ZM rfl rfl rfl rfl rfl (ZM rfl rfl rfl rfl rfl (ZA rfl rfl (Zb rfl rfl) (ZD (ZC (JC.condF rfl (Z0 (ZX ?_)))))))
     obtain rfl := Zw hd_17 hx
     refine ZX (Zd ?_)
     exact ZR ⟨rfl, rfl, rfl⟩ ⟨rfl, rfl, trivial⟩ rfl rfl
 ·
  have hxo_6 := hx; clear hx; have hx := ht_7; clear ht_7
  refine JC.block (Z9 (fun n l o g => ∃ s_8 : Int × Nat, l = [(1, .pointer (some ⟨b_4, 0, none⟩)), (3, .int .i64 s_8.1), (4, .int .i64 ((s_8.2 : Nat) : Int))] ∧ o = [[(b_4, .cells #[.slice aa_2 na_2 ca_2, .slice aa_3 na_3 ca_3] 25 (0, 0))]] ∧ H = g ∧ run (ref09_May_l1 p_1) n s_8 = some t_5) FUEL ?_ ⟨(0, 0), rfl, rfl, rfl, hx⟩ ⟨rfl, rfl, rfl, trivial⟩ ?_)
  ·
   rintro _ _ _ ⟨s_8, rfl, rfl, rfl, hn_9⟩
   exact Z5 hn_9
  ·
   rintro n_10 _ _ _ ⟨s_8, rfl, rfl, rfl, hn_9⟩
   clear hx; obtain ⟨oo_12, hx, hd_11⟩ := Z6 hn_9
   unfold ref09_May_l1 at hx
   refine ZH (ZH (ZB (ZA rfl rfl (ZI rfl) (ZA rfl rfl (Zo F25_0 rfl) (ZA rfl rfl (ZZ 0 S22 rfl rfl rfl) (ZA rfl rfl (Zr U22 rfl (IsSlice.long ha_2)) (ZA rfl rfl (Z1 rfl rfl) (ZA rfl rfl (ZI rfl) (Zi (t := 11) rfl (fun c_11 => ?_) (fun c_11 => ?_))))))))))
   ·
    replace hx := ZU c_11 hx
    refine ZN rfl rfl rfl (ZA rfl rfl (ZI rfl) (ZN rfl rfl rfl (ZA rfl rfl (R.leq_i rfl rfl) (ZA rfl rfl (Zf rfl rfl) (ZD (ZC (ZY rfl (fun c_12 => ?_) (fun c_12 => ?_))))))))
    ·
     replace hx := ZU c_12 hx
     refine Za (ZC (ZH (JC.block (ZH (ZB (ZA rfl rfl (Zo F25_0 rfl) (ZA rfl rfl (ZZ 0 S22 rfl rfl rfl) (ZA rfl rfl (ZI rfl) ?_))))))))
     obtain ⟨y_13, hN_14, hx⟩ := Zt hx
     obtain ⟨b_15, o_16, cs_17, hE_18, hR_19, hl_20, hc_21⟩ := IsSlice.elem ha_2 hN_14
     obtain ⟨v_22, rfl, hs_23⟩ := hR_19
     obtain ⟨av_22, cv_22, rfl⟩ := IsSlice.val hs_23
     refine ZA rfl rfl (R.ix U22 S45 rfl rfl hE_18) (ZA rfl rfl (R.ldH S45 rfl (hc_21 0 _ rfl)) (ZA rfl rfl (Zr U45 rfl (IsSlice.long hs_23)) (ZA rfl rfl (R.neq_i rfl rfl) (ZD (ZC (ZY rfl (fun c_24 => ?_) (fun c_24 => ?_)))))))
     ·
      replace hx := ZU c_24 hx
      refine ZB (ZA rfl rfl (ZI rfl) (ZA rfl rfl (R.add_i rfl rfl) (ZA rfl rfl (ZG rfl) (ZD (Zl (ZC (ZB (ZA rfl rfl (ZI rfl) (ZA rfl rfl (R.inc rfl rfl (of_decide_eq_true c_11) (IsSlice.lenI ha_2)) (ZA rfl rfl (ZG rfl) (ZD ?_)))))))))))
      replace hx := Zm hd_11 hx
      exact ZR ⟨(w64 (s_8.1 + 1), s_8.2 + 1), rfl, rfl, rfl, hx⟩ ⟨rfl, rfl, rfl, trivial⟩ rfl rfl
     ·
      replace hx := ZV c_24 hx
      refine Za (Zl (ZC (ZB (ZA rfl rfl (ZI rfl) (ZA rfl rfl (R.inc rfl rfl (of_decide_eq_true c_11) (IsSlice.lenI ha_2)) (ZA rfl rfl (ZG rfl) (ZD ?_)))))))
      replace hx := Zm hd_11 hx
      exact ZR ⟨(s_8.1, s_8.2 + 1), rfl, rfl, rfl, hx⟩ ⟨rfl, rfl, rfl, trivial⟩ rfl rfl
    ·
     replace hx := ZV c_12 hx
     refine Z0 (ZX ?_)
     obtain rfl := Zw hd_11 hx
     refine ZX (Zd ?_)
     exact ZR ⟨rfl, rfl, rfl⟩ ⟨rfl, rfl, trivial⟩ rfl rfl
   ·
    replace hx := ZV c_11 hx
    refine ZM rfl rfl rfl rfl rfl (ZM rfl rfl rfl rfl rfl (ZA rfl rfl (Zb rfl rfl) (ZD (ZC (JC.condF rfl (Z0 (ZX ?_)))))))
    obtain rfl := Zw hd_11 hx
    refine ZX (Zd ?_)
    exact ZR ⟨rfl, rfl, rfl⟩ ⟨rfl, rfl, trivial⟩ rfl rfl

set_option maxHeartbeats 8000000 in
theorem ref10_None_ok (p_1 : Ptr) (H : Heaplet) (r : Bool) (hx : ref10_None p_1 = some r) :
  Does Try.prog 77 #[.agg #[.int .i64 p_1.At, .int .u32 (p_1.Birth.toNat : Int), .int .u32 (p_1.Iv.toNat : Int), .int .u32 (p_1.Tag.toNat : Int), .int .u32 (p_1.Sum.toNat : Int)]] [] H (fun u K' H' => u = .bool r ∧ K' = [] ∧ H = H' ∧ True) := by
 refine Does.enterL (vs := [.agg #[.int .i64 p_1.At, .int .u32 (p_1.Birth.toNat : Int), .int .u32 (p_1.Iv.toNat : Int), .int .u32 (p_1.Tag.toNat : Int), .int .u32 (p_1.Sum.toNat : Int)]]) (l := [(0, .agg #[.int .i64 p_1.At, .int .u32 (p_1.Birth.toNat : Int), .int .u32 (p_1.Iv.toNat : Int), .int .u32 (p_1.Tag.toNat : Int), .int .u32 (p_1.Sum.toNat : Int)])]) Try.func77 rfl rfl ⟨rfl, trivial⟩ (fun w hlt => ?_)
 unfold ref10_None at hx
 refine ZH (ZB (Z7 rfl rfl (fun b_2 hb_2 => ZA rfl rfl (ZG rfl) (ZD (ZC (ZH (ZB (ZA rfl rfl (Zh 0 (vs := [.int .i64 p_1.At, .int .u32 (p_1.Birth.toNat : Int), .int .u32 (p_1.Iv.toNat : Int), .int .u32 (p_1.Tag.toNat : Int), .int .u32 (p_1.Sum.toNat : Int)]) S28 rfl rfl rfl rfl) (ZA rfl rfl (R.bldP (vs := []) (cs := [.int .i64 0, .int .u32 ((0 : UInt32).toNat : Int), .int .u32 ((0 : UInt32).toNat : Int), .int .u32 ((0 : UInt32).toNat : Int), .int .u32 ((0 : UInt32).toNat : Int)]) Z28 B28 rfl rfl rfl) (ZA rfl rfl (R.eqlAgg QU28 QP28 QG28 QF28 rfl rfl (EqF.i (by decide) S3 U3 rfl rfl (EqF.u32 (a := p_1.Birth) (b := (0 : UInt32)) (by decide) S26 U26 rfl rfl (EqF.u32 (a := p_1.Iv) (b := (0 : UInt32)) (by decide) S26 U26 rfl rfl (EqF.u32 (a := p_1.Tag) (b := (0 : UInt32)) (by decide) S26 U26 rfl rfl (EqF.u32 (a := p_1.Sum) (b := (0 : UInt32)) (by decide) S26 U26 rfl rfl EqF.nil)))))) (ZA rfl rfl (ZG rfl) ?_)))))))))))
 refine ZD (ZC (ZW (ZS (vs := [.bool (decide (p_1.At = 0) && (decide (p_1.Birth = (0 : UInt32)) && (decide (p_1.Iv = (0 : UInt32)) && (decide (p_1.Tag = (0 : UInt32)) && (decide (p_1.Sum = (0 : UInt32)) && true)))))]) (K := []) (rst := [_]) (.inl rfl) rfl rfl (ZQ rfl rfl) ZK ?_)))
 obtain rfl := Option.some.inj hx
 exact ⟨rfl, rfl, rfl, trivial⟩

set_option maxHeartbeats 8000000 in
theorem ref10_May_ok (p_1 : Ptr) (H : Heaplet) (r : Bool) (hx : ref10_May p_1 = some r) :
  Does Try.prog 76 #[.agg #[.int .i64 p_1.At, .int .u32 (p_1.Birth.toNat : Int), .int .u32 (p_1.Iv.toNat : Int), .int .u32 (p_1.Tag.toNat : Int), .int .u32 (p_1.Sum.toNat : Int)]] [] H (fun u K' H' => u = .bool r ∧ K' = [] ∧ H = H' ∧ True) := by
 refine Does.enterL (vs := [.agg #[.int .i64 p_1.At, .int .u32 (p_1.Birth.toNat : Int), .int .u32 (p_1.Iv.toNat : Int), .int .u32 (p_1.Tag.toNat : Int), .int .u32 (p_1.Sum.toNat : Int)]]) (l := [(0, .agg #[.int .i64 p_1.At, .int .u32 (p_1.Birth.toNat : Int), .int .u32 (p_1.Iv.toNat : Int), .int .u32 (p_1.Tag.toNat : Int), .int .u32 (p_1.Sum.toNat : Int)])]) Try.func76 rfl rfl ⟨rfl, trivial⟩ (fun w hlt => ?_)
 unfold ref10_May at hx
 refine ZH (ZB (Z7 rfl rfl (fun b_2 hb_2 => ZA rfl rfl (ZG rfl) (ZD (ZC (ZH ?_))))))
 obtain ⟨t_3, ht_5, hx⟩ := ZJ hx
 refine Zy (fun l o g => l = [(2, .bool t_3)] ∧ o = [] ∧ H = g) ?_ ?_
 ·
  rintro _ _ _ ⟨rfl, rfl, rfl⟩
  refine ZC (ZW (ZS (vs := [.bool t_3]) (K := []) (rst := []) (.inl rfl) rfl rfl (ZQ rfl rfl) ZK ?_))
  obtain rfl := Option.some.inj hx
  exact ⟨rfl, rfl, rfl, trivial⟩
 ·
  have hxo_4 := hx; clear hx; have hx := ht_5; clear ht_5
  refine ZB (ZA rfl rfl (Zh 0 (vs := [.int .i64 p_1.At, .int .u32 (p_1.Birth.toNat : Int), .int .u32 (p_1.Iv.toNat : Int), .int .u32 (p_1.Tag.toNat : Int), .int .u32 (p_1.Sum.toNat : Int)]) S28 rfl rfl rfl rfl) ?_)
  obtain ⟨x_6, hr_7, hx⟩ := ZJ hx
  refine ZO (vs := [_]) (args := [_]) (K := []) (rst := [_]) E77 rfl rfl rfl ZK (ref10_None_ok p_1 _ _ hr_7) rfl (fun u_8 Ku_8 Hu_8 hRu_8 hleu_8 hfu_8 => ?_)
  obtain ⟨rfl, rfl, rfl, -⟩ := hRu_8
  refine ZA rfl rfl (ZI rfl) (Zi (t := 5) rfl (fun c_9 => ?_) (fun c_9 => ?_))
  ·
   replace hx := ZU c_9 hx
   refine ZM rfl rfl rfl rfl rfl (ZM rfl rfl rfl rfl rfl (ZM rfl rfl rfl rfl rfl (ZM rfl rfl rfl rfl rfl (JL.gNoU rfl rfl rfl rfl (JL.gNoU rfl rfl rfl rfl (JL.gNoU rfl rfl rfl rfl (ZM rfl rfl rfl rfl rfl (ZM rfl rfl rfl rfl rfl (JL.gNoU rfl rfl rfl rfl (JL.gNoU rfl rfl rfl rfl (JL.gNoU rfl rfl rfl rfl ?_)))))))))))
   refine ZM rfl rfl rfl rfl rfl (ZM rfl rfl rfl rfl rfl (JL.gNoU rfl rfl rfl rfl (JL.gNoU rfl rfl rfl rfl (JL.gNoU rfl rfl rfl rfl (ZM rfl rfl rfl rfl rfl (ZA rfl rfl (Zf rfl rfl) (ZA rfl rfl (ZG rfl) (ZD ?_))))))))
   obtain rfl := Option.some.inj hx
   refine JN.forget 0 ?_
   exact ZR ⟨rfl, rfl, rfl⟩ ⟨rfl, trivial⟩ rfl rfl
  ·
   replace hx := ZV c_9 hx
   refine ZN rfl rfl rfl (ZA rfl rfl (Zo F28_0 rfl) (ZN rfl rfl rfl (ZA rfl rfl (ZZ 0 S3 rfl rfl rfl) (ZN rfl rfl rfl (ZA rfl rfl (R.geq_i rfl rfl) (ZN rfl rfl rfl (ZA rfl rfl (ZI rfl) (Zi (t := 9) rfl (fun c_10 => ?_) (fun c_10 => ?_)))))))))
   ·
    replace hx := ZU c_10 hx
    refine ZN rfl rfl rfl (ZA rfl rfl (Zo F28_0 rfl) (ZN rfl rfl rfl (ZA rfl rfl (ZZ 0 S3 rfl rfl rfl) (ZN rfl rfl rfl (ZA rfl rfl (Z1 rfl rfl) (ZN rfl rfl rfl (ZA rfl rfl (Zf rfl rfl) (ZN rfl rfl rfl (ZA rfl rfl (ZI rfl) (Zi (t := 14) rfl (fun c_11 => ?_) (fun c_11 => ?_)))))))))))
    ·
     replace hx := ZU c_11 hx
     refine ZN rfl rfl rfl (ZA rfl rfl (Zo F28_1 rfl) (ZN rfl rfl rfl (ZA rfl rfl (ZZ 0 S26 rfl rfl rfl) (ZN rfl rfl rfl (ZA rfl rfl (R.geq32 (a := p_1.Birth) (b := (1 : UInt32)) rfl rfl) (ZN rfl rfl rfl (ZA rfl rfl (Zf rfl rfl) (ZN rfl rfl rfl (ZA rfl rfl (ZI rfl) (Zi (t := 19) rfl (fun c_12 => ?_) (fun c_12 => ?_)))))))))))
     ·
      replace hx := ZU c_12 hx
      refine ZN rfl rfl rfl (ZA rfl rfl (Zo F28_1 rfl) (ZN rfl rfl rfl (ZA rfl rfl (ZZ 0 S26 rfl rfl rfl) (ZN rfl rfl rfl (ZA rfl rfl (R.leq32 (a := p_1.Birth) (b := (16777215 : UInt32)) rfl rfl) (ZN rfl rfl rfl (ZA rfl rfl (Zf rfl rfl) (ZA rfl rfl (Zb rfl rfl) (ZA rfl rfl (ZG rfl) (ZD ?_))))))))))
      obtain rfl := Option.some.inj hx
      refine JN.forget 0 ?_
      exact ZR ⟨rfl, rfl, rfl⟩ ⟨rfl, trivial⟩ rfl rfl
     ·
      replace hx := ZV c_12 hx
      refine ZM rfl rfl rfl rfl rfl (ZM rfl rfl rfl rfl rfl (ZM rfl rfl rfl rfl rfl (ZN rfl rfl rfl (ZA rfl rfl (Zb rfl rfl) (ZA rfl rfl (Zb rfl rfl) (ZA rfl rfl (ZG rfl) (ZD ?_)))))))
      obtain rfl := Option.some.inj hx
      refine JN.forget 0 ?_
      exact ZR ⟨rfl, rfl, rfl⟩ ⟨rfl, trivial⟩ rfl rfl
    ·
     replace hx := ZV c_11 hx
     refine ZM rfl rfl rfl rfl rfl (ZM rfl rfl rfl rfl rfl (ZM rfl rfl rfl rfl rfl (ZN rfl rfl rfl (ZA rfl rfl (Zb rfl rfl) (ZN rfl rfl rfl (ZA rfl rfl (ZI rfl) (ZM rfl rfl rfl rfl rfl (ZM rfl rfl rfl rfl rfl (ZM rfl rfl rfl rfl rfl (ZN rfl rfl rfl (ZA rfl rfl (Zb rfl rfl) ?_)))))))))))
     refine ZA rfl rfl (Zb rfl rfl) (ZA rfl rfl (ZG rfl) (ZD ?_))
     obtain rfl := Option.some.inj hx
     refine JN.forget 0 ?_
     exact ZR ⟨rfl, rfl, rfl⟩ ⟨rfl, trivial⟩ rfl rfl
   ·
    replace hx := ZV c_10 hx
    refine ZM rfl rfl rfl rfl rfl (ZM rfl rfl rfl rfl rfl (ZM rfl rfl rfl rfl rfl (ZN rfl rfl rfl (ZA rfl rfl (Zb rfl rfl) (ZN rfl rfl rfl (ZA rfl rfl (ZI rfl) (ZM rfl rfl rfl rfl rfl (ZM rfl rfl rfl rfl rfl (ZM rfl rfl rfl rfl rfl (ZN rfl rfl rfl (ZA rfl rfl (Zb rfl rfl) ?_)))))))))))
    refine ZN rfl rfl rfl (ZA rfl rfl (ZI rfl) (ZM rfl rfl rfl rfl rfl (ZM rfl rfl rfl rfl rfl (ZM rfl rfl rfl rfl rfl (ZN rfl rfl rfl (ZA rfl rfl (Zb rfl rfl) (ZA rfl rfl (Zb rfl rfl) (ZA rfl rfl (ZG rfl) (ZD ?_)))))))))
    obtain rfl := Option.some.inj hx
    refine JN.forget 0 ?_
    exact ZR ⟨rfl, rfl, rfl⟩ ⟨rfl, trivial⟩ rfl rfl

set_option maxHeartbeats 8000000 in
theorem ref11_May_ok (p_1 : Label) (H : Heaplet) (r : Bool) (hx : ref11_May p_1 = some r) :
  Does Try.prog 41 #[.agg #[.int .u32 (p_1.Gen.toNat : Int), .int .u32 (p_1.Epoch.toNat : Int), .int .i64 p_1.Root.At, .int .u32 (p_1.Root.Birth.toNat : Int), .int .u32 (p_1.Root.Iv.toNat : Int), .int .u32 (p_1.Root.Tag.toNat : Int), .int .u32 (p_1.Root.Sum.toNat : Int)]] [] H (fun u K' H' => u = .bool r ∧ K' = [] ∧ H = H' ∧ True) := by
 refine Does.enterL (vs := [.agg #[.int .u32 (p_1.Gen.toNat : Int), .int .u32 (p_1.Epoch.toNat : Int), .int .i64 p_1.Root.At, .int .u32 (p_1.Root.Birth.toNat : Int), .int .u32 (p_1.Root.Iv.toNat : Int), .int .u32 (p_1.Root.Tag.toNat : Int), .int .u32 (p_1.Root.Sum.toNat : Int)]]) (l := [(0, .agg #[.int .u32 (p_1.Gen.toNat : Int), .int .u32 (p_1.Epoch.toNat : Int), .int .i64 p_1.Root.At, .int .u32 (p_1.Root.Birth.toNat : Int), .int .u32 (p_1.Root.Iv.toNat : Int), .int .u32 (p_1.Root.Tag.toNat : Int), .int .u32 (p_1.Root.Sum.toNat : Int)])]) Try.func41 rfl rfl ⟨rfl, trivial⟩ (fun w hlt => ?_)
 unfold ref11_May at hx
 refine ZH (ZB (Z7 rfl rfl (fun b_2 hb_2 => ZA rfl rfl (ZG rfl) (ZD (ZC (ZH ?_))))))
 obtain ⟨t_3, ht_5, hx⟩ := ZJ hx
 refine Zy (fun l o g => l = [(2, .bool t_3)] ∧ o = [] ∧ H = g) ?_ ?_
 ·
  rintro _ _ _ ⟨rfl, rfl, rfl⟩
  refine ZC (ZW (ZS (vs := [.bool t_3]) (K := []) (rst := []) (.inl rfl) rfl rfl (ZQ rfl rfl) ZK ?_))
  obtain rfl := Option.some.inj hx
  exact ⟨rfl, rfl, rfl, trivial⟩
 ·
  have hxo_4 := hx; clear hx; have hx := ht_5; clear ht_5
  refine ZB (ZA rfl rfl (Zo F30_0 rfl) (ZA rfl rfl (ZZ 0 S26 rfl rfl rfl) (ZA rfl rfl (R.geq32 (a := p_1.Gen) (b := (1 : UInt32)) rfl rfl) (ZA rfl rfl (ZI rfl) (Zi (t := 6) rfl (fun c_6 => ?_) (fun c_6 => ?_))))))
  ·
   replace hx := ZU c_6 hx
   refine ZN rfl rfl rfl (ZA rfl rfl (Zo F30_0 rfl) (ZN rfl rfl rfl (ZA rfl rfl (ZZ 0 S26 rfl rfl rfl) (ZN rfl rfl rfl (ZA rfl rfl (R.leq32 (a := p_1.Gen) (b := (16777215 : UInt32)) rfl rfl) (ZA rfl rfl (Zf rfl rfl) (ZA rfl rfl (ZI rfl) (Zi (t := 11) rfl (fun c_7 => ?_) (fun c_7 => ?_)))))))))
   ·
    replace hx := ZU c_7 hx
    refine ZN rfl rfl rfl (ZA rfl rfl (Zo F30_1 rfl) (ZN rfl rfl rfl (ZA rfl rfl (ZZ 0 S26 rfl rfl rfl) (ZN rfl rfl rfl (ZA rfl rfl (R.geq32 (a := p_1.Epoch) (b := (1 : UInt32)) rfl rfl) (ZA rfl rfl (Zf rfl rfl) (ZA rfl rfl (ZI rfl) (Zi (t := 16) rfl (fun c_8 => ?_) (fun c_8 => ?_)))))))))
    ·
     replace hx := ZU c_8 hx
     refine ZN rfl rfl rfl (ZA rfl rfl (Zo F30_1 rfl) (ZN rfl rfl rfl (ZA rfl rfl (ZZ 0 S26 rfl rfl rfl) (ZN rfl rfl rfl (ZA rfl rfl (R.leq32 (a := p_1.Epoch) (b := (65535 : UInt32)) rfl rfl) (ZA rfl rfl (Zf rfl rfl) (ZA rfl rfl (ZI rfl) (Zi (t := 21) rfl (fun c_9 => ?_) (fun c_9 => ?_)))))))))
     ·
      replace hx := ZU c_9 hx
      refine ZN rfl rfl rfl (ZA rfl rfl (Zo F30_2 rfl) (ZN rfl rfl rfl (ZA rfl rfl (Zh 0 (vs := [.int .i64 p_1.Root.At, .int .u32 (p_1.Root.Birth.toNat : Int), .int .u32 (p_1.Root.Iv.toNat : Int), .int .u32 (p_1.Root.Tag.toNat : Int), .int .u32 (p_1.Root.Sum.toNat : Int)]) S28 rfl rfl rfl rfl) (ZN rfl rfl rfl ?_))))
      obtain ⟨x_10, hr_11, hx⟩ := ZJ hx
      refine ZO (vs := [_]) (args := [_]) (K := []) (rst := [_]) E76 rfl rfl rfl ZK (ref10_May_ok (Ptr.mk p_1.Root.At p_1.Root.Birth p_1.Root.Iv p_1.Root.Tag p_1.Root.Sum) _ _ hr_11) rfl (fun u_12 Ku_12 Hu_12 hRu_12 hleu_12 hfu_12 => ?_)
      obtain ⟨rfl, rfl, rfl, -⟩ := hRu_12
      refine ZA rfl rfl (Zf rfl rfl) (ZA rfl rfl (ZI rfl) (Zi (t := 26) rfl (fun c_13 => ?_) (fun c_13 => ?_)))
      ·
       replace hx := ZU c_13 hx
       refine ZN rfl rfl rfl (ZA rfl rfl (Zo F30_2 rfl) (ZN rfl rfl rfl (ZA rfl rfl (Zh 0 (vs := [.int .i64 p_1.Root.At, .int .u32 (p_1.Root.Birth.toNat : Int), .int .u32 (p_1.Root.Iv.toNat : Int), .int .u32 (p_1.Root.Tag.toNat : Int), .int .u32 (p_1.Root.Sum.toNat : Int)]) S28 rfl rfl rfl rfl) (ZN rfl rfl rfl ?_))))
       obtain ⟨x_14, hr_15, hx⟩ := ZJ hx
       refine ZO (vs := [_]) (args := [_]) (K := []) (rst := [_]) E77 rfl rfl rfl ZK (ref10_None_ok (Ptr.mk p_1.Root.At p_1.Root.Birth p_1.Root.Iv p_1.Root.Tag p_1.Root.Sum) _ _ hr_15) rfl (fun u_16 Ku_16 Hu_16 hRu_16 hleu_16 hfu_16 => ?_)
       obtain ⟨rfl, rfl, rfl, -⟩ := hRu_16
       refine ZN rfl rfl rfl (ZA rfl rfl (R.not rfl) (ZA rfl rfl (Zf rfl rfl) (ZA rfl rfl (ZG rfl) (ZD ?_))))
       obtain rfl := Option.some.inj hx
       refine JN.forget 0 ?_
       exact ZR ⟨rfl, rfl, rfl⟩ ⟨rfl, trivial⟩ rfl rfl
      ·
       replace hx := ZV c_13 hx
       refine ZM rfl rfl rfl rfl rfl (ZM rfl rfl rfl rfl rfl (ZM rfl rfl rfl rfl rfl (ZM rfl rfl rfl rfl rfl (ZA rfl rfl (Zb rfl rfl) (ZA rfl rfl (ZG rfl) (ZD ?_))))))
       obtain rfl := Option.some.inj hx
       refine JN.forget 0 ?_
       exact ZR ⟨rfl, rfl, rfl⟩ ⟨rfl, trivial⟩ rfl rfl
     ·
      replace hx := ZV c_9 hx
      refine ZM rfl rfl rfl rfl rfl (ZM rfl rfl rfl rfl rfl (ZM rfl rfl rfl rfl rfl (ZA rfl rfl (Zb rfl rfl) (ZA rfl rfl (ZI rfl) (ZM rfl rfl rfl rfl rfl (ZM rfl rfl rfl rfl rfl (ZM rfl rfl rfl rfl rfl (ZM rfl rfl rfl rfl rfl (ZA rfl rfl (Zb rfl rfl) (ZA rfl rfl (ZG rfl) (ZD ?_)))))))))))
      obtain rfl := Option.some.inj hx
      refine JN.forget 0 ?_
      exact ZR ⟨rfl, rfl, rfl⟩ ⟨rfl, trivial⟩ rfl rfl
    ·
     replace hx := ZV c_8 hx
     refine ZM rfl rfl rfl rfl rfl (ZM rfl rfl rfl rfl rfl (ZM rfl rfl rfl rfl rfl (ZA rfl rfl (Zb rfl rfl) (ZA rfl rfl (ZI rfl) (ZM rfl rfl rfl rfl rfl (ZM rfl rfl rfl rfl rfl (ZM rfl rfl rfl rfl rfl (ZA rfl rfl (Zb rfl rfl) (ZA rfl rfl (ZI rfl) (ZM rfl rfl rfl rfl rfl (ZM rfl rfl rfl rfl rfl ?_)))))))))))
     refine ZM rfl rfl rfl rfl rfl (ZM rfl rfl rfl rfl rfl (ZA rfl rfl (Zb rfl rfl) (ZA rfl rfl (ZG rfl) (ZD ?_))))
     obtain rfl := Option.some.inj hx
     refine JN.forget 0 ?_
     exact ZR ⟨rfl, rfl, rfl⟩ ⟨rfl, trivial⟩ rfl rfl
   ·
    replace hx := ZV c_7 hx
    refine ZM rfl rfl rfl rfl rfl (ZM rfl rfl rfl rfl rfl (ZM rfl rfl rfl rfl rfl (ZA rfl rfl (Zb rfl rfl) (ZA rfl rfl (ZI rfl) (ZM rfl rfl rfl rfl rfl (ZM rfl rfl rfl rfl rfl (ZM rfl rfl rfl rfl rfl (ZA rfl rfl (Zb rfl rfl) (ZA rfl rfl (ZI rfl) (ZM rfl rfl rfl rfl rfl (ZM rfl rfl rfl rfl rfl ?_)))))))))))
    refine ZM rfl rfl rfl rfl rfl (ZA rfl rfl (Zb rfl rfl) (ZA rfl rfl (ZI rfl) (ZM rfl rfl rfl rfl rfl (ZM rfl rfl rfl rfl rfl (ZM rfl rfl rfl rfl rfl (ZM rfl rfl rfl rfl rfl (ZA rfl rfl (Zb rfl rfl) (ZA rfl rfl (ZG rfl) (ZD ?_)))))))))
    obtain rfl := Option.some.inj hx
    refine JN.forget 0 ?_
    exact ZR ⟨rfl, rfl, rfl⟩ ⟨rfl, trivial⟩ rfl rfl
  ·
   replace hx := ZV c_6 hx
   refine ZM rfl rfl rfl rfl rfl (ZM rfl rfl rfl rfl rfl (ZM rfl rfl rfl rfl rfl (ZA rfl rfl (Zb rfl rfl) (ZA rfl rfl (ZI rfl) (ZM rfl rfl rfl rfl rfl (ZM rfl rfl rfl rfl rfl (ZM rfl rfl rfl rfl rfl (ZA rfl rfl (Zb rfl rfl) (ZA rfl rfl (ZI rfl) (ZM rfl rfl rfl rfl rfl (ZM rfl rfl rfl rfl rfl ?_)))))))))))
   refine ZM rfl rfl rfl rfl rfl (ZA rfl rfl (Zb rfl rfl) (ZA rfl rfl (ZI rfl) (ZM rfl rfl rfl rfl rfl (ZM rfl rfl rfl rfl rfl (ZM rfl rfl rfl rfl rfl (ZA rfl rfl (Zb rfl rfl) (ZA rfl rfl (ZI rfl) (ZM rfl rfl rfl rfl rfl (ZM rfl rfl rfl rfl rfl (ZM rfl rfl rfl rfl rfl (ZM rfl rfl rfl rfl rfl ?_)))))))))))
   refine ZA rfl rfl (Zb rfl rfl) (ZA rfl rfl (ZG rfl) (ZD ?_))
   obtain rfl := Option.some.inj hx
   refine JN.forget 0 ?_
   exact ZR ⟨rfl, rfl, rfl⟩ ⟨rfl, trivial⟩ rfl rfl

set_option maxHeartbeats 8000000 in
theorem ref11_Slot_ok (p_1 : UInt32) (H : Heaplet) (r : Int) (hx : ref11_Slot p_1 = some r) :
  Does Try.prog 18 #[.int .u32 (p_1.toNat : Int)] [] H (fun u K' H' => u = .int .i64 r ∧ K' = [] ∧ H = H' ∧ True) := by
 refine Does.enterL (vs := [.int .u32 (p_1.toNat : Int)]) (l := [(0, .int .u32 (p_1.toNat : Int))]) Try.func18 rfl rfl ⟨rfl, trivial⟩ (fun w hlt => ?_)
 unfold ref11_Slot at hx
 refine ZH (ZB (ZA rfl rfl (ZG rfl) (ZD (ZC (ZH (ZB (ZA rfl rfl (ZI rfl) (ZA rfl rfl (R.rem32 (a := p_1) (b := (4 : UInt32)) rfl rfl (by decide)) (ZA rfl rfl (R.cv_u32_i64 (a := p_1 % (4 : UInt32)) U26 U3 rfl) (ZA rfl rfl (ZG rfl) (ZD ?_)))))))))))
 refine ZC (ZW (ZS (vs := [.int .i64 ((p_1 % (4 : UInt32)).toNat : Int)]) (K := []) (rst := []) (.inl rfl) rfl rfl (ZQ rfl rfl) ZK ?_))
 obtain rfl := Option.some.inj hx
 exact ⟨rfl, rfl, rfl, trivial⟩

set_option maxHeartbeats 8000000 in
theorem ref10_Number_ok (p_1 : UInt32) (p_2 : Int) (H : Heaplet) (r : List UInt8) (hx : ref10_Number p_1 p_2 = some r) :
  Does Try.prog 114 #[.int .u32 (p_1.toNat : Int), .int .i64 p_2] [] H (fun u K' H' => ∃ ao0 : Option Addr, ∃ n0 : Nat, ∃ cap0 : Nat, ∃ K0 : Own, u = .slice ao0 n0 cap0 ∧ K' = [K0] ∧ H = H' ∧ RowOf (New H H) RU8 0 5 1 (.slice ao0 n0 cap0) r K0 ∧ (∀ p ∈ K0, p.1 ∉ ids (List.flatten [])) ∧ True) := by
 refine Does.enterL (vs := [.int .u32 (p_1.toNat : Int), .int .i64 p_2]) (l := [(0, .int .u32 (p_1.toNat : Int)), (1, .int .i64 p_2)]) Try.func114 rfl rfl ⟨rfl, rfl, trivial⟩ (fun w hlt => ?_)
 unfold ref10_Number at hx
 refine ZH (ZB (ZA rfl rfl (ZG rfl) (ZD (ZC (ZH (ZB (ZA rfl rfl (ZG rfl) (ZD (ZC (ZH (ZH ?_)))))))))))
 refine ZB (ZA rfl rfl (ZG rfl) (ZD (ZC ?_)))
 obtain ⟨t_3, ht_5, hx⟩ := ZJ hx
 refine Zy (fun l o g => ∃ ar_10 : Option Addr, ∃ nr_10 : Nat, ∃ cr_10 : Nat, ∃ Kr_10 : Own, l = [(5, .slice ar_10 nr_10 cr_10)] ∧ o = [Kr_10] ∧ H = g ∧ RowOf (New H H) RU8 w.heap.size 5 1 (.slice ar_10 nr_10 cr_10) t_3 Kr_10) ?_ ?_
 ·
  rintro _ _ _ ⟨ar_10, nr_10, cr_10, Kr_10, rfl, rfl, rfl, hr_10⟩
  refine ZC (ZH (ZB (ZA rfl rfl (ZI rfl) (ZA rfl rfl (ZG rfl) (ZD (ZC (ZW (ZS (vs := [.slice ar_10 nr_10 cr_10]) (K := [_]) (rst := []) (.inl rfl) rfl rfl (ZQ rfl rfl) (Ze 0 rfl ZK) ?_))))))))
  obtain rfl := Option.some.inj hx
  exact ⟨ar_10, nr_10, cr_10, Kr_10, rfl, rfl, rfl, (Zs (Nat.zero_le _) hr_10), (new_ids hr_10 hlt), trivial⟩
 ·
  have hxo_4 := hx; clear hx; have hx := ht_5; clear ht_5
  refine JC.block (JC.seg0 (Z9 (fun n l o g => ∃ s_6 : UInt32 × List UInt8 × Int, ∃ ar_9 : Option Addr, ∃ nr_9 : Nat, ∃ cr_9 : Nat, ∃ Kr_9 : Own, l = [(0, .int .u32 (s_6.1.toNat : Int)), (1, .int .i64 p_2), (5, .slice ar_9 nr_9 cr_9), (6, .int .i64 s_6.2.2)] ∧ o = [Kr_9] ∧ H = g ∧ run (ref10_Number_l1 p_2) n s_6 = some t_3 ∧ RowOf (New H H) RU8 w.heap.size 5 1 (.slice ar_9 nr_9 cr_9) s_6.2.1 Kr_9) FUEL ?_ ⟨(p_1, ([] : List UInt8), 0), none, 0, 0, [], rfl, rfl, rfl, hx, (Zn _ _ _ _ _)⟩ ⟨rfl, rfl, rfl, rfl, trivial⟩ ?_))
  ·
   rintro _ _ _ ⟨s_6, ar_9, nr_9, cr_9, Kr_9, rfl, rfl, rfl, hn_7, hr_9⟩
   exact Z5 hn_7
  ·
   rintro n_8 _ _ _ ⟨s_6, ar_9, nr_9, cr_9, Kr_9, rfl, rfl, rfl, hn_7, hr_9⟩
   clear hx; obtain ⟨oo_11, hx, hd_10⟩ := Z6 hn_7
   unfold ref10_Number_l1 at hx
   refine ZH (ZH (ZB (ZA rfl rfl (ZI rfl) (ZA rfl rfl (ZI rfl) (ZA rfl rfl (Z1 rfl rfl) (ZD (ZC (ZY rfl (fun c_10 => ?_) (fun c_10 => ?_)))))))))
   ·
    replace hx := ZU c_10 hx
    refine Za (ZC (ZH (JC.block (ZH (ZB (ZA rfl rfl (ZI rfl) (ZA rfl rfl (ZI rfl) (ZA rfl rfl (R.rem32 (a := s_6.1) (b := (256 : UInt32)) rfl rfl (by decide)) (ZA rfl rfl (R.cv_u32_u8 (a := s_6.1 % (256 : UInt32)) U26 U5 rfl) (JL.bslF (HF := (New H H)) (R := RU8) (ls := [(s_6.1 % (256 : UInt32)).toUInt8]) (vs := [.int .u8 (((s_6.1 % (256 : UInt32)).toUInt8).toNat : Int)]) U45 I5 rfl rfl (⟨_, _, rfl, rfl, rfl, rfl⟩) RU8.one rfl rfl rfl (by simp [maxLen]) rfl (fun vr_11 Kr_11 hr_11 => ?_)))))))))))
    obtain ⟨ar_11, cr_11, rfl⟩ := RowOf.val hr_11
    obtain ⟨q_12, hm_13, hl_14, hx⟩ := Zz hx
    refine Z2 (HF := (New H H)) 1 U45 I5 rfl rfl hr_9 rfl (SrcF.row 0 U45 rfl hr_11) hm_13 hl_14 rfl (Nat.le_refl _) rfl (fun vr_15 Kr_15 hr_15 => ?_)
    obtain ⟨ar_15, cr_15, rfl⟩ := RowOf.val hr_15
    refine ZA rfl rfl (ZG rfl) (ZD (ZC (ZB (ZA rfl rfl (ZI rfl) (ZA rfl rfl (R.quo32 (a := s_6.1) (b := (256 : UInt32)) rfl rfl (by decide)) (ZA rfl rfl (ZG rfl) (ZD (Zl (ZC (ZB (ZA rfl rfl (ZI rfl) ?_)))))))))))
    refine ZA rfl rfl (R.add_i rfl rfl) (ZA rfl rfl (ZG rfl) (ZD ?_))
    replace hx := Zm hd_10 hx
    refine JN.forget 0 ?_
    exact ZR ⟨(s_6.1 / (256 : UInt32), q_12, w64 (s_6.2.2 + 1)), ar_15, q_12.length, cr_15, Kr_15, rfl, rfl, rfl, hx, hr_15⟩ ⟨rfl, rfl, rfl, rfl, trivial⟩ rfl rfl
   ·
    replace hx := ZV c_10 hx
    refine Z0 (ZX ?_)
    obtain rfl := Zw hd_10 hx
    refine ZX (Zd ?_)
    exact ZR ⟨ar_9, nr_9, cr_9, Kr_9, rfl, rfl, rfl, hr_9⟩ ⟨rfl, trivial⟩ rfl rfl

set_option maxHeartbeats 8000000 in
theorem ref10_Bytes_ok (p_1 : Ptr) (H : Heaplet) (r : List UInt8) (hx : ref10_Bytes p_1 = some r) :
  Does Try.prog 115 #[.agg #[.int .i64 p_1.At, .int .u32 (p_1.Birth.toNat : Int), .int .u32 (p_1.Iv.toNat : Int), .int .u32 (p_1.Tag.toNat : Int), .int .u32 (p_1.Sum.toNat : Int)]] [] H (fun u K' H' => ∃ ao0 : Option Addr, ∃ n0 : Nat, ∃ cap0 : Nat, ∃ K0 : Own, u = .slice ao0 n0 cap0 ∧ K' = [K0] ∧ H = H' ∧ RowOf (New H H) RU8 0 5 1 (.slice ao0 n0 cap0) r K0 ∧ (∀ p ∈ K0, p.1 ∉ ids (List.flatten [])) ∧ True) := by
 refine Does.enterL (vs := [.agg #[.int .i64 p_1.At, .int .u32 (p_1.Birth.toNat : Int), .int .u32 (p_1.Iv.toNat : Int), .int .u32 (p_1.Tag.toNat : Int), .int .u32 (p_1.Sum.toNat : Int)]]) (l := [(0, .agg #[.int .i64 p_1.At, .int .u32 (p_1.Birth.toNat : Int), .int .u32 (p_1.Iv.toNat : Int), .int .u32 (p_1.Tag.toNat : Int), .int .u32 (p_1.Sum.toNat : Int)])]) Try.func115 rfl rfl ⟨rfl, trivial⟩ (fun w hlt => ?_)
 unfold ref10_Bytes at hx
 refine ZH (ZB (Z7 rfl rfl (fun b_2 hb_2 => ZA rfl rfl (ZG rfl) (ZD (ZC (ZH ?_))))))
 obtain ⟨t_3, ht_5, hx⟩ := ZJ hx
 refine Zy (fun l o g => ∃ ar_15 : Option Addr, ∃ nr_15 : Nat, ∃ cr_15 : Nat, ∃ Kr_15 : Own, l = [(1, .pointer (some ⟨b_2, 0, none⟩)), (3, .slice ar_15 nr_15 cr_15)] ∧ o = [[(b_2, .cells #[.int .i64 p_1.At, .int .u32 (p_1.Birth.toNat : Int), .int .u32 (p_1.Iv.toNat : Int), .int .u32 (p_1.Tag.toNat : Int), .int .u32 (p_1.Sum.toNat : Int)] 28 (0, 0))], Kr_15] ∧ H = g ∧ RowOf (New H H) RU8 w.heap.size 5 1 (.slice ar_15 nr_15 cr_15) t_3 Kr_15) ?_ ?_
 ·
  rintro _ _ _ ⟨ar_15, nr_15, cr_15, Kr_15, rfl, rfl, rfl, hr_15⟩
  refine ZC (ZH (ZB (ZA rfl rfl (ZI rfl) (ZA rfl rfl (Zo F28_2 rfl) (ZA rfl rfl (ZZ 0 S26 rfl rfl rfl) ?_)))))
  obtain ⟨x_16, hr_17, hx⟩ := ZJ hx
  refine ZO (vs := [_, _]) (args := [_, _]) (K := []) (rst := [_, _]) E114 rfl rfl rfl ZK (ref10_Number_ok p_1.Iv 4 _ _ hr_17) rfl (fun u_18 Ku_18 Hu_18 hRu_18 hleu_18 hfu_18 => ?_)
  obtain ⟨ar_19, nr_19, cr_19, Kr_19, rfl, rfl, rfl, hr_19, hnewr_19, -⟩ := hRu_18
  replace hr_19 := (RowOf.base (Zj (H2 := New H H) RU8.const hr_19) (fun p hp => (hfu_18 p (Zk 0 rfl hp)).resolve_left (hnewr_19 p hp)))
  obtain ⟨q_20, hm_21, hl_22, hx⟩ := Zz hx
  refine Z2 (HF := (New H H)) 2 U45 I5 rfl rfl hr_15 rfl (SrcF.row 0 U45 rfl hr_19) hm_21 hl_22 rfl (Nat.le_refl _) rfl (fun vr_23 Kr_23 hr_23 => ?_)
  obtain ⟨ar_23, cr_23, rfl⟩ := RowOf.val hr_23
  refine ZA rfl rfl (ZG rfl) (ZD (ZC (ZH (ZB (ZA rfl rfl (ZI rfl) (ZA rfl rfl (Zo F28_3 rfl) (ZA rfl rfl (ZZ 1 S26 rfl rfl rfl) ?_)))))))
  obtain ⟨x_24, hr_25, hx⟩ := ZJ hx
  refine ZO (vs := [_, _]) (args := [_, _]) (K := []) (rst := [_, _, _]) E114 rfl rfl rfl ZK (ref10_Number_ok p_1.Tag 4 _ _ hr_25) rfl (fun u_26 Ku_26 Hu_26 hRu_26 hleu_26 hfu_26 => ?_)
  obtain ⟨ar_27, nr_27, cr_27, Kr_27, rfl, rfl, rfl, hr_27, hnewr_27, -⟩ := hRu_26
  replace hr_27 := (RowOf.base (Zj (H2 := New H H) RU8.const hr_27) (fun p hp => (hfu_26 p (Zk 0 rfl hp)).resolve_left (hnewr_27 p hp)))
  obtain ⟨q_28, hm_29, hl_30, hx⟩ := Zz hx
  refine Z2 (HF := (New H H)) 3 U45 I5 rfl rfl hr_23 rfl (SrcF.row 0 U45 rfl hr_27) hm_29 hl_30 rfl (Nat.le_refl _) rfl (fun vr_31 Kr_31 hr_31 => ?_)
  obtain ⟨ar_31, cr_31, rfl⟩ := RowOf.val hr_31
  refine ZA rfl rfl (ZG rfl) (ZD (ZC (ZH (ZB (ZA rfl rfl (ZI rfl) (ZA rfl rfl (Zo F28_4 rfl) (ZA rfl rfl (ZZ 2 S26 rfl rfl rfl) ?_)))))))
  obtain ⟨x_32, hr_33, hx⟩ := ZJ hx
  refine ZO (vs := [_, _]) (args := [_, _]) (K := []) (rst := [_, _, _, _]) E114 rfl rfl rfl ZK (ref10_Number_ok p_1.Sum 4 _ _ hr_33) rfl (fun u_34 Ku_34 Hu_34 hRu_34 hleu_34 hfu_34 => ?_)
  obtain ⟨ar_35, nr_35, cr_35, Kr_35, rfl, rfl, rfl, hr_35, hnewr_35, -⟩ := hRu_34
  replace hr_35 := (RowOf.base (Zj (H2 := New H H) RU8.const hr_35) (fun p hp => (hfu_34 p (Zk 0 rfl hp)).resolve_left (hnewr_35 p hp)))
  obtain ⟨q_36, hm_37, hl_38, hx⟩ := Zz hx
  refine Z2 (HF := (New H H)) 4 U45 I5 rfl rfl hr_31 rfl (SrcF.row 0 U45 rfl hr_35) hm_37 hl_38 rfl (Nat.le_refl _) rfl (fun vr_39 Kr_39 hr_39 => ?_)
  obtain ⟨ar_39, cr_39, rfl⟩ := RowOf.val hr_39
  refine ZA rfl rfl (ZG rfl) (ZD (ZC (ZW (ZS (vs := [.slice ar_39 q_36.length cr_39]) (K := [_]) (rst := [_, _, _, _]) (.inl rfl) rfl rfl (ZQ rfl rfl) (Ze 4 rfl ZK) ?_))))
  obtain rfl := Option.some.inj hx
  exact ⟨ar_39, q_36.length, cr_39, Kr_39, rfl, rfl, rfl, (Zs (Nat.zero_le _) hr_39), (new_ids hr_39 hlt), trivial⟩
 ·
  have hxo_4 := hx; clear hx; have hx := ht_5; clear ht_5
  refine JC.draw (so := [_]) 9 rfl Mixed ⟨⟨0, rfl⟩, trivial⟩ (JA.val ⟨by kernel_rfl, by kernel_rfl⟩ (ZF _) (i := 0) rfl ⟨by kernel_rfl, by kernel_rfl, rfl⟩ trivial (ZE (Hle.refl _) ⟨⟨0, rfl⟩, trivial⟩) (Zo F28_0 rfl) rfl (JA.val ⟨by kernel_rfl, by kernel_rfl⟩ (ZF _) (i := 1) rfl ⟨by kernel_rfl, by kernel_rfl, rfl⟩ trivial (ZE (Hle.refl _) ⟨⟨0, rfl⟩, trivial⟩) (ZZ 0 S3 rfl rfl rfl) rfl (JA.val ⟨by kernel_rfl, by kernel_rfl⟩ (ZF _) (i := 2) rfl ⟨by kernel_rfl, by kernel_rfl, rfl⟩ trivial (ZE (Hle.refl _) ⟨⟨0, rfl⟩, trivial⟩) (R.cv_i64_u8 U3 U5 rfl) rfl (JA.val ⟨by kernel_rfl, by kernel_rfl⟩ (ZF _) (i := 4) rfl ⟨by kernel_rfl, by kernel_rfl, rfl⟩ trivial (ZE (Hle.refl _) ⟨⟨0, rfl⟩, trivial⟩) (Zo F28_1 rfl) rfl (JA.val ⟨by kernel_rfl, by kernel_rfl⟩ (ZF _) (i := 5) rfl ⟨by kernel_rfl, by kernel_rfl, rfl⟩ trivial (ZE (Hle.refl _) ⟨⟨0, rfl⟩, trivial⟩) (ZZ 0 S26 rfl rfl rfl) rfl ?_)))))
  obtain ⟨x_7, hr_8, hx⟩ := ZJ hx
  obtain ⟨q_11, hm_12, hl_13, hx⟩ := Zz hx
  refine JA.two (i := 3) (j := 6) (by kernel_rfl) ?_ ?_
  ·
   refine JO.step rfl trivial rfl (fun K hK => JL.bslF (HF := (New H H)) (R := RU8) (ls := [u8i p_1.At]) (vs := [.int .u8 ((u8i p_1.At).toNat : Int)]) U45 I5 rfl rfl (⟨_, _, rfl, rfl, rfl, rfl⟩) RU8.one rfl rfl rfl (by simp [maxLen]) rfl (fun vr_6 Kr_6 hr_6 => ?_))
   obtain ⟨ar_6, cr_6, rfl⟩ := RowOf.val hr_6
   refine ZD (hK _ _ _ (ZE (Hle.refl _) ⟨⟨1, rfl⟩, trivial⟩) (JA.one (i := 6) (by kernel_rfl) (JO.step rfl trivial rfl (fun K hK => ZO (vs := [_, _]) (args := [_, _]) (K := []) (rst := [_, _]) E114 rfl rfl rfl ZK (ref10_Number_ok p_1.Birth 3 _ _ hr_8) rfl (fun u_9 Ku_9 Hu_9 hRu_9 hleu_9 hfu_9 => ?_)))))
   obtain ⟨ar_10, nr_10, cr_10, Kr_10, rfl, rfl, rfl, hr_10, hnewr_10, -⟩ := hRu_9
   replace hr_10 := (RowOf.base (Zj (H2 := New H H) RU8.const hr_10) (fun p hp => (hfu_9 p (Zk 0 rfl hp)).resolve_left (hnewr_10 p hp)))
   refine ZD (hK _ _ _ (ZE (Hle.refl _) ⟨⟨2, rfl⟩, trivial⟩) (JA.one (i := 7) (by kernel_rfl) (JO.step rfl trivial rfl (fun K hK => Z2 (HF := (New H H)) 1 U45 I5 rfl rfl hr_6 rfl (SrcF.row 0 U45 rfl hr_10) hm_12 hl_13 rfl (Nat.le_refl _) rfl (fun vr_14 Kr_14 hr_14 => ?_)))))
   obtain ⟨ar_14, cr_14, rfl⟩ := RowOf.val hr_14
   refine ZD (hK _ _ _ (ZE (Hle.refl _) ⟨⟨2, rfl⟩, trivial⟩) (JA.val ⟨by kernel_rfl, by kernel_rfl⟩ (ZF _) (i := 8) rfl ⟨by kernel_rfl, by kernel_rfl, rfl⟩ trivial (ZE (Hle.refl _) ⟨⟨2, rfl⟩, trivial⟩) (ZG rfl) rfl (Zg (by kernel_rfl) ?_)))
   obtain rfl := Option.some.inj hx
   refine JN.forget 0 (ZL 1 rfl ?_)
   exact ZR ⟨ar_14, q_11.length, cr_14, Kr_14, rfl, rfl, rfl, hr_14⟩ ⟨rfl, rfl, trivial⟩ rfl rfl
  ·
   refine JO.step rfl trivial rfl (fun K hK => ZO (vs := [_, _]) (args := [_, _]) (K := []) (rst := [_]) E114 rfl rfl rfl ZK (ref10_Number_ok p_1.Birth 3 _ _ hr_8) rfl (fun u_9 Ku_9 Hu_9 hRu_9 hleu_9 hfu_9 => ?_))
   obtain ⟨ar_10, nr_10, cr_10, Kr_10, rfl, rfl, rfl, hr_10, hnewr_10, -⟩ := hRu_9
   replace hr_10 := (RowOf.base (Zj (H2 := New H H) RU8.const hr_10) (fun p hp => (hfu_9 p (Zk 0 rfl hp)).resolve_left (hnewr_10 p hp)))
   refine ZD (hK _ _ _ (ZE (Hle.refl _) ⟨⟨1, rfl⟩, trivial⟩) (JA.one (i := 3) (by kernel_rfl) (JO.step rfl trivial rfl (fun K hK => JL.bslF (HF := (New H H)) (R := RU8) (ls := [u8i p_1.At]) (vs := [.int .u8 ((u8i p_1.At).toNat : Int)]) U45 I5 rfl rfl (⟨_, _, rfl, rfl, rfl, rfl⟩) RU8.one rfl rfl rfl (by simp [maxLen]) rfl (fun vr_6 Kr_6 hr_6 => ?_)))))
   obtain ⟨ar_6, cr_6, rfl⟩ := RowOf.val hr_6
   refine ZD (hK _ _ _ (ZE (Hle.refl _) ⟨⟨2, rfl⟩, trivial⟩) (JA.one (i := 7) (by kernel_rfl) (JO.step rfl trivial rfl (fun K hK => Z2 (HF := (New H H)) 0 U45 I5 rfl rfl hr_6 rfl (SrcF.row 1 U45 rfl hr_10) hm_12 hl_13 rfl (Nat.le_refl _) rfl (fun vr_14 Kr_14 hr_14 => ?_)))))
   obtain ⟨ar_14, cr_14, rfl⟩ := RowOf.val hr_14
   refine ZD (hK _ _ _ (ZE (Hle.refl _) ⟨⟨2, rfl⟩, trivial⟩) (JA.val ⟨by kernel_rfl, by kernel_rfl⟩ (ZF _) (i := 8) rfl ⟨by kernel_rfl, by kernel_rfl, rfl⟩ trivial (ZE (Hle.refl _) ⟨⟨2, rfl⟩, trivial⟩) (ZG rfl) rfl (Zg (by kernel_rfl) ?_)))
   obtain rfl := Option.some.inj hx
   refine JN.forget 1 (ZL 1 rfl ?_)
   exact ZR ⟨ar_14, q_11.length, cr_14, Kr_14, rfl, rfl, rfl, hr_14⟩ ⟨rfl, rfl, trivial⟩ rfl rfl

set_option maxHeartbeats 8000000 in
theorem ref02_byteAt_ok (p_1 : List UInt8) (p_3 : Int) (H : Heaplet) {aa_2 : Option Addr} {na_2 : Nat} {ca_2 : Nat} (ha_2 : IsSlice H RU8 1 (.slice aa_2 na_2 ca_2) p_1) (r : UInt32) (hx : ref02_byteAt p_1 p_3 = some r) :
  Does Try.prog 187 #[.slice aa_2 na_2 ca_2, .int .i64 p_3] [] H (fun u K' H' => u = .int .u32 (r.toNat : Int) ∧ K' = [] ∧ H = H' ∧ True) := by
 refine Does.enterL (vs := [.slice aa_2 na_2 ca_2, .int .i64 p_3]) (l := [(0, .slice aa_2 na_2 ca_2), (1, .int .i64 p_3)]) Try.func187 rfl rfl ⟨rfl, rfl, trivial⟩ (fun w hlt => ?_)
 unfold ref02_byteAt at hx
 refine ZH (ZB (ZA rfl rfl (ZG rfl) (ZD (ZC (ZH (ZH (ZB (ZA rfl rfl (ZI rfl) (ZA rfl rfl (ZI rfl) (ZA rfl rfl (Zr U45 rfl (IsSlice.long ha_2)) (ZA rfl rfl (Z1 rfl rfl) ?_)))))))))))
 refine ZD (ZC (ZY rfl (fun c_4 => ?_) (fun c_4 => ?_)))
 ·
  replace hx := ZU c_4 hx
  refine ZH (ZB (ZA rfl rfl (ZI rfl) (ZA rfl rfl (ZI rfl) ?_)))
  obtain ⟨y_5, hN_6, hx⟩ := Zt hx
  obtain ⟨b_7, o_8, cs_9, hE_10, hR_11, hl_12, hc_13⟩ := IsSlice.elem ha_2 hN_6
  obtain rfl := hR_11
  refine ZA rfl rfl (R.ix U45 S5 rfl rfl hE_10) (ZA rfl rfl (R.ldH S5 rfl (hc_13 0 _ rfl)) (ZA rfl rfl (R.cv_u8_u32 (a := y_5) U5 U26 rfl) (ZA rfl rfl (ZG rfl) (ZD (ZC (ZW (Zc (ZS (vs := [.int .u32 (y_5.toUInt32.toNat : Int)]) (K := []) (rst := []) (.inl rfl) rfl rfl (ZQ rfl rfl) ZK ?_))))))))
  obtain rfl := Option.some.inj hx
  exact ⟨rfl, rfl, rfl, trivial⟩
 ·
  replace hx := ZV c_4 hx
  refine Za (ZC (ZH (ZH (ZB (ZA rfl rfl (ZI rfl) (ZA rfl rfl (ZI rfl) (ZA rfl rfl (Zr U45 rfl (IsSlice.long ha_2)) (ZA rfl rfl (R.eql_i rfl rfl) (ZD (ZC (ZY rfl (fun c_14 => ?_) (fun c_14 => ?_))))))))))))
  ·
   replace hx := ZU c_14 hx
   refine ZH (ZB (ZA rfl rfl (ZG rfl) (ZD (ZC (ZW (Zc (ZS (vs := [.int .u32 ((1 : UInt32).toNat : Int)]) (K := []) (rst := []) (.inl rfl) rfl rfl (ZQ rfl rfl) ZK ?_)))))))
   obtain rfl := Option.some.inj hx
   exact ⟨rfl, rfl, rfl, trivial⟩
  ·
   replace hx := ZV c_14 hx
   refine Za (ZC (ZH (ZB (ZA rfl rfl (ZG rfl) (ZD (ZC (ZW (ZS (vs := [.int .u32 ((0 : UInt32).toNat : Int)]) (K := []) (rst := []) (.inl rfl) rfl rfl (ZQ rfl rfl) ZK ?_))))))))
   obtain rfl := Option.some.inj hx
   exact ⟨rfl, rfl, rfl, trivial⟩

set_option maxHeartbeats 8000000 in
theorem ref02_word_ok (p_1 : List UInt8) (p_3 : Int) (H : Heaplet) {aa_2 : Option Addr} {na_2 : Nat} {ca_2 : Nat} (ha_2 : IsSlice H RU8 1 (.slice aa_2 na_2 ca_2) p_1) (r : UInt32) (hx : ref02_word p_1 p_3 = some r) :
  Does Try.prog 176 #[.slice aa_2 na_2 ca_2, .int .i64 p_3] [] H (fun u K' H' => u = .int .u32 (r.toNat : Int) ∧ K' = [] ∧ H = H' ∧ True) := by
 refine Does.enterL (vs := [.slice aa_2 na_2 ca_2, .int .i64 p_3]) (l := [(0, .slice aa_2 na_2 ca_2), (1, .int .i64 p_3)]) Try.func176 rfl rfl ⟨rfl, rfl, trivial⟩ (fun w hlt => ?_)
 unfold ref02_word at hx
 refine ZH (ZB (ZA rfl rfl (ZG rfl) (ZD (ZC (ZH (ZB (ZA rfl rfl (ZI rfl) (ZA rfl rfl (ZI rfl) ?_))))))))
 obtain ⟨x_4, hr_5, hx⟩ := ZJ hx
 refine ZO (vs := [_, _]) (args := [_, _]) (K := []) (rst := []) E187 rfl rfl rfl ZK (ref02_byteAt_ok p_1 p_3 _ ha_2 _ hr_5) rfl (fun u_6 Ku_6 Hu_6 hRu_6 hleu_6 hfu_6 => ?_)
 obtain ⟨rfl, rfl, rfl, -⟩ := hRu_6
 refine ZA rfl rfl (ZI rfl) (ZA rfl rfl (ZI rfl) (ZA rfl rfl (R.add_i rfl rfl) ?_))
 obtain ⟨x_7, hr_8, hx⟩ := ZJ hx
 refine ZO (vs := [_, _]) (args := [_, _]) (K := []) (rst := []) E187 rfl rfl rfl ZK (ref02_byteAt_ok p_1 (w64 (p_3 + 1)) _ ha_2 _ hr_8) rfl (fun u_9 Ku_9 Hu_9 hRu_9 hleu_9 hfu_9 => ?_)
 obtain ⟨rfl, rfl, rfl, -⟩ := hRu_9
 refine ZA rfl rfl (R.mul32 (a := (256 : UInt32)) (b := x_7) rfl rfl) (ZA rfl rfl (R.add32 (a := x_4) (b := (256 : UInt32) * x_7) rfl rfl) (ZA rfl rfl (ZI rfl) (ZA rfl rfl (ZI rfl) (ZA rfl rfl (R.add_i rfl rfl) ?_))))
 obtain ⟨x_10, hr_11, hx⟩ := ZJ hx
 refine ZO (vs := [_, _]) (args := [_, _]) (K := []) (rst := []) E187 rfl rfl rfl ZK (ref02_byteAt_ok p_1 (w64 (p_3 + 2)) _ ha_2 _ hr_11) rfl (fun u_12 Ku_12 Hu_12 hRu_12 hleu_12 hfu_12 => ?_)
 obtain ⟨rfl, rfl, rfl, -⟩ := hRu_12
 refine ZA rfl rfl (R.mul32 (a := (65536 : UInt32)) (b := x_10) rfl rfl) (ZA rfl rfl (R.add32 (a := x_4 + ((256 : UInt32) * x_7)) (b := (65536 : UInt32) * x_10) rfl rfl) (ZA rfl rfl (ZI rfl) (ZA rfl rfl (ZI rfl) (ZA rfl rfl (R.add_i rfl rfl) ?_))))
 obtain ⟨x_13, hr_14, hx⟩ := ZJ hx
 refine ZO (vs := [_, _]) (args := [_, _]) (K := []) (rst := []) E187 rfl rfl rfl ZK (ref02_byteAt_ok p_1 (w64 (p_3 + 3)) _ ha_2 _ hr_14) rfl (fun u_15 Ku_15 Hu_15 hRu_15 hleu_15 hfu_15 => ?_)
 obtain ⟨rfl, rfl, rfl, -⟩ := hRu_15
 refine ZA rfl rfl (R.mul32 (a := (16777216 : UInt32)) (b := x_13) rfl rfl) (ZA rfl rfl (R.add32 (a := (x_4 + ((256 : UInt32) * x_7)) + ((65536 : UInt32) * x_10)) (b := (16777216 : UInt32) * x_13) rfl rfl) (ZA rfl rfl (ZG rfl) (ZD (ZC (ZW (ZS (vs := [.int .u32 ((((x_4 + ((256 : UInt32) * x_7)) + ((65536 : UInt32) * x_10)) + ((16777216 : UInt32) * x_13)).toNat : Int)]) (K := []) (rst := []) (.inl rfl) rfl rfl (ZQ rfl rfl) ZK ?_))))))
 obtain rfl := Option.some.inj hx
 exact ⟨rfl, rfl, rfl, trivial⟩

set_option maxHeartbeats 8000000 in
theorem ref02_plus_ok (p_1 : UInt32) (p_2 : UInt32) (H : Heaplet) (r : UInt32) (hx : ref02_plus p_1 p_2 = some r) :
  Does Try.prog 188 #[.int .u32 (p_1.toNat : Int), .int .u32 (p_2.toNat : Int)] [] H (fun u K' H' => u = .int .u32 (r.toNat : Int) ∧ K' = [] ∧ H = H' ∧ True) := by
 refine Does.enterL (vs := [.int .u32 (p_1.toNat : Int), .int .u32 (p_2.toNat : Int)]) (l := [(0, .int .u32 (p_1.toNat : Int)), (1, .int .u32 (p_2.toNat : Int))]) Try.func188 rfl rfl ⟨rfl, rfl, trivial⟩ (fun w hlt => ?_)
 unfold ref02_plus at hx
 refine ZH (ZB (ZA rfl rfl (ZG rfl) (ZD (ZC (ZH (ZB (ZA rfl rfl (ZI rfl) (ZA rfl rfl (R.cv_u32_i64 (a := p_1) U26 U3 rfl) (ZA rfl rfl (ZI rfl) (ZA rfl rfl (R.cv_u32_i64 (a := p_2) U26 U3 rfl) (ZA rfl rfl (R.add_i rfl rfl) ?_)))))))))))
 refine ZA rfl rfl (R.rem_i rfl rfl (by decide)) (ZA rfl rfl (R.cv_i64_u32 U3 U26 rfl) (ZA rfl rfl (ZG rfl) (ZD (ZC (ZW (ZS (vs := [.int .u32 ((u32i ((w64 ((p_1.toNat : Int) + (p_2.toNat : Int))).tmod 4294967296)).toNat : Int)]) (K := []) (rst := []) (.inl rfl) rfl rfl (ZQ rfl rfl) ZK ?_))))))
 obtain rfl := Option.some.inj hx
 exact ⟨rfl, rfl, rfl, trivial⟩

set_option maxHeartbeats 8000000 in
theorem ref02_left_ok (p_1 : UInt32) (p_2 : Int) (H : Heaplet) (r : UInt32) (hx : ref02_left p_1 p_2 = some r) :
  Does Try.prog 189 #[.int .u32 (p_1.toNat : Int), .int .i64 p_2] [] H (fun u K' H' => u = .int .u32 (r.toNat : Int) ∧ K' = [] ∧ H = H' ∧ True) := by
 refine Does.enterL (vs := [.int .u32 (p_1.toNat : Int), .int .i64 p_2]) (l := [(0, .int .u32 (p_1.toNat : Int)), (1, .int .i64 p_2)]) Try.func189 rfl rfl ⟨rfl, rfl, trivial⟩ (fun w hlt => ?_)
 unfold ref02_left at hx
 refine ZH (ZB (ZA rfl rfl (ZG rfl) (ZD (ZC (ZH (ZB (ZA rfl rfl (ZI rfl) (ZA rfl rfl (R.cv_u32_i64 (a := p_1) U26 U3 rfl) (ZA rfl rfl (ZG rfl) (ZD (ZC ?_)))))))))))
 refine ZH (ZH (ZB (ZA rfl rfl (ZG rfl) (ZD (ZC ?_)))))
 obtain ⟨t_3, ht_5, hx⟩ := ZJ hx
 refine Zy (fun l o g => l = [(5, .int .i64 t_3)] ∧ o = [] ∧ H = g) ?_ ?_
 ·
  rintro _ _ _ ⟨rfl, rfl, rfl⟩
  refine ZC (ZH (ZB (ZA rfl rfl (ZI rfl) (ZA rfl rfl (R.cv_i64_u32 U3 U26 rfl) (ZA rfl rfl (ZG rfl) (ZD (ZC (ZW (ZS (vs := [.int .u32 ((u32i t_3).toNat : Int)]) (K := []) (rst := []) (.inl rfl) rfl rfl (ZQ rfl rfl) ZK ?_)))))))))
  obtain rfl := Option.some.inj hx
  exact ⟨rfl, rfl, rfl, trivial⟩
 ·
  have hxo_4 := hx; clear hx; have hx := ht_5; clear ht_5
  refine JC.block (Z9 (fun n l o g => ∃ s_6 : Int × Int, l = [(1, .int .i64 p_2), (5, .int .i64 s_6.1), (6, .int .i64 s_6.2)] ∧ o = [] ∧ H = g ∧ run (ref02_left_l1 p_2) n s_6 = some t_3) FUEL ?_ ⟨((p_1.toNat : Int), 0), rfl, rfl, rfl, hx⟩ ⟨rfl, rfl, rfl, trivial⟩ ?_)
  ·
   rintro _ _ _ ⟨s_6, rfl, rfl, rfl, hn_7⟩
   exact Z5 hn_7
  ·
   rintro n_8 _ _ _ ⟨s_6, rfl, rfl, rfl, hn_7⟩
   clear hx; obtain ⟨oo_10, hx, hd_9⟩ := Z6 hn_7
   unfold ref02_left_l1 at hx
   refine ZH (ZH (ZB (ZA rfl rfl (ZI rfl) (ZA rfl rfl (ZI rfl) (ZA rfl rfl (Z1 rfl rfl) (ZD (ZC (ZY rfl (fun c_9 => ?_) (fun c_9 => ?_)))))))))
   ·
    replace hx := ZU c_9 hx
    refine Za (ZC (ZH (JC.block (ZB (ZA rfl rfl (ZI rfl) (ZA rfl rfl (R.mul_i rfl rfl) (ZA rfl rfl (R.rem_i rfl rfl (by decide)) (ZA rfl rfl (ZI rfl) (ZA rfl rfl (R.mul_i rfl rfl) (ZA rfl rfl (R.quo_i rfl rfl (by decide)) (ZA rfl rfl (R.add_i rfl rfl) ?_)))))))))))
    refine ZA rfl rfl (ZG rfl) (ZD (Zl (ZC (ZB (ZA rfl rfl (ZI rfl) (ZA rfl rfl (R.add_i rfl rfl) (ZA rfl rfl (ZG rfl) (ZD ?_))))))))
    replace hx := Zm hd_9 hx
    exact ZR ⟨(w64 (((w64 (s_6.1 * 2)).tmod 4294967296) + (w64 ((w64 (s_6.1 * 2)).tdiv 4294967296))), w64 (s_6.2 + 1)), rfl, rfl, rfl, hx⟩ ⟨rfl, rfl, rfl, trivial⟩ rfl rfl
   ·
    replace hx := ZV c_9 hx
    refine Z0 (ZX ?_)
    obtain rfl := Zw hd_9 hx
    refine ZX (Zd ?_)
    exact ZR ⟨rfl, rfl, rfl⟩ ⟨rfl, trivial⟩ rfl rfl

set_option maxHeartbeats 8000000 in
theorem ref02_Turn_ok (p_1 : A4 UInt32) (H : Heaplet) (r : A4 UInt32) (hx : ref02_Turn p_1 = some r) :
  Does Try.prog 177 #[.agg #[.int .u32 (p_1.e0.toNat : Int), .int .u32 (p_1.e1.toNat : Int), .int .u32 (p_1.e2.toNat : Int), .int .u32 (p_1.e3.toNat : Int)]] [] H (fun u K' H' => u = .agg #[.int .u32 (r.e0.toNat : Int), .int .u32 (r.e1.toNat : Int), .int .u32 (r.e2.toNat : Int), .int .u32 (r.e3.toNat : Int)] ∧ K' = [] ∧ H = H' ∧ True) := by
 refine Does.enterL (vs := [.agg #[.int .u32 (p_1.e0.toNat : Int), .int .u32 (p_1.e1.toNat : Int), .int .u32 (p_1.e2.toNat : Int), .int .u32 (p_1.e3.toNat : Int)]]) (l := [(0, .agg #[.int .u32 (p_1.e0.toNat : Int), .int .u32 (p_1.e1.toNat : Int), .int .u32 (p_1.e2.toNat : Int), .int .u32 (p_1.e3.toNat : Int)])]) Try.func177 rfl rfl ⟨rfl, trivial⟩ (fun w hlt => ?_)
 unfold ref02_Turn at hx
 refine ZH (ZB (Z7 rfl rfl (fun b_2 hb_2 => JL.alloc Z160 rfl (fun b_3 hb_3 => ZD (ZC (ZH (ZB (ZA rfl rfl (R.ixA 0 U160 S26 rfl rfl rfl) (ZA rfl rfl (ZZ 1 S26 rfl rfl rfl) (ZA rfl rfl (ZG rfl) (ZD ?_)))))))))))
 refine ZC (ZH (ZB (ZA rfl rfl (R.ixA 1 U160 S26 rfl rfl rfl) (ZA rfl rfl (ZZ 1 S26 rfl rfl rfl) (ZA rfl rfl (ZG rfl) (ZD (ZC (ZH (ZB (ZA rfl rfl (R.ixA 2 U160 S26 rfl rfl rfl) (ZA rfl rfl (ZZ 1 S26 rfl rfl rfl) ?_)))))))))))
 refine ZA rfl rfl (ZG rfl) (ZD (ZC (ZH (ZB (ZA rfl rfl (R.ixA 3 U160 S26 rfl rfl rfl) (ZA rfl rfl (ZZ 1 S26 rfl rfl rfl) (ZA rfl rfl (ZG rfl) (ZD (ZC (ZH (ZB ?_)))))))))))
 refine ZA rfl rfl (ZI rfl) (ZA rfl rfl (ZI rfl) ?_)
 obtain ⟨x_4, hr_5, hx⟩ := ZJ hx
 refine ZO (vs := [_, _]) (args := [_, _]) (K := []) (rst := [_, _]) E188 rfl rfl rfl ZK (ref02_plus_ok p_1.e0 p_1.e1 _ _ hr_5) rfl (fun u_6 Ku_6 Hu_6 hRu_6 hleu_6 hfu_6 => ?_)
 obtain ⟨rfl, rfl, rfl, -⟩ := hRu_6
 refine ZA rfl rfl (ZG rfl) (ZD (ZC (ZH (ZB (ZA rfl rfl (ZI rfl) (ZA rfl rfl (ZI rfl) (ZA rfl rfl (R.xor32 (a := p_1.e3) (b := x_4) rfl rfl) ?_)))))))
 obtain ⟨x_7, hr_8, hx⟩ := ZJ hx
 refine ZO (vs := [_, _]) (args := [_, _]) (K := []) (rst := [_, _]) E189 rfl rfl rfl ZK (ref02_left_ok (p_1.e3 ^^^ x_4) 15 _ _ hr_8) rfl (fun u_9 Ku_9 Hu_9 hRu_9 hleu_9 hfu_9 => ?_)
 obtain ⟨rfl, rfl, rfl, -⟩ := hRu_9
 refine ZA rfl rfl (ZG rfl) (ZD (ZC (ZH (ZB (ZA rfl rfl (ZI rfl) (ZA rfl rfl (ZI rfl) ?_))))))
 obtain ⟨x_10, hr_11, hx⟩ := ZJ hx
 refine ZO (vs := [_, _]) (args := [_, _]) (K := []) (rst := [_, _]) E188 rfl rfl rfl ZK (ref02_plus_ok p_1.e2 x_7 _ _ hr_11) rfl (fun u_12 Ku_12 Hu_12 hRu_12 hleu_12 hfu_12 => ?_)
 obtain ⟨rfl, rfl, rfl, -⟩ := hRu_12
 refine ZA rfl rfl (ZG rfl) (ZD (ZC (ZH (ZB (ZA rfl rfl (ZI rfl) (ZA rfl rfl (ZI rfl) (ZA rfl rfl (R.xor32 (a := p_1.e1) (b := x_10) rfl rfl) ?_)))))))
 obtain ⟨x_13, hr_14, hx⟩ := ZJ hx
 refine ZO (vs := [_, _]) (args := [_, _]) (K := []) (rst := [_, _]) E189 rfl rfl rfl ZK (ref02_left_ok (p_1.e1 ^^^ x_10) 11 _ _ hr_14) rfl (fun u_15 Ku_15 Hu_15 hRu_15 hleu_15 hfu_15 => ?_)
 obtain ⟨rfl, rfl, rfl, -⟩ := hRu_15
 refine ZA rfl rfl (ZG rfl) (ZD (ZC (ZH (ZB (ZA rfl rfl (ZI rfl) (ZA rfl rfl (ZI rfl) ?_))))))
 obtain ⟨x_16, hr_17, hx⟩ := ZJ hx
 refine ZO (vs := [_, _]) (args := [_, _]) (K := []) (rst := [_, _]) E188 rfl rfl rfl ZK (ref02_plus_ok x_4 x_13 _ _ hr_17) rfl (fun u_18 Ku_18 Hu_18 hRu_18 hleu_18 hfu_18 => ?_)
 obtain ⟨rfl, rfl, rfl, -⟩ := hRu_18
 refine ZA rfl rfl (ZG rfl) (ZD (ZC (ZH (ZB (ZA rfl rfl (ZI rfl) (ZA rfl rfl (ZI rfl) (ZA rfl rfl (R.xor32 (a := x_7) (b := x_16) rfl rfl) ?_)))))))
 obtain ⟨x_19, hr_20, hx⟩ := ZJ hx
 refine ZO (vs := [_, _]) (args := [_, _]) (K := []) (rst := [_, _]) E189 rfl rfl rfl ZK (ref02_left_ok (x_7 ^^^ x_16) 9 _ _ hr_20) rfl (fun u_21 Ku_21 Hu_21 hRu_21 hleu_21 hfu_21 => ?_)
 obtain ⟨rfl, rfl, rfl, -⟩ := hRu_21
 refine ZA rfl rfl (ZG rfl) (ZD (ZC (JC.tidyP (l' := [(2, .pointer (some ⟨b_3, 0, none⟩)), (3, .int .u32 (x_16.toNat : Int)), (4, .int .u32 (x_13.toNat : Int)), (5, .int .u32 (x_10.toNat : Int)), (6, .int .u32 (x_19.toNat : Int))]) (own' := [[(b_3, .cells #[.int .u32 ((0 : UInt32).toNat : Int), .int .u32 ((0 : UInt32).toNat : Int), .int .u32 ((0 : UInt32).toNat : Int), .int .u32 ((0 : UInt32).toNat : Int)] 160 (0, 0))]]) (rst := [_]) ⟨rfl, rfl, rfl, rfl, rfl, trivial⟩ (Ze 0 rfl ZK) (ZH (ZB (ZA rfl rfl (ZI rfl) (ZA rfl rfl (ZI rfl) ?_)))))))
 obtain ⟨x_22, hr_23, hx⟩ := ZJ hx
 refine ZO (vs := [_, _]) (args := [_, _]) (K := []) (rst := [_]) E188 rfl rfl rfl ZK (ref02_plus_ok x_10 x_19 _ _ hr_23) rfl (fun u_24 Ku_24 Hu_24 hRu_24 hleu_24 hfu_24 => ?_)
 obtain ⟨rfl, rfl, rfl, -⟩ := hRu_24
 refine ZA rfl rfl (ZG rfl) (ZD (ZC (ZH (ZB (ZA rfl rfl (ZI rfl) (ZA rfl rfl (ZI rfl) (ZA rfl rfl (R.xor32 (a := x_13) (b := x_22) rfl rfl) ?_)))))))
 obtain ⟨x_25, hr_26, hx⟩ := ZJ hx
 refine ZO (vs := [_, _]) (args := [_, _]) (K := []) (rst := [_]) E189 rfl rfl rfl ZK (ref02_left_ok (x_13 ^^^ x_22) 6 _ _ hr_26) rfl (fun u_27 Ku_27 Hu_27 hRu_27 hleu_27 hfu_27 => ?_)
 obtain ⟨rfl, rfl, rfl, -⟩ := hRu_27
 refine ZA rfl rfl (ZG rfl) (ZD (ZC (ZH (ZB (ZA rfl rfl (ZI rfl) (ZA rfl rfl (ZI rfl) (ZA rfl rfl (ZI rfl) (ZA rfl rfl (ZI rfl) (ZA rfl rfl (R.bldA (vs := [(0, .int .u32 (x_16.toNat : Int)), (1, .int .u32 (x_25.toNat : Int)), (2, .int .u32 (x_22.toNat : Int)), (3, .int .u32 (x_19.toNat : Int))]) (cells := #[.int .u32 (x_16.toNat : Int), .int .u32 (x_25.toNat : Int), .int .u32 (x_22.toNat : Int), .int .u32 (x_19.toNat : Int)]) Z160 B160 rfl rfl rfl rfl) (ZP 0 S160 rfl rfl rfl rfl rfl (Nat.le_of_ble_eq_true rfl) (ZD ?_)))))))))))
 refine ZC (ZW (ZS (vs := [.agg #[.int .u32 (x_16.toNat : Int), .int .u32 (x_25.toNat : Int), .int .u32 (x_22.toNat : Int), .int .u32 (x_19.toNat : Int)]]) (K := []) (rst := [_]) (.inl rfl) rfl rfl (Zq 0 rfl rfl S160 rfl) ZK ?_))
 obtain rfl := Option.some.inj hx
 exact ⟨rfl, rfl, rfl, trivial⟩

set_option maxHeartbeats 8000000 in
theorem ref02_Four_ok (p_1 : List UInt8) (H : Heaplet) {aa_2 : Option Addr} {na_2 : Nat} {ca_2 : Nat} (ha_2 : IsSlice H RU8 1 (.slice aa_2 na_2 ca_2) p_1) (r : A4 UInt32) (hx : ref02_Four p_1 = some r) :
  Does Try.prog 150 #[.slice aa_2 na_2 ca_2] [] H (fun u K' H' => u = .agg #[.int .u32 (r.e0.toNat : Int), .int .u32 (r.e1.toNat : Int), .int .u32 (r.e2.toNat : Int), .int .u32 (r.e3.toNat : Int)] ∧ K' = [] ∧ H = H' ∧ True) := by
 refine Does.enterL (vs := [.slice aa_2 na_2 ca_2]) (l := [(0, .slice aa_2 na_2 ca_2)]) Try.func150 rfl rfl ⟨rfl, trivial⟩ (fun w hlt => ?_)
 unfold ref02_Four at hx
 refine ZH (ZB (JL.alloc Z160 rfl (fun b_3 hb_3 => ZD (ZC (ZH (ZB (ZA rfl rfl (R.bldA (vs := [(0, .int .u32 ((1 : UInt32).toNat : Int)), (1, .int .u32 ((2 : UInt32).toNat : Int)), (2, .int .u32 ((3 : UInt32).toNat : Int)), (3, .int .u32 ((4 : UInt32).toNat : Int))]) (cells := #[.int .u32 ((1 : UInt32).toNat : Int), .int .u32 ((2 : UInt32).toNat : Int), .int .u32 ((3 : UInt32).toNat : Int), .int .u32 ((4 : UInt32).toNat : Int)]) Z160 B160 rfl rfl rfl rfl) (JL.alloc Z160 rfl (fun b_4 hb_4 => ZP 0 S160 rfl rfl rfl rfl rfl (Nat.le_of_ble_eq_true rfl) (ZD (ZC ?_)))))))))))
 refine ZH (ZH (ZB (ZA rfl rfl (ZG rfl) (ZD (ZC ?_)))))
 obtain ⟨t_5, ht_7, hx⟩ := ZJ hx
 refine Zy (fun l o g => l = [(0, .slice aa_2 na_2 ca_2), (2, .pointer (some ⟨b_3, 0, none⟩)), (3, .pointer (some ⟨b_4, 0, none⟩))] ∧ o = [[(b_3, .cells #[.int .u32 ((0 : UInt32).toNat : Int), .int .u32 ((0 : UInt32).toNat : Int), .int .u32 ((0 : UInt32).toNat : Int), .int .u32 ((0 : UInt32).toNat : Int)] 160 (0, 0))], [(b_4, .cells #[.int .u32 (t_5.1.toNat : Int), .int .u32 (t_5.2.1.toNat : Int), .int .u32 (t_5.2.2.1.toNat : Int), .int .u32 (t_5.2.2.2.toNat : Int)] 160 (0, 0))]] ∧ H = g) ?_ ?_
 ·
  rintro _ _ _ ⟨rfl, rfl, rfl⟩
  refine ZC (ZH (ZB (ZA rfl rfl (R.ixA 1 U160 S26 rfl rfl rfl) (ZA rfl rfl (ZZ 1 S26 rfl rfl rfl) (ZA rfl rfl (ZI rfl) (ZA rfl rfl (Zr U45 rfl (IsSlice.long ha_2)) (ZA rfl rfl (R.cv_i64_u32 U3 U26 rfl) (ZA rfl rfl (R.xor32 (a := t_5.2.1) (b := u32i (p_1.length : Int)) rfl rfl) (ZA rfl rfl (R.ixA 1 U160 S26 rfl rfl rfl) (ZP 1 S26 rfl rfl rfl rfl rfl (Nat.le_of_ble_eq_true rfl) (ZD ?_)))))))))))
  refine ZC (ZH (ZB (ZA rfl rfl (Zh 1 (vs := [.int .u32 (t_5.1.toNat : Int), .int .u32 ((t_5.2.1 ^^^ (u32i (p_1.length : Int))).toNat : Int), .int .u32 (t_5.2.2.1.toNat : Int), .int .u32 (t_5.2.2.2.toNat : Int)]) S160 rfl rfl rfl rfl) ?_)))
  obtain ⟨x_11, hr_12, hx⟩ := ZJ hx
  refine ZO (vs := [_]) (args := [_]) (K := []) (rst := [_, _]) E177 rfl rfl rfl ZK (ref02_Turn_ok (A4.mk t_5.1 (t_5.2.1 ^^^ (u32i (p_1.length : Int))) t_5.2.2.1 t_5.2.2.2) _ _ hr_12) rfl (fun u_13 Ku_13 Hu_13 hRu_13 hleu_13 hfu_13 => ?_)
  obtain ⟨rfl, rfl, rfl, -⟩ := hRu_13
  obtain ⟨x_14, hr_15, hx⟩ := ZJ hx
  refine ZO (vs := [_]) (args := [_]) (K := []) (rst := [_, _]) E177 rfl rfl rfl ZK (ref02_Turn_ok x_11 _ _ hr_15) rfl (fun u_16 Ku_16 Hu_16 hRu_16 hleu_16 hfu_16 => ?_)
  obtain ⟨rfl, rfl, rfl, -⟩ := hRu_16
  obtain ⟨x_17, hr_18, hx⟩ := ZJ hx
  refine ZO (vs := [_]) (args := [_]) (K := []) (rst := [_, _]) E177 rfl rfl rfl ZK (ref02_Turn_ok x_14 _ _ hr_18) rfl (fun u_19 Ku_19 Hu_19 hRu_19 hleu_19 hfu_19 => ?_)
  obtain ⟨rfl, rfl, rfl, -⟩ := hRu_19
  obtain ⟨x_20, hr_21, hx⟩ := ZJ hx
  refine ZO (vs := [_]) (args := [_]) (K := []) (rst := [_, _]) E177 rfl rfl rfl ZK (ref02_Turn_ok x_17 _ _ hr_21) rfl (fun u_22 Ku_22 Hu_22 hRu_22 hleu_22 hfu_22 => ?_)
  obtain ⟨rfl, rfl, rfl, -⟩ := hRu_22
  refine ZP 1 S160 rfl rfl rfl rfl rfl (Nat.le_of_ble_eq_true rfl) (ZD (ZC (ZH (ZB (ZA rfl rfl (Zh 1 (vs := [.int .u32 (x_20.e0.toNat : Int), .int .u32 (x_20.e1.toNat : Int), .int .u32 (x_20.e2.toNat : Int), .int .u32 (x_20.e3.toNat : Int)]) S160 rfl rfl rfl rfl) ?_)))))
  obtain ⟨x_23, hr_24, hx⟩ := ZJ hx
  refine ZO (vs := [_]) (args := [_]) (K := []) (rst := [_, _]) E177 rfl rfl rfl ZK (ref02_Turn_ok x_20 _ _ hr_24) rfl (fun u_25 Ku_25 Hu_25 hRu_25 hleu_25 hfu_25 => ?_)
  obtain ⟨rfl, rfl, rfl, -⟩ := hRu_25
  obtain ⟨x_26, hr_27, hx⟩ := ZJ hx
  refine ZO (vs := [_]) (args := [_]) (K := []) (rst := [_, _]) E177 rfl rfl rfl ZK (ref02_Turn_ok x_23 _ _ hr_27) rfl (fun u_28 Ku_28 Hu_28 hRu_28 hleu_28 hfu_28 => ?_)
  obtain ⟨rfl, rfl, rfl, -⟩ := hRu_28
  obtain ⟨x_29, hr_30, hx⟩ := ZJ hx
  refine ZO (vs := [_]) (args := [_]) (K := []) (rst := [_, _]) E177 rfl rfl rfl ZK (ref02_Turn_ok x_26 _ _ hr_30) rfl (fun u_31 Ku_31 Hu_31 hRu_31 hleu_31 hfu_31 => ?_)
  obtain ⟨rfl, rfl, rfl, -⟩ := hRu_31
  obtain ⟨x_32, hr_33, hx⟩ := ZJ hx
  refine ZO (vs := [_]) (args := [_]) (K := []) (rst := [_, _]) E177 rfl rfl rfl ZK (ref02_Turn_ok x_29 _ _ hr_33) rfl (fun u_34 Ku_34 Hu_34 hRu_34 hleu_34 hfu_34 => ?_)
  obtain ⟨rfl, rfl, rfl, -⟩ := hRu_34
  refine ZP 0 S160 rfl rfl rfl rfl rfl (Nat.le_of_ble_eq_true rfl) (ZD (ZC (ZW (ZS (vs := [.agg #[.int .u32 (x_32.e0.toNat : Int), .int .u32 (x_32.e1.toNat : Int), .int .u32 (x_32.e2.toNat : Int), .int .u32 (x_32.e3.toNat : Int)]]) (K := []) (rst := [_, _]) (.inl rfl) rfl rfl (Zq 0 rfl rfl S160 rfl) ZK ?_))))
  obtain rfl := Option.some.inj hx
  exact ⟨rfl, rfl, rfl, trivial⟩
 ·
  have hxo_6 := hx; clear hx; have hx := ht_7; clear ht_7
  refine JC.block (Zv 1 rfl (Z9 (fun n l o g => ∃ s_8 : UInt32 × UInt32 × UInt32 × UInt32 × Int, l = [(0, .slice aa_2 na_2 ca_2), (2, .pointer (some ⟨b_3, 0, none⟩)), (3, .pointer (some ⟨b_4, 0, none⟩)), (4, .int .i64 s_8.2.2.2.2)] ∧ o = [[(b_3, .cells #[.int .u32 ((0 : UInt32).toNat : Int), .int .u32 ((0 : UInt32).toNat : Int), .int .u32 ((0 : UInt32).toNat : Int), .int .u32 ((0 : UInt32).toNat : Int)] 160 (0, 0))], [(b_4, .cells #[.int .u32 (s_8.1.toNat : Int), .int .u32 (s_8.2.1.toNat : Int), .int .u32 (s_8.2.2.1.toNat : Int), .int .u32 (s_8.2.2.2.1.toNat : Int)] 160 (0, 0))]] ∧ H = g ∧ run (ref02_Four_l1 p_1) n s_8 = some t_5) FUEL ?_ ⟨((1 : UInt32), (2 : UInt32), (3 : UInt32), (4 : UInt32), 0), rfl, rfl, rfl, hx⟩ ⟨rfl, rfl, rfl, rfl, trivial⟩ ?_))
  ·
   rintro _ _ _ ⟨s_8, rfl, rfl, rfl, hn_9⟩
   exact Z5 hn_9
  ·
   rintro n_10 _ _ _ ⟨s_8, rfl, rfl, rfl, hn_9⟩
   clear hx; obtain ⟨oo_12, hx, hd_11⟩ := Z6 hn_9
   unfold ref02_Four_l1 at hx
   refine ZH (ZH (ZB (ZA rfl rfl (ZI rfl) (ZA rfl rfl (ZI rfl) (ZA rfl rfl (Zr U45 rfl (IsSlice.long ha_2)) (ZA rfl rfl (R.leq_i rfl rfl) (ZD (ZC (ZY rfl (fun c_11 => ?_) (fun c_11 => ?_))))))))))
   ·
    replace hx := ZU c_11 hx
    refine Za (ZC (ZH (JC.block (ZH ?_))))
    obtain ⟨t_12, ht_14, hx⟩ := ZJ hx
    refine Zy (fun l o g => l = [(0, .slice aa_2 na_2 ca_2), (2, .pointer (some ⟨b_3, 0, none⟩)), (3, .pointer (some ⟨b_4, 0, none⟩)), (4, .int .i64 s_8.2.2.2.2)] ∧ o = [[(b_3, .cells #[.int .u32 ((0 : UInt32).toNat : Int), .int .u32 ((0 : UInt32).toNat : Int), .int .u32 ((0 : UInt32).toNat : Int), .int .u32 ((0 : UInt32).toNat : Int)] 160 (0, 0))], [(b_4, .cells #[.int .u32 (t_12.toNat : Int), .int .u32 (s_8.2.1.toNat : Int), .int .u32 (s_8.2.2.1.toNat : Int), .int .u32 (s_8.2.2.2.1.toNat : Int)] 160 (0, 0))]] ∧ H = g) ?_ ?_
    ·
     rintro _ _ _ ⟨rfl, rfl, rfl⟩
     refine ZC (ZH ?_)
     obtain ⟨t_21, ht_23, hx⟩ := ZJ hx
     refine Zy (fun l o g => l = [(0, .slice aa_2 na_2 ca_2), (2, .pointer (some ⟨b_3, 0, none⟩)), (3, .pointer (some ⟨b_4, 0, none⟩)), (4, .int .i64 s_8.2.2.2.2)] ∧ o = [[(b_3, .cells #[.int .u32 ((0 : UInt32).toNat : Int), .int .u32 ((0 : UInt32).toNat : Int), .int .u32 ((0 : UInt32).toNat : Int), .int .u32 ((0 : UInt32).toNat : Int)] 160 (0, 0))], [(b_4, .cells #[.int .u32 (t_12.toNat : Int), .int .u32 (s_8.2.1.toNat : Int), .int .u32 (t_21.toNat : Int), .int .u32 (s_8.2.2.2.1.toNat : Int)] 160 (0, 0))]] ∧ H = g) ?_ ?_
     ·
      rintro _ _ _ ⟨rfl, rfl, rfl⟩
      refine ZC (ZB (ZA rfl rfl (Zh 1 (vs := [.int .u32 (t_12.toNat : Int), .int .u32 (s_8.2.1.toNat : Int), .int .u32 (t_21.toNat : Int), .int .u32 (s_8.2.2.2.1.toNat : Int)]) S160 rfl rfl rfl rfl) ?_))
      obtain ⟨x_30, hr_31, hx⟩ := ZJ hx
      refine ZO (vs := [_]) (args := [_]) (K := []) (rst := [_, _]) E177 rfl rfl rfl ZK (ref02_Turn_ok (A4.mk t_12 s_8.2.1 t_21 s_8.2.2.2.1) _ _ hr_31) rfl (fun u_32 Ku_32 Hu_32 hRu_32 hleu_32 hfu_32 => ?_)
      obtain ⟨rfl, rfl, rfl, -⟩ := hRu_32
      obtain ⟨x_33, hr_34, hx⟩ := ZJ hx
      refine ZO (vs := [_]) (args := [_]) (K := []) (rst := [_, _]) E177 rfl rfl rfl ZK (ref02_Turn_ok x_30 _ _ hr_34) rfl (fun u_35 Ku_35 Hu_35 hRu_35 hleu_35 hfu_35 => ?_)
      obtain ⟨rfl, rfl, rfl, -⟩ := hRu_35
      obtain ⟨x_36, hr_37, hx⟩ := ZJ hx
      refine ZO (vs := [_]) (args := [_]) (K := []) (rst := [_, _]) E177 rfl rfl rfl ZK (ref02_Turn_ok x_33 _ _ hr_37) rfl (fun u_38 Ku_38 Hu_38 hRu_38 hleu_38 hfu_38 => ?_)
      obtain ⟨rfl, rfl, rfl, -⟩ := hRu_38
      obtain ⟨x_39, hr_40, hx⟩ := ZJ hx
      refine ZO (vs := [_]) (args := [_]) (K := []) (rst := [_, _]) E177 rfl rfl rfl ZK (ref02_Turn_ok x_36 _ _ hr_40) rfl (fun u_41 Ku_41 Hu_41 hRu_41 hleu_41 hfu_41 => ?_)
      obtain ⟨rfl, rfl, rfl, -⟩ := hRu_41
      refine ZP 1 S160 rfl rfl rfl rfl rfl (Nat.le_of_ble_eq_true rfl) (ZD (Zl (ZC (ZB (ZA rfl rfl (ZI rfl) (ZA rfl rfl (R.add_i rfl rfl) (ZA rfl rfl (ZG rfl) (ZD ?_))))))))
      replace hx := Zm hd_11 hx
      refine ZL 1 rfl (ZL 1 rfl ?_)
      exact ZR ⟨(x_39.e0, x_39.e1, x_39.e2, x_39.e3, w64 (s_8.2.2.2.2 + 8)), rfl, rfl, rfl, hx⟩ ⟨rfl, rfl, rfl, rfl, trivial⟩ rfl rfl
     ·
      have hxo_22 := hx; clear hx; have hx := ht_23; clear ht_23
      refine JC.draw (so := [_]) 9 rfl Mixed ⟨⟨0, rfl⟩, trivial⟩ (JA.val ⟨by kernel_rfl, by kernel_rfl⟩ (ZF _) (i := 0) rfl ⟨by kernel_rfl, by kernel_rfl, rfl⟩ trivial (ZE (Hle.refl _) ⟨⟨0, rfl⟩, trivial⟩) (R.ixA 2 U160 S26 rfl rfl rfl) rfl (JA.val ⟨by kernel_rfl, by kernel_rfl⟩ (ZF _) (i := 2) rfl ⟨by kernel_rfl, by kernel_rfl, rfl⟩ trivial (ZE (Hle.refl _) ⟨⟨0, rfl⟩, trivial⟩) (ZI rfl) rfl (JA.val ⟨by kernel_rfl, by kernel_rfl⟩ (ZF _) (i := 3) rfl ⟨by kernel_rfl, by kernel_rfl, rfl⟩ trivial (ZE (Hle.refl _) ⟨⟨0, rfl⟩, trivial⟩) (ZI rfl) rfl (JA.val ⟨by kernel_rfl, by kernel_rfl⟩ (ZF _) (i := 4) rfl ⟨by kernel_rfl, by kernel_rfl, rfl⟩ trivial (ZE (Hle.refl _) ⟨⟨0, rfl⟩, trivial⟩) (R.add_i rfl rfl) rfl (JA.two (i := 1) (j := 5) (by kernel_rfl) ?_ ?_)))))
      ·
       refine JO.step rfl trivial rfl (fun K hK => ZA rfl rfl (ZZ 1 S26 rfl rfl rfl) (ZD (hK _ _ _ (ZE (Hle.refl _) ⟨⟨0, rfl⟩, trivial⟩) (JA.one (i := 5) (by kernel_rfl) (JO.step rfl trivial rfl (fun K hK => ?_))))))
       obtain ⟨x_24, hr_25, hx⟩ := ZJ hx
       refine ZO (vs := [_, _]) (args := [_, _]) (K := []) (rst := [_, _]) E176 rfl rfl rfl ZK (ref02_word_ok p_1 (w64 (s_8.2.2.2.2 + 4)) _ ha_2 _ hr_25) rfl (fun u_26 Ku_26 Hu_26 hRu_26 hleu_26 hfu_26 => ?_)
       obtain ⟨rfl, rfl, rfl, -⟩ := hRu_26
       refine ZD (hK _ _ _ (ZE (Hle.refl _) ⟨⟨0, rfl⟩, trivial⟩) (JA.val ⟨by kernel_rfl, by kernel_rfl⟩ (ZF _) (i := 6) rfl ⟨by kernel_rfl, by kernel_rfl, rfl⟩ trivial (ZE (Hle.refl _) ⟨⟨0, rfl⟩, trivial⟩) (R.xor32 (a := s_8.2.2.1) (b := x_24) rfl rfl) rfl (JA.val ⟨by kernel_rfl, by kernel_rfl⟩ (ZF _) (i := 7) rfl ⟨by kernel_rfl, by kernel_rfl, rfl⟩ trivial (ZE (Hle.refl _) ⟨⟨0, rfl⟩, trivial⟩) (R.ixA 2 U160 S26 rfl rfl rfl) rfl (JA.one (i := 8) (by kernel_rfl) (JO.step rfl trivial rfl (fun K hK => ZP 1 S26 rfl rfl rfl rfl rfl (Nat.le_of_ble_eq_true rfl) (ZD (hK _ _ _ (ZE (Hle.refl _) ⟨⟨0, rfl⟩, trivial⟩) (Zg (by kernel_rfl) ?_)))))))))
       obtain rfl := Option.some.inj hx
       refine ZL 1 rfl (ZL 1 rfl ?_)
       exact ZR ⟨rfl, rfl, rfl⟩ ⟨rfl, rfl, rfl, rfl, trivial⟩ rfl rfl
      ·
       refine JO.step rfl trivial rfl (fun K hK => ?_)
       obtain ⟨x_27, hr_28, hx⟩ := ZJ hx
       refine ZO (vs := [_, _]) (args := [_, _]) (K := []) (rst := [_, _]) E176 rfl rfl rfl ZK (ref02_word_ok p_1 (w64 (s_8.2.2.2.2 + 4)) _ ha_2 _ hr_28) rfl (fun u_29 Ku_29 Hu_29 hRu_29 hleu_29 hfu_29 => ?_)
       obtain ⟨rfl, rfl, rfl, -⟩ := hRu_29
       refine ZD (hK _ _ _ (ZE (Hle.refl _) ⟨⟨0, rfl⟩, trivial⟩) (JA.one (i := 1) (by kernel_rfl) (JO.step rfl trivial rfl (fun K hK => ZA rfl rfl (ZZ 1 S26 rfl rfl rfl) (ZD (hK _ _ _ (ZE (Hle.refl _) ⟨⟨0, rfl⟩, trivial⟩) (JA.val ⟨by kernel_rfl, by kernel_rfl⟩ (ZF _) (i := 6) rfl ⟨by kernel_rfl, by kernel_rfl, rfl⟩ trivial (ZE (Hle.refl _) ⟨⟨0, rfl⟩, trivial⟩) (R.xor32 (a := s_8.2.2.1) (b := x_27) rfl rfl) rfl (JA.val ⟨by kernel_rfl, by kernel_rfl⟩ (ZF _) (i := 7) rfl ⟨by kernel_rfl, by kernel_rfl, rfl⟩ trivial (ZE (Hle.refl _) ⟨⟨0, rfl⟩, trivial⟩) (R.ixA 2 U160 S26 rfl rfl rfl) rfl (JA.one (i := 8) (by kernel_rfl) (JO.step rfl trivial rfl (fun K hK => ZP 1 S26 rfl rfl rfl rfl rfl (Nat.le_of_ble_eq_true rfl) ?_)))))))))))
       refine ZD (hK _ _ _ (ZE (Hle.refl _) ⟨⟨0, rfl⟩, trivial⟩) (Zg (by kernel_rfl) ?_))
       obtain rfl := Option.some.inj hx
       refine ZL 1 rfl (ZL 1 rfl ?_)
       exact ZR ⟨rfl, rfl, rfl⟩ ⟨rfl, rfl, rfl, rfl, trivial⟩ rfl rfl
    ·
     have hxo_13 := hx; clear hx; have hx := ht_14; clear ht_14
     refine JC.draw (so := [_]) 8 rfl Mixed ⟨⟨0, rfl⟩, trivial⟩ (JA.val ⟨by kernel_rfl, by kernel_rfl⟩ (ZF _) (i := 0) rfl ⟨by kernel_rfl, by kernel_rfl, rfl⟩ trivial (ZE (Hle.refl _) ⟨⟨0, rfl⟩, trivial⟩) (R.ixA 0 U160 S26 rfl rfl rfl) rfl (JA.val ⟨by kernel_rfl, by kernel_rfl⟩ (ZF _) (i := 2) rfl ⟨by kernel_rfl, by kernel_rfl, rfl⟩ trivial (ZE (Hle.refl _) ⟨⟨0, rfl⟩, trivial⟩) (ZI rfl) rfl (JA.val ⟨by kernel_rfl, by kernel_rfl⟩ (ZF _) (i := 3) rfl ⟨by kernel_rfl, by kernel_rfl, rfl⟩ trivial (ZE (Hle.refl _) ⟨⟨0, rfl⟩, trivial⟩) (ZI rfl) rfl (JA.two (i := 1) (j := 4) (by kernel_rfl) ?_ ?_))))
     ·
      refine JO.step rfl trivial rfl (fun K hK => ZA rfl rfl (ZZ 1 S26 rfl rfl rfl) (ZD (hK _ _ _ (ZE (Hle.refl _) ⟨⟨0, rfl⟩, trivial⟩) (JA.one (i := 4) (by kernel_rfl) (JO.step rfl trivial rfl (fun K hK => ?_))))))
      obtain ⟨x_15, hr_16, hx⟩ := ZJ hx
      refine ZO (vs := [_, _]) (args := [_, _]) (K := []) (rst := [_, _]) E176 rfl rfl rfl ZK (ref02_word_ok p_1 s_8.2.2.2.2 _ ha_2 _ hr_16) rfl (fun u_17 Ku_17 Hu_17 hRu_17 hleu_17 hfu_17 => ?_)
      obtain ⟨rfl, rfl, rfl, -⟩ := hRu_17
      refine ZD (hK _ _ _ (ZE (Hle.refl _) ⟨⟨0, rfl⟩, trivial⟩) (JA.val ⟨by kernel_rfl, by kernel_rfl⟩ (ZF _) (i := 5) rfl ⟨by kernel_rfl, by kernel_rfl, rfl⟩ trivial (ZE (Hle.refl _) ⟨⟨0, rfl⟩, trivial⟩) (R.xor32 (a := s_8.1) (b := x_15) rfl rfl) rfl (JA.val ⟨by kernel_rfl, by kernel_rfl⟩ (ZF _) (i := 6) rfl ⟨by kernel_rfl, by kernel_rfl, rfl⟩ trivial (ZE (Hle.refl _) ⟨⟨0, rfl⟩, trivial⟩) (R.ixA 0 U160 S26 rfl rfl rfl) rfl (JA.one (i := 7) (by kernel_rfl) (JO.step rfl trivial rfl (fun K hK => ZP 1 S26 rfl rfl rfl rfl rfl (Nat.le_of_ble_eq_true rfl) (ZD (hK _ _ _ (ZE (Hle.refl _) ⟨⟨0, rfl⟩, trivial⟩) (Zg (by kernel_rfl) ?_)))))))))
      obtain rfl := Option.some.inj hx
      refine ZL 1 rfl (ZL 1 rfl ?_)
      exact ZR ⟨rfl, rfl, rfl⟩ ⟨rfl, rfl, rfl, rfl, trivial⟩ rfl rfl
     ·
      refine JO.step rfl trivial rfl (fun K hK => ?_)
      obtain ⟨x_18, hr_19, hx⟩ := ZJ hx
      refine ZO (vs := [_, _]) (args := [_, _]) (K := []) (rst := [_, _]) E176 rfl rfl rfl ZK (ref02_word_ok p_1 s_8.2.2.2.2 _ ha_2 _ hr_19) rfl (fun u_20 Ku_20 Hu_20 hRu_20 hleu_20 hfu_20 => ?_)
      obtain ⟨rfl, rfl, rfl, -⟩ := hRu_20
      refine ZD (hK _ _ _ (ZE (Hle.refl _) ⟨⟨0, rfl⟩, trivial⟩) (JA.one (i := 1) (by kernel_rfl) (JO.step rfl trivial rfl (fun K hK => ZA rfl rfl (ZZ 1 S26 rfl rfl rfl) (ZD (hK _ _ _ (ZE (Hle.refl _) ⟨⟨0, rfl⟩, trivial⟩) (JA.val ⟨by kernel_rfl, by kernel_rfl⟩ (ZF _) (i := 5) rfl ⟨by kernel_rfl, by kernel_rfl, rfl⟩ trivial (ZE (Hle.refl _) ⟨⟨0, rfl⟩, trivial⟩) (R.xor32 (a := s_8.1) (b := x_18) rfl rfl) rfl (JA.val ⟨by kernel_rfl, by kernel_rfl⟩ (ZF _) (i := 6) rfl ⟨by kernel_rfl, by kernel_rfl, rfl⟩ trivial (ZE (Hle.refl _) ⟨⟨0, rfl⟩, trivial⟩) (R.ixA 0 U160 S26 rfl rfl rfl) rfl (JA.one (i := 7) (by kernel_rfl) (JO.step rfl trivial rfl (fun K hK => ZP 1 S26 rfl rfl rfl rfl rfl (Nat.le_of_ble_eq_true rfl) ?_)))))))))))
      refine ZD (hK _ _ _ (ZE (Hle.refl _) ⟨⟨0, rfl⟩, trivial⟩) (Zg (by kernel_rfl) ?_))
      obtain rfl := Option.some.inj hx
      refine ZL 1 rfl (ZL 1 rfl ?_)
      exact ZR ⟨rfl, rfl, rfl⟩ ⟨rfl, rfl, rfl, rfl, trivial⟩ rfl rfl
   ·
    replace hx := ZV c_11 hx
    refine Z0 (ZX ?_)
    obtain rfl := Zw hd_11 hx
    refine ZX (Zd (ZL 1 rfl (ZL 1 rfl ?_)))
    exact ZR ⟨rfl, rfl, rfl⟩ ⟨rfl, rfl, rfl, trivial⟩ rfl rfl

set_option maxHeartbeats 8000000 in
theorem ref02_Sum_ok (p_1 : List UInt8) (H : Heaplet) {aa_2 : Option Addr} {na_2 : Nat} {ca_2 : Nat} (ha_2 : IsSlice H RU8 1 (.slice aa_2 na_2 ca_2) p_1) (r : UInt32) (hx : ref02_Sum p_1 = some r) :
  Does Try.prog 116 #[.slice aa_2 na_2 ca_2] [] H (fun u K' H' => u = .int .u32 (r.toNat : Int) ∧ K' = [] ∧ H = H' ∧ True) := by
 refine Does.enterL (vs := [.slice aa_2 na_2 ca_2]) (l := [(0, .slice aa_2 na_2 ca_2)]) Try.func116 rfl rfl ⟨rfl, trivial⟩ (fun w hlt => ?_)
 unfold ref02_Sum at hx
 refine ZH (ZB (ZA rfl rfl (ZG rfl) (ZD (ZC (ZH (ZB (ZA rfl rfl (ZI rfl) ?_)))))))
 obtain ⟨x_3, hr_4, hx⟩ := ZJ hx
 refine ZO (vs := [_]) (args := [_]) (K := []) (rst := []) E150 rfl rfl rfl ZK (ref02_Four_ok p_1 _ ha_2 _ hr_4) rfl (fun u_5 Ku_5 Hu_5 hRu_5 hleu_5 hfu_5 => ?_)
 obtain ⟨rfl, rfl, rfl, -⟩ := hRu_5
 refine ZA rfl rfl (R.idxAk 0 U160 S26 rfl rfl rfl rfl rfl) (ZA rfl rfl (ZG rfl) (ZD (ZC (ZW (ZS (vs := [.int .u32 (x_3.e0.toNat : Int)]) (K := []) (rst := []) (.inl rfl) rfl rfl (ZQ rfl rfl) ZK ?_)))))
 obtain rfl := Option.some.inj hx
 exact ⟨rfl, rfl, rfl, trivial⟩

set_option maxHeartbeats 8000000 in
theorem ref11_Block_ok (p_1 : Label) (H : Heaplet) (r : List UInt8) (hx : ref11_Block p_1 = some r) :
  Does Try.prog 79 #[.agg #[.int .u32 (p_1.Gen.toNat : Int), .int .u32 (p_1.Epoch.toNat : Int), .int .i64 p_1.Root.At, .int .u32 (p_1.Root.Birth.toNat : Int), .int .u32 (p_1.Root.Iv.toNat : Int), .int .u32 (p_1.Root.Tag.toNat : Int), .int .u32 (p_1.Root.Sum.toNat : Int)]] [] H (fun u K' H' => ∃ ao0 : Option Addr, ∃ n0 : Nat, ∃ cap0 : Nat, ∃ K0 : Own, u = .slice ao0 n0 cap0 ∧ K' = [K0] ∧ H = H' ∧ RowOf (New H H) RU8 0 5 1 (.slice ao0 n0 cap0) r K0 ∧ (∀ p ∈ K0, p.1 ∉ ids (List.flatten [])) ∧ True) := by
 refine Does.enterL (vs := [.agg #[.int .u32 (p_1.Gen.toNat : Int), .int .u32 (p_1.Epoch.toNat : Int), .int .i64 p_1.Root.At, .int .u32 (p_1.Root.Birth.toNat : Int), .int .u32 (p_1.Root.Iv.toNat : Int), .int .u32 (p_1.Root.Tag.toNat : Int), .int .u32 (p_1.Root.Sum.toNat : Int)]]) (l := [(0, .agg #[.int .u32 (p_1.Gen.toNat : Int), .int .u32 (p_1.Epoch.toNat : Int), .int .i64 p_1.Root.At, .int .u32 (p_1.Root.Birth.toNat : Int), .int .u32 (p_1.Root.Iv.toNat : Int), .int .u32 (p_1.Root.Tag.toNat : Int), .int .u32 (p_1.Root.Sum.toNat : Int)])]) Try.func79 rfl rfl ⟨rfl, trivial⟩ (fun w hlt => ?_)
 unfold ref11_Block at hx
 refine ZH (ZB (Z7 rfl rfl (fun b_2 hb_2 => ZA rfl rfl (ZG rfl) (ZD (ZC (ZH (ZB (JL.bslF (HF := (New H H)) (R := RU8) (ls := [(67 : UInt8)]) (vs := [.int .u8 ((67 : UInt8).toNat : Int)]) U45 I5 rfl rfl (⟨_, _, rfl, rfl, rfl, rfl⟩) RU8.one rfl rfl rfl (by simp [maxLen]) rfl (fun vr_3 Kr_3 hr_3 => ?_)))))))))
 obtain ⟨ar_3, cr_3, rfl⟩ := RowOf.val hr_3
 refine ZA rfl rfl (Zo F30_0 rfl) (ZA rfl rfl (ZZ 1 S26 rfl rfl rfl) ?_)
 obtain ⟨x_4, hr_5, hx⟩ := ZJ hx
 refine ZO (vs := [_, _]) (args := [_, _]) (K := []) (rst := [_, _]) E114 rfl rfl rfl ZK (ref10_Number_ok p_1.Gen 4 _ _ hr_5) rfl (fun u_6 Ku_6 Hu_6 hRu_6 hleu_6 hfu_6 => ?_)
 obtain ⟨ar_7, nr_7, cr_7, Kr_7, rfl, rfl, rfl, hr_7, hnewr_7, -⟩ := hRu_6
 replace hr_7 := (RowOf.base (Zj (H2 := New H H) RU8.const hr_7) (fun p hp => (hfu_6 p (Zk 0 rfl hp)).resolve_left (hnewr_7 p hp)))
 obtain ⟨q_8, hm_9, hl_10, hx⟩ := Zz hx
 refine Z2 (HF := (New H H)) 1 U45 I5 rfl rfl hr_3 rfl (SrcF.row 0 U45 rfl hr_7) hm_9 hl_10 rfl (Nat.le_refl _) rfl (fun vr_11 Kr_11 hr_11 => ?_)
 obtain ⟨ar_11, cr_11, rfl⟩ := RowOf.val hr_11
 refine ZA rfl rfl (ZG rfl) (ZD (ZC (ZH (ZB (ZA rfl rfl (ZI rfl) (ZA rfl rfl (Zo F30_1 rfl) (ZA rfl rfl (ZZ 2 S26 rfl rfl rfl) ?_)))))))
 obtain ⟨x_12, hr_13, hx⟩ := ZJ hx
 refine ZO (vs := [_, _]) (args := [_, _]) (K := []) (rst := [_, _, _]) E114 rfl rfl rfl ZK (ref10_Number_ok p_1.Epoch 4 _ _ hr_13) rfl (fun u_14 Ku_14 Hu_14 hRu_14 hleu_14 hfu_14 => ?_)
 obtain ⟨ar_15, nr_15, cr_15, Kr_15, rfl, rfl, rfl, hr_15, hnewr_15, -⟩ := hRu_14
 replace hr_15 := (RowOf.base (Zj (H2 := New H H) RU8.const hr_15) (fun p hp => (hfu_14 p (Zk 0 rfl hp)).resolve_left (hnewr_15 p hp)))
 obtain ⟨q_16, hm_17, hl_18, hx⟩ := Zz hx
 refine Z2 (HF := (New H H)) 2 U45 I5 rfl rfl hr_11 rfl (SrcF.row 0 U45 rfl hr_15) hm_17 hl_18 rfl (Nat.le_refl _) rfl (fun vr_19 Kr_19 hr_19 => ?_)
 obtain ⟨ar_19, cr_19, rfl⟩ := RowOf.val hr_19
 refine ZA rfl rfl (ZG rfl) (ZD (ZC (ZH (ZB (ZA rfl rfl (ZI rfl) (ZA rfl rfl (Zo F30_2 rfl) (ZA rfl rfl (Zh 3 (vs := [.int .i64 p_1.Root.At, .int .u32 (p_1.Root.Birth.toNat : Int), .int .u32 (p_1.Root.Iv.toNat : Int), .int .u32 (p_1.Root.Tag.toNat : Int), .int .u32 (p_1.Root.Sum.toNat : Int)]) S28 rfl rfl rfl rfl) ?_)))))))
 obtain ⟨x_20, hr_21, hx⟩ := ZJ hx
 refine ZO (vs := [_]) (args := [_]) (K := []) (rst := [_, _, _, _]) E115 rfl rfl rfl ZK (ref10_Bytes_ok (Ptr.mk p_1.Root.At p_1.Root.Birth p_1.Root.Iv p_1.Root.Tag p_1.Root.Sum) _ _ hr_21) rfl (fun u_22 Ku_22 Hu_22 hRu_22 hleu_22 hfu_22 => ?_)
 obtain ⟨ar_23, nr_23, cr_23, Kr_23, rfl, rfl, rfl, hr_23, hnewr_23, -⟩ := hRu_22
 replace hr_23 := (RowOf.base (Zj (H2 := New H H) RU8.const hr_23) (fun p hp => (hfu_22 p (Zk 0 rfl hp)).resolve_left (hnewr_23 p hp)))
 obtain ⟨q_24, hm_25, hl_26, hx⟩ := Zz hx
 refine Z2 (HF := (New H H)) 3 U45 I5 rfl rfl hr_19 rfl (SrcF.row 0 U45 rfl hr_23) hm_25 hl_26 rfl (Nat.le_refl _) rfl (fun vr_27 Kr_27 hr_27 => ?_)
 obtain ⟨ar_27, cr_27, rfl⟩ := RowOf.val hr_27
 refine ZA rfl rfl (ZG rfl) (ZD (ZC (ZH (ZB (ZA rfl rfl (ZI rfl) (ZA rfl rfl (ZI rfl) ?_))))))
 obtain ⟨x_31, hr_32, hx⟩ := ZJ hx
 refine JL.callL2 (vs := [_]) (v := .int .u32 (x_31.toNat : Int)) E116 rfl rfl (fun H_30 hle_29 hl_28 => Does.mono (ref02_Sum_ok q_24 _ (Lent.row' 3 hl_28 RU8.mono hle_29 rfl (hr_27.old RU8.mono)) _ hr_32) (fun _ _ _ h => h.1)) rfl ?_
 obtain ⟨x_33, hr_34, hx⟩ := ZJ hx
 refine ZO (vs := [_, _]) (args := [_, _]) (K := []) (rst := [_, _, _, _, _]) E114 rfl rfl rfl ZK (ref10_Number_ok x_31 4 _ _ hr_34) rfl (fun u_35 Ku_35 Hu_35 hRu_35 hleu_35 hfu_35 => ?_)
 obtain ⟨ar_36, nr_36, cr_36, Kr_36, rfl, rfl, rfl, hr_36, hnewr_36, -⟩ := hRu_35
 replace hr_36 := (RowOf.base (Zj (H2 := New H H) RU8.const hr_36) (fun p hp => (hfu_35 p (Zk 0 rfl hp)).resolve_left (hnewr_36 p hp)))
 obtain ⟨q_37, hm_38, hl_39, hx⟩ := Zz hx
 refine Z2 (HF := (New H H)) 4 U45 I5 rfl rfl hr_27 rfl (SrcF.row 0 U45 rfl hr_36) hm_38 hl_39 rfl (Nat.le_refl _) rfl (fun vr_40 Kr_40 hr_40 => ?_)
 obtain ⟨ar_40, cr_40, rfl⟩ := RowOf.val hr_40
 refine ZA rfl rfl (ZG rfl) (ZD (ZC (ZH (ZB (ZA rfl rfl (ZI rfl) ?_)))))
 obtain ⟨z_43, hz_42, hc_41, hx⟩ := mks_some hx
 obtain ⟨q_44, hm_45, hl_46, hx⟩ := Zz hx
 refine JL.appZR (HF := (New H H)) (y := (0 : UInt8)) 4 U45 U3 I5 rfl rfl hr_40 rfl (fun _ => rfl) RU8.one hz_42 hc_41 hm_45 hl_46 rfl (Nat.le_refl _) rfl (fun vr_47 Kr_47 hr_47 => ?_)
 obtain ⟨ar_47, cr_47, rfl⟩ := RowOf.val hr_47
 refine ZA rfl rfl (ZG rfl) (ZD (ZC (ZW (ZS (vs := [.slice ar_47 q_44.length cr_47]) (K := [_]) (rst := [_, _, _, _, _]) (.inl rfl) rfl rfl (ZQ rfl rfl) (Ze 4 rfl ZK) ?_))))
 obtain rfl := Option.some.inj hx
 exact ⟨ar_47, q_44.length, cr_47, Kr_47, rfl, rfl, rfl, (Zs (Nat.zero_le _) hr_47), (new_ids hr_47 hlt), trivial⟩

set_option maxHeartbeats 8000000 in
theorem ref09_With_ok (p_1 : Disk) (p_4 : Int) (p_5 : List UInt8) (H : Heaplet) {aa_2 : Option Addr} {na_2 : Nat} {ca_2 : Nat} {aa_3 : Option Addr} {na_3 : Nat} {ca_3 : Nat} {aa_6 : Option Addr} {na_6 : Nat} {ca_6 : Nat} (ha_2 : IsSlice H (RSl RU8 1) 1 (.slice aa_2 na_2 ca_2) p_1.Blocks) (ha_3 : IsSlice H R_Write 2 (.slice aa_3 na_3 ca_3) p_1.Waits) (ha_6 : IsSlice H RU8 1 (.slice aa_6 na_6 ca_6) p_5) (r : Disk) (hx : ref09_With p_1 p_4 p_5 = some r) :
  Does Try.prog 78 #[.agg #[.slice aa_2 na_2 ca_2, .slice aa_3 na_3 ca_3], .int .i64 p_4, .slice aa_6 na_6 ca_6] [] H (fun u K' H' => ∃ ao0 : Option Addr, ∃ n0 : Nat, ∃ cap0 : Nat, ∃ K0 : Own, ∃ ao1 : Option Addr, ∃ n1 : Nat, ∃ cap1 : Nat, ∃ K1 : Own, u = .agg #[.slice ao0 n0 cap0, .slice ao1 n1 cap1] ∧ K' = [K0, K1] ∧ RowOf (New H H') (RSl RU8 1) 0 45 1 (.slice ao0 n0 cap0) r.Blocks K0 ∧ (∀ p ∈ K0, p.1 ∉ ids (List.flatten [])) ∧ RowOf (New H H') R_Write 0 47 2 (.slice ao1 n1 cap1) r.Waits K1 ∧ (∀ p ∈ K1, p.1 ∉ ids (List.flatten [])) ∧ True) := by
 refine Does.enterL (vs := [.agg #[.slice aa_2 na_2 ca_2, .slice aa_3 na_3 ca_3], .int .i64 p_4, .slice aa_6 na_6 ca_6]) (l := [(0, .agg #[.slice aa_2 na_2 ca_2, .slice aa_3 na_3 ca_3]), (1, .int .i64 p_4), (2, .slice aa_6 na_6 ca_6)]) Try.func78 rfl rfl ⟨rfl, rfl, rfl, trivial⟩ (fun w hlt => ?_)
 unfold ref09_With at hx
 refine ZH (ZB (Z7 rfl rfl (fun b_7 hb_7 => JL.alloc Z25 rfl (fun b_8 hb_8 => ZD (ZC (ZH (ZB (ZA rfl rfl (Zh 1 (vs := [.slice aa_2 na_2 ca_2, .slice aa_3 na_3 ca_3]) S25 rfl rfl rfl rfl) ?_))))))))
 obtain ⟨x_9, hr_10, hx⟩ := ZJ hx
 refine ZO (vs := [_]) (args := [_]) (K := []) (rst := [_, _]) E11 rfl rfl rfl ZK (ref09_Twin_ok p_1 _ ha_2 ha_3 _ hr_10) rfl (fun u_11 Ku_11 Hu_11 hRu_11 hleu_11 hfu_11 => ?_)
 obtain ⟨ar_12, nr_12, cr_12, Kr_12, ar_13, nr_13, cr_13, Kr_13, rfl, rfl, hr_12, hnewr_12, hr_13, hnewr_13, -⟩ := hRu_11
 replace hr_12 := (RowOf.base (RowOf.mono (RSl.mono RU8.mono) (New.call (Hle.refl _)) hr_12) (fun p hp => (hfu_11 p (Zk 0 rfl hp)).resolve_left (hnewr_12 p hp)))
 replace hr_13 := (RowOf.base (RowOf.mono R_Write.mono (New.call (Hle.refl _)) hr_13) (fun p hp => (hfu_11 p (Zk 1 rfl hp)).resolve_left (hnewr_13 p hp)))
 refine JL.alloc Z25 rfl (fun b_14 hb_14 => ZP 0 S25 rfl rfl rfl rfl rfl (Nat.le_of_ble_eq_true rfl) (ZD (ZC (ZH ?_))))
 obtain ⟨t_15, ht_17, hx⟩ := ZJ hx
 refine Zy (fun l o g => ∃ H_29 : Heaplet, ∃ ar_30 : Option Addr, ∃ nr_30 : Nat, ∃ cr_30 : Nat, ∃ Kr_30 : Own, l = [(6, .pointer (some ⟨b_8, 0, none⟩)), (7, .pointer (some ⟨b_14, 0, none⟩))] ∧ o = [[(b_8, .cells #[.slice none 0 0, .slice none 0 0] 25 (0, 0))], [(b_14, .cells #[.slice ar_12 nr_12 cr_12, .slice ar_30 nr_30 cr_30] 25 (0, 0))], Kr_12, Kr_30] ∧ H_29 = g ∧ Hle Hu_11 H_29 ∧ RowOf (New H H_29) R_Write w.heap.size 47 2 (.slice ar_30 nr_30 cr_30) t_15 Kr_30) ?_ ?_
 ·
  rintro _ _ _ ⟨H_29, ar_30, nr_30, cr_30, Kr_30, rfl, rfl, rfl, hleH_29, hr_30⟩
  refine ZC (ZH (ZB (ZA rfl rfl (Zh 1 (vs := [.slice ar_12 nr_12 cr_12, .slice ar_30 nr_30 cr_30]) S25 rfl rfl rfl rfl) (ZP 0 S25 rfl rfl rfl rfl rfl (Nat.le_of_ble_eq_true rfl) (ZD (ZC (ZW (ZS (vs := [.agg #[.slice ar_12 nr_12 cr_12, .slice ar_30 nr_30 cr_30]]) (K := [_, _]) (rst := [_, _]) (.inl rfl) rfl rfl (Zq 0 rfl rfl S25 rfl) (Ze 2 rfl (Ze 2 rfl ZK)) ?_))))))))
  obtain rfl := Option.some.inj hx
  exact ⟨ar_12, nr_12, cr_12, Kr_12, ar_30, nr_30, cr_30, Kr_30, rfl, rfl, (Zs (Nat.zero_le _) (hr_12.mono (RSl.mono RU8.mono) (New.mono hleH_29))), (new_ids (hr_12.mono (RSl.mono RU8.mono) (New.mono hleH_29)) hlt), (Zs (Nat.zero_le _) hr_30), (new_ids hr_30 hlt), trivial⟩
 ·
  have hxo_16 := hx; clear hx; have hx := ht_17; clear ht_17
  refine JC.draw (so := [_, _, _]) 10 rfl Mixed ⟨⟨1, rfl⟩, ⟨3, rfl⟩, ⟨4, rfl⟩, trivial⟩ (JA.val ⟨by kernel_rfl, by kernel_rfl⟩ (ZF _) (i := 0) rfl ⟨by kernel_rfl, by kernel_rfl, rfl⟩ trivial (ZE (Hle.refl _) ⟨⟨1, rfl⟩, ⟨3, rfl⟩, ⟨4, rfl⟩, trivial⟩) (Zo F25_1 rfl) rfl (JA.val ⟨by kernel_rfl, by kernel_rfl⟩ (ZF _) (i := 2) rfl ⟨by kernel_rfl, by kernel_rfl, rfl⟩ trivial (ZE (Hle.refl _) ⟨⟨1, rfl⟩, ⟨3, rfl⟩, ⟨4, rfl⟩, trivial⟩) (ZI rfl) rfl (JA.val ⟨by kernel_rfl, by kernel_rfl⟩ (ZF _) (i := 3) rfl ⟨by kernel_rfl, by kernel_rfl, rfl⟩ trivial (ZE (Hle.refl _) ⟨⟨1, rfl⟩, ⟨3, rfl⟩, ⟨4, rfl⟩, trivial⟩) (ZI rfl) rfl ?_)))
  obtain ⟨q_19, hm_20, hl_21, hx⟩ := Zz hx
  obtain ⟨q_25, hm_26, hl_27, hx⟩ := Zz hx
  refine JA.two (i := 1) (j := 4) (by kernel_rfl) ?_ ?_
  ·
   refine JO.step rfl trivial rfl (fun K hK => ZA rfl rfl (ZZ 0 S23 rfl rfl rfl) (ZD (hK _ _ _ (ZE (Hle.refl _) ⟨⟨1, rfl⟩, ⟨3, rfl⟩, ⟨4, rfl⟩, trivial⟩) (JA.one (i := 4) (by kernel_rfl) (JO.step rfl trivial rfl (fun K hK => JL.seg0 (Z2 (HF := (New H Hu_11)) 0 U45 I5 rfl rfl (Zn _ RU8 _ _ _) rfl (SrcF.sliceC RU8.const RU8.one U45 (ha_6.mono RU8.mono hleu_11)) hm_20 hl_21 rfl (Nat.le_refl _) rfl (fun vr_22 Kr_22 hr_22 => ?_))))))))
   obtain ⟨ar_22, cr_22, rfl⟩ := RowOf.val hr_22
   refine ZD (hK _ _ _ (ZE (Hle.refl _) ⟨⟨2, rfl⟩, ⟨4, rfl⟩, ⟨5, rfl⟩, trivial⟩) (JA.val ⟨by kernel_rfl, by kernel_rfl⟩ (ZF _) (i := 5) rfl ⟨by kernel_rfl, by kernel_rfl, rfl⟩ trivial (ZE (Hle.refl _) ⟨⟨2, rfl⟩, ⟨4, rfl⟩, ⟨5, rfl⟩, trivial⟩) (R.bldP (vs := [(0, .int .i64 p_4), (1, .slice ar_22 q_19.length cr_22)]) (cs := [.int .i64 p_4, .slice ar_22 q_19.length cr_22]) Z47 B47 rfl rfl rfl) rfl (JA.one (i := 6) (by kernel_rfl) (JO.step rfl trivial rfl (fun K hK => JL.pubN 0 RU8.mono rfl hr_22 (Nat.le_refl _) (fun H_23 hleH_23 hsH_23 => JL.forget 0 (JL.bslF (HF := (New H H_23)) (R := R_Write) (ls := [Write.mk p_4 q_19]) (vs := [.agg #[.int .i64 p_4, .slice ar_22 q_19.length cr_22]]) U23 I47 rfl rfl (⟨_, _, rfl, rfl, ⟨_, rfl, hsH_23⟩, rfl⟩) R_Write.one rfl rfl rfl (by simp [maxLen]) rfl (fun vr_24 Kr_24 hr_24 => ?_))))))))
   obtain ⟨ar_24, cr_24, rfl⟩ := RowOf.val hr_24
   refine ZD (hK _ _ _ (ZE hleH_23 ⟨⟨2, rfl⟩, ⟨4, rfl⟩, ⟨5, rfl⟩, trivial⟩) (JA.one (i := 7) (by kernel_rfl) (JO.step rfl trivial rfl (fun K hK => Z2 (HF := (New H H_23)) 3 U23 I47 rfl rfl (hr_13.mono R_Write.mono (New.mono hleH_23)) rfl (SrcF.row 0 U23 rfl hr_24) hm_26 hl_27 rfl (Nat.le_refl _) rfl (fun vr_28 Kr_28 hr_28 => ?_)))))
   obtain ⟨ar_28, cr_28, rfl⟩ := RowOf.val hr_28
   refine ZD (hK _ _ _ (ZE hleH_23 ⟨⟨2, rfl⟩, ⟨4, rfl⟩, ⟨5, rfl⟩, trivial⟩) (JA.val ⟨by kernel_rfl, by kernel_rfl⟩ (ZF _) (i := 8) rfl ⟨by kernel_rfl, by kernel_rfl, rfl⟩ trivial (ZE hleH_23 ⟨⟨2, rfl⟩, ⟨4, rfl⟩, ⟨5, rfl⟩, trivial⟩) (Zo F25_1 rfl) rfl (JA.one (i := 9) (by kernel_rfl) (JO.step rfl trivial rfl (fun K hK => ZP 1 S23 rfl rfl rfl rfl rfl (Nat.le_of_ble_eq_true rfl) (ZD (hK _ _ _ (ZE hleH_23 ⟨⟨2, rfl⟩, ⟨4, rfl⟩, ⟨5, rfl⟩, trivial⟩) (Zg (by kernel_rfl) ?_))))))))
   obtain rfl := Option.some.inj hx
   refine JN.forget 5 (JN.forget 0 (ZL 2 rfl (ZL 2 rfl (ZL 2 rfl (ZL 3 rfl ?_)))))
   exact ZR ⟨H_23, ar_28, q_25.length, cr_28, Kr_28, rfl, rfl, rfl, (hleH_23), hr_28⟩ ⟨rfl, rfl, trivial⟩ rfl rfl
  ·
   refine JO.step rfl trivial rfl (fun K hK => JL.seg0 (Z2 (HF := (New H Hu_11)) 0 U45 I5 rfl rfl (Zn _ RU8 _ _ _) rfl (SrcF.sliceC RU8.const RU8.one U45 (ha_6.mono RU8.mono hleu_11)) hm_20 hl_21 rfl (Nat.le_refl _) rfl (fun vr_22 Kr_22 hr_22 => ?_)))
   obtain ⟨ar_22, cr_22, rfl⟩ := RowOf.val hr_22
   refine ZD (hK _ _ _ (ZE (Hle.refl _) ⟨⟨2, rfl⟩, ⟨4, rfl⟩, ⟨5, rfl⟩, trivial⟩) (JA.val ⟨by kernel_rfl, by kernel_rfl⟩ (ZF _) (i := 5) rfl ⟨by kernel_rfl, by kernel_rfl, rfl⟩ trivial (ZE (Hle.refl _) ⟨⟨2, rfl⟩, ⟨4, rfl⟩, ⟨5, rfl⟩, trivial⟩) (R.bldP (vs := [(0, .int .i64 p_4), (1, .slice ar_22 q_19.length cr_22)]) (cs := [.int .i64 p_4, .slice ar_22 q_19.length cr_22]) Z47 B47 rfl rfl rfl) rfl (JA.two (i := 1) (j := 6) (by kernel_rfl) ?_ ?_)))
   ·
    refine JO.step rfl trivial rfl (fun K hK => ZA rfl rfl (ZZ 1 S23 rfl rfl rfl) (ZD (hK _ _ _ (ZE (Hle.refl _) ⟨⟨2, rfl⟩, ⟨4, rfl⟩, ⟨5, rfl⟩, trivial⟩) (JA.one (i := 6) (by kernel_rfl) (JO.step rfl trivial rfl (fun K hK => JL.pubN 0 RU8.mono rfl hr_22 (Nat.le_refl _) (fun H_23 hleH_23 hsH_23 => JL.forget 0 (JL.bslF (HF := (New H H_23)) (R := R_Write) (ls := [Write.mk p_4 q_19]) (vs := [.agg #[.int .i64 p_4, .slice ar_22 q_19.length cr_22]]) U23 I47 rfl rfl (⟨_, _, rfl, rfl, ⟨_, rfl, hsH_23⟩, rfl⟩) R_Write.one rfl rfl rfl (by simp [maxLen]) rfl (fun vr_24 Kr_24 hr_24 => ?_)))))))))
    obtain ⟨ar_24, cr_24, rfl⟩ := RowOf.val hr_24
    refine ZD (hK _ _ _ (ZE hleH_23 ⟨⟨2, rfl⟩, ⟨4, rfl⟩, ⟨5, rfl⟩, trivial⟩) (JA.one (i := 7) (by kernel_rfl) (JO.step rfl trivial rfl (fun K hK => Z2 (HF := (New H H_23)) 3 U23 I47 rfl rfl (hr_13.mono R_Write.mono (New.mono hleH_23)) rfl (SrcF.row 0 U23 rfl hr_24) hm_26 hl_27 rfl (Nat.le_refl _) rfl (fun vr_28 Kr_28 hr_28 => ?_)))))
    obtain ⟨ar_28, cr_28, rfl⟩ := RowOf.val hr_28
    refine ZD (hK _ _ _ (ZE hleH_23 ⟨⟨2, rfl⟩, ⟨4, rfl⟩, ⟨5, rfl⟩, trivial⟩) (JA.val ⟨by kernel_rfl, by kernel_rfl⟩ (ZF _) (i := 8) rfl ⟨by kernel_rfl, by kernel_rfl, rfl⟩ trivial (ZE hleH_23 ⟨⟨2, rfl⟩, ⟨4, rfl⟩, ⟨5, rfl⟩, trivial⟩) (Zo F25_1 rfl) rfl (JA.one (i := 9) (by kernel_rfl) (JO.step rfl trivial rfl (fun K hK => ZP 1 S23 rfl rfl rfl rfl rfl (Nat.le_of_ble_eq_true rfl) (ZD (hK _ _ _ (ZE hleH_23 ⟨⟨2, rfl⟩, ⟨4, rfl⟩, ⟨5, rfl⟩, trivial⟩) (Zg (by kernel_rfl) ?_))))))))
    obtain rfl := Option.some.inj hx
    refine JN.forget 5 (JN.forget 0 (ZL 2 rfl (ZL 2 rfl (ZL 2 rfl (ZL 3 rfl ?_)))))
    exact ZR ⟨H_23, ar_28, q_25.length, cr_28, Kr_28, rfl, rfl, rfl, (hleH_23), hr_28⟩ ⟨rfl, rfl, trivial⟩ rfl rfl
   ·
    refine JO.step rfl trivial rfl (fun K hK => JL.pubN 0 RU8.mono rfl hr_22 (Nat.le_refl _) (fun H_23 hleH_23 hsH_23 => JL.forget 0 (JL.bslF (HF := (New H H_23)) (R := R_Write) (ls := [Write.mk p_4 q_19]) (vs := [.agg #[.int .i64 p_4, .slice ar_22 q_19.length cr_22]]) U23 I47 rfl rfl (⟨_, _, rfl, rfl, ⟨_, rfl, hsH_23⟩, rfl⟩) R_Write.one rfl rfl rfl (by simp [maxLen]) rfl (fun vr_24 Kr_24 hr_24 => ?_))))
    obtain ⟨ar_24, cr_24, rfl⟩ := RowOf.val hr_24
    refine ZD (hK _ _ _ (ZE hleH_23 ⟨⟨2, rfl⟩, ⟨4, rfl⟩, ⟨5, rfl⟩, trivial⟩) (JA.one (i := 1) (by kernel_rfl) (JO.step rfl trivial rfl (fun K hK => ZA rfl rfl (ZZ 1 S23 rfl rfl rfl) (ZD (hK _ _ _ (ZE hleH_23 ⟨⟨2, rfl⟩, ⟨4, rfl⟩, ⟨5, rfl⟩, trivial⟩) (JA.one (i := 7) (by kernel_rfl) (JO.step rfl trivial rfl (fun K hK => Z2 (HF := (New H H_23)) 3 U23 I47 rfl rfl (hr_13.mono R_Write.mono (New.mono hleH_23)) rfl (SrcF.row 0 U23 rfl hr_24) hm_26 hl_27 rfl (Nat.le_refl _) rfl (fun vr_28 Kr_28 hr_28 => ?_))))))))))
    obtain ⟨ar_28, cr_28, rfl⟩ := RowOf.val hr_28
    refine ZD (hK _ _ _ (ZE hleH_23 ⟨⟨2, rfl⟩, ⟨4, rfl⟩, ⟨5, rfl⟩, trivial⟩) (JA.val ⟨by kernel_rfl, by kernel_rfl⟩ (ZF _) (i := 8) rfl ⟨by kernel_rfl, by kernel_rfl, rfl⟩ trivial (ZE hleH_23 ⟨⟨2, rfl⟩, ⟨4, rfl⟩, ⟨5, rfl⟩, trivial⟩) (Zo F25_1 rfl) rfl (JA.one (i := 9) (by kernel_rfl) (JO.step rfl trivial rfl (fun K hK => ZP 1 S23 rfl rfl rfl rfl rfl (Nat.le_of_ble_eq_true rfl) (ZD (hK _ _ _ (ZE hleH_23 ⟨⟨2, rfl⟩, ⟨4, rfl⟩, ⟨5, rfl⟩, trivial⟩) (Zg (by kernel_rfl) ?_))))))))
    obtain rfl := Option.some.inj hx
    refine JN.forget 5 (JN.forget 0 (ZL 2 rfl (ZL 2 rfl (ZL 2 rfl (ZL 3 rfl ?_)))))
    exact ZR ⟨H_23, ar_28, q_25.length, cr_28, Kr_28, rfl, rfl, rfl, (hleH_23), hr_28⟩ ⟨rfl, rfl, trivial⟩ rfl rfl

set_option maxHeartbeats 8000000 in
theorem ref11_With_ok (p_1 : Disk) (p_4 : Label) (H : Heaplet) {aa_2 : Option Addr} {na_2 : Nat} {ca_2 : Nat} {aa_3 : Option Addr} {na_3 : Nat} {ca_3 : Nat} (ha_2 : IsSlice H (RSl RU8 1) 1 (.slice aa_2 na_2 ca_2) p_1.Blocks) (ha_3 : IsSlice H R_Write 2 (.slice aa_3 na_3 ca_3) p_1.Waits) (r : Disk) (hx : ref11_With p_1 p_4 = some r) :
  Does Try.prog 42 #[.agg #[.slice aa_2 na_2 ca_2, .slice aa_3 na_3 ca_3], .agg #[.int .u32 (p_4.Gen.toNat : Int), .int .u32 (p_4.Epoch.toNat : Int), .int .i64 p_4.Root.At, .int .u32 (p_4.Root.Birth.toNat : Int), .int .u32 (p_4.Root.Iv.toNat : Int), .int .u32 (p_4.Root.Tag.toNat : Int), .int .u32 (p_4.Root.Sum.toNat : Int)]] [] H (fun u K' H' => ∃ ao0 : Option Addr, ∃ n0 : Nat, ∃ cap0 : Nat, ∃ K0 : Own, ∃ ao1 : Option Addr, ∃ n1 : Nat, ∃ cap1 : Nat, ∃ K1 : Own, u = .agg #[.slice ao0 n0 cap0, .slice ao1 n1 cap1] ∧ K' = [K0, K1] ∧ RowOf (New H H') (RSl RU8 1) 0 45 1 (.slice ao0 n0 cap0) r.Blocks K0 ∧ (∀ p ∈ K0, p.1 ∉ ids (List.flatten [])) ∧ RowOf (New H H') R_Write 0 47 2 (.slice ao1 n1 cap1) r.Waits K1 ∧ (∀ p ∈ K1, p.1 ∉ ids (List.flatten [])) ∧ True) := by
 refine Does.enterL (vs := [.agg #[.slice aa_2 na_2 ca_2, .slice aa_3 na_3 ca_3], .agg #[.int .u32 (p_4.Gen.toNat : Int), .int .u32 (p_4.Epoch.toNat : Int), .int .i64 p_4.Root.At, .int .u32 (p_4.Root.Birth.toNat : Int), .int .u32 (p_4.Root.Iv.toNat : Int), .int .u32 (p_4.Root.Tag.toNat : Int), .int .u32 (p_4.Root.Sum.toNat : Int)]]) (l := [(0, .agg #[.slice aa_2 na_2 ca_2, .slice aa_3 na_3 ca_3]), (1, .agg #[.int .u32 (p_4.Gen.toNat : Int), .int .u32 (p_4.Epoch.toNat : Int), .int .i64 p_4.Root.At, .int .u32 (p_4.Root.Birth.toNat : Int), .int .u32 (p_4.Root.Iv.toNat : Int), .int .u32 (p_4.Root.Tag.toNat : Int), .int .u32 (p_4.Root.Sum.toNat : Int)])]) Try.func42 rfl rfl ⟨rfl, rfl, trivial⟩ (fun w hlt => ?_)
 unfold ref11_With at hx
 refine ZH (ZB (Z7 rfl rfl (fun b_5 hb_5 => Z7 rfl rfl (fun b_6 hb_6 => JL.alloc Z25 rfl (fun b_7 hb_7 => ZD (ZC (ZH (JC.draw (so := [_, _]) 8 rfl Mixed ⟨⟨1, rfl⟩, ⟨2, rfl⟩, trivial⟩ (JA.val ⟨by kernel_rfl, by kernel_rfl⟩ (ZF _) (i := 0) rfl ⟨by kernel_rfl, by kernel_rfl, rfl⟩ trivial (ZE (Hle.refl _) ⟨⟨1, rfl⟩, ⟨2, rfl⟩, trivial⟩) (Zh 1 (vs := [.slice aa_2 na_2 ca_2, .slice aa_3 na_3 ca_3]) S25 rfl rfl rfl rfl) rfl (JA.val ⟨by kernel_rfl, by kernel_rfl⟩ (ZF _) (i := 1) rfl ⟨by kernel_rfl, by kernel_rfl, rfl⟩ trivial (ZE (Hle.refl _) ⟨⟨1, rfl⟩, ⟨2, rfl⟩, trivial⟩) (Zo F30_0 rfl) rfl (JA.val ⟨by kernel_rfl, by kernel_rfl⟩ (ZF _) (i := 2) rfl ⟨by kernel_rfl, by kernel_rfl, rfl⟩ trivial (ZE (Hle.refl _) ⟨⟨1, rfl⟩, ⟨2, rfl⟩, trivial⟩) (ZZ 0 S26 rfl rfl rfl) rfl ?_)))))))))))
 refine JA.val ⟨by kernel_rfl, by kernel_rfl⟩ (ZF _) (i := 4) rfl ⟨by kernel_rfl, by kernel_rfl, rfl⟩ trivial (ZE (Hle.refl _) ⟨⟨1, rfl⟩, ⟨2, rfl⟩, trivial⟩) (Zh 0 (vs := [.int .u32 (p_4.Gen.toNat : Int), .int .u32 (p_4.Epoch.toNat : Int), .int .i64 p_4.Root.At, .int .u32 (p_4.Root.Birth.toNat : Int), .int .u32 (p_4.Root.Iv.toNat : Int), .int .u32 (p_4.Root.Tag.toNat : Int), .int .u32 (p_4.Root.Sum.toNat : Int)]) S30 rfl rfl rfl rfl) rfl (JA.one (i := 3) (by kernel_rfl) (JO.step rfl trivial rfl (fun K hK => ?_)))
 obtain ⟨x_8, hr_9, hx⟩ := ZJ hx
 refine ZO (vs := [_]) (args := [_]) (K := []) (rst := [_, _, _]) E18 rfl rfl rfl ZK (ref11_Slot_ok p_4.Gen _ _ hr_9) rfl (fun u_10 Ku_10 Hu_10 hRu_10 hleu_10 hfu_10 => ?_)
 obtain ⟨rfl, rfl, rfl, -⟩ := hRu_10
 refine ZD (hK _ _ _ (ZE (Hle.refl _) ⟨⟨1, rfl⟩, ⟨2, rfl⟩, trivial⟩) (JA.one (i := 5) (by kernel_rfl) (JO.step rfl trivial rfl (fun K hK => ?_))))
 obtain ⟨x_11, hr_12, hx⟩ := ZJ hx
 refine ZO (vs := [_]) (args := [_]) (K := []) (rst := [_, _, _]) E79 rfl rfl rfl ZK (ref11_Block_ok p_4 _ _ hr_12) rfl (fun u_13 Ku_13 Hu_13 hRu_13 hleu_13 hfu_13 => ?_)
 obtain ⟨ar_14, nr_14, cr_14, Kr_14, rfl, rfl, rfl, hr_14, hnewr_14, -⟩ := hRu_13
 replace hr_14 := (RowOf.base (Zj (H2 := New H H) RU8.const hr_14) (fun p hp => (hfu_13 p (Zk 0 rfl hp)).resolve_left (hnewr_14 p hp)))
 refine ZD (hK _ _ _ (ZE (Hle.refl _) ⟨⟨2, rfl⟩, ⟨3, rfl⟩, trivial⟩) (JA.one (i := 6) (by kernel_rfl) (JO.step rfl trivial rfl (fun K hK => JL.pubN 0 RU8.mono rfl hr_14 (Nat.le_refl _) (fun H_15 hleH_15 hsH_15 => JL.forget 0 ?_)))))
 obtain ⟨x_16, hr_17, hx⟩ := ZJ hx
 refine ZO (vs := [_, _, _]) (args := [_, _, _]) (K := []) (rst := [_, _, _]) E78 rfl rfl rfl ZK (ref09_With_ok p_1 x_8 x_11 _ (ha_2.mono (RSl.mono RU8.mono) hleH_15) (ha_3.mono R_Write.mono hleH_15) (hsH_15.old RU8.mono) _ hr_17) rfl (fun u_18 Ku_18 Hu_18 hRu_18 hleu_18 hfu_18 => ?_)
 obtain ⟨ar_19, nr_19, cr_19, Kr_19, ar_20, nr_20, cr_20, Kr_20, rfl, rfl, hr_19, hnewr_19, hr_20, hnewr_20, -⟩ := hRu_18
 replace hr_19 := (RowOf.base (RowOf.mono (RSl.mono RU8.mono) (New.call hleH_15) hr_19) (fun p hp => (hfu_18 p (Zk 0 rfl hp)).resolve_left (hnewr_19 p hp)))
 replace hr_20 := (RowOf.base (RowOf.mono R_Write.mono (New.call hleH_15) hr_20) (fun p hp => (hfu_18 p (Zk 1 rfl hp)).resolve_left (hnewr_20 p hp)))
 refine ZD (hK _ _ _ (ZE (hleH_15.trans hleu_18) ⟨⟨3, rfl⟩, ⟨4, rfl⟩, trivial⟩) (JA.one (i := 7) (by kernel_rfl) (JO.step rfl trivial rfl (fun K hK => ZP 2 S25 rfl rfl rfl rfl rfl (Nat.le_of_ble_eq_true rfl) (ZD (hK _ _ _ (ZE (hleH_15.trans hleu_18) ⟨⟨3, rfl⟩, ⟨4, rfl⟩, trivial⟩) (Zg (by kernel_rfl) (ZC (ZW (ZS (vs := [.agg #[.slice ar_19 nr_19 cr_19, .slice ar_20 nr_20 cr_20]]) (K := [_, _]) (rst := [_, _, _]) (.inl rfl) rfl rfl (Zq 2 rfl rfl S25 rfl) (Ze 0 rfl (Ze 0 rfl ZK)) ?_))))))))))
 obtain rfl := Option.some.inj hx
 exact ⟨ar_19, nr_19, cr_19, Kr_19, ar_20, nr_20, cr_20, Kr_20, rfl, rfl, (Zs (Nat.zero_le _) hr_19), (new_ids hr_19 hlt), (Zs (Nat.zero_le _) hr_20), (new_ids hr_20 hlt), trivial⟩

set_option maxHeartbeats 8000000 in
theorem ref11_Put_ok (p_1 : Disk) (p_4 : Label) (H : Heaplet) {aa_2 : Option Addr} {na_2 : Nat} {ca_2 : Nat} {aa_3 : Option Addr} {na_3 : Nat} {ca_3 : Nat} (ha_2 : IsSlice H (RSl RU8 1) 1 (.slice aa_2 na_2 ca_2) p_1.Blocks) (ha_3 : IsSlice H R_Write 2 (.slice aa_3 na_3 ca_3) p_1.Waits) (r : Disk × Int) (hx : ref11_Put p_1 p_4 = some r) :
  Does Try.prog 13 #[.agg #[.slice aa_2 na_2 ca_2, .slice aa_3 na_3 ca_3], .agg #[.int .u32 (p_4.Gen.toNat : Int), .int .u32 (p_4.Epoch.toNat : Int), .int .i64 p_4.Root.At, .int .u32 (p_4.Root.Birth.toNat : Int), .int .u32 (p_4.Root.Iv.toNat : Int), .int .u32 (p_4.Root.Tag.toNat : Int), .int .u32 (p_4.Root.Sum.toNat : Int)]] [] H (fun u K' H' => ∃ ao0 : Option Addr, ∃ n0 : Nat, ∃ cap0 : Nat, ∃ K0 : Own, ∃ ao1 : Option Addr, ∃ n1 : Nat, ∃ cap1 : Nat, ∃ K1 : Own, u = .tuple #[.agg #[.slice ao0 n0 cap0, .slice ao1 n1 cap1], .int .i64 r.2] ∧ K' = [K0, K1] ∧ RowOf (New H H') (RSl RU8 1) 0 45 1 (.slice ao0 n0 cap0) r.1.Blocks K0 ∧ (∀ p ∈ K0, p.1 ∉ ids (List.flatten [])) ∧ RowOf (New H H') R_Write 0 47 2 (.slice ao1 n1 cap1) r.1.Waits K1 ∧ (∀ p ∈ K1, p.1 ∉ ids (List.flatten [])) ∧ True) := by
 refine Does.enterL (vs := [.agg #[.slice aa_2 na_2 ca_2, .slice aa_3 na_3 ca_3], .agg #[.int .u32 (p_4.Gen.toNat : Int), .int .u32 (p_4.Epoch.toNat : Int), .int .i64 p_4.Root.At, .int .u32 (p_4.Root.Birth.toNat : Int), .int .u32 (p_4.Root.Iv.toNat : Int), .int .u32 (p_4.Root.Tag.toNat : Int), .int .u32 (p_4.Root.Sum.toNat : Int)]]) (l := [(0, .agg #[.slice aa_2 na_2 ca_2, .slice aa_3 na_3 ca_3]), (1, .agg #[.int .u32 (p_4.Gen.toNat : Int), .int .u32 (p_4.Epoch.toNat : Int), .int .i64 p_4.Root.At, .int .u32 (p_4.Root.Birth.toNat : Int), .int .u32 (p_4.Root.Iv.toNat : Int), .int .u32 (p_4.Root.Tag.toNat : Int), .int .u32 (p_4.Root.Sum.toNat : Int)])]) Try.func13 rfl rfl ⟨rfl, rfl, trivial⟩ (fun w hlt => ?_)
 unfold ref11_Put at hx
 refine ZH (ZB (Z7 rfl rfl (fun b_5 hb_5 => Z7 rfl rfl (fun b_6 hb_6 => JL.alloc Z25 rfl (fun b_7 hb_7 => ZA rfl rfl (ZG rfl) (ZD (ZC (ZH (ZH (ZB (ZA rfl rfl (Zh 2 (vs := [.slice aa_2 na_2 ca_2, .slice aa_3 na_3 ca_3]) S25 rfl rfl rfl rfl) ?_)))))))))))
 obtain ⟨x_8, hr_9, hx⟩ := ZJ hx
 refine ZO (vs := [_]) (args := [_]) (K := []) (rst := [_, _, _]) E40 rfl rfl rfl ZK (ref09_May_ok p_1 _ ha_2 ha_3 _ hr_9) rfl (fun u_10 Ku_10 Hu_10 hRu_10 hleu_10 hfu_10 => ?_)
 obtain ⟨rfl, rfl, rfl, -⟩ := hRu_10
 refine ZA rfl rfl (R.not rfl) (ZA rfl rfl (ZI rfl) (Zi (t := 9) rfl (fun c_11 => ?_) (fun c_11 => ?_)))
 ·
  replace hx := ZU c_11 hx
  refine ZM rfl rfl rfl rfl rfl (ZM rfl rfl rfl rfl rfl (ZM rfl rfl rfl rfl rfl (ZA rfl rfl (Zf rfl rfl) (ZD (ZC (JC.condT rfl (ZH (ZB (ZA rfl rfl (R.bldP (vs := []) (cs := [.slice none 0 0, .slice none 0 0]) Z25 B25 rfl rfl rfl) (ZP 0 S25 rfl rfl rfl rfl rfl (Nat.le_of_ble_eq_true rfl) (ZA rfl rfl (ZG rfl) ?_)))))))))))
  refine ZD (ZC (ZW (Zc (JN.seg0 (JN.seg0 (ZS (vs := [.agg #[.slice none 0 0, .slice none 0 0], .int .i64 8]) (K := [_, _]) (rst := [_, _, _]) (.inl rfl) rfl rfl (Zq 2 rfl rfl S25 (ZQ rfl rfl)) (Ze 0 rfl (Ze 0 rfl ZK)) ?_))))))
  obtain rfl := Option.some.inj hx
  exact ⟨none, 0, 0, [], none, 0, 0, [], rfl, rfl, (Zn _ _ _ _ _), (fun p hp => by cases hp), (Zn _ _ _ _ _), (fun p hp => by cases hp), trivial⟩
 ·
  replace hx := ZV c_11 hx
  refine ZN rfl rfl rfl (ZA rfl rfl (Zh 1 (vs := [.int .u32 (p_4.Gen.toNat : Int), .int .u32 (p_4.Epoch.toNat : Int), .int .i64 p_4.Root.At, .int .u32 (p_4.Root.Birth.toNat : Int), .int .u32 (p_4.Root.Iv.toNat : Int), .int .u32 (p_4.Root.Tag.toNat : Int), .int .u32 (p_4.Root.Sum.toNat : Int)]) S30 rfl rfl rfl rfl) (ZN rfl rfl rfl ?_))
  obtain ⟨x_12, hr_13, hx⟩ := ZJ hx
  refine ZO (vs := [_]) (args := [_]) (K := []) (rst := [_, _, _]) E41 rfl rfl rfl ZK (ref11_May_ok p_4 _ _ hr_13) rfl (fun u_14 Ku_14 Hu_14 hRu_14 hleu_14 hfu_14 => ?_)
  obtain ⟨rfl, rfl, rfl, -⟩ := hRu_14
  refine ZN rfl rfl rfl (ZA rfl rfl (R.not rfl) (ZA rfl rfl (Zb rfl rfl) (ZD (ZC (ZY rfl (fun c_15 => ?_) (fun c_15 => ?_))))))
  ·
   replace hx := ZU c_15 hx
   refine ZH (ZB (ZA rfl rfl (R.bldP (vs := []) (cs := [.slice none 0 0, .slice none 0 0]) Z25 B25 rfl rfl rfl) (ZP 0 S25 rfl rfl rfl rfl rfl (Nat.le_of_ble_eq_true rfl) (ZA rfl rfl (ZG rfl) (ZD (ZC (ZW (Zc (JN.seg0 (JN.seg0 (ZS (vs := [.agg #[.slice none 0 0, .slice none 0 0], .int .i64 8]) (K := [_, _]) (rst := [_, _, _]) (.inl rfl) rfl rfl (Zq 2 rfl rfl S25 (ZQ rfl rfl)) (Ze 0 rfl (Ze 0 rfl ZK)) ?_)))))))))))
   obtain rfl := Option.some.inj hx
   exact ⟨none, 0, 0, [], none, 0, 0, [], rfl, rfl, (Zn _ _ _ _ _), (fun p hp => by cases hp), (Zn _ _ _ _ _), (fun p hp => by cases hp), trivial⟩
  ·
   replace hx := ZV c_15 hx
   refine Za (ZC (ZH (ZH (ZB (ZA rfl rfl (Zo F25_1 rfl) (ZA rfl rfl (ZZ 2 S23 rfl rfl rfl) (ZA rfl rfl (Zr U23 rfl (IsSlice.long ha_3)) (ZA rfl rfl (R.geq_i rfl rfl) (ZD (ZC (ZY rfl (fun c_16 => ?_) (fun c_16 => ?_))))))))))))
   ·
    replace hx := ZU c_16 hx
    refine ZH (ZB (ZA rfl rfl (R.bldP (vs := []) (cs := [.slice none 0 0, .slice none 0 0]) Z25 B25 rfl rfl rfl) (ZP 0 S25 rfl rfl rfl rfl rfl (Nat.le_of_ble_eq_true rfl) (ZA rfl rfl (ZG rfl) (ZD (ZC (ZW (Zc (JN.seg0 (JN.seg0 (ZS (vs := [.agg #[.slice none 0 0, .slice none 0 0], .int .i64 9]) (K := [_, _]) (rst := [_, _, _]) (.inl rfl) rfl rfl (Zq 2 rfl rfl S25 (ZQ rfl rfl)) (Ze 0 rfl (Ze 0 rfl ZK)) ?_)))))))))))
    obtain rfl := Option.some.inj hx
    exact ⟨none, 0, 0, [], none, 0, 0, [], rfl, rfl, (Zn _ _ _ _ _), (fun p hp => by cases hp), (Zn _ _ _ _ _), (fun p hp => by cases hp), trivial⟩
   ·
    replace hx := ZV c_16 hx
    refine Za (ZC (ZH (ZB (ZA rfl rfl (Zh 2 (vs := [.slice aa_2 na_2 ca_2, .slice aa_3 na_3 ca_3]) S25 rfl rfl rfl rfl) (ZA rfl rfl (Zh 1 (vs := [.int .u32 (p_4.Gen.toNat : Int), .int .u32 (p_4.Epoch.toNat : Int), .int .i64 p_4.Root.At, .int .u32 (p_4.Root.Birth.toNat : Int), .int .u32 (p_4.Root.Iv.toNat : Int), .int .u32 (p_4.Root.Tag.toNat : Int), .int .u32 (p_4.Root.Sum.toNat : Int)]) S30 rfl rfl rfl rfl) ?_)))))
    obtain ⟨x_17, hr_18, hx⟩ := ZJ hx
    refine ZO (vs := [_, _]) (args := [_, _]) (K := []) (rst := [_, _, _]) E42 rfl rfl rfl ZK (ref11_With_ok p_1 p_4 _ ha_2 ha_3 _ hr_18) rfl (fun u_19 Ku_19 Hu_19 hRu_19 hleu_19 hfu_19 => ?_)
    obtain ⟨ar_20, nr_20, cr_20, Kr_20, ar_21, nr_21, cr_21, Kr_21, rfl, rfl, hr_20, hnewr_20, hr_21, hnewr_21, -⟩ := hRu_19
    replace hr_20 := (RowOf.base (RowOf.mono (RSl.mono RU8.mono) (New.call (Hle.refl _)) hr_20) (fun p hp => (hfu_19 p (Zk 0 rfl hp)).resolve_left (hnewr_20 p hp)))
    replace hr_21 := (RowOf.base (RowOf.mono R_Write.mono (New.call (Hle.refl _)) hr_21) (fun p hp => (hfu_19 p (Zk 1 rfl hp)).resolve_left (hnewr_21 p hp)))
    refine ZP 2 S25 rfl rfl rfl rfl rfl (Nat.le_of_ble_eq_true rfl) (ZA rfl rfl (ZG rfl) (ZD (ZC (ZW (ZS (vs := [.agg #[.slice ar_20 nr_20 cr_20, .slice ar_21 nr_21 cr_21], .int .i64 0]) (K := [_, _]) (rst := [_, _, _]) (.inl rfl) rfl rfl (Zq 2 rfl rfl S25 (ZQ rfl rfl)) (Ze 0 rfl (Ze 0 rfl ZK)) ?_)))))
    obtain rfl := Option.some.inj hx
    exact ⟨ar_20, nr_20, cr_20, Kr_20, ar_21, nr_21, cr_21, Kr_21, rfl, rfl, (Zs (Nat.zero_le _) hr_20), (new_ids hr_20 hlt), (Zs (Nat.zero_le _) hr_21), (new_ids hr_21 hlt), trivial⟩

theorem slices_Clone_byte_L_ok (p_1 : List (List UInt8)) (H : Heaplet) {ao : Option Addr} {n cap : Nat} (hs : IsSlice H (RSl RU8 1) 1 (.slice ao n cap) p_1) (r : List (List UInt8)) (hx : slices_Clone_byte_L p_1 = some r) :
  Does Try.prog 117 #[.slice ao n cap] [] H (fun u K' H' => ∃ ao0 : Option Addr, ∃ n0 : Nat, ∃ cap0 : Nat, ∃ K0 : Own, u = .slice ao0 n0 cap0 ∧ K' = [K0] ∧ H = H' ∧ RowOf H' (RSl RU8 1) 0 45 1 (.slice ao0 n0 cap0) r K0 ∧ (∀ p ∈ K0, p.1 ∉ ids (List.flatten [])) ∧ True) := by
 rw [slices_Clone_byte_L.eq_1] at hx
 obtain ⟨q, hq, hl, hx⟩ := Zz hx
 obtain rfl := Option.some.inj hx
 refine Does.enter (vs := [.slice ao n cap]) (l := [(0, .slice ao n cap)]) Try.func117 rfl rfl ⟨rfl, trivial⟩ (fun w => ZH (ZB (ZA rfl rfl (ZG rfl) (ZD (ZC (ZH (ZH (ZB (ZA rfl rfl (ZI rfl) (ZA rfl rfl (R.eqlNil U22 rfl rfl) (ZD ?_)))))))))))
 refine ZC ?_
 cases ao with
 | none =>
  have hp := hs.none_nil
  subst hp
  simp only [List.append_nil] at hq
  subst hq
  refine JC.condT rfl (ZH (ZB (ZA rfl rfl (ZG rfl) (ZD (ZC (ZW (Zc (JN.seg0 (ZS (vs := [.slice none 0 0]) (K := [_]) (rst := []) (.inl rfl) rfl rfl (ZQ rfl rfl) (Ze 0 rfl ZK) ?_)))))))))
  exact ⟨none, 0, 0, [], rfl, rfl, rfl, Zn _ _ _ _ _, (fun p hp => by cases hp), trivial⟩
 | some a =>
  refine JC.condF rfl (Za (ZC (ZH (ZB (JL.bslF (HF := H) (R := (RSl RU8 1)) (ls := []) (vs := []) U22 I45 rfl rfl rfl RSl.one rfl rfl rfl (by simp [maxLen]) rfl (fun v1 K1 h1 => ?_))))))
  obtain ⟨ao1, cap1, rfl⟩ := RowOf.val h1
  refine ZA rfl rfl (ZI rfl) (Z2 (HF := H) 0 U22 I45 rfl rfl h1 rfl (SrcF.slice RSl.one U22 (Hle.refl _) hs) hq hl rfl (Nat.le_refl _) rfl (fun v2 K2 h2 => ?_))
  obtain ⟨ao2, cap2, rfl⟩ := RowOf.val h2
  refine ZA rfl rfl (ZG rfl) (ZD (ZC (ZW (ZS (vs := [.slice ao2 _ cap2]) (K := [_]) (rst := []) (.inl rfl) rfl rfl (ZQ rfl rfl) (Ze 0 rfl ZK) ?_))))
  exact ⟨_, _, _, _, rfl, rfl, rfl, Zs (Nat.zero_le _) h2, (fun p hp hm => by cases hm), trivial⟩

set_option maxHeartbeats 8000000 in
theorem dev_all_ok (p_1 : Int) (H : Heaplet) (r : Bool) (hx : dev_all p_1 = some r) :
  Does Try.prog 82 #[.int .i64 p_1] [] H (fun u K' H' => u = .bool r ∧ K' = [] ∧ H = H' ∧ True) := by
 refine Does.enterL (vs := [.int .i64 p_1]) (l := [(0, .int .i64 p_1)]) Try.func82 rfl rfl ⟨rfl, trivial⟩ (fun w hlt => ?_)
 unfold dev_all at hx
 refine ZH (ZB (ZA rfl rfl (ZG rfl) (ZD (ZC (ZH (ZB (ZA rfl rfl (ZG rfl) (ZD (ZC (ZW (ZS (vs := [.bool true]) (K := []) (rst := []) (.inl rfl) rfl rfl (ZQ rfl rfl) ZK ?_)))))))))))
 obtain rfl := Option.some.inj hx
 exact ⟨rfl, rfl, rfl, trivial⟩

set_option maxHeartbeats 8000000 in
theorem dev_lasts_ok (p_1 : Disk) (H : Heaplet) {va_2 : Value} {aa_3 : Option Addr} {na_3 : Nat} {ca_3 : Nat} (ha_3 : IsSlice H R_Write 2 (.slice aa_3 na_3 ca_3) p_1.Waits) (r : (List (Int × Write))) (hx : dev_lasts p_1 = some r) :
  Does Try.prog 118 #[.agg #[va_2, .slice aa_3 na_3 ca_3], .func (.func 82) #[] #[]] [] H (fun u K' H' => ∃ ao0 : Option Addr, ∃ n0 : Nat, ∃ cap0 : Nat, ∃ K0 : Own, u = .map (some n0) ∧ K' = [K0] ∧ H = H' ∧ MapOf H R_Write 0 n0 r K0 ∧ (∀ p ∈ K0, p.1 ∉ ids (List.flatten [])) ∧ True) := by
 refine Does.enterL (vs := [.agg #[va_2, .slice aa_3 na_3 ca_3], .func (.func 82) #[] #[]]) (l := [(0, .agg #[va_2, .slice aa_3 na_3 ca_3]), (1, .func (.func 82) #[] #[])]) Try.func118 rfl rfl ⟨rfl, rfl, trivial⟩ (fun w hlt => ?_)
 unfold dev_lasts at hx
 refine ZH (ZB (Z7 rfl rfl (fun b_4 hb_4 => ZA rfl rfl (ZG rfl) (ZD (ZC (ZH (ZB (JL.mkMapF (New H H) R_Write rfl (fun nr_5 Kr_5 hr_5 => ZA rfl rfl (ZG rfl) (ZD (ZC ?_)))))))))))
 refine ZH (ZH (ZB (ZA rfl rfl (Zo F25_1 rfl) (ZA rfl rfl (ZZ 1 S23 rfl rfl rfl) (ZA rfl rfl (Zr U23 rfl (IsSlice.long ha_3)) (ZA rfl rfl (ZI rfl) (ZD (ZC ?_))))))))
 obtain ⟨t_6, ht_8, hx⟩ := ZJ hx
 refine Zy (fun l o g => ∃ Kr_13 : Own, l = [(5, .map (some nr_5))] ∧ o = [Kr_13] ∧ H = g ∧ MapOf H R_Write w.heap.size nr_5 t_6 Kr_13) ?_ ?_
 ·
  rintro _ _ _ ⟨Kr_13, rfl, rfl, rfl, hr_13⟩
  refine ZC (ZH (ZB (ZA rfl rfl (ZI rfl) (ZA rfl rfl (ZG rfl) (ZD (ZC (ZW (ZS (vs := [.map (some nr_5)]) (K := [_]) (rst := []) (.inl rfl) rfl rfl (ZQ rfl rfl) (Ze 0 rfl ZK) ?_))))))))
  obtain rfl := Option.some.inj hx
  exact ⟨none, nr_5, 0, Kr_13, rfl, rfl, rfl, (MapOf.weak (Nat.zero_le _) hr_13), (newM_ids hr_13 hlt), trivial⟩
 ·
  have hxo_7 := hx; clear hx; have hx := ht_8; clear ht_8
  refine JC.block (JC.forget 1 (Z9 (fun n l o g => ∃ s_9 : (List (Int × Write)) × Nat, ∃ Kr_12 : Own, l = [(1, .func (.func 82) #[] #[]), (5, .map (some nr_5)), (10, .slice aa_3 na_3 ca_3), (11, .int .i64 (p_1.Waits.length : Int)), (12, .int .i64 ((s_9.2 : Nat) : Int))] ∧ o = [Kr_12] ∧ H = g ∧ run (dev_lasts_l1 p_1) n s_9 = some t_6 ∧ MapOf H R_Write w.heap.size nr_5 s_9.1 Kr_12) FUEL ?_ ⟨(([] : List (Int × Write)), 0), Kr_5, rfl, rfl, rfl, hx, (hr_5.old R_Write.mono)⟩ ⟨rfl, rfl, rfl, rfl, rfl, trivial⟩ ?_))
  ·
   rintro _ _ _ ⟨s_9, Kr_12, rfl, rfl, rfl, hn_10, hr_12⟩
   exact Z5 hn_10
  ·
   rintro n_11 _ _ _ ⟨s_9, Kr_12, rfl, rfl, rfl, hn_10, hr_12⟩
   clear hx; obtain ⟨oo_14, hx, hd_13⟩ := Z6 hn_10
   unfold dev_lasts_l1 at hx
   refine ZH (ZB (ZA rfl rfl (Z1 rfl rfl) (ZD (ZC (ZH (ZY rfl (fun c_13 => ?_) (fun c_13 => ?_)))))))
   ·
    replace hx := ZU c_13 hx
    refine Za (ZC (ZH (JC.block (ZH (ZB (ZA rfl rfl (ZI rfl) ?_))))))
    obtain ⟨y_14, hN_15, hx⟩ := Zt hx
    obtain ⟨b_16, o_17, cs_18, hE_19, hR_20, hl_21, hc_22⟩ := IsSlice.elem ha_3 hN_15
    obtain ⟨v_23, rfl, hs_24⟩ := hR_20
    obtain ⟨av_23, cv_23, rfl⟩ := IsSlice.val hs_24
    refine ZA rfl rfl (R.ix U23 S47 rfl rfl hE_19) (ZA rfl rfl (R.ldHE (cs := [.int .i64 y_14.At, .slice av_23 y_14.Data.length cv_23]) (k := 0) (vs := [.int .i64 y_14.At, .slice av_23 y_14.Data.length cv_23]) S47 rfl hc_22 rfl rfl) (JL.alloc Z47 rfl (fun b_25 hb_25 => ZA rfl rfl (ZG rfl) (ZP 0 S47 rfl rfl rfl rfl rfl (Nat.le_of_ble_eq_true rfl) (ZD (ZC (ZH (ZB (ZA rfl rfl (ZI rfl) (ZA rfl rfl (ZI rfl) ?_))))))))))
    obtain ⟨x_26, hr_27, hx⟩ := ZJ hx
    refine ZO (vs := [_]) (args := [_]) (K := []) (rst := [_, _]) E82 rfl rfl rfl ZK (dev_all_ok ((s_9.2 : Nat) : Int) _ _ hr_27) rfl (fun u_28 Ku_28 Hu_28 hRu_28 hleu_28 hfu_28 => ?_)
    obtain ⟨rfl, rfl, rfl, -⟩ := hRu_28
    refine ZD (ZC (ZY rfl (fun c_29 => ?_) (fun c_29 => ?_)))
    ·
     replace hx := ZU c_29 hx
     refine ZB (ZA rfl rfl (ZI rfl) (ZA rfl rfl (Zo F47_0 rfl) (ZA rfl rfl (ZZ 0 S3 rfl rfl rfl) (ZA rfl rfl (Zh 0 (vs := [.int .i64 y_14.At, .slice av_23 y_14.Data.length cv_23]) S47 rfl rfl rfl rfl) (JL.mapUpdF 1 (cs := [.int .i64 y_14.At, .slice av_23 y_14.Data.length cv_23]) U166 U3 rfl rfl rfl rfl hr_12 ⟨_, rfl, hs_24⟩ (fun Kr_30 hr_30 => ZD (Zl (ZC (ZB (ZA rfl rfl (R.inc rfl rfl (of_decide_eq_true c_13) (IsSlice.lenI ha_3)) (ZA rfl rfl (ZI rfl) ?_)))))))))))
     refine ZD ?_
     replace hx := Zm hd_13 hx
     refine JN.forget 0 ?_
     exact ZR ⟨((putM s_9.1 y_14.At y_14), s_9.2 + 1), Kr_30, rfl, rfl, rfl, hx, hr_30⟩ ⟨rfl, rfl, rfl, rfl, rfl, trivial⟩ rfl rfl
    ·
     replace hx := ZV c_29 hx
     refine Za (Zl (ZC (ZB (ZA rfl rfl (R.inc rfl rfl (of_decide_eq_true c_13) (IsSlice.lenI ha_3)) (ZA rfl rfl (ZI rfl) (ZD ?_))))))
     replace hx := Zm hd_13 hx
     refine JN.forget 0 ?_
     exact ZR ⟨(s_9.1, s_9.2 + 1), Kr_12, rfl, rfl, rfl, hx, hr_12⟩ ⟨rfl, rfl, rfl, rfl, rfl, trivial⟩ rfl rfl
   ·
    replace hx := ZV c_13 hx
    refine Z0 (ZX ?_)
    obtain rfl := Zw hd_13 hx
    refine ZX (Zd ?_)
    exact ZR ⟨Kr_12, rfl, rfl, rfl, hr_12⟩ ⟨rfl, trivial⟩ rfl rfl

set_option maxHeartbeats 8000000 in
theorem dev_left_ok (p_1 : Disk) (H : Heaplet) {aa_2 : Option Addr} {na_2 : Nat} {ca_2 : Nat} {aa_3 : Option Addr} {na_3 : Nat} {ca_3 : Nat} (ha_2 : IsSlice H (RSl RU8 1) 1 (.slice aa_2 na_2 ca_2) p_1.Blocks) (ha_3 : IsSlice H R_Write 2 (.slice aa_3 na_3 ca_3) p_1.Waits) (r : Disk) (hx : dev_left p_1 = some r) :
  Does Try.prog 81 #[.agg #[.slice aa_2 na_2 ca_2, .slice aa_3 na_3 ca_3], .func (.func 82) #[] #[]] [] H (fun u K' H' => ∃ ao0 : Option Addr, ∃ n0 : Nat, ∃ cap0 : Nat, ∃ K0 : Own, ∃ ao1 : Option Addr, ∃ n1 : Nat, ∃ cap1 : Nat, ∃ K1 : Own, u = .agg #[.slice ao0 n0 cap0, .slice ao1 n1 cap1] ∧ K' = [K0, K1] ∧ Pcs 0 5 45 (.slice ao0 n0 cap0) r.Blocks K0 ∧ (∀ p ∈ K0, p.1 ∉ ids (List.flatten [])) ∧ RowOf (New H H') R_Write 0 47 2 (.slice ao1 n1 cap1) r.Waits K1 ∧ (∀ p ∈ K1, p.1 ∉ ids (List.flatten [])) ∧ True) := by
 refine Does.enterL (vs := [.agg #[.slice aa_2 na_2 ca_2, .slice aa_3 na_3 ca_3], .func (.func 82) #[] #[]]) (l := [(0, .agg #[.slice aa_2 na_2 ca_2, .slice aa_3 na_3 ca_3]), (1, .func (.func 82) #[] #[])]) Try.func81 rfl rfl ⟨rfl, rfl, trivial⟩ (fun w hlt => ?_)
 unfold dev_left at hx
 refine ZH (ZB (Z7 rfl rfl (fun b_4 hb_4 => JL.alloc Z25 rfl (fun b_5 hb_5 => ZD (ZC (ZH ?_))))))
 obtain ⟨t_6, ht_8, hx⟩ := ZJ hx
 refine Zy (fun l o g => ∃ ar_21 : Option Addr, ∃ nr_21 : Nat, ∃ cr_21 : Nat, ∃ Kr_21 : Own, l = [(1, .func (.func 82) #[] #[]), (2, .pointer (some ⟨b_4, 0, none⟩)), (4, .pointer (some ⟨b_5, 0, none⟩))] ∧ o = [[(b_4, .cells #[.slice ar_21 nr_21 cr_21, .slice aa_3 na_3 ca_3] 25 (0, 0))], Kr_21, [(b_5, .cells #[.slice none 0 0, .slice none 0 0] 25 (0, 0))]] ∧ H = g ∧ RowOf H (RSl RU8 1) w.heap.size 45 1 (.slice ar_21 nr_21 cr_21) t_6 Kr_21) ?_ ?_
 ·
  rintro _ _ _ ⟨ar_21, nr_21, cr_21, Kr_21, rfl, rfl, rfl, hr_21⟩
  refine ZC (ZH (ZH (ZB (ZA rfl rfl (Zh 0 (vs := [.slice ar_21 nr_21 cr_21, .slice aa_3 na_3 ca_3]) S25 rfl rfl rfl rfl) (ZA rfl rfl (ZI rfl) ?_)))))
  obtain ⟨x_22, hr_23, hx⟩ := ZJ hx
  refine ZO (vs := [_, _]) (args := [_, _]) (K := []) (rst := [_, _, _]) E118 rfl rfl rfl ZK (dev_lasts_ok (Disk.mk t_6 p_1.Waits) _ ha_3 _ hr_23) rfl (fun u_24 Ku_24 Hu_24 hRu_24 hleu_24 hfu_24 => ?_)
  obtain ⟨ar_25, nr_25, cr_25, Kr_25, rfl, rfl, rfl, hr_25, hnewr_25, -⟩ := hRu_24
  replace hr_25 := (MapOf.base hr_25 (fun p hp => (hfu_24 p (Zk 0 rfl hp)).resolve_left (hnewr_25 p hp)))
  refine JL.rangeMapF 0 U166 rfl rfl hr_25 rfl (fun b_26 es_27 hK_28 hM_29 => ?_)
  subst hK_28
  refine ZD (ZC ?_)
  obtain ⟨m_30, hm_31, hin_32, hx⟩ := layR_some hx
  refine JC.block (JC.loop (ι := Array Nat × (List (List UInt8)) × Own) (fun _ => [(2, .pointer (some ⟨b_4, 0, none⟩)), (4, .pointer (some ⟨b_5, 0, none⟩)), (16, .pointer (some ⟨b_26, 0, none⟩))]) (fun i => [[(b_26, .mapIter (some nr_25) (x_22).length i.1 (x_22).length)], [(nr_25, .map es_27 (x_22).length)], [(b_4, .cells #[.slice ar_21 nr_21 cr_21, .slice aa_3 na_3 ca_3] 25 (0, 0))], i.2.2, [(b_5, .cells #[.slice none 0 0, .slice none 0 0] 25 (0, 0))]]) (fun _ => H) (fun i => i.1.toList.Nodup ∧ (∀ q ∈ i.1.toList, q < (x_22).length) ∧ Laid (fun y : Write => y.Data) t_6 x_22 i.1.toList i.2.1 ∧ RowOf H (RSl RU8 1) w.heap.size 45 1 (.slice ar_21 nr_21 cr_21) i.2.1 i.2.2) (fun i => (x_22).length - i.1.size) (#[], t_6, Kr_21) ⟨by simp, by simp, Laid.start _ _ _, hr_21⟩ ⟨rfl, rfl, rfl, trivial⟩ rfl rfl ?_)
  rintro ⟨seen_33, B_34, K_35⟩ ⟨hn_36, hlt_37, hL_38, hr_39⟩
  dsimp only at hn_36 hlt_37 hL_38 hr_39 ⊢
  refine ZH (ZB (JL.nextMap 0 1 rfl rfl rfl hM_29 (Nat.le_refl _) rfl (fun he_40 => ?_) (fun n_41 k_42 y_43 cs_44 hMn_45 hen_46 hns_47 hRy_48 => ?_)))
  ·
   refine ZA rfl rfl (R.extract rfl rfl) (ZD (ZC (ZH (JC.condF rfl (Z0 (ZX (ZX (Zd ?_))))))))
   obtain rfl := hm_31.trans (hL_38.full hM_29.nodup hin_32 he_40).symm
   refine JN.forget 1 (JN.forget 0 (ZC (ZH (ZB (ZA rfl rfl (Zo F25_1 rfl) (ZP 0 S23 rfl rfl rfl rfl rfl (Nat.le_of_ble_eq_true rfl) (ZD (ZC (ZH (ZB (ZA rfl rfl (Zh 0 (vs := [.slice ar_21 nr_21 cr_21, .slice none 0 0]) S25 rfl rfl rfl rfl) ?_)))))))))))
   refine JL.pub 1 (RSl.mono RU8.mono) rfl hr_39 (Nat.le_refl _) (fun H_49 hleH_49 hsH_49 => JL.forget 1 ?_)
   obtain ⟨x_50, hr_51, hx⟩ := ZJ hx
   refine ZO (vs := [_]) (args := [_]) (K := []) (rst := [_, _]) E70 rfl rfl rfl ZK (dev_Twin_ok (Disk.mk m_30 ([] : List Write)) _ hsH_49 (IsSlice.nil _ _ _) _ hr_51) rfl (fun u_52 Ku_52 Hu_52 hRu_52 hleu_52 hfu_52 => ?_)
   obtain ⟨ar_53, nr_53, cr_53, Kr_53, ar_54, nr_54, cr_54, Kr_54, rfl, rfl, hr_53, hnewr_53, hr_54, hnewr_54, -⟩ := hRu_52
   replace hr_53 := (Pcs.base hr_53 (fun p hp => (hfu_52 p (Zk 0 rfl hp)).resolve_left (hnewr_53 p hp)))
   replace hr_54 := (RowOf.base (RowOf.mono R_Write.mono (New.call hleH_49) hr_54) (fun p hp => (hfu_52 p (Zk 1 rfl hp)).resolve_left (hnewr_54 p hp)))
   refine ZP 3 S25 rfl rfl rfl rfl rfl (Nat.le_of_ble_eq_true rfl) (ZD (ZC (ZW (ZS (vs := [.agg #[.slice ar_53 nr_53 cr_53, .slice ar_54 nr_54 cr_54]]) (K := [_, _]) (rst := [_, _]) (.inl rfl) rfl rfl (Zq 3 rfl rfl S25 rfl) (Ze 0 rfl (Ze 0 rfl ZK)) ?_))))
   obtain rfl := Option.some.inj hx
   exact ⟨ar_53, nr_53, cr_53, Kr_53, ar_54, nr_54, cr_54, Kr_54, rfl, rfl, (Pcs.weak (Nat.zero_le _) hr_53), (newP_ids hr_53 hlt), (Zs (Nat.zero_le _) hr_54), (new_ids hr_54 hlt), trivial⟩
  ·
   have hs_49 := seen_more hn_36 hlt_37 (List.getElem?_eq_some_iff.1 hMn_45).1 hns_47
   refine ZA rfl rfl (R.extract rfl rfl) (ZD (ZC (ZH (JC.condT rfl (Za (ZC (JC.block (ZH (ZB ?_)))))))))
   obtain ⟨v_50, rfl, hs_51⟩ := hRy_48
   obtain ⟨av_50, cv_50, rfl⟩ := IsSlice.val hs_51
   refine JL.entryMap 0 1 rfl rfl rfl hM_29 hen_46 rfl ?_
   have hp_53 := hin_32 _ (List.mem_of_getElem? hMn_45)
   rw [← hL_38.len] at hp_53
   clear hx
   have hx : (chk (0 ≤ k_42 ∧ k_42.toNat < B_34.length) <| setI B_34 k_42 y_43.Data fun m_60 =>  some m_60) = some (B_34.set k_42.toNat y_43.Data) := lay_step hp_53
   refine ZA rfl rfl (R.extract rfl rfl) (ZA rfl rfl (R.extract rfl rfl) (JL.alloc Z47 rfl (fun b_55 hb_55 => ZA rfl rfl (ZG rfl) (ZP 0 S47 rfl rfl rfl rfl rfl (Nat.le_of_ble_eq_true rfl) (ZD (ZC (ZB (ZA rfl rfl (Zo F25_0 rfl) (ZA rfl rfl (ZZ 3 S22 rfl rfl rfl) (ZA rfl rfl (ZI rfl) (ZA rfl rfl (Zo F47_1 rfl) ?_)))))))))))
   refine ZA rfl rfl (ZZ 0 S45 rfl rfl rfl) ?_
   obtain ⟨hp_56, hx⟩ := chk_some hx
   obtain ⟨b_57, o_58, hE_59⟩ := RowOf.place hr_39 hp_56
   refine ZA rfl rfl (R.ix U22 S45 rfl rfl hE_59) ?_
   obtain ⟨m_60, hm_61, hi_62, hx⟩ := setI_some hx
   refine JL.stE 4 (k := k_42) (y := y_43.Data) S45 rfl hr_39 rfl hE_59 rfl rfl (⟨_, rfl, hs_51⟩) RSl.one hm_61 (fun Kr_63 hr_63 hlr_63 => ZD (Zl ?_))
   obtain rfl := Option.some.inj hx
   refine JN.forget 0 (ZL 4 rfl (ZL 4 rfl (ZL 4 rfl (ZL 4 rfl (ZL 4 rfl ?_)))))
   exact JN.again (i := (seen_33, B_34, K_35)) (seen_33.push n_41, B_34.set k_42.toNat y_43.Data, Kr_63) ⟨by simp only [Array.toList_push]; exact List.nodup_append.2 ⟨hn_36, by simp, fun a ha b hb e => by simp at hb; subst hb; subst e; exact hns_47 ha⟩, by simp only [Array.toList_push]; intro q hq; rcases List.mem_append.1 hq with h | h; exact hlt_37 q h; simp at h; subst h; exact (List.getElem?_eq_some_iff.1 hMn_45).1, hL_38.step (f := (fun y : Write => y.Data)) hM_29.nodup hin_32 hMn_45 _ (fun q => by simp), hr_63⟩ (by simp only [Array.size_push]; simp only [Array.length_toList] at hs_49; omega) ⟨rfl, rfl, rfl, trivial⟩ rfl rfl
 ·
  have hxo_7 := hx; clear hx; have hx := ht_8; clear ht_8
  refine JC.draw (so := [_]) 7 rfl Mixed ⟨⟨0, rfl⟩, trivial⟩ (JA.val ⟨by kernel_rfl, by kernel_rfl⟩ (ZF _) (i := 0) rfl ⟨by kernel_rfl, by kernel_rfl, rfl⟩ trivial (ZE (Hle.refl _) ⟨⟨0, rfl⟩, trivial⟩) (Zo F25_0 rfl) rfl (JA.val ⟨by kernel_rfl, by kernel_rfl⟩ (ZF _) (i := 3) rfl ⟨by kernel_rfl, by kernel_rfl, rfl⟩ trivial (ZE (Hle.refl _) ⟨⟨0, rfl⟩, trivial⟩) (Zo F25_1 rfl) rfl (JA.two (i := 1) (j := 4) (by kernel_rfl) ?_ ?_)))
  ·
   refine JO.step rfl trivial rfl (fun K hK => ZA rfl rfl (ZZ 1 S22 rfl rfl rfl) (ZD (hK _ _ _ (ZE (Hle.refl _) ⟨⟨0, rfl⟩, trivial⟩) (JA.two (i := 2) (j := 4) (by kernel_rfl) ?_ ?_))))
   ·
    refine JO.step rfl trivial rfl (fun K hK => ?_)
    obtain ⟨x_9, hr_10, hx⟩ := ZJ hx
    refine ZO (vs := [_]) (args := [_]) (K := []) (rst := [_, _]) E117 rfl rfl rfl ZK (slices_Clone_byte_L_ok p_1.Blocks _ ha_2 _ hr_10) rfl (fun u_11 Ku_11 Hu_11 hRu_11 hleu_11 hfu_11 => ?_)
    obtain ⟨ar_12, nr_12, cr_12, Kr_12, rfl, rfl, rfl, hr_12, hnewr_12, -⟩ := hRu_11
    replace hr_12 := (RowOf.base hr_12 (fun p hp => (hfu_11 p (Zk 0 rfl hp)).resolve_left (hnewr_12 p hp)))
    refine ZD (hK _ _ _ (ZE (Hle.refl _) ⟨⟨1, rfl⟩, trivial⟩) (JA.one (i := 4) (by kernel_rfl) (JO.step rfl trivial rfl (fun K hK => ZA rfl rfl (ZZ 2 S23 rfl rfl rfl) (ZD (hK _ _ _ (ZE (Hle.refl _) ⟨⟨1, rfl⟩, trivial⟩) (JA.val ⟨by kernel_rfl, by kernel_rfl⟩ (ZF _) (i := 5) rfl ⟨by kernel_rfl, by kernel_rfl, rfl⟩ trivial (ZE (Hle.refl _) ⟨⟨1, rfl⟩, trivial⟩) (R.bldP (vs := [(0, .slice ar_12 nr_12 cr_12), (1, .slice aa_3 na_3 ca_3)]) (cs := [.slice ar_12 nr_12 cr_12, .slice aa_3 na_3 ca_3]) Z25 B25 rfl rfl rfl) rfl (JA.one (i := 6) (by kernel_rfl) (JO.step rfl trivial rfl (fun K hK => ZP 2 S25 rfl rfl rfl rfl rfl (Nat.le_of_ble_eq_true rfl) (ZD ?_)))))))))))
    refine hK _ _ _ (ZE (Hle.refl _) ⟨⟨1, rfl⟩, trivial⟩) (Zg (by kernel_rfl) ?_)
    obtain rfl := Option.some.inj hx
    refine ZL 1 rfl (ZL 1 rfl (ZL 2 rfl ?_))
    exact ZR ⟨ar_12, nr_12, cr_12, Kr_12, rfl, rfl, rfl, hr_12⟩ ⟨rfl, rfl, rfl, trivial⟩ rfl rfl
   ·
    refine JO.step rfl trivial rfl (fun K hK => ZA rfl rfl (ZZ 1 S23 rfl rfl rfl) (ZD (hK _ _ _ (ZE (Hle.refl _) ⟨⟨0, rfl⟩, trivial⟩) (JA.one (i := 2) (by kernel_rfl) (JO.step rfl trivial rfl (fun K hK => ?_))))))
    obtain ⟨x_13, hr_14, hx⟩ := ZJ hx
    refine ZO (vs := [_]) (args := [_]) (K := []) (rst := [_, _]) E117 rfl rfl rfl ZK (slices_Clone_byte_L_ok p_1.Blocks _ ha_2 _ hr_14) rfl (fun u_15 Ku_15 Hu_15 hRu_15 hleu_15 hfu_15 => ?_)
    obtain ⟨ar_16, nr_16, cr_16, Kr_16, rfl, rfl, rfl, hr_16, hnewr_16, -⟩ := hRu_15
    replace hr_16 := (RowOf.base hr_16 (fun p hp => (hfu_15 p (Zk 0 rfl hp)).resolve_left (hnewr_16 p hp)))
    refine ZD (hK _ _ _ (ZE (Hle.refl _) ⟨⟨1, rfl⟩, trivial⟩) (JA.val ⟨by kernel_rfl, by kernel_rfl⟩ (ZF _) (i := 5) rfl ⟨by kernel_rfl, by kernel_rfl, rfl⟩ trivial (ZE (Hle.refl _) ⟨⟨1, rfl⟩, trivial⟩) (R.bldP (vs := [(0, .slice ar_16 nr_16 cr_16), (1, .slice aa_3 na_3 ca_3)]) (cs := [.slice ar_16 nr_16 cr_16, .slice aa_3 na_3 ca_3]) Z25 B25 rfl rfl rfl) rfl (JA.one (i := 6) (by kernel_rfl) (JO.step rfl trivial rfl (fun K hK => ZP 2 S25 rfl rfl rfl rfl rfl (Nat.le_of_ble_eq_true rfl) (ZD (hK _ _ _ (ZE (Hle.refl _) ⟨⟨1, rfl⟩, trivial⟩) (Zg (by kernel_rfl) ?_))))))))
    obtain rfl := Option.some.inj hx
    refine ZL 1 rfl (ZL 1 rfl (ZL 2 rfl ?_))
    exact ZR ⟨ar_16, nr_16, cr_16, Kr_16, rfl, rfl, rfl, hr_16⟩ ⟨rfl, rfl, rfl, trivial⟩ rfl rfl
  ·
   refine JO.step rfl trivial rfl (fun K hK => ZA rfl rfl (ZZ 1 S23 rfl rfl rfl) (ZD (hK _ _ _ (ZE (Hle.refl _) ⟨⟨0, rfl⟩, trivial⟩) (JA.one (i := 1) (by kernel_rfl) (JO.step rfl trivial rfl (fun K hK => ZA rfl rfl (ZZ 1 S22 rfl rfl rfl) (ZD (hK _ _ _ (ZE (Hle.refl _) ⟨⟨0, rfl⟩, trivial⟩) (JA.one (i := 2) (by kernel_rfl) (JO.step rfl trivial rfl (fun K hK => ?_)))))))))))
   obtain ⟨x_17, hr_18, hx⟩ := ZJ hx
   refine ZO (vs := [_]) (args := [_]) (K := []) (rst := [_, _]) E117 rfl rfl rfl ZK (slices_Clone_byte_L_ok p_1.Blocks _ ha_2 _ hr_18) rfl (fun u_19 Ku_19 Hu_19 hRu_19 hleu_19 hfu_19 => ?_)
   obtain ⟨ar_20, nr_20, cr_20, Kr_20, rfl, rfl, rfl, hr_20, hnewr_20, -⟩ := hRu_19
   replace hr_20 := (RowOf.base hr_20 (fun p hp => (hfu_19 p (Zk 0 rfl hp)).resolve_left (hnewr_20 p hp)))
   refine ZD (hK _ _ _ (ZE (Hle.refl _) ⟨⟨1, rfl⟩, trivial⟩) (JA.val ⟨by kernel_rfl, by kernel_rfl⟩ (ZF _) (i := 5) rfl ⟨by kernel_rfl, by kernel_rfl, rfl⟩ trivial (ZE (Hle.refl _) ⟨⟨1, rfl⟩, trivial⟩) (R.bldP (vs := [(0, .slice ar_20 nr_20 cr_20), (1, .slice aa_3 na_3 ca_3)]) (cs := [.slice ar_20 nr_20 cr_20, .slice aa_3 na_3 ca_3]) Z25 B25 rfl rfl rfl) rfl (JA.one (i := 6) (by kernel_rfl) (JO.step rfl trivial rfl (fun K hK => ZP 2 S25 rfl rfl rfl rfl rfl (Nat.le_of_ble_eq_true rfl) (ZD (hK _ _ _ (ZE (Hle.refl _) ⟨⟨1, rfl⟩, trivial⟩) (Zg (by kernel_rfl) ?_))))))))
   obtain rfl := Option.some.inj hx
   refine ZL 1 rfl (ZL 1 rfl (ZL 2 rfl ?_))
   exact ZR ⟨ar_20, nr_20, cr_20, Kr_20, rfl, rfl, rfl, hr_20⟩ ⟨rfl, rfl, rfl, trivial⟩ rfl rfl

set_option maxHeartbeats 8000000 in
theorem dev_Read_1_ok (p_2 : Disk) (H : Heaplet) {b_1 : Nat} {aa_3 : Option Addr} {na_3 : Nat} {ca_3 : Nat} {aa_4 : Option Addr} {na_4 : Nat} {ca_4 : Nat} (ha_3 : IsSlice H (RSl RU8 1) 1 (.slice aa_3 na_3 ca_3) p_2.Blocks) (ha_4 : IsSlice H R_Write 2 (.slice aa_4 na_4 ca_4) p_2.Waits) (r : Disk × Disk) (hx : dev_Read_1 p_2 = some r) :
  Does Try.prog 80 #[.pointer (some ⟨b_1, 0, none⟩)] [[(b_1, .cells #[.slice aa_3 na_3 ca_3, .slice aa_4 na_4 ca_4] 25 (0, 0))]] H (fun u K' H' => ∃ ao0 : Option Addr, ∃ n0 : Nat, ∃ cap0 : Nat, ∃ ao1 : Option Addr, ∃ n1 : Nat, ∃ cap1 : Nat, ∃ ao2 : Option Addr, ∃ n2 : Nat, ∃ cap2 : Nat, ∃ K2 : Own, ∃ ao3 : Option Addr, ∃ n3 : Nat, ∃ cap3 : Nat, ∃ K3 : Own, u = .agg #[.slice ao2 n2 cap2, .slice ao3 n3 cap3] ∧ K' = [[(b_1, .cells #[.slice ao0 n0 cap0, .slice ao1 n1 cap1] 25 (0, 0))], K2, K3] ∧ IsSlice H' (RSl RU8 1) 1 (.slice ao0 n0 cap0) r.2.Blocks ∧ IsSlice H' R_Write 2 (.slice ao1 n1 cap1) r.2.Waits ∧ Pcs 0 5 45 (.slice ao2 n2 cap2) r.1.Blocks K2 ∧ (∀ p ∈ K2, p.1 ∉ ids (List.flatten [[(b_1, .cells #[.slice aa_3 na_3 ca_3, .slice aa_4 na_4 ca_4] 25 (0, 0))]])) ∧ RowOf (New H H') R_Write 0 47 2 (.slice ao3 n3 cap3) r.1.Waits K3 ∧ (∀ p ∈ K3, p.1 ∉ ids (List.flatten [[(b_1, .cells #[.slice aa_3 na_3 ca_3, .slice aa_4 na_4 ca_4] 25 (0, 0))]])) ∧ True) := by
 refine Does.enterL (vs := [.pointer (some ⟨b_1, 0, none⟩)]) (l := [(0, .pointer (some ⟨b_1, 0, none⟩))]) Try.func80 rfl rfl ⟨rfl, trivial⟩ (fun w hlt => ?_)
 unfold dev_Read_1 at hx
 refine ZH (ZB (JL.alloc Z25 rfl (fun b_5 hb_5 => ZD (ZC (ZH (ZB (ZA rfl rfl (Zh 1 (vs := [.slice aa_3 na_3 ca_3, .slice aa_4 na_4 ca_4]) S25 rfl rfl rfl rfl) ?_)))))))
 obtain ⟨x_6, hr_7, hx⟩ := ZJ hx
 refine ZO (vs := [_, _]) (args := [_, _]) (K := []) (rst := [_, _]) E81 rfl rfl rfl ZK (dev_left_ok p_2 _ ha_3 ha_4 _ hr_7) rfl (fun u_8 Ku_8 Hu_8 hRu_8 hleu_8 hfu_8 => ?_)
 obtain ⟨ar_9, nr_9, cr_9, Kr_9, ar_10, nr_10, cr_10, Kr_10, rfl, rfl, hr_9, hnewr_9, hr_10, hnewr_10, -⟩ := hRu_8
 replace hr_9 := (Pcs.base hr_9 (fun p hp => (hfu_8 p (Zk 0 rfl hp)).resolve_left (hnewr_9 p hp)))
 replace hr_10 := (RowOf.base (RowOf.mono R_Write.mono (New.call (Hle.refl _)) hr_10) (fun p hp => (hfu_8 p (Zk 1 rfl hp)).resolve_left (hnewr_10 p hp)))
 refine ZP 2 S25 rfl rfl rfl rfl rfl (Nat.le_of_ble_eq_true rfl) (ZD (ZC (ZW (ZS (vs := [.agg #[.slice ar_9 nr_9 cr_9, .slice ar_10 nr_10 cr_10]]) (K := [_, _, _]) (rst := [_]) (.inl rfl) rfl rfl (Zq 2 rfl rfl S25 rfl) (Ze 3 rfl (Ze 0 rfl (Ze 0 rfl ZK))) ?_))))
 obtain rfl := Option.some.inj hx
 exact ⟨aa_3, na_3, ca_3, aa_4, na_4, ca_4, ar_9, nr_9, cr_9, Kr_9, ar_10, nr_10, cr_10, Kr_10, rfl, rfl, (ha_3.mono (RSl.mono RU8.mono) hleu_8), (ha_4.mono R_Write.mono hleu_8), (Pcs.weak (Nat.zero_le _) hr_9), (newP_ids hr_9 hlt), (Zs (Nat.zero_le _) hr_10), (new_ids hr_10 hlt), trivial⟩

set_option maxHeartbeats 8000000 in
theorem dev_guarded_v2_ok (p_1 : Disk) (p_4 : Bool) (p_6 : Disk) (H : Heaplet) {aa_2 : Option Addr} {na_2 : Nat} {ca_2 : Nat} {aa_3 : Option Addr} {na_3 : Nat} {ca_3 : Nat} {b_5 : Nat} {aa_7 : Option Addr} {na_7 : Nat} {ca_7 : Nat} {aa_8 : Option Addr} {na_8 : Nat} {ca_8 : Nat} (ha_2 : IsSlice H (RSl RU8 1) 1 (.slice aa_2 na_2 ca_2) p_1.Blocks) (ha_3 : IsSlice H R_Write 2 (.slice aa_3 na_3 ca_3) p_1.Waits) (ha_7 : IsSlice H (RSl RU8 1) 1 (.slice aa_7 na_7 ca_7) p_6.Blocks) (ha_8 : IsSlice H R_Write 2 (.slice aa_8 na_8 ca_8) p_6.Waits) (r : Disk × Int × Disk) (hx : dev_guarded_v2 p_1 p_4 p_6 = some r) :
  Does Try.prog 68 #[.agg #[.slice aa_2 na_2 ca_2, .slice aa_3 na_3 ca_3], .bool p_4, .func (.func 80) #[] #[.pointer (some ⟨b_5, 0, none⟩)]] [[(b_5, .cells #[.slice aa_7 na_7 ca_7, .slice aa_8 na_8 ca_8] 25 (0, 0))]] H (fun u K' H' => ∃ ao0 : Option Addr, ∃ n0 : Nat, ∃ cap0 : Nat, ∃ ao1 : Option Addr, ∃ n1 : Nat, ∃ cap1 : Nat, ∃ ao2 : Option Addr, ∃ n2 : Nat, ∃ cap2 : Nat, ∃ ao3 : Option Addr, ∃ n3 : Nat, ∃ cap3 : Nat, ∃ K3 : Own, u = .tuple #[.agg #[.slice ao2 n2 cap2, .slice ao3 n3 cap3], .int .i64 r.2.1] ∧ K' = [[(b_5, .cells #[.slice ao0 n0 cap0, .slice ao1 n1 cap1] 25 (0, 0))], K3] ∧ IsSlice H' (RSl RU8 1) 1 (.slice ao0 n0 cap0) r.2.2.Blocks ∧ IsSlice H' R_Write 2 (.slice ao1 n1 cap1) r.2.2.Waits ∧ IsSlice (New H H') (RSl RU8 1) 1 (.slice ao2 n2 cap2) r.1.Blocks ∧ RowOf (New H H') R_Write 0 47 2 (.slice ao3 n3 cap3) r.1.Waits K3 ∧ (∀ p ∈ K3, p.1 ∉ ids (List.flatten [[(b_5, .cells #[.slice aa_7 na_7 ca_7, .slice aa_8 na_8 ca_8] 25 (0, 0))]])) ∧ True) := by
 refine Does.enterL (vs := [.agg #[.slice aa_2 na_2 ca_2, .slice aa_3 na_3 ca_3], .bool p_4, .func (.func 80) #[] #[.pointer (some ⟨b_5, 0, none⟩)]]) (l := [(0, .agg #[.slice aa_2 na_2 ca_2, .slice aa_3 na_3 ca_3]), (1, .bool p_4), (2, .func (.func 80) #[] #[.pointer (some ⟨b_5, 0, none⟩)])]) Try.func68 rfl rfl ⟨rfl, rfl, rfl, trivial⟩ (fun w hlt => ?_)
 unfold dev_guarded_v2 at hx
 refine ZH (ZB (Z7 rfl rfl (fun b_9 hb_9 => JL.alloc Z25 rfl (fun b_10 hb_10 => ZA rfl rfl (ZG rfl) (ZD (ZC (ZH (ZB (ZA rfl rfl (Zh 1 (vs := [.slice aa_2 na_2 ca_2, .slice aa_3 na_3 ca_3]) S25 rfl rfl rfl rfl) ?_)))))))))
 obtain ⟨x_11, hr_12, hx⟩ := ZJ hx
 refine ZO (vs := [_]) (args := [_]) (K := []) (rst := [_, _, _]) E36 rfl rfl rfl ZK (dev_Check_ok p_1 _ ha_2 ha_3 _ hr_12) rfl (fun u_13 Ku_13 Hu_13 hRu_13 hleu_13 hfu_13 => ?_)
 obtain ⟨rfl, rfl, rfl, -⟩ := hRu_13
 refine ZA rfl rfl (ZG rfl) (ZD (ZC (ZH (JC.block (ZH (ZB (ZA rfl rfl (ZI rfl) (ZA rfl rfl (R.neq_i rfl rfl) (ZA rfl rfl (ZG rfl) (ZD (ZC ?_)))))))))))
 refine ZY rfl (fun c_14 => ?_) (fun c_14 => ?_)
 ·
  replace hx := ZU c_14 hx
  refine ZH (ZB (ZA rfl rfl (R.bldP (vs := []) (cs := [.slice none 0 0, .slice none 0 0]) Z25 B25 rfl rfl rfl) (ZA rfl rfl (ZI rfl) (ZP 0 S25 rfl rfl rfl rfl rfl (Nat.le_of_ble_eq_true rfl) (ZA rfl rfl (ZG rfl) (ZD (ZC (ZW (JN.blkR (Zc (JN.seg0 ?_)))))))))))
  refine ZS (vs := [.agg #[.slice none 0 0, .slice none 0 0], .int .i64 x_11]) (K := [_, _]) (rst := [_, _]) (.inl rfl) rfl rfl (Zq 1 rfl rfl S25 (ZQ rfl rfl)) (Ze 3 rfl (Ze 0 rfl ZK)) ?_
  obtain rfl := Option.some.inj hx
  exact ⟨aa_7, na_7, ca_7, aa_8, na_8, ca_8, none, 0, 0, none, 0, 0, [], rfl, rfl, ha_7, ha_8, (IsSlice.nil _ _ _), (Zn _ _ _ _ _), (fun p hp => by cases hp), trivial⟩
 ·
  replace hx := ZV c_14 hx
  refine ZH (ZB (ZA rfl rfl (ZI rfl) (ZA rfl rfl (R.not rfl) (ZA rfl rfl (ZG rfl) (ZD (ZC (ZY rfl (fun c_15 => ?_) (fun c_15 => ?_))))))))
  ·
   replace hx := ZU c_15 hx
   refine ZH (ZB (ZA rfl rfl (R.bldP (vs := []) (cs := [.slice none 0 0, .slice none 0 0]) Z25 B25 rfl rfl rfl) (ZP 0 S25 rfl rfl rfl rfl rfl (Nat.le_of_ble_eq_true rfl) (ZA rfl rfl (ZG rfl) (ZD (ZC (ZW (JN.blkR (Zc (JN.seg0 (ZS (vs := [.agg #[.slice none 0 0, .slice none 0 0], .int .i64 2]) (K := [_, _]) (rst := [_, _]) (.inl rfl) rfl rfl (Zq 1 rfl rfl S25 (ZQ rfl rfl)) (Ze 3 rfl (Ze 0 rfl ZK)) ?_)))))))))))
   obtain rfl := Option.some.inj hx
   exact ⟨aa_7, na_7, ca_7, aa_8, na_8, ca_8, none, 0, 0, none, 0, 0, [], rfl, rfl, ha_7, ha_8, (IsSlice.nil _ _ _), (Zn _ _ _ _ _), (fun p hp => by cases hp), trivial⟩
  ·
   replace hx := ZV c_15 hx
   refine Za (Zl (ZC (ZH (ZB (ZA rfl rfl (ZI rfl) ?_)))))
   obtain ⟨x_16, hr_17, hx⟩ := ZJ hx
   refine ZO (vs := []) (args := [_]) (K := [_]) (rst := [_, _]) E80 rfl rfl rfl (Ze 2 rfl ZK) (dev_Read_1_ok p_6 _ ha_7 ha_8 _ hr_17) rfl (fun u_18 Ku_18 Hu_18 hRu_18 hleu_18 hfu_18 => ?_)
   obtain ⟨az_19, nz_19, cz_19, az_20, nz_20, cz_20, ar_21, nr_21, cr_21, Kr_21, ar_22, nr_22, cr_22, Kr_22, rfl, rfl, hz_19, hz_20, hr_21, hnewr_21, hr_22, hnewr_22, -⟩ := hRu_18
   replace hr_21 := (Pcs.base hr_21 (fun p hp => (hfu_18 p (Zk 1 rfl hp)).resolve_left (hnewr_21 p hp)))
   replace hr_22 := (RowOf.base (RowOf.mono R_Write.mono (New.call (Hle.refl _)) hr_22) (fun p hp => (hfu_18 p (Zk 2 rfl hp)).resolve_left (hnewr_22 p hp)))
   refine ZP 3 S25 rfl rfl rfl rfl rfl (Nat.le_of_ble_eq_true rfl) (ZA rfl rfl (ZG rfl) (ZD (ZC (ZW (JN.pubPcs 1  rfl hr_21 (Nat.le_refl _) (fun H_23 hleH_23 hsH_23 => JN.forget 1 (ZS (vs := [.agg #[.slice ar_21 nr_21 cr_21, .slice ar_22 nr_22 cr_22], .int .i64 0]) (K := [_, _]) (rst := [_, _]) (.inl rfl) rfl rfl (Zq 2 rfl rfl S25 (ZQ rfl rfl)) (Ze 0 rfl (Ze 0 rfl ZK)) ?_)))))))
   obtain rfl := Option.some.inj hx
   exact ⟨az_19, nz_19, cz_19, az_20, nz_20, cz_20, ar_21, nr_21, cr_21, ar_22, nr_22, cr_22, Kr_22, rfl, rfl, (hz_19.mono (RSl.mono RU8.mono) hleH_23), (hz_20.mono R_Write.mono hleH_23), hsH_23, (Zs (Nat.zero_le _) (hr_22.mono R_Write.mono (New.mono hleH_23))), (new_ids (hr_22.mono R_Write.mono (New.mono hleH_23)) hlt), trivial⟩
end Go.Proofs.Ytdoebbgjjlicjaa
