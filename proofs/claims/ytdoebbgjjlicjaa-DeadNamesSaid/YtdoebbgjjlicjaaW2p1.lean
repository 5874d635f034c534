import Derived.Test.YtdoebbgjjlicjaaW2p0
/- walks: what the code computes, function by function. -/
namespace Go.Proofs.Ytdoebbgjjlicjaa
open Go.Ow Go.RowKit Go.Proofs
set_option linter.unusedVariables false
set_option linter.unusedSimpArgs false
set_option maxHeartbeats 8000000 in
theorem dev_Twin_ok (p_1 : Disk) (H : Heaplet) {aa_2 : Option Addr} {na_2 : Nat} {ca_2 : Nat} {aa_3 : Option Addr} {na_3 : Nat} {ca_3 : Nat} (ha_2 : IsSlice H (RSl RU8 1) 1 (.slice aa_2 na_2 ca_2) p_1.Blocks) (ha_3 : IsSlice H R_Write 2 (.slice aa_3 na_3 ca_3) p_1.Waits) (r : Disk) (hx : dev_Twin p_1 = some r) :
  Does Try.prog 70 #[.agg #[.slice aa_2 na_2 ca_2, .slice aa_3 na_3 ca_3]] [] H (fun u K' H' => ∃ ao0 : Option Addr, ∃ n0 : Nat, ∃ cap0 : Nat, ∃ K0 : Own, ∃ ao1 : Option Addr, ∃ n1 : Nat, ∃ cap1 : Nat, ∃ K1 : Own, u = .agg #[.slice ao0 n0 cap0, .slice ao1 n1 cap1] ∧ K' = [K0, K1] ∧ Pcs 0 5 45 (.slice ao0 n0 cap0) r.Blocks K0 ∧ (∀ p ∈ K0, p.1 ∉ ids (List.flatten [])) ∧ RowOf (New H H') R_Write 0 47 2 (.slice ao1 n1 cap1) r.Waits K1 ∧ (∀ p ∈ K1, p.1 ∉ ids (List.flatten [])) ∧ True) := by
 refine Does.enterL (vs := [.agg #[.slice aa_2 na_2 ca_2, .slice aa_3 na_3 ca_3]]) (l := [(0, .agg #[.slice aa_2 na_2 ca_2, .slice aa_3 na_3 ca_3])]) Try.func70 rfl rfl ⟨rfl, trivial⟩ (fun w hlt => ?_)
 unfold dev_Twin at hx
 refine ZG (ZB (JL.box rfl rfl (fun b_4 hb_4 => JL.alloc Z25 rfl (fun b_5 hb_5 => ZD (ZC (ZG (ZB (ZA rfl rfl (ZH rfl) (ZD (ZC (ZG ?_)))))))))))
 refine ZG (ZB (ZA rfl rfl (R.fa F25_0 rfl) (ZA rfl rfl (Zi 1 S22 rfl rfl rfl) (ZA rfl rfl (Zm U22 rfl (IsSlice.long ha_2)) (ZA rfl rfl (ZF rfl) (ZD (ZC ?_)))))))
 obtain ⟨t_6, ht_8, hx⟩ := ZM hx
 refine JC.cut (fun l o g => ∃ ar_13 : Option Addr, ∃ nr_13 : Nat, ∃ cr_13 : Nat, ∃ Kr_13 : Own, l = [(1, .pointer (some ⟨b_4, 0, none⟩)), (2, .pointer (some ⟨b_5, 0, none⟩)), (3, .slice ar_13 nr_13 cr_13)] ∧ o = [[(b_4, .cells #[.slice aa_2 na_2 ca_2, .slice aa_3 na_3 ca_3] 25 (0, 0))], [(b_5, .cells #[.slice none 0 0, .slice none 0 0] 25 (0, 0))], Kr_13] ∧ H = g ∧ RowOf (New H H) RInt w.heap.size 3 1 (.slice ar_13 nr_13 cr_13) t_6 Kr_13) ?_ ?_
 ·
  rintro _ _ _ ⟨ar_13, nr_13, cr_13, Kr_13, rfl, rfl, rfl, hr_13⟩
  refine ZC (ZG (ZB (ZA rfl rfl (ZF rfl) (JL.pubN 2 RInt.mono rfl hr_13 (Nat.le_refl _) (fun H_14 hleH_14 hsH_14 => JL.forget 2 ?_)))))
  obtain ⟨x_15, hr_16, hx⟩ := ZM hx
  refine ZS (vs := [_]) (args := [_]) (K := []) (rst := [_, _]) E107 rfl rfl rfl ZK (dev_cut_ok t_6 _ (hsH_14.old RInt.mono) _ hr_16) rfl (fun u_17 Ku_17 Hu_17 hRu_17 hleu_17 hfu_17 => ?_)
  obtain ⟨ar_18, nr_18, cr_18, Kr_18, rfl, rfl, rfl, hr_18, hnewr_18, -⟩ := hRu_17
  replace hr_18 := (Pcs.base hr_18 (fun p hp => (hfu_17 p (Zg 0 rfl hp)).resolve_left (hnewr_18 p hp)))
  refine ZA rfl rfl (R.fa F25_0 rfl) (ZN 2 S22 rfl rfl rfl rfl rfl (Nat.le_of_ble_eq_true rfl) (ZD (ZC (ZG (ZG (ZB (ZA rfl rfl (R.fa F25_0 rfl) (ZA rfl rfl (Zi 1 S22 rfl rfl rfl) (ZA rfl rfl (Zm U22 rfl (IsSlice.long ha_2)) (ZA rfl rfl (ZF rfl) (ZD ?_)))))))))))
  refine ZC ?_
  obtain ⟨t_19, ht_21, hx⟩ := ZM hx
  refine JC.cut (fun l o g => ∃ Kr_26 : Own, l = [(1, .pointer (some ⟨b_4, 0, none⟩)), (2, .pointer (some ⟨b_5, 0, none⟩))] ∧ o = [[(b_4, .cells #[.slice aa_2 na_2 ca_2, .slice aa_3 na_3 ca_3] 25 (0, 0))], [(b_5, .cells #[.slice ar_18 nr_18 cr_18, .slice none 0 0] 25 (0, 0))], Kr_26] ∧ H_14 = g ∧ Pcs w.heap.size 5 45 (.slice ar_18 nr_18 cr_18) t_19 Kr_26) ?_ ?_
  ·
   rintro _ _ _ ⟨Kr_26, rfl, rfl, rfl, hr_26⟩
   refine ZC (ZG (ZG (ZB (ZA rfl rfl (R.fa F25_1 rfl) (ZA rfl rfl (Zi 0 S23 rfl rfl rfl) (ZA rfl rfl (Zm U23 rfl (IsSlice.long ha_3)) (ZA rfl rfl (ZF rfl) (ZD (ZC ?_)))))))))
   obtain ⟨t_27, ht_29, hx⟩ := ZM hx
   refine JC.cut (fun l o g => ∃ H_35 : Heaplet, ∃ ar_36 : Option Addr, ∃ nr_36 : Nat, ∃ cr_36 : Nat, ∃ Kr_36 : Own, l = [(2, .pointer (some ⟨b_5, 0, none⟩))] ∧ o = [[(b_5, .cells #[.slice ar_18 nr_18 cr_18, .slice ar_36 nr_36 cr_36] 25 (0, 0))], Kr_26, Kr_36] ∧ H_35 = g ∧ Hle H_14 H_35 ∧ RowOf (New H H_35) R_Write w.heap.size 47 2 (.slice ar_36 nr_36 cr_36) t_27 Kr_36) ?_ ?_
   ·
    rintro _ _ _ ⟨H_35, ar_36, nr_36, cr_36, Kr_36, rfl, rfl, rfl, hleH_35, hr_36⟩
    refine ZC (ZV (ZT (vs := [.agg #[.slice ar_18 nr_18 cr_18, .slice ar_36 nr_36 cr_36]]) (K := [_, _]) (rst := [_]) (.inl rfl) rfl rfl (Zf 0 rfl rfl S25 rfl) (Za 1 rfl (Za 1 rfl ZK)) ?_))
    obtain rfl := Option.some.inj hx
    exact ⟨ar_18, nr_18, cr_18, Kr_26, ar_36, nr_36, cr_36, Kr_36, rfl, rfl, (Pcs.weak (Nat.zero_le _) hr_26), (newP_ids hr_26 hlt), (Zd (Nat.zero_le _) hr_36), (Zx hr_36 hlt), trivial⟩
   ·
    have hxo_28 := hx; clear hx; have hx := ht_29; clear ht_29
    refine JC.block (JC.seg0 (JC.forget 1 (Zv 2 rfl (Zv 2 rfl (JC.loopI (fun n l o g => ∃ s_30 : List Write × Nat, ∃ H_33 : Heaplet, ∃ ar_34 : Option Addr, ∃ nr_34 : Nat, ∃ cr_34 : Nat, ∃ Kr_34 : Own, l = [(2, .pointer (some ⟨b_5, 0, none⟩)), (43, .slice aa_3 na_3 ca_3), (44, .int .i64 (p_1.Waits.length : Int)), (45, .int .i64 ((s_30.2 : Nat) : Int))] ∧ o = [[(b_5, .cells #[.slice ar_18 nr_18 cr_18, .slice ar_34 nr_34 cr_34] 25 (0, 0))], Kr_26, Kr_34] ∧ H_33 = g ∧ run (dev_Twin_l3 p_1) n s_30 = some t_27 ∧ Hle H_14 H_33 ∧ RowOf (New H H_33) R_Write w.heap.size 47 2 (.slice ar_34 nr_34 cr_34) s_30.1 Kr_34) FUEL ?_ ⟨(([] : List Write), 0), H_14, none, 0, 0, [], rfl, rfl, rfl, hx, (Hle.refl _), (Zb _ _ _ _ _)⟩ ⟨rfl, rfl, rfl, rfl, trivial⟩ ?_)))))
    ·
     rintro _ _ _ ⟨s_30, H_33, ar_34, nr_34, cr_34, Kr_34, rfl, rfl, rfl, hn_31, hleH_33, hr_34⟩
     exact run_zero hn_31
    ·
     rintro n_32 _ _ _ ⟨s_30, H_33, ar_34, nr_34, cr_34, Kr_34, rfl, rfl, rfl, hn_31, hleH_33, hr_34⟩
     clear hx; obtain ⟨oo_36, hx, hd_35⟩ := Z0 hn_31
     unfold dev_Twin_l3 at hx
     refine ZG (ZB (ZA rfl rfl (Zr rfl rfl) (ZD (ZC (ZG (ZU rfl (fun c_35 => ?_) (fun c_35 => ?_)))))))
     ·
      replace hx := ZW c_35 hx
      refine JC.skip (ZC (ZG (JC.block (ZG (ZB ?_)))))
      obtain ⟨y_36, hN_37, hx⟩ := Zs hx
      obtain ⟨b_38, o_39, cs_40, hE_41, hR_42, hl_43, hc_44⟩ := IsSlice.elem (ha_3.mono R_Write.mono (hleH_14.trans hleH_33)) hN_37
      obtain ⟨v_45, rfl, hs_46⟩ := hR_42
      obtain ⟨av_45, cv_45, rfl⟩ := IsSlice.val hs_46
      refine ZA rfl rfl (R.ix U23 S47 rfl rfl hE_41) (ZA rfl rfl (R.ldHE (cs := [.int .i64 y_36.At, .slice av_45 y_36.Data.length cv_45]) (k := 0) (vs := [.int .i64 y_36.At, .slice av_45 y_36.Data.length cv_45]) S47 rfl hc_44 rfl rfl) (JL.alloc Z47 rfl (fun b_47 hb_47 => ZN 0 S47 rfl rfl rfl rfl rfl (Nat.le_of_ble_eq_true rfl) (ZD (ZC (JC.draw (so := [_, _]) 12 rfl Mixed ⟨⟨0, rfl⟩, ⟨2, rfl⟩, trivial⟩ (JA.val ⟨by kernel_rfl, by kernel_rfl⟩ (ZJ _) (i := 0) rfl ⟨by kernel_rfl, by kernel_rfl, rfl⟩ trivial (ZI (Hle.refl _) ⟨⟨0, rfl⟩, ⟨2, rfl⟩, trivial⟩) (R.fa F25_1 rfl) rfl (JA.val ⟨by kernel_rfl, by kernel_rfl⟩ (ZJ _) (i := 2) rfl ⟨by kernel_rfl, by kernel_rfl, rfl⟩ trivial (ZI (Hle.refl _) ⟨⟨0, rfl⟩, ⟨2, rfl⟩, trivial⟩) (R.fa F47_0 rfl) rfl (JA.val ⟨by kernel_rfl, by kernel_rfl⟩ (ZJ _) (i := 3) rfl ⟨by kernel_rfl, by kernel_rfl, rfl⟩ trivial (ZI (Hle.refl _) ⟨⟨0, rfl⟩, ⟨2, rfl⟩, trivial⟩) (Zi 0 S3 rfl rfl rfl) rfl (JA.val ⟨by kernel_rfl, by kernel_rfl⟩ (ZJ _) (i := 4) rfl ⟨by kernel_rfl, by kernel_rfl, rfl⟩ trivial (ZI (Hle.refl _) ⟨⟨0, rfl⟩, ⟨2, rfl⟩, trivial⟩) (R.fa F47_1 rfl) rfl (JA.val ⟨by kernel_rfl, by kernel_rfl⟩ (ZJ _) (i := 5) rfl ⟨by kernel_rfl, by kernel_rfl, rfl⟩ trivial (ZI (Hle.refl _) ⟨⟨0, rfl⟩, ⟨2, rfl⟩, trivial⟩) (Zi 0 S45 rfl rfl rfl) rfl ?_)))))))))))
      obtain ⟨x_48, hr_49, hx⟩ := ZM hx
      obtain ⟨q_54, hm_55, hl_56, hx⟩ := app_some hx
      refine JA.two (i := 1) (j := 6) (by kernel_rfl) ?_ ?_
      ·
       refine ZZ rfl trivial rfl (fun K hK => ZA rfl rfl (Zi 1 S23 rfl rfl rfl) (ZD (hK _ _ _ (ZI (Hle.refl _) ⟨⟨0, rfl⟩, ⟨2, rfl⟩, trivial⟩) (JA.one (i := 6) (by kernel_rfl) (ZZ rfl trivial rfl (fun K hK => ZS (vs := [_]) (args := [_]) (K := []) (rst := [_, _, _, _]) E105 rfl rfl rfl ZK (bytes_Clone_ok y_36.Data _ hs_46 _ hr_49) rfl (fun u_50 Ku_50 Hu_50 hRu_50 hleu_50 hfu_50 => ?_)))))))
       obtain ⟨ar_51, nr_51, cr_51, Kr_51, rfl, rfl, rfl, hr_51, hnewr_51, -⟩ := hRu_50
       replace hr_51 := (RowOf.base (Zc (H2 := New H H_33) RU8.const hr_51) (fun p hp => (hfu_50 p (Zg 0 rfl hp)).resolve_left (hnewr_51 p hp)))
       refine ZD (hK _ _ _ (ZI (Hle.refl _) ⟨⟨1, rfl⟩, ⟨3, rfl⟩, trivial⟩) (JA.val ⟨by kernel_rfl, by kernel_rfl⟩ (ZJ _) (i := 7) rfl ⟨by kernel_rfl, by kernel_rfl, rfl⟩ trivial (ZI (Hle.refl _) ⟨⟨1, rfl⟩, ⟨3, rfl⟩, trivial⟩) (R.bldP (vs := [(0, .int .i64 y_36.At), (1, .slice ar_51 nr_51 cr_51)]) (cs := [.int .i64 y_36.At, .slice ar_51 nr_51 cr_51]) Z47 B47 rfl rfl rfl) rfl (JA.one (i := 8) (by kernel_rfl) (ZZ rfl trivial rfl (fun K hK => JL.pubN 0 RU8.mono rfl hr_51 (Nat.le_refl _) (fun H_52 hleH_52 hsH_52 => JL.forget 0 (Zz (HF := (New H H_52)) (R := R_Write) (ls := [Write.mk y_36.At x_48]) (vs := [.agg #[.int .i64 y_36.At, .slice ar_51 nr_51 cr_51]]) U23 I47 rfl rfl (⟨_, _, rfl, rfl, ⟨_, rfl, hsH_52⟩, rfl⟩) R_Write.one rfl rfl rfl (by simp [maxLen]) rfl (fun vr_53 Kr_53 hr_53 => ?_))))))))
       obtain ⟨ar_53, cr_53, rfl⟩ := RowOf.val hr_53
       refine ZD (hK _ _ _ (ZI hleH_52 ⟨⟨1, rfl⟩, ⟨3, rfl⟩, trivial⟩) (JA.one (i := 9) (by kernel_rfl) (ZZ rfl trivial rfl (fun K hK => JL.appF (HF := (New H H_52)) 4 U23 I47 rfl rfl (hr_34.mono R_Write.mono (New.mono hleH_52)) rfl (SrcF.row 0 U23 rfl hr_53) hm_55 hl_56 rfl (Nat.le_refl _) rfl (fun vr_57 Kr_57 hr_57 => ?_)))))
       obtain ⟨ar_57, cr_57, rfl⟩ := RowOf.val hr_57
       refine ZD (hK _ _ _ (ZI hleH_52 ⟨⟨1, rfl⟩, ⟨3, rfl⟩, trivial⟩) (JA.val ⟨by kernel_rfl, by kernel_rfl⟩ (ZJ _) (i := 10) rfl ⟨by kernel_rfl, by kernel_rfl, rfl⟩ trivial (ZI hleH_52 ⟨⟨1, rfl⟩, ⟨3, rfl⟩, trivial⟩) (R.fa F25_1 rfl) rfl (JA.one (i := 11) (by kernel_rfl) (ZZ rfl trivial rfl (fun K hK => ZN 2 S23 rfl rfl rfl rfl rfl (Nat.le_of_ble_eq_true rfl) (ZD (hK _ _ _ (ZI hleH_52 ⟨⟨1, rfl⟩, ⟨3, rfl⟩, trivial⟩) (Zt (by kernel_rfl) (Zk (ZC (ZB ?_)))))))))))
       refine ZA rfl rfl (R.inc rfl rfl (of_decide_eq_true c_35) (IsSlice.lenI ha_3)) (ZA rfl rfl (ZF rfl) (ZD ?_))
       replace hx := Zo hd_35 hx
       refine JN.forget 1 (JN.forget 0 (ZO 2 rfl (ZO 2 rfl (ZO 2 rfl ?_))))
       exact JN.cut ⟨(q_54, s_30.2 + 1), H_52, ar_57, q_54.length, cr_57, Kr_57, rfl, rfl, rfl, hx, ((hleH_33.trans hleH_52)), hr_57⟩ ⟨rfl, rfl, rfl, rfl, trivial⟩ rfl rfl
      ·
       refine ZZ rfl trivial rfl (fun K hK => ZS (vs := [_]) (args := [_]) (K := []) (rst := [_, _, _, _]) E105 rfl rfl rfl ZK (bytes_Clone_ok y_36.Data _ hs_46 _ hr_49) rfl (fun u_50 Ku_50 Hu_50 hRu_50 hleu_50 hfu_50 => ?_))
       obtain ⟨ar_51, nr_51, cr_51, Kr_51, rfl, rfl, rfl, hr_51, hnewr_51, -⟩ := hRu_50
       replace hr_51 := (RowOf.base (Zc (H2 := New H H_33) RU8.const hr_51) (fun p hp => (hfu_50 p (Zg 0 rfl hp)).resolve_left (hnewr_51 p hp)))
       refine ZD (hK _ _ _ (ZI (Hle.refl _) ⟨⟨1, rfl⟩, ⟨3, rfl⟩, trivial⟩) (JA.val ⟨by kernel_rfl, by kernel_rfl⟩ (ZJ _) (i := 7) rfl ⟨by kernel_rfl, by kernel_rfl, rfl⟩ trivial (ZI (Hle.refl _) ⟨⟨1, rfl⟩, ⟨3, rfl⟩, trivial⟩) (R.bldP (vs := [(0, .int .i64 y_36.At), (1, .slice ar_51 nr_51 cr_51)]) (cs := [.int .i64 y_36.At, .slice ar_51 nr_51 cr_51]) Z47 B47 rfl rfl rfl) rfl (JA.two (i := 1) (j := 8) (by kernel_rfl) ?_ ?_)))
       ·
        refine ZZ rfl trivial rfl (fun K hK => ZA rfl rfl (Zi 2 S23 rfl rfl rfl) (ZD (hK _ _ _ (ZI (Hle.refl _) ⟨⟨1, rfl⟩, ⟨3, rfl⟩, trivial⟩) (JA.one (i := 8) (by kernel_rfl) (ZZ rfl trivial rfl (fun K hK => JL.pubN 0 RU8.mono rfl hr_51 (Nat.le_refl _) (fun H_52 hleH_52 hsH_52 => JL.forget 0 (Zz (HF := (New H H_52)) (R := R_Write) (ls := [Write.mk y_36.At x_48]) (vs := [.agg #[.int .i64 y_36.At, .slice ar_51 nr_51 cr_51]]) U23 I47 rfl rfl (⟨_, _, rfl, rfl, ⟨_, rfl, hsH_52⟩, rfl⟩) R_Write.one rfl rfl rfl (by simp [maxLen]) rfl (fun vr_53 Kr_53 hr_53 => ?_)))))))))
        obtain ⟨ar_53, cr_53, rfl⟩ := RowOf.val hr_53
        refine ZD (hK _ _ _ (ZI hleH_52 ⟨⟨1, rfl⟩, ⟨3, rfl⟩, trivial⟩) (JA.one (i := 9) (by kernel_rfl) (ZZ rfl trivial rfl (fun K hK => JL.appF (HF := (New H H_52)) 4 U23 I47 rfl rfl (hr_34.mono R_Write.mono (New.mono hleH_52)) rfl (SrcF.row 0 U23 rfl hr_53) hm_55 hl_56 rfl (Nat.le_refl _) rfl (fun vr_57 Kr_57 hr_57 => ?_)))))
        obtain ⟨ar_57, cr_57, rfl⟩ := RowOf.val hr_57
        refine ZD (hK _ _ _ (ZI hleH_52 ⟨⟨1, rfl⟩, ⟨3, rfl⟩, trivial⟩) (JA.val ⟨by kernel_rfl, by kernel_rfl⟩ (ZJ _) (i := 10) rfl ⟨by kernel_rfl, by kernel_rfl, rfl⟩ trivial (ZI hleH_52 ⟨⟨1, rfl⟩, ⟨3, rfl⟩, trivial⟩) (R.fa F25_1 rfl) rfl (JA.one (i := 11) (by kernel_rfl) (ZZ rfl trivial rfl (fun K hK => ZN 2 S23 rfl rfl rfl rfl rfl (Nat.le_of_ble_eq_true rfl) (ZD (hK _ _ _ (ZI hleH_52 ⟨⟨1, rfl⟩, ⟨3, rfl⟩, trivial⟩) (Zt (by kernel_rfl) (Zk (ZC (ZB ?_)))))))))))
        refine ZA rfl rfl (R.inc rfl rfl (of_decide_eq_true c_35) (IsSlice.lenI ha_3)) (ZA rfl rfl (ZF rfl) (ZD ?_))
        replace hx := Zo hd_35 hx
        refine JN.forget 1 (JN.forget 0 (ZO 2 rfl (ZO 2 rfl (ZO 2 rfl ?_))))
        exact JN.cut ⟨(q_54, s_30.2 + 1), H_52, ar_57, q_54.length, cr_57, Kr_57, rfl, rfl, rfl, hx, ((hleH_33.trans hleH_52)), hr_57⟩ ⟨rfl, rfl, rfl, rfl, trivial⟩ rfl rfl
       ·
        refine ZZ rfl trivial rfl (fun K hK => JL.pubN 0 RU8.mono rfl hr_51 (Nat.le_refl _) (fun H_52 hleH_52 hsH_52 => JL.forget 0 (Zz (HF := (New H H_52)) (R := R_Write) (ls := [Write.mk y_36.At x_48]) (vs := [.agg #[.int .i64 y_36.At, .slice ar_51 nr_51 cr_51]]) U23 I47 rfl rfl (⟨_, _, rfl, rfl, ⟨_, rfl, hsH_52⟩, rfl⟩) R_Write.one rfl rfl rfl (by simp [maxLen]) rfl (fun vr_53 Kr_53 hr_53 => ?_))))
        obtain ⟨ar_53, cr_53, rfl⟩ := RowOf.val hr_53
        refine ZD (hK _ _ _ (ZI hleH_52 ⟨⟨1, rfl⟩, ⟨3, rfl⟩, trivial⟩) (JA.one (i := 1) (by kernel_rfl) (ZZ rfl trivial rfl (fun K hK => ZA rfl rfl (Zi 2 S23 rfl rfl rfl) (ZD (hK _ _ _ (ZI hleH_52 ⟨⟨1, rfl⟩, ⟨3, rfl⟩, trivial⟩) (JA.one (i := 9) (by kernel_rfl) (ZZ rfl trivial rfl (fun K hK => JL.appF (HF := (New H H_52)) 4 U23 I47 rfl rfl (hr_34.mono R_Write.mono (New.mono hleH_52)) rfl (SrcF.row 0 U23 rfl hr_53) hm_55 hl_56 rfl (Nat.le_refl _) rfl (fun vr_57 Kr_57 hr_57 => ?_))))))))))
        obtain ⟨ar_57, cr_57, rfl⟩ := RowOf.val hr_57
        refine ZD (hK _ _ _ (ZI hleH_52 ⟨⟨1, rfl⟩, ⟨3, rfl⟩, trivial⟩) (JA.val ⟨by kernel_rfl, by kernel_rfl⟩ (ZJ _) (i := 10) rfl ⟨by kernel_rfl, by kernel_rfl, rfl⟩ trivial (ZI hleH_52 ⟨⟨1, rfl⟩, ⟨3, rfl⟩, trivial⟩) (R.fa F25_1 rfl) rfl (JA.one (i := 11) (by kernel_rfl) (ZZ rfl trivial rfl (fun K hK => ZN 2 S23 rfl rfl rfl rfl rfl (Nat.le_of_ble_eq_true rfl) (ZD (hK _ _ _ (ZI hleH_52 ⟨⟨1, rfl⟩, ⟨3, rfl⟩, trivial⟩) (Zt (by kernel_rfl) (Zk (ZC (ZB ?_)))))))))))
        refine ZA rfl rfl (R.inc rfl rfl (of_decide_eq_true c_35) (IsSlice.lenI ha_3)) (ZA rfl rfl (ZF rfl) (ZD ?_))
        replace hx := Zo hd_35 hx
        refine JN.forget 1 (JN.forget 0 (ZO 2 rfl (ZO 2 rfl (ZO 2 rfl ?_))))
        exact JN.cut ⟨(q_54, s_30.2 + 1), H_52, ar_57, q_54.length, cr_57, Kr_57, rfl, rfl, rfl, hx, ((hleH_33.trans hleH_52)), hr_57⟩ ⟨rfl, rfl, rfl, rfl, trivial⟩ rfl rfl
     ·
      replace hx := ZX c_35 hx
      refine JC.exit (Ze ?_)
      obtain rfl := Zu hd_35 hx
      refine Ze (Zl (ZO 2 rfl (ZO 2 rfl (ZO 2 rfl ?_))))
      exact JN.cut ⟨H_33, ar_34, nr_34, cr_34, Kr_34, rfl, rfl, rfl, (hleH_33), hr_34⟩ ⟨rfl, trivial⟩ rfl rfl
  ·
   have hxo_20 := hx; clear hx; have hx := ht_21; clear ht_21
   refine JC.block (Zv 2 rfl (Zv 2 rfl (JC.loopI (fun n l o g => ∃ s_22 : List (List UInt8) × Nat, ∃ Kr_25 : Own, l = [(1, .pointer (some ⟨b_4, 0, none⟩)), (2, .pointer (some ⟨b_5, 0, none⟩)), (27, .slice aa_2 na_2 ca_2), (28, .int .i64 (p_1.Blocks.length : Int)), (29, .int .i64 ((s_22.2 : Nat) : Int))] ∧ o = [[(b_4, .cells #[.slice aa_2 na_2 ca_2, .slice aa_3 na_3 ca_3] 25 (0, 0))], [(b_5, .cells #[.slice ar_18 nr_18 cr_18, .slice none 0 0] 25 (0, 0))], Kr_25] ∧ H_14 = g ∧ run (dev_Twin_l2 p_1) n s_22 = some t_19 ∧ Pcs w.heap.size 5 45 (.slice ar_18 nr_18 cr_18) s_22.1 Kr_25) FUEL ?_ ⟨(x_15, 0), Kr_18, rfl, rfl, rfl, hx, hr_18⟩ ⟨rfl, rfl, rfl, rfl, rfl, trivial⟩ ?_)))
   ·
    rintro _ _ _ ⟨s_22, Kr_25, rfl, rfl, rfl, hn_23, hr_25⟩
    exact run_zero hn_23
   ·
    rintro n_24 _ _ _ ⟨s_22, Kr_25, rfl, rfl, rfl, hn_23, hr_25⟩
    clear hx; obtain ⟨oo_27, hx, hd_26⟩ := Z0 hn_23
    unfold dev_Twin_l2 at hx
    refine ZG (ZB (ZA rfl rfl (Zr rfl rfl) (ZD (ZC (ZG (ZU rfl (fun c_26 => ?_) (fun c_26 => ?_)))))))
    ·
     replace hx := ZW c_26 hx
     refine JC.skip (ZC (ZG (JC.block (ZG (ZB (ZA rfl rfl (ZF rfl) ?_))))))
     obtain ⟨y_27, hN_28, hx⟩ := Zs hx
     obtain ⟨b_29, o_30, cs_31, hE_32, hR_33, hl_34, hc_35⟩ := IsSlice.elem (ha_2.mono (RSl.mono RU8.mono) hleH_14) hN_28
     obtain ⟨v_36, rfl, hs_37⟩ := hR_33
     obtain ⟨av_36, cv_36, rfl⟩ := IsSlice.val hs_37
     refine ZA rfl rfl (R.ix U22 S45 rfl rfl hE_32) (ZA rfl rfl (R.ldH S45 rfl (hc_35 0 _ rfl)) (ZA rfl rfl (ZH rfl) (ZA rfl rfl (ZH rfl) (ZD (ZC (ZB (ZA rfl rfl (R.fa F25_0 rfl) (ZA rfl rfl (Zi 1 S22 rfl rfl rfl) (ZA rfl rfl (ZF rfl) ?_)))))))))
     obtain ⟨y_38, hN_39, hx⟩ := Zs hx
     obtain ⟨b_41, o_40, cur_42, pv_43, hE_44, hm_45, hc_46, hA_47⟩ := Pcs.at hr_25 hN_39
     refine ZA rfl rfl (R.ix U22 S45 rfl rfl hE_44) (ZA rfl rfl (R.ldM 2 S45 rfl rfl hm_45 hc_46) (ZA rfl rfl (ZF rfl) ?_))
     obtain ⟨hl_48, hx⟩ := chk_some hx
     obtain ⟨m_51, hm_49, hi_50, hx⟩ := setI_some hx
     refine JL.copyP 2 U45 S5 rfl hr_25 hN_39 hA_47 rfl rfl (Hle.refl _) hs_37 hl_48 rfl (fun Kr_52 hr_52 => ?_)
     rw [← hm_49] at hr_52
     refine ZD (Zk (ZC (ZB (ZA rfl rfl (R.inc rfl rfl (of_decide_eq_true c_26) (IsSlice.lenI ha_2)) (ZA rfl rfl (ZF rfl) (ZD ?_))))))
     replace hx := Zo hd_26 hx
     refine ZO 2 rfl (ZO 2 rfl (ZO 2 rfl ?_))
     exact JN.cut ⟨(m_51, s_22.2 + 1), Kr_52, rfl, rfl, rfl, hx, hr_52⟩ ⟨rfl, rfl, rfl, rfl, rfl, trivial⟩ rfl rfl
    ·
     replace hx := ZX c_26 hx
     refine JC.exit (Ze ?_)
     obtain rfl := Zu hd_26 hx
     refine Ze (Zl (ZO 2 rfl (ZO 2 rfl (ZO 2 rfl ?_))))
     exact JN.cut ⟨Kr_25, rfl, rfl, rfl, hr_25⟩ ⟨rfl, rfl, trivial⟩ rfl rfl
 ·
  have hxo_7 := hx; clear hx; have hx := ht_8; clear ht_8
  refine JC.block (JC.seg0 (Zv 1 rfl (Zv 2 rfl (JC.loopI (fun n l o g => ∃ s_9 : List Int × Nat, ∃ ar_12 : Option Addr, ∃ nr_12 : Nat, ∃ cr_12 : Nat, ∃ Kr_12 : Own, l = [(1, .pointer (some ⟨b_4, 0, none⟩)), (2, .pointer (some ⟨b_5, 0, none⟩)), (3, .slice ar_12 nr_12 cr_12), (11, .slice aa_2 na_2 ca_2), (12, .int .i64 (p_1.Blocks.length : Int)), (13, .int .i64 ((s_9.2 : Nat) : Int))] ∧ o = [[(b_4, .cells #[.slice aa_2 na_2 ca_2, .slice aa_3 na_3 ca_3] 25 (0, 0))], [(b_5, .cells #[.slice none 0 0, .slice none 0 0] 25 (0, 0))], Kr_12] ∧ H = g ∧ run (dev_Twin_l1 p_1) n s_9 = some t_6 ∧ RowOf (New H H) RInt w.heap.size 3 1 (.slice ar_12 nr_12 cr_12) s_9.1 Kr_12) FUEL ?_ ⟨(([] : List Int), 0), none, 0, 0, [], rfl, rfl, rfl, hx, (Zb _ _ _ _ _)⟩ ⟨rfl, rfl, rfl, rfl, rfl, rfl, trivial⟩ ?_))))
  ·
   rintro _ _ _ ⟨s_9, ar_12, nr_12, cr_12, Kr_12, rfl, rfl, rfl, hn_10, hr_12⟩
   exact run_zero hn_10
  ·
   rintro n_11 _ _ _ ⟨s_9, ar_12, nr_12, cr_12, Kr_12, rfl, rfl, rfl, hn_10, hr_12⟩
   clear hx; obtain ⟨oo_14, hx, hd_13⟩ := Z0 hn_10
   unfold dev_Twin_l1 at hx
   refine ZG (ZB (ZA rfl rfl (Zr rfl rfl) (ZD (ZC (ZG (ZU rfl (fun c_13 => ?_) (fun c_13 => ?_)))))))
   ·
    replace hx := ZW c_13 hx
    refine JC.skip (ZC (ZG (JC.block (ZG (ZB ?_)))))
    obtain ⟨y_14, hN_15, hx⟩ := Zs hx
    obtain ⟨b_16, o_17, cs_18, hE_19, hR_20, hl_21, hc_22⟩ := IsSlice.elem ha_2 hN_15
    obtain ⟨v_23, rfl, hs_24⟩ := hR_20
    obtain ⟨av_23, cv_23, rfl⟩ := IsSlice.val hs_24
    refine ZA rfl rfl (R.ix U22 S45 rfl rfl hE_19) (ZA rfl rfl (R.ldH S45 rfl (hc_22 0 _ rfl)) (ZA rfl rfl (ZH rfl) (ZD (ZC (ZB (ZA rfl rfl (ZF rfl) (ZA rfl rfl (ZF rfl) (ZA rfl rfl (Zm U45 rfl (IsSlice.long hs_24)) (Zz (HF := (New H H)) (R := RInt) (ls := [(y_14.length : Int)]) (vs := [.int .i64 (y_14.length : Int)]) U75 I3 rfl rfl (⟨_, _, rfl, rfl, rfl, rfl⟩) RInt.one rfl rfl rfl (by simp [maxLen]) rfl (fun vr_25 Kr_25 hr_25 => ?_))))))))))
    obtain ⟨ar_25, cr_25, rfl⟩ := RowOf.val hr_25
    obtain ⟨q_26, hm_27, hl_28, hx⟩ := app_some hx
    refine JL.appF (HF := (New H H)) 3 U75 I3 rfl rfl hr_12 rfl (SrcF.row 0 U75 rfl hr_25) hm_27 hl_28 rfl (Nat.le_refl _) rfl (fun vr_29 Kr_29 hr_29 => ?_)
    obtain ⟨ar_29, cr_29, rfl⟩ := RowOf.val hr_29
    refine ZA rfl rfl (ZH rfl) (ZD (Zk (ZC (ZB (ZA rfl rfl (R.inc rfl rfl (of_decide_eq_true c_13) (IsSlice.lenI ha_2)) (ZA rfl rfl (ZF rfl) (ZD ?_)))))))
    replace hx := Zo hd_13 hx
    refine JN.forget 0 (ZO 2 rfl (ZO 2 rfl (ZO 2 rfl ?_)))
    exact JN.cut ⟨(q_26, s_9.2 + 1), ar_29, q_26.length, cr_29, Kr_29, rfl, rfl, rfl, hx, hr_29⟩ ⟨rfl, rfl, rfl, rfl, rfl, rfl, trivial⟩ rfl rfl
   ·
    replace hx := ZX c_13 hx
    refine JC.exit (Ze ?_)
    obtain rfl := Zu hd_13 hx
    refine Ze (Zl (ZO 2 rfl (ZO 2 rfl (ZO 2 rfl ?_))))
    exact JN.cut ⟨ar_12, nr_12, cr_12, Kr_12, rfl, rfl, rfl, hr_12⟩ ⟨rfl, rfl, rfl, trivial⟩ rfl rfl

set_option maxHeartbeats 8000000 in
theorem store_Twin_ok (p_1 : Store) (H : Heaplet) {aa_2 : Option Addr} {na_2 : Nat} {ca_2 : Nat} {aa_3 : Option Addr} {na_3 : Nat} {ca_3 : Nat} {aa_4 : Option Addr} {na_4 : Nat} {ca_4 : Nat} (ha_2 : IsSlice H (RSl RU8 1) 1 (.slice aa_2 na_2 ca_2) p_1.Disk.Blocks) (ha_3 : IsSlice H R_Write 2 (.slice aa_3 na_3 ca_3) p_1.Disk.Waits) (ha_4 : IsSlice H RU8 1 (.slice aa_4 na_4 ca_4) p_1.Space) (r : Store) (hx : store_Twin p_1 = some r) :
  Does Try.prog 61 #[.agg #[.slice aa_2 na_2 ca_2, .slice aa_3 na_3 ca_3, .slice aa_4 na_4 ca_4, .int .u32 (p_1.Epoch.toNat : Int), .int .u32 (p_1.Count.toNat : Int)]] [] H (fun u K' H' => ∃ ao0 : Option Addr, ∃ n0 : Nat, ∃ cap0 : Nat, ∃ K0 : Own, ∃ ao1 : Option Addr, ∃ n1 : Nat, ∃ cap1 : Nat, ∃ K1 : Own, ∃ ao2 : Option Addr, ∃ n2 : Nat, ∃ cap2 : Nat, ∃ K2 : Own, u = .agg #[.slice ao0 n0 cap0, .slice ao1 n1 cap1, .slice ao2 n2 cap2, .int .u32 (r.Epoch.toNat : Int), .int .u32 (r.Count.toNat : Int)] ∧ K' = [K0, K1, K2] ∧ Pcs 0 5 45 (.slice ao0 n0 cap0) r.Disk.Blocks K0 ∧ (∀ p ∈ K0, p.1 ∉ ids (List.flatten [])) ∧ RowOf (New H H') R_Write 0 47 2 (.slice ao1 n1 cap1) r.Disk.Waits K1 ∧ (∀ p ∈ K1, p.1 ∉ ids (List.flatten [])) ∧ RowOf (New H H') RU8 0 5 1 (.slice ao2 n2 cap2) r.Space K2 ∧ (∀ p ∈ K2, p.1 ∉ ids (List.flatten [])) ∧ True) := by
 refine Does.enterL (vs := [.agg #[.slice aa_2 na_2 ca_2, .slice aa_3 na_3 ca_3, .slice aa_4 na_4 ca_4, .int .u32 (p_1.Epoch.toNat : Int), .int .u32 (p_1.Count.toNat : Int)]]) (l := [(0, .agg #[.slice aa_2 na_2 ca_2, .slice aa_3 na_3 ca_3, .slice aa_4 na_4 ca_4, .int .u32 (p_1.Epoch.toNat : Int), .int .u32 (p_1.Count.toNat : Int)])]) Try.func61 rfl rfl ⟨rfl, trivial⟩ (fun w hlt => ?_)
 unfold store_Twin at hx
 refine ZG (ZB (JL.box rfl rfl (fun b_5 hb_5 => JL.alloc Z50 rfl (fun b_6 hb_6 => ZD (ZC (ZG ?_))))))
 obtain ⟨t_7, ht_9, hx⟩ := ZM hx
 refine JC.cut (fun l o g => ∃ H_19 : Heaplet, ∃ ar_20 : Option Addr, ∃ nr_20 : Nat, ∃ cr_20 : Nat, ∃ Kr_20 : Own, ∃ ar_21 : Option Addr, ∃ nr_21 : Nat, ∃ cr_21 : Nat, ∃ Kr_21 : Own, ∃ ar_22 : Option Addr, ∃ nr_22 : Nat, ∃ cr_22 : Nat, ∃ Kr_22 : Own, l = [(1, .pointer (some ⟨b_5, 0, none⟩)), (2, .pointer (some ⟨b_6, 0, none⟩))] ∧ o = [[(b_5, .cells #[.slice ar_20 nr_20 cr_20, .slice ar_21 nr_21 cr_21, .slice ar_22 nr_22 cr_22, .int .u32 (p_1.Epoch.toNat : Int), .int .u32 (p_1.Count.toNat : Int)] 50 (0, 0))], Kr_20, Kr_21, Kr_22, [(b_6, .cells #[.slice none 0 0, .slice none 0 0, .slice none 0 0, .int .u32 ((0 : UInt32).toNat : Int), .int .u32 ((0 : UInt32).toNat : Int)] 50 (0, 0))]] ∧ H_19 = g ∧ Hle H H_19 ∧ Pcs w.heap.size 5 45 (.slice ar_20 nr_20 cr_20) t_7.1 Kr_20 ∧ RowOf (New H H_19) R_Write w.heap.size 47 2 (.slice ar_21 nr_21 cr_21) t_7.2.1 Kr_21 ∧ RowOf (New H H_19) RU8 w.heap.size 5 1 (.slice ar_22 nr_22 cr_22) t_7.2.2 Kr_22) ?_ ?_
 ·
  rintro _ _ _ ⟨H_19, ar_20, nr_20, cr_20, Kr_20, ar_21, nr_21, cr_21, Kr_21, ar_22, nr_22, cr_22, Kr_22, rfl, rfl, rfl, hleH_19, hr_20, hr_21, hr_22⟩
  refine ZC (ZG (ZB (ZA rfl rfl (Z1 0 (vs := [.slice ar_20 nr_20 cr_20, .slice ar_21 nr_21 cr_21, .slice ar_22 nr_22 cr_22, .int .u32 (p_1.Epoch.toNat : Int), .int .u32 (p_1.Count.toNat : Int)]) S50 rfl rfl rfl rfl) (ZN 4 S50 rfl rfl rfl rfl rfl (Nat.le_of_ble_eq_true rfl) (ZD (ZC (ZV (ZT (vs := [.agg #[.slice ar_20 nr_20 cr_20, .slice ar_21 nr_21 cr_21, .slice ar_22 nr_22 cr_22, .int .u32 (p_1.Epoch.toNat : Int), .int .u32 (p_1.Count.toNat : Int)]]) (K := [_, _, _]) (rst := [_, _]) (.inl rfl) rfl rfl (Zf 4 rfl rfl S50 rfl) (Za 1 rfl (Za 1 rfl (Za 1 rfl ZK))) ?_))))))))
  obtain rfl := Option.some.inj hx
  exact ⟨ar_20, nr_20, cr_20, Kr_20, ar_21, nr_21, cr_21, Kr_21, ar_22, nr_22, cr_22, Kr_22, rfl, rfl, (Pcs.weak (Nat.zero_le _) hr_20), (newP_ids hr_20 hlt), (Zd (Nat.zero_le _) hr_21), (Zx hr_21 hlt), (Zd (Nat.zero_le _) hr_22), (Zx hr_22 hlt), trivial⟩
 ·
  have hxo_8 := hx; clear hx; have hx := ht_9; clear ht_9
  refine JC.draw (so := [_]) 10 rfl Mixed ⟨⟨0, rfl⟩, trivial⟩ (JA.val ⟨by kernel_rfl, by kernel_rfl⟩ (ZJ _) (i := 0) rfl ⟨by kernel_rfl, by kernel_rfl, rfl⟩ trivial (ZI (Hle.refl _) ⟨⟨0, rfl⟩, trivial⟩) (R.fa F50_0 rfl) rfl (JA.val ⟨by kernel_rfl, by kernel_rfl⟩ (ZJ _) (i := 3) rfl ⟨by kernel_rfl, by kernel_rfl, rfl⟩ trivial (ZI (Hle.refl _) ⟨⟨0, rfl⟩, trivial⟩) (R.fa F50_1 rfl) rfl ?_))
  obtain ⟨x_10, hr_11, hx⟩ := ZM hx
  obtain ⟨x_15, hr_16, hx⟩ := ZM hx
  refine JA.two (i := 1) (j := 4) (by kernel_rfl) ?_ ?_
  ·
   refine ZZ rfl trivial rfl (fun K hK => ZA rfl rfl (Z1 1 (vs := [.slice aa_2 na_2 ca_2, .slice aa_3 na_3 ca_3]) S25 rfl rfl rfl rfl) (ZD (hK _ _ _ (ZI (Hle.refl _) ⟨⟨0, rfl⟩, trivial⟩) (JA.two (i := 2) (j := 4) (by kernel_rfl) ?_ ?_))))
   ·
    refine ZZ rfl trivial rfl (fun K hK => ZS (vs := [_]) (args := [_]) (K := []) (rst := [_, _]) E70 rfl rfl rfl ZK (dev_Twin_ok (Disk.mk p_1.Disk.Blocks p_1.Disk.Waits) _ ha_2 ha_3 _ hr_11) rfl (fun u_12 Ku_12 Hu_12 hRu_12 hleu_12 hfu_12 => ?_))
    obtain ⟨ar_13, nr_13, cr_13, Kr_13, ar_14, nr_14, cr_14, Kr_14, rfl, rfl, hr_13, hnewr_13, hr_14, hnewr_14, -⟩ := hRu_12
    replace hr_13 := (Pcs.base hr_13 (fun p hp => (hfu_12 p (Zg 0 rfl hp)).resolve_left (hnewr_13 p hp)))
    replace hr_14 := (RowOf.base (RowOf.mono R_Write.mono (New.call (Hle.refl _)) hr_14) (fun p hp => (hfu_12 p (Zg 1 rfl hp)).resolve_left (hnewr_14 p hp)))
    refine ZD (hK _ _ _ (ZI hleu_12 ⟨⟨2, rfl⟩, trivial⟩) (JA.one (i := 4) (by kernel_rfl) (ZZ rfl trivial rfl (fun K hK => ZA rfl rfl (Zi 3 S45 rfl rfl rfl) (ZD (hK _ _ _ (ZI hleu_12 ⟨⟨2, rfl⟩, trivial⟩) (JA.val ⟨by kernel_rfl, by kernel_rfl⟩ (ZJ _) (i := 6) rfl ⟨by kernel_rfl, by kernel_rfl, rfl⟩ trivial (ZI hleu_12 ⟨⟨2, rfl⟩, trivial⟩) (R.fa F50_0 rfl) rfl (JA.one (i := 5) (by kernel_rfl) (ZZ rfl trivial rfl (fun K hK => ZS (vs := [_]) (args := [_]) (K := []) (rst := [_, _, _, _]) E105 rfl rfl rfl ZK (bytes_Clone_ok p_1.Space _ (ha_4.mono RU8.mono hleu_12) _ hr_16) rfl (fun u_17 Ku_17 Hu_17 hRu_17 hleu_17 hfu_17 => ?_)))))))))))
    obtain ⟨ar_18, nr_18, cr_18, Kr_18, rfl, rfl, rfl, hr_18, hnewr_18, -⟩ := hRu_17
    replace hr_18 := (RowOf.base (Zc (H2 := New H Hu_12) RU8.const hr_18) (fun p hp => (hfu_17 p (Zg 0 rfl hp)).resolve_left (hnewr_18 p hp)))
    refine ZD (hK _ _ _ (ZI hleu_12 ⟨⟨3, rfl⟩, trivial⟩) (JA.one (i := 7) (by kernel_rfl) (ZZ rfl trivial rfl (fun K hK => ZN 4 S25 rfl rfl rfl rfl rfl (Nat.le_of_ble_eq_true rfl) (ZD (hK _ _ _ (ZI hleu_12 ⟨⟨3, rfl⟩, trivial⟩) (JA.val ⟨by kernel_rfl, by kernel_rfl⟩ (ZJ _) (i := 8) rfl ⟨by kernel_rfl, by kernel_rfl, rfl⟩ trivial (ZI hleu_12 ⟨⟨3, rfl⟩, trivial⟩) (R.fa F50_1 rfl) rfl (JA.one (i := 9) (by kernel_rfl) (ZZ rfl trivial rfl (fun K hK => ZN 4 S45 rfl rfl rfl rfl rfl (Nat.le_of_ble_eq_true rfl) (ZD ?_)))))))))))
    refine hK _ _ _ (ZI hleu_12 ⟨⟨3, rfl⟩, trivial⟩) (Zt (by kernel_rfl) ?_)
    obtain rfl := Option.some.inj hx
    refine ZO 3 rfl (ZO 1 rfl (ZO 3 rfl (ZO 3 rfl (ZO 4 rfl ?_))))
    exact JN.cut ⟨Hu_12, ar_13, nr_13, cr_13, Kr_13, ar_14, nr_14, cr_14, Kr_14, ar_18, nr_18, cr_18, Kr_18, rfl, rfl, rfl, (hleu_12), hr_13, hr_14, hr_18⟩ ⟨rfl, rfl, trivial⟩ rfl rfl
   ·
    refine ZZ rfl trivial rfl (fun K hK => ZA rfl rfl (Zi 1 S45 rfl rfl rfl) (ZD (hK _ _ _ (ZI (Hle.refl _) ⟨⟨0, rfl⟩, trivial⟩) (JA.one (i := 2) (by kernel_rfl) (ZZ rfl trivial rfl (fun K hK => ZS (vs := [_]) (args := [_]) (K := []) (rst := [_, _]) E70 rfl rfl rfl ZK (dev_Twin_ok (Disk.mk p_1.Disk.Blocks p_1.Disk.Waits) _ ha_2 ha_3 _ hr_11) rfl (fun u_12 Ku_12 Hu_12 hRu_12 hleu_12 hfu_12 => ?_)))))))
    obtain ⟨ar_13, nr_13, cr_13, Kr_13, ar_14, nr_14, cr_14, Kr_14, rfl, rfl, hr_13, hnewr_13, hr_14, hnewr_14, -⟩ := hRu_12
    replace hr_13 := (Pcs.base hr_13 (fun p hp => (hfu_12 p (Zg 0 rfl hp)).resolve_left (hnewr_13 p hp)))
    replace hr_14 := (RowOf.base (RowOf.mono R_Write.mono (New.call (Hle.refl _)) hr_14) (fun p hp => (hfu_12 p (Zg 1 rfl hp)).resolve_left (hnewr_14 p hp)))
    refine ZD (hK _ _ _ (ZI hleu_12 ⟨⟨2, rfl⟩, trivial⟩) (JA.val ⟨by kernel_rfl, by kernel_rfl⟩ (ZJ _) (i := 6) rfl ⟨by kernel_rfl, by kernel_rfl, rfl⟩ trivial (ZI hleu_12 ⟨⟨2, rfl⟩, trivial⟩) (R.fa F50_0 rfl) rfl (JA.one (i := 5) (by kernel_rfl) (ZZ rfl trivial rfl (fun K hK => ZS (vs := [_]) (args := [_]) (K := []) (rst := [_, _, _, _]) E105 rfl rfl rfl ZK (bytes_Clone_ok p_1.Space _ (ha_4.mono RU8.mono hleu_12) _ hr_16) rfl (fun u_17 Ku_17 Hu_17 hRu_17 hleu_17 hfu_17 => ?_))))))
    obtain ⟨ar_18, nr_18, cr_18, Kr_18, rfl, rfl, rfl, hr_18, hnewr_18, -⟩ := hRu_17
    replace hr_18 := (RowOf.base (Zc (H2 := New H Hu_12) RU8.const hr_18) (fun p hp => (hfu_17 p (Zg 0 rfl hp)).resolve_left (hnewr_18 p hp)))
    refine ZD (hK _ _ _ (ZI hleu_12 ⟨⟨3, rfl⟩, trivial⟩) (JA.one (i := 7) (by kernel_rfl) (ZZ rfl trivial rfl (fun K hK => ZN 4 S25 rfl rfl rfl rfl rfl (Nat.le_of_ble_eq_true rfl) (ZD (hK _ _ _ (ZI hleu_12 ⟨⟨3, rfl⟩, trivial⟩) (JA.val ⟨by kernel_rfl, by kernel_rfl⟩ (ZJ _) (i := 8) rfl ⟨by kernel_rfl, by kernel_rfl, rfl⟩ trivial (ZI hleu_12 ⟨⟨3, rfl⟩, trivial⟩) (R.fa F50_1 rfl) rfl (JA.one (i := 9) (by kernel_rfl) (ZZ rfl trivial rfl (fun K hK => ZN 4 S45 rfl rfl rfl rfl rfl (Nat.le_of_ble_eq_true rfl) (ZD ?_)))))))))))
    refine hK _ _ _ (ZI hleu_12 ⟨⟨3, rfl⟩, trivial⟩) (Zt (by kernel_rfl) ?_)
    obtain rfl := Option.some.inj hx
    refine ZO 3 rfl (ZO 1 rfl (ZO 3 rfl (ZO 3 rfl (ZO 4 rfl ?_))))
    exact JN.cut ⟨Hu_12, ar_13, nr_13, cr_13, Kr_13, ar_14, nr_14, cr_14, Kr_14, ar_18, nr_18, cr_18, Kr_18, rfl, rfl, rfl, (hleu_12), hr_13, hr_14, hr_18⟩ ⟨rfl, rfl, trivial⟩ rfl rfl
  ·
   refine ZZ rfl trivial rfl (fun K hK => ZA rfl rfl (Zi 1 S45 rfl rfl rfl) (ZD (hK _ _ _ (ZI (Hle.refl _) ⟨⟨0, rfl⟩, trivial⟩) (JA.one (i := 1) (by kernel_rfl) (ZZ rfl trivial rfl (fun K hK => ZA rfl rfl (Z1 1 (vs := [.slice aa_2 na_2 ca_2, .slice aa_3 na_3 ca_3]) S25 rfl rfl rfl rfl) (ZD (hK _ _ _ (ZI (Hle.refl _) ⟨⟨0, rfl⟩, trivial⟩) (JA.one (i := 2) (by kernel_rfl) (ZZ rfl trivial rfl (fun K hK => ZS (vs := [_]) (args := [_]) (K := []) (rst := [_, _]) E70 rfl rfl rfl ZK (dev_Twin_ok (Disk.mk p_1.Disk.Blocks p_1.Disk.Waits) _ ha_2 ha_3 _ hr_11) rfl (fun u_12 Ku_12 Hu_12 hRu_12 hleu_12 hfu_12 => ?_))))))))))))
   obtain ⟨ar_13, nr_13, cr_13, Kr_13, ar_14, nr_14, cr_14, Kr_14, rfl, rfl, hr_13, hnewr_13, hr_14, hnewr_14, -⟩ := hRu_12
   replace hr_13 := (Pcs.base hr_13 (fun p hp => (hfu_12 p (Zg 0 rfl hp)).resolve_left (hnewr_13 p hp)))
   replace hr_14 := (RowOf.base (RowOf.mono R_Write.mono (New.call (Hle.refl _)) hr_14) (fun p hp => (hfu_12 p (Zg 1 rfl hp)).resolve_left (hnewr_14 p hp)))
   refine ZD (hK _ _ _ (ZI hleu_12 ⟨⟨2, rfl⟩, trivial⟩) (JA.val ⟨by kernel_rfl, by kernel_rfl⟩ (ZJ _) (i := 6) rfl ⟨by kernel_rfl, by kernel_rfl, rfl⟩ trivial (ZI hleu_12 ⟨⟨2, rfl⟩, trivial⟩) (R.fa F50_0 rfl) rfl (JA.one (i := 5) (by kernel_rfl) (ZZ rfl trivial rfl (fun K hK => ZS (vs := [_]) (args := [_]) (K := []) (rst := [_, _, _, _]) E105 rfl rfl rfl ZK (bytes_Clone_ok p_1.Space _ (ha_4.mono RU8.mono hleu_12) _ hr_16) rfl (fun u_17 Ku_17 Hu_17 hRu_17 hleu_17 hfu_17 => ?_))))))
   obtain ⟨ar_18, nr_18, cr_18, Kr_18, rfl, rfl, rfl, hr_18, hnewr_18, -⟩ := hRu_17
   replace hr_18 := (RowOf.base (Zc (H2 := New H Hu_12) RU8.const hr_18) (fun p hp => (hfu_17 p (Zg 0 rfl hp)).resolve_left (hnewr_18 p hp)))
   refine ZD (hK _ _ _ (ZI hleu_12 ⟨⟨3, rfl⟩, trivial⟩) (JA.one (i := 7) (by kernel_rfl) (ZZ rfl trivial rfl (fun K hK => ZN 4 S25 rfl rfl rfl rfl rfl (Nat.le_of_ble_eq_true rfl) (ZD (hK _ _ _ (ZI hleu_12 ⟨⟨3, rfl⟩, trivial⟩) (JA.val ⟨by kernel_rfl, by kernel_rfl⟩ (ZJ _) (i := 8) rfl ⟨by kernel_rfl, by kernel_rfl, rfl⟩ trivial (ZI hleu_12 ⟨⟨3, rfl⟩, trivial⟩) (R.fa F50_1 rfl) rfl (JA.one (i := 9) (by kernel_rfl) (ZZ rfl trivial rfl (fun K hK => ZN 4 S45 rfl rfl rfl rfl rfl (Nat.le_of_ble_eq_true rfl) (ZD ?_)))))))))))
   refine hK _ _ _ (ZI hleu_12 ⟨⟨3, rfl⟩, trivial⟩) (Zt (by kernel_rfl) ?_)
   obtain rfl := Option.some.inj hx
   refine ZO 3 rfl (ZO 1 rfl (ZO 3 rfl (ZO 3 rfl (ZO 4 rfl ?_))))
   exact JN.cut ⟨Hu_12, ar_13, nr_13, cr_13, Kr_13, ar_14, nr_14, cr_14, Kr_14, ar_18, nr_18, cr_18, Kr_18, rfl, rfl, rfl, (hleu_12), hr_13, hr_14, hr_18⟩ ⟨rfl, rfl, trivial⟩ rfl rfl

theorem slices_Chunk_Ptr_ok (p_1 : List Ptr) (p_2 : Int) (H : Heaplet) {ao : Option Addr} {n cap : Nat} (hs : IsSlice H R_Ptr 5 (.slice ao n cap) p_1) (r : Unit) (hx : slices_Chunk_Ptr p_1 p_2 = some r) :
  Does Try.prog 63 #[.slice ao n cap, .int .i64 p_2] [] H (fun u K' H' => ∃ b2 b3 : Nat, u = .func (.func 106) #[] #[.pointer (some ⟨b2, 0, none⟩), .pointer (some ⟨b3, 0, none⟩)] ∧ K' = [] ∧ H' b2 0 = some (.slice ao n cap) ∧ H' b3 0 = some (.int .i64 p_2) ∧ (1 ≤ p_2 ∧ p_2 ≤ 1099511627776 ∧ p_1.length ≤ LIM) ∧ True) := by
 unfold slices_Chunk_Ptr at hx
 split at hx
 case isFalse => cases hx
 rename_i hp
 refine Does.enter (vs := [.slice ao n cap, .int .i64 p_2]) (l := [(0, .slice ao n cap), (1, .int .i64 p_2)]) Try.func63 rfl rfl ⟨rfl, rfl, trivial⟩ (fun w => ZG (ZB (JL.box rfl rfl (fun b2 hb2 => JL.box rfl rfl (fun b3 hb3 => ZA rfl rfl (ZH rfl) (ZD (ZC (ZG (ZG (ZB (ZA rfl rfl (Zi 0 S3 rfl rfl rfl) ?_)))))))))))
 refine ZA rfl rfl (Zr rfl rfl) (ZD (ZC (ZU rfl (fun c => ?_) (fun c => ?_))))
 ·
  exact absurd (of_decide_eq_true c) (by omega)
 refine JC.skip (ZC (ZG (ZB (ZA rfl rfl (R.func (vf := []) (vc := [_, _]) rfl rfl) (ZA rfl rfl (ZH rfl) (ZD (ZC (ZV (JN.pubBox 0 rfl hb3 (fun H1 hle1 hc1 => JN.forget 0 (JN.pubBox 0 rfl hb2 (fun H2 hle2 hc2 => ?_))))))))))))
 refine JN.forget 0 (JN.out1 (.inl rfl) rfl rfl rfl ?_)
 exact ⟨_, _, rfl, rfl, hc2 0 _ rfl, hle2 _ _ _ (hc1 0 _ rfl), hp, trivial⟩

set_option maxHeartbeats 8000000 in
theorem slices_Chunk_Ptr_it (m : List Ptr) (N : Int) (hN : 1 ≤ N ∧ N ≤ 1099511627776 ∧ m.length ≤ LIM) (H : Heaplet) {v : Value} {b2 b3 : Nat} (hs : IsSlice H R_Ptr 5 v m) (hb2 : H b2 0 = some v) (hb3 : H b3 0 = some (.int .i64 N)) :
  IterL Try.prog 106 #[.pointer (some ⟨b2, 0, none⟩), .pointer (some ⟨b3, 0, none⟩)] H (fun H' args (y : List Ptr) => ∃ ao : Option Addr, args = #[.slice ao y.length y.length] ∧ IsSlice H' R_Ptr 5 (.slice ao y.length y.length) y) (chunks N.toNat m.length m) := by
 intro lr I X o hY hI
 obtain ⟨hN1, hN2, hml⟩ := hN
 unfold LIM at hml
 obtain ⟨ao, cap, rfl⟩ := hs.val
 show Does Try.prog 106 #[.func (.yield lr) #[] #[], .pointer (some ⟨b2, 0, none⟩), .pointer (some ⟨b3, 0, none⟩)] o H _
 refine Does.enter (vs := [.func (.yield lr) #[] #[], .pointer (some ⟨b2, 0, none⟩), .pointer (some ⟨b3, 0, none⟩)]) (l := [(0, .func (.yield lr) #[] #[]), (1, .pointer (some ⟨b2, 0, none⟩)), (2, .pointer (some ⟨b3, 0, none⟩))]) Try.func106 rfl rfl ⟨rfl, rfl, rfl, trivial⟩ (fun w => ZG (ZB (ZA rfl rfl (ZH rfl) (ZD (ZC (JC.block ?_))))))
 refine JC.loop (ι := Nat × Nat × List (List Ptr) × List Own × Heaplet) (fun i => [(0, .func (.yield lr) #[] #[]), (1, .pointer (some ⟨b2, 0, none⟩)), (2, .pointer (some ⟨b3, 0, none⟩)), (4, .int .i64 ((i.1 : Nat) : Int))]) (fun i => i.2.2.2.1) (fun i => i.2.2.2.2)
  (fun i => i.1 ≤ 2199023255552 ∧ m.length ≤ i.1 + i.2.1 ∧ i.2.2.1 ++ chunks N.toNat i.2.1 (m.drop i.1) = chunks N.toNat m.length m ∧ I i.2.2.1 i.2.2.2.1 i.2.2.2.2 ∧ Hle H i.2.2.2.2) (fun i => m.length + 1 - i.1) (0, m.length, [], o, H) (⟨by omega, by simp, by simp, hI, Hle.refl _⟩) ⟨rfl, rfl, rfl, rfl, trivial⟩ rfl rfl ?_
 rintro ⟨i, f, pre, o2, H2⟩ hI0
 dsimp only at hI0 ⊢
 obtain ⟨hi2, hf, hpre, hI2, hle⟩ := hI0
 have hb2' := hle _ _ _ hb2
 have hb3' := hle _ _ _ hb3
 have hs2 := IsSlice.mono R_Ptr.mono hle hs
 refine ZG (ZG (ZB (ZA rfl rfl (ZF rfl) (ZA rfl rfl (R.ldH S53 rfl hb2') (ZA rfl rfl (Zm U53 rfl (IsSlice.long hs2)) (ZA rfl rfl (Zr rfl rfl) (ZD (ZC (ZU rfl (fun c => ?_) (fun c => ?_))))))))))
 ·
  have hlt : i < m.length := by have := of_decide_eq_true c; omega
  have hne : m.drop i ≠ [] := fun h => by have := List.drop_eq_nil_iff.1 h; omega
  obtain ⟨f', rfl⟩ : ∃ f', f = f' + 1 := ⟨f - 1, by omega⟩
  rw [chunks_step hne, List.drop_drop] at hpre
  obtain ⟨e, he⟩ : ∃ e : Int, e = min N ((m.length : Int) - i) := ⟨_, rfl⟩
  have hcut : (m.drop i).take N.toNat = cut m (i : Int) ((i : Int) + e) := by
   unfold cut
   rw [Int.toNat_natCast]
   by_cases h : N ≤ (m.length : Int) - i
   ·
    rw [show ((i : Int) + e).toNat - i = N.toNat by omega]
   ·
    rw [List.take_of_length_le (by rw [List.length_drop]; omega), List.take_of_length_le (by rw [List.length_drop]; omega)]
  refine JC.skip (ZC (ZG (JC.block (ZG ?_))))
  obtain ⟨v1, c1, h1, h2, h3, hs1⟩ := IsSlice.cutv (m' := cut m (i : Int) (m.length : Int)) hs2 rfl ⟨by omega, by omega, Int.le_refl _⟩
  have hl1 : ((cut m (i : Int) (m.length : Int)).length : Int) = (m.length : Int) - i := cut_length (by omega) (by omega) (Int.le_refl _)
  refine JC.draw (so := []) 7 rfl Mixed trivial (JA.val ⟨by kernel_rfl, by kernel_rfl⟩ (ZJ _) (i := 0) rfl ⟨by kernel_rfl, by kernel_rfl, rfl⟩ trivial (ZI (Hle.refl _) trivial) (R.ldH S3 rfl hb3') rfl (JA.val ⟨by kernel_rfl, by kernel_rfl⟩ (ZJ _) (i := 1) rfl ⟨by kernel_rfl, by kernel_rfl, rfl⟩ trivial (ZI (Hle.refl _) trivial) (R.ldH S53 rfl hb2') rfl (JA.val ⟨by kernel_rfl, by kernel_rfl⟩ (ZJ _) (i := 2) rfl ⟨by kernel_rfl, by kernel_rfl, rfl⟩ trivial (ZI (Hle.refl _) trivial) (ZF rfl) rfl (JA.val ⟨by kernel_rfl, by kernel_rfl⟩ (ZJ _) (i := 3) rfl ⟨by kernel_rfl, by kernel_rfl, rfl⟩ trivial (ZI (Hle.refl _) trivial) (R.slc (cap := c1) (a := (i : Int)) (b := (m.length : Int)) (c := (c1 : Int)) (m := m) (R := R_Ptr) U53 S28 rfl ⟨_, rfl⟩ rfl (by obtain ⟨ao, n, e, _⟩ := h1; exact ⟨ao, n, e, rfl⟩) ⟨by omega, by omega, h2⟩ h3 (.inl rfl)) rfl (JA.val ⟨by kernel_rfl, by kernel_rfl⟩ (ZJ _) (i := 4) rfl ⟨by kernel_rfl, by kernel_rfl, rfl⟩ trivial (ZI (Hle.refl _) trivial) (R.lenE U53 rfl ⟨_, IsSlice.long hs1, hl1⟩) rfl (JA.val ⟨by kernel_rfl, by kernel_rfl⟩ (ZJ _) (i := 5) rfl ⟨by kernel_rfl, by kernel_rfl, rfl⟩ trivial (ZI (Hle.refl _) trivial) (R.min2 rfl rfl) rfl ?_))))))
  rw [← he]
  refine JA.val ⟨by kernel_rfl, by kernel_rfl⟩ (ZJ _) (i := 6) rfl ⟨by kernel_rfl, by kernel_rfl, rfl⟩ trivial (ZI (Hle.refl _) trivial) (ZH rfl) rfl (Zt (by kernel_rfl) (ZC ?_))
  have hw : w64 ((i : Int) + e) = (i : Int) + e := w64_of (by omega) (by omega)
  obtain ⟨v2, c2, ao2, g1, g2, hs3⟩ := IsSlice.cutc (m' := (m.drop i).take N.toNat) hs2 hcut ⟨by omega, by omega, by omega⟩
  subst g2
  refine ZG (ZB (ZA rfl rfl (ZF rfl) (ZA rfl rfl (R.ldH S53 rfl hb2') (ZA rfl rfl (ZF rfl) (ZA rfl rfl (ZF rfl) (ZA rfl rfl (ZF rfl) (ZA rfl rfl (R.add_i rfl rfl) ?_)))))))
  rw [hw]
  refine ZA rfl rfl (ZF rfl) (ZA rfl rfl (ZF rfl) (ZA rfl rfl (R.add_i rfl rfl) ?_))
  rw [hw]
  refine ZA rfl rfl (R.slc (cap := c2) (a := (i : Int)) (b := (i : Int) + e) (c := (i : Int) + e) (m := m) (R := R_Ptr) U53 S28 rfl ⟨_, rfl⟩ ⟨_, rfl⟩ ⟨_, rfl⟩ ⟨by omega, by omega, Int.le_refl _⟩ g1 (.inr (fun h => by cases h))) (JL.yield (vs := [_]) (mine := []) ((m.drop i).take N.toNat) hY rfl rfl hI2 (⟨⟨ao2, rfl, hs3⟩, _, by rw [← hpre]⟩) rfl rfl (fun o17 H17 hle17 hI17 => ?_) (fun o17 H17 hle17 hX17 => ?_))
  ·
   refine ZA rfl rfl (R.not rfl) (ZD (ZC (JC.condF rfl (JC.skip (Zk (ZC (ZB (ZA rfl rfl (ZF rfl) (ZA rfl rfl (R.ldH S3 rfl (hle17 _ _ _ hb3')) (ZA rfl rfl (R.add_i rfl rfl) (ZA rfl rfl (ZH rfl) ?_)))))))))))
   refine ZD ?_
   have hw2 : w64 ((i : Int) + N) = ((i + N.toNat : Nat) : Int) := by rw [w64_of (by omega) (by omega)]; omega
   refine JN.again (i := (i, f' + 1, pre, o2, H2)) (i + N.toNat, f', pre ++ [(m.drop i).take N.toNat], o17, H17) (by
    refine ⟨?_, ?_, ?_, hI17, hle.trans hle17⟩
    ·
     simp only; omega
    ·
     simp only; omega
    ·
     simp only [List.append_assoc, List.singleton_append]; exact hpre) (by simp only; omega) (by exact ⟨rfl, rfl, rfl, by show some _ = some _; rw [hw2], trivial⟩) rfl rfl
  ·
   refine ZA rfl rfl (R.not rfl) (ZD (ZC (Z2 rfl (ZV (Z4 (ZR (ZR (Z4 (JN.out0 (.inl rfl) rfl rfl ?_)))))))))
   exact ⟨hle.trans hle17, .inr ⟨_, ⟨chunks N.toNat f' (m.drop (i + N.toNat)), by rw [← hpre]; simp⟩, hX17⟩⟩
 ·
  have hge : m.length ≤ i := by have := of_decide_eq_false c; omega
  refine JC.exit (Ze (Ze (Zl (JN.out0 (.inr rfl) rfl rfl (⟨hle, .inl ⟨pre, ?_, hI2⟩⟩)))))
  rw [← hpre, List.drop_eq_nil_of_le hge, chunks_nil, List.append_nil]

set_option maxHeartbeats 8000000 in
theorem ptr_sizes_ok (H : Heaplet) (r : A5 Int) (hx : ptr_sizes = some r) :
  Does Try.prog 112 #[] [] H (fun u K' H' => u = .agg #[.int .i64 r.e0, .int .i64 r.e1, .int .i64 r.e2, .int .i64 r.e3, .int .i64 r.e4] ∧ K' = [] ∧ H = H' ∧ True) := by
 refine Does.enterL (vs := []) (l := []) Try.func112 rfl rfl trivial (fun w hlt => ?_)
 unfold ptr_sizes at hx
 refine ZG (ZB (JL.alloc Z158 rfl (fun b_1 hb_1 => ZD (ZC (ZG (ZB (ZA rfl rfl (R.bldA (vs := [(0, .int .i64 1), (1, .int .i64 3), (2, .int .i64 4), (3, .int .i64 4), (4, .int .i64 4)]) (cells := #[.int .i64 1, .int .i64 3, .int .i64 4, .int .i64 4, .int .i64 4]) Z158 B158 rfl rfl rfl rfl) (ZN 0 S158 rfl rfl rfl rfl rfl (Nat.le_of_ble_eq_true rfl) (ZD (ZC (ZV ?_)))))))))))
 refine ZT (vs := [.agg #[.int .i64 1, .int .i64 3, .int .i64 4, .int .i64 4, .int .i64 4]]) (K := []) (rst := [_]) (.inl rfl) rfl rfl (Zf 0 rfl rfl S158 rfl) ZK ?_
 obtain rfl := Option.some.inj hx
 exact ⟨rfl, rfl, rfl, trivial⟩

set_option maxHeartbeats 8000000 in
theorem code_sized_ok (p_1 : Int) (H : Heaplet) (r : Bool) (hx : code_sized p_1 = some r) :
  Does Try.prog 111 #[.int .i64 p_1] [] H (fun u K' H' => u = .bool r ∧ K' = [] ∧ H = H' ∧ True) := by
 refine Does.enterL (vs := [.int .i64 p_1]) (l := [(0, .int .i64 p_1)]) Try.func111 rfl rfl ⟨rfl, trivial⟩ (fun w hlt => ?_)
 unfold code_sized at hx
 refine ZG (ZB (ZA rfl rfl (ZH rfl) (ZD (ZC (ZG ?_)))))
 obtain ⟨t_2, ht_4, hx⟩ := ZM hx
 refine JC.cut (fun l o g => l = [(2, .bool t_2)] ∧ o = [] ∧ H = g) ?_ ?_
 ·
  rintro _ _ _ ⟨rfl, rfl, rfl⟩
  refine ZC (ZV (ZT (vs := [.bool t_2]) (K := []) (rst := []) (.inl rfl) rfl rfl (ZQ rfl rfl) ZK ?_))
  obtain rfl := Option.some.inj hx
  exact ⟨rfl, rfl, rfl, trivial⟩
 ·
  have hxo_3 := hx; clear hx; have hx := ht_4; clear ht_4
  refine ZB (ZA rfl rfl (ZF rfl) (ZA rfl rfl (R.gtr_i rfl rfl) (ZA rfl rfl (ZF rfl) (Zh (t := 5) rfl (fun c_5 => ?_) (fun c_5 => ?_)))))
  ·
   replace hx := ZW c_5 hx
   refine ZP rfl rfl rfl (ZA rfl rfl (ZF rfl) (ZP rfl rfl rfl (ZA rfl rfl (R.leq_i rfl rfl) (ZA rfl rfl (Zj rfl rfl) (ZA rfl rfl (ZH rfl) (ZD ?_))))))
   obtain rfl := Option.some.inj hx
   exact JN.cut ⟨rfl, rfl, rfl⟩ ⟨rfl, trivial⟩ rfl rfl
  ·
   replace hx := ZX c_5 hx
   refine ZE rfl rfl rfl rfl rfl (ZE rfl rfl rfl rfl rfl (ZA rfl rfl (ZL rfl rfl) (ZA rfl rfl (ZH rfl) (ZD ?_))))
   obtain rfl := Option.some.inj hx
   exact JN.cut ⟨rfl, rfl, rfl⟩ ⟨rfl, trivial⟩ rfl rfl

set_option maxHeartbeats 8000000 in
theorem code_Put_ok (p_1 : Int) (p_2 : Int) (H : Heaplet) (r : List UInt8 × Int) (hx : code_Put p_1 p_2 = some r) :
  Does Try.prog 72 #[.int .i64 p_1, .int .i64 p_2] [] H (fun u K' H' => ∃ ao0 : Option Addr, ∃ n0 : Nat, ∃ cap0 : Nat, ∃ K0 : Own, u = .tuple #[.slice ao0 n0 cap0, .int .i64 r.2] ∧ K' = [K0] ∧ H = H' ∧ RowOf (New H H) RU8 0 5 1 (.slice ao0 n0 cap0) r.1 K0 ∧ (∀ p ∈ K0, p.1 ∉ ids (List.flatten [])) ∧ True) := by
 refine Does.enterL (vs := [.int .i64 p_1, .int .i64 p_2]) (l := [(0, .int .i64 p_1), (1, .int .i64 p_2)]) Try.func72 rfl rfl ⟨rfl, rfl, trivial⟩ (fun w hlt => ?_)
 unfold code_Put at hx
 refine ZG (ZB (ZA rfl rfl (ZH rfl) (ZA rfl rfl (ZH rfl) (ZD (ZC (ZG (ZG (ZB (ZA rfl rfl (ZF rfl) ?_)))))))))
 obtain ⟨x_3, hr_4, hx⟩ := ZM hx
 refine ZS (vs := [_]) (args := [_]) (K := []) (rst := []) E111 rfl rfl rfl ZK (code_sized_ok p_2 _ _ hr_4) rfl (fun u_5 Ku_5 Hu_5 hRu_5 hleu_5 hfu_5 => ?_)
 obtain ⟨rfl, rfl, rfl, -⟩ := hRu_5
 refine ZA rfl rfl (R.not rfl) (ZA rfl rfl (ZF rfl) (Zh (t := 10) rfl (fun c_6 => ?_) (fun c_6 => ?_)))
 ·
  replace hx := ZW c_6 hx
  refine ZE rfl rfl rfl rfl rfl (ZE rfl rfl rfl rfl rfl (ZA rfl rfl (Zj rfl rfl) (ZA rfl rfl (ZF rfl) (ZE rfl rfl rfl rfl rfl (ZE rfl rfl rfl rfl rfl (ZE rfl rfl rfl rfl rfl (ZE rfl rfl rfl rfl rfl (ZE rfl rfl rfl rfl rfl (ZA rfl rfl (Zj rfl rfl) (ZD (ZC ?_)))))))))))
  refine Z2 rfl (ZG (ZB (ZA rfl rfl (ZH rfl) (ZA rfl rfl (ZH rfl) (ZD (ZC (ZV (ZR (Zn (ZT (vs := [.slice none 0 0, .int .i64 2]) (K := [_]) (rst := []) (.inl rfl) rfl rfl (ZQ rfl (ZQ rfl rfl)) (Za 0 rfl ZK) ?_))))))))))
  obtain rfl := Option.some.inj hx
  exact ⟨none, 0, 0, [], rfl, rfl, rfl, (Zb _ _ _ _ _), (fun p hp => by cases hp), trivial⟩
 ·
  replace hx := ZX c_6 hx
  refine ZP rfl rfl rfl (ZA rfl rfl (ZF rfl) (ZP rfl rfl rfl (ZA rfl rfl (Zr rfl rfl) (ZA rfl rfl (ZL rfl rfl) (ZA rfl rfl (ZF rfl) (Zh (t := 14) rfl (fun c_7 => ?_) (fun c_7 => ?_)))))))
  ·
   replace hx := ZW c_7 hx
   refine ZE rfl rfl rfl rfl rfl (ZE rfl rfl rfl rfl rfl (ZE rfl rfl rfl rfl rfl (ZE rfl rfl rfl rfl rfl (ZE rfl rfl rfl rfl rfl (ZA rfl rfl (Zj rfl rfl) (ZD (ZC (Z2 rfl (ZG (ZB (ZA rfl rfl (ZH rfl) ?_)))))))))))
   refine ZA rfl rfl (ZH rfl) (ZD (ZC (ZV (ZR (Zn (ZT (vs := [.slice none 0 0, .int .i64 2]) (K := [_]) (rst := []) (.inl rfl) rfl rfl (ZQ rfl (ZQ rfl rfl)) (Za 0 rfl ZK) ?_))))))
   obtain rfl := Option.some.inj hx
   exact ⟨none, 0, 0, [], rfl, rfl, rfl, (Zb _ _ _ _ _), (fun p hp => by cases hp), trivial⟩
  ·
   replace hx := ZX c_7 hx
   refine ZP rfl rfl rfl (ZA rfl rfl (ZF rfl) (ZP rfl rfl rfl (ZA rfl rfl (ZF rfl) (ZP rfl rfl rfl (ZA rfl rfl (R.mul_i rfl rfl) (ZP rfl rfl rfl ?_))))))
   obtain ⟨hz_8, hx⟩ := chk_some hx
   refine ZA rfl rfl (R.shl_i (n := (w64 (8 * p_2))) rfl rfl hz_8) (ZP rfl rfl rfl (ZA rfl rfl (R.geq_i rfl rfl) (ZA rfl rfl (ZL rfl rfl) (ZD (ZC (ZU rfl (fun c_9 => ?_) (fun c_9 => ?_)))))))
   ·
    replace hx := ZW c_9 hx
    refine ZG (ZB (ZA rfl rfl (ZH rfl) (ZA rfl rfl (ZH rfl) (ZD (ZC (ZV (ZR (Zn (ZT (vs := [.slice none 0 0, .int .i64 2]) (K := [_]) (rst := []) (.inl rfl) rfl rfl (ZQ rfl (ZQ rfl rfl)) (Za 0 rfl ZK) ?_)))))))))
    obtain rfl := Option.some.inj hx
    exact ⟨none, 0, 0, [], rfl, rfl, rfl, (Zb _ _ _ _ _), (fun p hp => by cases hp), trivial⟩
   ·
    replace hx := ZX c_9 hx
    refine JC.skip (ZC (ZG (ZB (ZA rfl rfl (ZH rfl) (ZD (ZC (ZG ?_)))))))
    obtain ⟨t_10, ht_12, hx⟩ := ZM hx
    refine JC.cut (fun l o g => ∃ ar_17 : Option Addr, ∃ nr_17 : Nat, ∃ cr_17 : Nat, ∃ Kr_17 : Own, l = [(6, .slice ar_17 nr_17 cr_17)] ∧ o = [Kr_17] ∧ H = g ∧ RowOf (New H H) RU8 w.heap.size 5 1 (.slice ar_17 nr_17 cr_17) t_10 Kr_17) ?_ ?_
    ·
     rintro _ _ _ ⟨ar_17, nr_17, cr_17, Kr_17, rfl, rfl, rfl, hr_17⟩
     refine ZC (ZG (ZB (ZA rfl rfl (ZF rfl) (ZA rfl rfl (ZH rfl) (ZA rfl rfl (ZH rfl) (ZD (ZC (ZV (ZT (vs := [.slice ar_17 nr_17 cr_17, .int .i64 0]) (K := [_]) (rst := []) (.inl rfl) rfl rfl (ZQ rfl (ZQ rfl rfl)) (Za 0 rfl ZK) ?_)))))))))
     obtain rfl := Option.some.inj hx
     exact ⟨ar_17, nr_17, cr_17, Kr_17, rfl, rfl, rfl, (Zd (Nat.zero_le _) hr_17), (Zx hr_17 hlt), trivial⟩
    ·
     have hxo_11 := hx; clear hx; have hx := ht_12; clear ht_12
     refine JC.block (JC.seg0 (JC.loopI (fun n l o g => ∃ s_13 : Int × List UInt8, ∃ ar_16 : Option Addr, ∃ nr_16 : Nat, ∃ cr_16 : Nat, ∃ Kr_16 : Own, l = [(0, .int .i64 s_13.1), (1, .int .i64 p_2), (6, .slice ar_16 nr_16 cr_16)] ∧ o = [Kr_16] ∧ H = g ∧ run (code_Put_l1 p_2) n s_13 = some t_10 ∧ RowOf (New H H) RU8 w.heap.size 5 1 (.slice ar_16 nr_16 cr_16) s_13.2 Kr_16) FUEL ?_ ⟨(p_1, ([] : List UInt8)), none, 0, 0, [], rfl, rfl, rfl, hx, (Zb _ _ _ _ _)⟩ ⟨rfl, rfl, rfl, trivial⟩ ?_))
     ·
      rintro _ _ _ ⟨s_13, ar_16, nr_16, cr_16, Kr_16, rfl, rfl, rfl, hn_14, hr_16⟩
      exact run_zero hn_14
     ·
      rintro n_15 _ _ _ ⟨s_13, ar_16, nr_16, cr_16, Kr_16, rfl, rfl, rfl, hn_14, hr_16⟩
      clear hx; obtain ⟨oo_18, hx, hd_17⟩ := Z0 hn_14
      unfold code_Put_l1 at hx
      refine ZG (ZG (ZB (ZA rfl rfl (ZF rfl) (ZA rfl rfl (Zm U45 rfl (RowOf.long hr_16)) (ZA rfl rfl (ZF rfl) (ZA rfl rfl (Zr rfl rfl) (ZD (ZC (ZU rfl (fun c_17 => ?_) (fun c_17 => ?_))))))))))
      ·
       replace hx := ZW c_17 hx
       refine JC.skip (ZC (ZG (JC.block (ZB (ZA rfl rfl (ZF rfl) (ZA rfl rfl (ZF rfl) (ZA rfl rfl (R.cv_i64_u8 U3 U5 rfl) (Zz (HF := (New H H)) (R := RU8) (ls := [u8i s_13.1]) (vs := [.int .u8 ((u8i s_13.1).toNat : Int)]) U45 I5 rfl rfl (⟨_, _, rfl, rfl, rfl, rfl⟩) RU8.one rfl rfl rfl (by simp [maxLen]) rfl (fun vr_18 Kr_18 hr_18 => ?_)))))))))
       obtain ⟨ar_18, cr_18, rfl⟩ := RowOf.val hr_18
       obtain ⟨q_19, hm_20, hl_21, hx⟩ := app_some hx
       refine JL.appF (HF := (New H H)) 1 U45 I5 rfl rfl hr_16 rfl (SrcF.row 0 U45 rfl hr_18) hm_20 hl_21 rfl (Nat.le_refl _) rfl (fun vr_22 Kr_22 hr_22 => ?_)
       obtain ⟨ar_22, cr_22, rfl⟩ := RowOf.val hr_22
       refine ZA rfl rfl (ZH rfl) (ZD (Zk (ZC (ZB (ZA rfl rfl (ZF rfl) (ZA rfl rfl (R.quo_i rfl rfl (by decide)) (ZA rfl rfl (ZH rfl) (ZD ?_))))))))
       replace hx := Zo hd_17 hx
       refine JN.forget 0 ?_
       exact JN.cut ⟨(w64 (s_13.1.tdiv 256), q_19), ar_22, q_19.length, cr_22, Kr_22, rfl, rfl, rfl, hx, hr_22⟩ ⟨rfl, rfl, rfl, trivial⟩ rfl rfl
      ·
       replace hx := ZX c_17 hx
       refine JC.exit (Ze ?_)
       obtain rfl := Zu hd_17 hx
       refine Ze (Zl ?_)
       exact JN.cut ⟨ar_16, nr_16, cr_16, Kr_16, rfl, rfl, rfl, hr_16⟩ ⟨rfl, trivial⟩ rfl rfl

set_option maxHeartbeats 8000000 in
theorem ptr_Write_ok (p_1 : Ptr) (H : Heaplet) (r : List UInt8 × Int) (hx : ptr_Write p_1 = some r) :
  Does Try.prog 73 #[.agg #[.int .i64 p_1.At, .int .u32 (p_1.Birth.toNat : Int), .int .u32 (p_1.Iv.toNat : Int), .int .u32 (p_1.Tag.toNat : Int), .int .u32 (p_1.Sum.toNat : Int)]] [] H (fun u K' H' => ∃ ao0 : Option Addr, ∃ n0 : Nat, ∃ cap0 : Nat, ∃ K0 : Own, u = .tuple #[.slice ao0 n0 cap0, .int .i64 r.2] ∧ K' = [K0] ∧ H = H' ∧ RowOf (New H H) RU8 0 5 1 (.slice ao0 n0 cap0) r.1 K0 ∧ (∀ p ∈ K0, p.1 ∉ ids (List.flatten [])) ∧ True) := by
 refine Does.enterL (vs := [.agg #[.int .i64 p_1.At, .int .u32 (p_1.Birth.toNat : Int), .int .u32 (p_1.Iv.toNat : Int), .int .u32 (p_1.Tag.toNat : Int), .int .u32 (p_1.Sum.toNat : Int)]]) (l := [(0, .agg #[.int .i64 p_1.At, .int .u32 (p_1.Birth.toNat : Int), .int .u32 (p_1.Iv.toNat : Int), .int .u32 (p_1.Tag.toNat : Int), .int .u32 (p_1.Sum.toNat : Int)])]) Try.func73 rfl rfl ⟨rfl, trivial⟩ (fun w hlt => ?_)
 unfold ptr_Write at hx
 refine ZG (ZB (JL.box rfl rfl (fun b_2 hb_2 => ZA rfl rfl (ZH rfl) (ZA rfl rfl (ZH rfl) (ZD (ZC (ZG (ZG (ZB (ZA rfl rfl (Z1 0 (vs := [.int .i64 p_1.At, .int .u32 (p_1.Birth.toNat : Int), .int .u32 (p_1.Iv.toNat : Int), .int .u32 (p_1.Tag.toNat : Int), .int .u32 (p_1.Sum.toNat : Int)]) S28 rfl rfl rfl rfl) ?_))))))))))
 obtain ⟨x_3, hr_4, hx⟩ := ZM hx
 refine ZS (vs := [_]) (args := [_]) (K := []) (rst := [_]) E49 rfl rfl rfl ZK (ptr_Check_ok p_1 _ _ hr_4) rfl (fun u_5 Ku_5 Hu_5 hRu_5 hleu_5 hfu_5 => ?_)
 obtain ⟨rfl, rfl, rfl, -⟩ := hRu_5
 refine ZA rfl rfl (ZH rfl) (ZD (ZC (ZG (ZB (ZA rfl rfl (ZF rfl) (ZA rfl rfl (R.neq_i rfl rfl) (ZD (ZC (ZU rfl (fun c_6 => ?_) (fun c_6 => ?_))))))))))
 ·
  replace hx := ZW c_6 hx
  refine ZG (ZB (ZA rfl rfl (ZF rfl) (ZA rfl rfl (ZH rfl) (ZA rfl rfl (ZH rfl) (ZD (ZC (ZV (ZR (Zn (ZT (vs := [.slice none 0 0, .int .i64 x_3]) (K := [_]) (rst := [_]) (.inl rfl) rfl rfl (ZQ rfl (ZQ rfl rfl)) (Za 0 rfl ZK) ?_))))))))))
  obtain rfl := Option.some.inj hx
  exact ⟨none, 0, 0, [], rfl, rfl, rfl, (Zb _ _ _ _ _), (fun p hp => by cases hp), trivial⟩
 ·
  replace hx := ZX c_6 hx
  refine JC.skip (ZC (ZG (ZB (ZA rfl rfl (R.fa F28_0 rfl) (ZA rfl rfl (Zi 0 S3 rfl rfl rfl) (ZA rfl rfl (R.fa F28_1 rfl) (ZA rfl rfl (Zi 0 S26 rfl rfl rfl) (ZA rfl rfl (R.cv_u32_i64 (a := p_1.Birth) U26 U3 rfl) (ZA rfl rfl (R.fa F28_2 rfl) (ZA rfl rfl (Zi 0 S26 rfl rfl rfl) (ZA rfl rfl (R.cv_u32_i64 (a := p_1.Iv) U26 U3 rfl) ?_)))))))))))
  refine ZA rfl rfl (R.fa F28_3 rfl) (ZA rfl rfl (Zi 0 S26 rfl rfl rfl) (ZA rfl rfl (R.cv_u32_i64 (a := p_1.Tag) U26 U3 rfl) (ZA rfl rfl (R.fa F28_4 rfl) (ZA rfl rfl (Zi 0 S26 rfl rfl rfl) (ZA rfl rfl (R.cv_u32_i64 (a := p_1.Sum) U26 U3 rfl) (ZA rfl rfl (R.bldA (vs := [(0, .int .i64 p_1.At), (1, .int .i64 (p_1.Birth.toNat : Int)), (2, .int .i64 (p_1.Iv.toNat : Int)), (3, .int .i64 (p_1.Tag.toNat : Int)), (4, .int .i64 (p_1.Sum.toNat : Int))]) (cells := #[.int .i64 p_1.At, .int .i64 (p_1.Birth.toNat : Int), .int .i64 (p_1.Iv.toNat : Int), .int .i64 (p_1.Tag.toNat : Int), .int .i64 (p_1.Sum.toNat : Int)]) Z158 B158 rfl rfl rfl rfl) (JL.alloc Z158 rfl (fun b_7 hb_7 => ZN 0 S158 rfl rfl rfl rfl rfl (Nat.le_of_ble_eq_true rfl) (ZD (ZC (ZG ?_)))))))))))
  refine ZG (ZB ?_)
  obtain ⟨x_8, hr_9, hx⟩ := ZM hx
  refine ZS (vs := []) (args := []) (K := []) (rst := [_, _]) E112 rfl rfl rfl ZK (ptr_sizes_ok _ _ hr_9) rfl (fun u_10 Ku_10 Hu_10 hRu_10 hleu_10 hfu_10 => ?_)
  obtain ⟨rfl, rfl, rfl, -⟩ := hRu_10
  refine ZA rfl rfl (ZF rfl) (ZD (ZC ?_))
  obtain ⟨t_11, ht_13, hx⟩ := ZM hx
  refine JC.cut (fun l o g => ∃ ar_18 : Option Addr, ∃ nr_18 : Nat, ∃ cr_18 : Nat, ∃ Kr_18 : Own, l = [(2, .slice ar_18 nr_18 cr_18)] ∧ o = [Kr_18] ∧ H = g ∧ RowOf (New H H) RU8 w.heap.size 5 1 (.slice ar_18 nr_18 cr_18) t_11 Kr_18) ?_ ?_
  ·
   rintro _ _ _ ⟨ar_18, nr_18, cr_18, Kr_18, rfl, rfl, rfl, hr_18⟩
   refine ZC (ZG (ZB (ZA rfl rfl (ZF rfl) (ZA rfl rfl (ZH rfl) (ZA rfl rfl (ZH rfl) (ZD (ZC (ZV (ZT (vs := [.slice ar_18 nr_18 cr_18, .int .i64 0]) (K := [_]) (rst := []) (.inl rfl) rfl rfl (ZQ rfl (ZQ rfl rfl)) (Za 0 rfl ZK) ?_)))))))))
   obtain rfl := Option.some.inj hx
   exact ⟨ar_18, nr_18, cr_18, Kr_18, rfl, rfl, rfl, (Zd (Nat.zero_le _) hr_18), (Zx hr_18 hlt), trivial⟩
  ·
   have hxo_12 := hx; clear hx; have hx := ht_13; clear ht_13
   refine JC.block (JC.seg0 (JC.forget 2 (Zv 1 rfl (Zv 1 rfl (JC.loopI (fun n l o g => ∃ s_14 : List UInt8 × Nat, ∃ ar_17 : Option Addr, ∃ nr_17 : Nat, ∃ cr_17 : Nat, ∃ Kr_17 : Own, l = [(2, .slice ar_17 nr_17 cr_17), (5, .pointer (some ⟨b_7, 0, none⟩)), (30, .agg #[.int .i64 x_8.e0, .int .i64 x_8.e1, .int .i64 x_8.e2, .int .i64 x_8.e3, .int .i64 x_8.e4]), (31, .int .i64 ((s_14.2 : Nat) : Int))] ∧ o = [Kr_17, [(b_7, .cells #[.int .i64 p_1.At, .int .i64 (p_1.Birth.toNat : Int), .int .i64 (p_1.Iv.toNat : Int), .int .i64 (p_1.Tag.toNat : Int), .int .i64 (p_1.Sum.toNat : Int)] 158 (0, 0))]] ∧ H = g ∧ run (ptr_Write_l1 p_1 x_8) n s_14 = some t_11 ∧ RowOf (New H H) RU8 w.heap.size 5 1 (.slice ar_17 nr_17 cr_17) s_14.1 Kr_17) FUEL ?_ ⟨(([] : List UInt8), 0), none, 0, 0, [], rfl, rfl, rfl, hx, (Zb _ _ _ _ _)⟩ ⟨rfl, rfl, rfl, rfl, trivial⟩ ?_)))))
   ·
    rintro _ _ _ ⟨s_14, ar_17, nr_17, cr_17, Kr_17, rfl, rfl, rfl, hn_15, hr_17⟩
    exact run_zero hn_15
   ·
    rintro n_16 _ _ _ ⟨s_14, ar_17, nr_17, cr_17, Kr_17, rfl, rfl, rfl, hn_15, hr_17⟩
    clear hx; obtain ⟨oo_19, hx, hd_18⟩ := Z0 hn_15
    unfold ptr_Write_l1 at hx
    refine ZG (ZB (ZA rfl rfl (Zr rfl rfl) (ZD (ZC (ZG (ZU rfl (fun c_18 => ?_) (fun c_18 => ?_)))))))
    ·
     replace hx := ZW c_18 hx
     refine JC.skip (ZC (ZG (JC.block (ZG (ZB (ZA rfl rfl (ZF rfl) ?_))))))
     obtain ⟨y_19, hN_20, hx⟩ := Zs hx
     refine ZA rfl rfl (R.idxA (enc := (fun a : Int => Value.int .i64 a)) (L := x_8.l) U158 S3 rfl rfl rfl rfl rfl hN_20) (ZA rfl rfl (ZH rfl) (ZA rfl rfl (ZH rfl) (ZD (ZC (ZG (ZB (ZA rfl rfl (ZF rfl) ?_)))))))
     obtain ⟨y_21, hN_22, hx⟩ := Zs hx
     refine ZA rfl rfl (R.ixAd (L := (A5.mk p_1.At (p_1.Birth.toNat : Int) (p_1.Iv.toNat : Int) (p_1.Tag.toNat : Int) (p_1.Sum.toNat : Int)).l) U158 S3 rfl rfl rfl hN_22) (ZA rfl rfl (R.ldoA (enc := (fun a : Int => Value.int .i64 a)) (L := (A5.mk p_1.At (p_1.Birth.toNat : Int) (p_1.Iv.toNat : Int) (p_1.Tag.toNat : Int) (p_1.Sum.toNat : Int)).l) 1 S3 rfl rfl rfl hN_22) (ZA rfl rfl (ZF rfl) ?_))
     obtain ⟨x_23, hr_24, hx⟩ := ZM hx
     refine ZS (vs := [_, _]) (args := [_, _]) (K := []) (rst := [_, _]) E72 rfl rfl rfl ZK (code_Put_ok y_21 y_19 _ _ hr_24) rfl (fun u_25 Ku_25 Hu_25 hRu_25 hleu_25 hfu_25 => ?_)
     obtain ⟨ar_26, nr_26, cr_26, Kr_26, rfl, rfl, rfl, hr_26, hnewr_26, -⟩ := hRu_25
     replace hr_26 := (RowOf.base (Zc (H2 := New H H) RU8.const hr_26) (fun p hp => (hfu_25 p (Zg 0 rfl hp)).resolve_left (hnewr_26 p hp)))
     refine ZA rfl rfl (ZF rfl) (ZA rfl rfl (R.extract rfl rfl) (ZA rfl rfl (R.extract rfl rfl) (ZA rfl rfl (ZH rfl) (ZA rfl rfl (ZH rfl) (ZD (ZC (ZB (ZA rfl rfl (ZF rfl) (ZA rfl rfl (ZF rfl) ?_)))))))))
     obtain ⟨q_27, hm_28, hl_29, hx⟩ := app_some hx
     refine JL.appF (HF := (New H H)) 1 U45 I5 rfl rfl hr_17 rfl (SrcF.row 0 U45 rfl hr_26) hm_28 hl_29 rfl (Nat.le_refl _) rfl (fun vr_30 Kr_30 hr_30 => ?_)
     obtain ⟨ar_30, cr_30, rfl⟩ := RowOf.val hr_30
     refine ZA rfl rfl (ZH rfl) (ZD (Zk (ZC (ZB (ZA rfl rfl (R.inc rfl rfl (of_decide_eq_true c_18) (by decide)) (ZA rfl rfl (ZF rfl) (ZD ?_)))))))
     replace hx := Zo hd_18 hx
     refine JN.forget 0 (ZO 1 rfl (ZO 1 rfl ?_))
     exact JN.cut ⟨(q_27, s_14.2 + 1), ar_30, q_27.length, cr_30, Kr_30, rfl, rfl, rfl, hx, hr_30⟩ ⟨rfl, rfl, rfl, rfl, trivial⟩ rfl rfl
    ·
     replace hx := ZX c_18 hx
     refine JC.exit (Ze ?_)
     obtain rfl := Zu hd_18 hx
     refine Ze (Zl (JN.forget 1 ?_))
     exact JN.cut ⟨ar_17, nr_17, cr_17, Kr_17, rfl, rfl, rfl, hr_17⟩ ⟨rfl, trivial⟩ rfl rfl

set_option maxHeartbeats 8000000 in
theorem ptr_Row_ok (p_1 : List Ptr) (H : Heaplet) {aa_2 : Option Addr} {na_2 : Nat} {ca_2 : Nat} (ha_2 : IsSlice H R_Ptr 5 (.slice aa_2 na_2 ca_2) p_1) (r : List UInt8 × Int) (hx : ptr_Row p_1 = some r) :
  Does Try.prog 53 #[.slice aa_2 na_2 ca_2] [] H (fun u K' H' => ∃ ao0 : Option Addr, ∃ n0 : Nat, ∃ cap0 : Nat, ∃ K0 : Own, u = .tuple #[.slice ao0 n0 cap0, .int .i64 r.2] ∧ K' = [K0] ∧ H = H' ∧ RowOf (New H H) RU8 0 5 1 (.slice ao0 n0 cap0) r.1 K0 ∧ (∀ p ∈ K0, p.1 ∉ ids (List.flatten [])) ∧ True) := by
 refine Does.enterL (vs := [.slice aa_2 na_2 ca_2]) (l := [(0, .slice aa_2 na_2 ca_2)]) Try.func53 rfl rfl ⟨rfl, trivial⟩ (fun w hlt => ?_)
 unfold ptr_Row at hx
 refine ZG (ZB (ZA rfl rfl (ZH rfl) (ZA rfl rfl (ZH rfl) (ZD (ZC (ZG (ZG (ZB (ZA rfl rfl (ZF rfl) (ZA rfl rfl (Zm U53 rfl (IsSlice.long ha_2)) (ZA rfl rfl (R.gtr_i rfl rfl) ?_)))))))))))
 refine ZD (ZC (ZU rfl (fun c_3 => ?_) (fun c_3 => ?_)))
 ·
  replace hx := ZW c_3 hx
  refine ZG (ZB (ZA rfl rfl (ZH rfl) (ZA rfl rfl (ZH rfl) (ZD (ZC (ZV (ZR (Zn (ZT (vs := [.slice none 0 0, .int .i64 4]) (K := [_]) (rst := []) (.inl rfl) rfl rfl (ZQ rfl (ZQ rfl rfl)) (Za 0 rfl ZK) ?_)))))))))
  obtain rfl := Option.some.inj hx
  exact ⟨none, 0, 0, [], rfl, rfl, rfl, (Zb _ _ _ _ _), (fun p hp => by cases hp), trivial⟩
 ·
  replace hx := ZX c_3 hx
  refine JC.skip (ZC (ZG (ZB (JL.mkS (HF := New H H) (N := 256) U45 I5 rfl rfl (by decide) rfl (fun vr_4 Kr_4 hr_4 spr_4 => ?_)))))
  obtain ⟨ar_4, cr_4, rfl⟩ := RowOf.val hr_4
  refine ZA rfl rfl (ZH rfl) (ZD (ZC (ZG (ZG (ZB (ZA rfl rfl (ZF rfl) (ZA rfl rfl (Zm U53 rfl (IsSlice.long ha_2)) (ZA rfl rfl (ZF rfl) (ZD (ZC ?_))))))))))
  obtain ⟨t_5, ht_7, hx⟩ := ZM hx
  refine JC.cut (fun l o g => ∃ t_5a : List UInt8, ∃ ar_12 : Option Addr, ∃ nr_12 : Nat, ∃ cr_12 : Nat, ∃ Kr_12 : Own, l = [(4, .slice ar_12 nr_12 cr_12)] ∧ o = [Kr_12] ∧ H = g ∧ t_5 = .inl t_5a ∧ RowOf (New H H) RU8 w.heap.size 5 1 (.slice ar_12 nr_12 cr_12) t_5a Kr_12 ∧ Spare (.slice ar_12 nr_12 cr_12) Kr_12 256) ?_ ?_
  ·
   rintro _ _ _ ⟨t_5a, ar_12, nr_12, cr_12, Kr_12, rfl, rfl, rfl, rfl, hr_12, spr_12⟩
   simp only [Sum.elim_inl] at hx
   refine ZC (ZG (ZB (ZA rfl rfl (ZF rfl) ?_)))
   obtain ⟨m_13, hm_14, hb_15, hx⟩ := extO_some hx
   obtain ⟨gv_16, h1v_16, hsv_16⟩ := RowOf.spare hr_12 spr_12 hm_14 hb_15
   refine ZA rfl rfl (R.slcS (b := 256) (N := 256) (n := (t_5a).length) U45 S5 rfl ⟨_, rfl⟩ (by omega) h1v_16) (ZA rfl rfl (ZH rfl) (ZA rfl rfl (ZH rfl) (ZD (ZC (ZV (ZT (vs := [.slice (some ⟨gv_16, 0, none⟩) ((256 : Int).toNat) 256, .int .i64 0]) (K := [_]) (rst := []) (.inl rfl) rfl rfl (ZQ rfl (ZQ rfl rfl)) (Za 0 rfl ZK) ?_))))))
   obtain rfl := Option.some.inj hx
   exact ⟨(some ⟨gv_16, 0, none⟩), (256 : Int).toNat, 256, Kr_12, rfl, rfl, rfl, (Zd (Nat.zero_le _) hsv_16), (Zx hsv_16 hlt), trivial⟩
  ·
   have hxo_6 := hx; clear hx; have hx := ht_7; clear ht_7
   refine JC.block (JC.loopI (fun n l o g => ∃ s_8 : List UInt8 × Nat, ∃ ar_11 : Option Addr, ∃ nr_11 : Nat, ∃ cr_11 : Nat, ∃ Kr_11 : Own, l = [(4, .slice ar_11 nr_11 cr_11), (13, .slice aa_2 na_2 ca_2), (14, .int .i64 (p_1.length : Int)), (15, .int .i64 ((s_8.2 : Nat) : Int))] ∧ o = [Kr_11] ∧ H = g ∧ run (ptr_Row_l1 p_1) n s_8 = some t_5 ∧ RowOf (New H H) RU8 w.heap.size 5 1 (.slice ar_11 nr_11 cr_11) s_8.1 Kr_11 ∧ Spare (.slice ar_11 nr_11 cr_11) Kr_11 256) FUEL ?_ ⟨(([] : List UInt8), 0), ar_4, ([] : List UInt8).length, cr_4, Kr_4, rfl, rfl, rfl, hx, hr_4, spr_4⟩ ⟨rfl, rfl, rfl, rfl, trivial⟩ ?_)
   ·
    rintro _ _ _ ⟨s_8, ar_11, nr_11, cr_11, Kr_11, rfl, rfl, rfl, hn_9, hr_11, spr_11⟩
    exact run_zero hn_9
   ·
    rintro n_10 _ _ _ ⟨s_8, ar_11, nr_11, cr_11, Kr_11, rfl, rfl, rfl, hn_9, hr_11, spr_11⟩
    clear hx; obtain ⟨oo_13, hx, hd_12⟩ := Z0 hn_9
    unfold ptr_Row_l1 at hx
    refine ZG (ZB (ZA rfl rfl (Zr rfl rfl) (ZD (ZC (ZG (ZU rfl (fun c_12 => ?_) (fun c_12 => ?_)))))))
    ·
     replace hx := ZW c_12 hx
     refine JC.skip (ZC (ZG (JC.block (ZG (ZB ?_)))))
     obtain ⟨y_13, hN_14, hx⟩ := Zs hx
     obtain ⟨b_15, o_16, cs_17, hE_18, hR_19, hl_20, hc_21⟩ := IsSlice.elem ha_2 hN_14
     obtain rfl := hR_19
     refine ZA rfl rfl (R.ix U53 S28 rfl rfl hE_18) (ZA rfl rfl (R.ldHE (cs := [.int .i64 y_13.At, .int .u32 (y_13.Birth.toNat : Int), .int .u32 (y_13.Iv.toNat : Int), .int .u32 (y_13.Tag.toNat : Int), .int .u32 (y_13.Sum.toNat : Int)]) (k := 0) (vs := [.int .i64 y_13.At, .int .u32 (y_13.Birth.toNat : Int), .int .u32 (y_13.Iv.toNat : Int), .int .u32 (y_13.Tag.toNat : Int), .int .u32 (y_13.Sum.toNat : Int)]) S28 rfl hc_21 rfl rfl) (JL.alloc Z28 rfl (fun b_22 hb_22 => ZN 0 S28 rfl rfl rfl rfl rfl (Nat.le_of_ble_eq_true rfl) (ZD (ZC (ZG (ZB (ZA rfl rfl (Z1 0 (vs := [.int .i64 y_13.At, .int .u32 (y_13.Birth.toNat : Int), .int .u32 (y_13.Iv.toNat : Int), .int .u32 (y_13.Tag.toNat : Int), .int .u32 (y_13.Sum.toNat : Int)]) S28 rfl rfl rfl rfl) ?_))))))))
     obtain ⟨x_23, hr_24, hx⟩ := ZM hx
     refine ZS (vs := [_]) (args := [_]) (K := []) (rst := [_, _]) E73 rfl rfl rfl ZK (ptr_Write_ok y_13 _ _ hr_24) rfl (fun u_25 Ku_25 Hu_25 hRu_25 hleu_25 hfu_25 => ?_)
     obtain ⟨ar_26, nr_26, cr_26, Kr_26, rfl, rfl, rfl, hr_26, hnewr_26, -⟩ := hRu_25
     replace hr_26 := (RowOf.base (Zc (H2 := New H H) RU8.const hr_26) (fun p hp => (hfu_25 p (Zg 0 rfl hp)).resolve_left (hnewr_26 p hp)))
     refine ZA rfl rfl (ZF rfl) (ZA rfl rfl (R.extract rfl rfl) (ZA rfl rfl (R.extract rfl rfl) (ZA rfl rfl (ZH rfl) (ZA rfl rfl (ZH rfl) (ZD (ZC (ZG (ZG (ZB (ZA rfl rfl (ZF rfl) (ZA rfl rfl (R.neq_i rfl rfl) ?_)))))))))))
     refine ZD (ZC (ZU rfl (fun c_27 => ?_) (fun c_27 => ?_)))
     ·
      replace hx := ZW c_27 hx
      refine ZG (ZB (ZA rfl rfl (ZF rfl) (ZA rfl rfl (ZH rfl) (ZA rfl rfl (ZH rfl) (ZD (ZC (ZV (ZR (Z4 (ZR ?_))))))))))
      obtain rfl := Zu hd_12 hx
      refine ZR (Z4 ?_)
      clear hx; have hx := hxo_6
      simp only [Sum.elim_inl, Sum.elim_inr] at hx
      refine ZR (ZR (Zn (ZT (vs := [.slice none 0 0, .int .i64 x_23.2]) (K := [_]) (rst := [_, _, _]) (.inl rfl) rfl rfl (ZQ rfl (ZQ rfl rfl)) (Za 0 rfl ZK) ?_)))
      obtain rfl := Option.some.inj hx
      exact ⟨none, 0, 0, [], rfl, rfl, rfl, (Zb _ _ _ _ _), (fun p hp => by cases hp), trivial⟩
     ·
      replace hx := ZX c_27 hx
      refine JC.skip (ZC (ZB (ZA rfl rfl (ZF rfl) (ZA rfl rfl (ZF rfl) ?_))))
      obtain ⟨q_28, hm_29, hl_30, hx⟩ := appN_some hx
      refine JL.appS (HF := (New H H)) 2 U45 I5 rfl rfl hr_11 spr_11 rfl (SrcF.row 0 U45 rfl hr_26) hm_29 hl_30 rfl (fun vr_31 Kr_31 hr_31 spr_31 => ?_)
      obtain ⟨ar_31, cr_31, rfl⟩ := RowOf.val hr_31
      refine ZA rfl rfl (ZH rfl) (ZD (Zk (ZC (ZB (ZA rfl rfl (R.inc rfl rfl (of_decide_eq_true c_12) (IsSlice.lenI ha_2)) (ZA rfl rfl (ZF rfl) (ZD ?_)))))))
      replace hx := Zo hd_12 hx
      refine JN.forget 1 (JN.forget 0 ?_)
      exact JN.cut ⟨(q_28, s_8.2 + 1), ar_31, q_28.length, cr_31, Kr_31, rfl, rfl, rfl, hx, hr_31, spr_31⟩ ⟨rfl, rfl, rfl, rfl, trivial⟩ rfl rfl
    ·
     replace hx := ZX c_12 hx
     refine JC.exit (Ze ?_)
     obtain rfl := Zu hd_12 hx
     refine Ze (Zl ?_)
     exact JN.cut ⟨s_8.1, ar_11, nr_11, cr_11, Kr_11, rfl, rfl, rfl, rfl, hr_11, spr_11⟩ ⟨rfl, trivial⟩ rfl rfl

set_option maxHeartbeats 8000000 in
theorem store_asked_ok (p_1 : Store) (p_5 : UInt32) (p_6 : Int) (p_7 : List (List UInt8)) (H : Heaplet) {aa_2 : Option Addr} {na_2 : Nat} {ca_2 : Nat} {aa_3 : Option Addr} {na_3 : Nat} {ca_3 : Nat} {aa_4 : Option Addr} {na_4 : Nat} {ca_4 : Nat} {aa_8 : Option Addr} {na_8 : Nat} {ca_8 : Nat} (ha_2 : IsSlice H (RSl RU8 1) 1 (.slice aa_2 na_2 ca_2) p_1.Disk.Blocks) (ha_3 : IsSlice H R_Write 2 (.slice aa_3 na_3 ca_3) p_1.Disk.Waits) (ha_4 : IsSlice H RU8 1 (.slice aa_4 na_4 ca_4) p_1.Space) (ha_8 : IsSlice H (RSl RU8 1) 1 (.slice aa_8 na_8 ca_8) p_7) (r : Int) (hx : store_asked p_1 p_5 p_6 p_7 = some r) :
  Does Try.prog 98 #[.agg #[.slice aa_2 na_2 ca_2, .slice aa_3 na_3 ca_3, .slice aa_4 na_4 ca_4, .int .u32 (p_1.Epoch.toNat : Int), .int .u32 (p_1.Count.toNat : Int)], .int .u32 (p_5.toNat : Int), .int .i64 p_6, .slice aa_8 na_8 ca_8] [] H (fun u K' H' => u = .int .i64 r ∧ K' = [] ∧ H = H' ∧ True) := by
 refine Does.enterL (vs := [.agg #[.slice aa_2 na_2 ca_2, .slice aa_3 na_3 ca_3, .slice aa_4 na_4 ca_4, .int .u32 (p_1.Epoch.toNat : Int), .int .u32 (p_1.Count.toNat : Int)], .int .u32 (p_5.toNat : Int), .int .i64 p_6, .slice aa_8 na_8 ca_8]) (l := [(0, .agg #[.slice aa_2 na_2 ca_2, .slice aa_3 na_3 ca_3, .slice aa_4 na_4 ca_4, .int .u32 (p_1.Epoch.toNat : Int), .int .u32 (p_1.Count.toNat : Int)]), (1, .int .u32 (p_5.toNat : Int)), (2, .int .i64 p_6), (3, .slice aa_8 na_8 ca_8)]) Try.func98 rfl rfl ⟨rfl, rfl, rfl, rfl, trivial⟩ (fun w hlt => ?_)
 unfold store_asked at hx
 refine ZG (ZB (JL.box rfl rfl (fun b_9 hb_9 => ZA rfl rfl (ZH rfl) (ZD (ZC (ZG (ZG (ZB (ZA rfl rfl (Z1 0 (vs := [.slice aa_2 na_2 ca_2, .slice aa_3 na_3 ca_3, .slice aa_4 na_4 ca_4, .int .u32 (p_1.Epoch.toNat : Int), .int .u32 (p_1.Count.toNat : Int)]) S50 rfl rfl rfl rfl) ?_)))))))))
 obtain ⟨x_10, hr_11, hx⟩ := ZM hx
 refine ZS (vs := [_]) (args := [_]) (K := []) (rst := [_]) E26 rfl rfl rfl ZK (store_Check_ok p_1 _ ha_2 ha_3 ha_4 _ hr_11) rfl (fun u_12 Ku_12 Hu_12 hRu_12 hleu_12 hfu_12 => ?_)
 obtain ⟨rfl, rfl, rfl, -⟩ := hRu_12
 refine ZA rfl rfl (ZH rfl) (ZD (ZC (ZG (ZB (ZA rfl rfl (ZF rfl) (ZA rfl rfl (R.neq_i rfl rfl) (ZD (ZC (ZU rfl (fun c_13 => ?_) (fun c_13 => ?_))))))))))
 ·
  replace hx := ZW c_13 hx
  refine ZG (ZB (ZA rfl rfl (ZF rfl) (ZA rfl rfl (ZH rfl) (ZD (ZC (ZV (ZR (ZT (vs := [.int .i64 x_10]) (K := []) (rst := [_]) (.inl rfl) rfl rfl (ZQ rfl rfl) ZK ?_))))))))
  obtain rfl := Option.some.inj hx
  exact ⟨rfl, rfl, rfl, trivial⟩
 ·
  replace hx := ZX c_13 hx
  refine JC.skip (ZC (ZG (ZG (ZB (ZA rfl rfl (ZF rfl) (ZA rfl rfl (R.lss32 (a := p_5) (b := (1 : UInt32)) rfl rfl) (ZA rfl rfl (ZF rfl) (Zh (t := 19) rfl (fun c_14 => ?_) (fun c_14 => ?_)))))))))
  ·
   replace hx := ZW c_14 hx
   refine ZE rfl rfl rfl rfl rfl (ZE rfl rfl rfl rfl rfl (ZA rfl rfl (Zj rfl rfl) (ZD (ZC (Z2 rfl (ZG (ZB (ZA rfl rfl (ZH rfl) (ZD (ZC (ZV ?_)))))))))))
   refine ZR (ZT (vs := [.int .i64 2]) (K := []) (rst := [_]) (.inl rfl) rfl rfl (ZQ rfl rfl) ZK ?_)
   obtain rfl := Option.some.inj hx
   exact ⟨rfl, rfl, rfl, trivial⟩
  ·
   replace hx := ZX c_14 hx
   refine ZP rfl rfl rfl (ZA rfl rfl (ZF rfl) (ZP rfl rfl rfl (ZA rfl rfl (R.gtr32 (a := p_5) (b := (16777215 : UInt32)) rfl rfl) (ZA rfl rfl (ZL rfl rfl) (ZD (ZC (ZU rfl (fun c_15 => ?_) (fun c_15 => ?_))))))))
   ·
    replace hx := ZW c_15 hx
    refine ZG (ZB (ZA rfl rfl (ZH rfl) (ZD (ZC (ZV (ZR (ZT (vs := [.int .i64 2]) (K := []) (rst := [_]) (.inl rfl) rfl rfl (ZQ rfl rfl) ZK ?_)))))))
    obtain rfl := Option.some.inj hx
    exact ⟨rfl, rfl, rfl, trivial⟩
   ·
    replace hx := ZX c_15 hx
    refine JC.skip (ZC (ZG (ZG (ZB (ZA rfl rfl (ZF rfl) (ZA rfl rfl (Zm U22 rfl (IsSlice.long ha_8)) (ZA rfl rfl (ZF rfl) (ZD (ZC ?_)))))))))
    obtain ⟨t_16, ht_18, hx⟩ := ZM hx
    refine JC.cut (fun l o g => ∃ t_16a : Unit, l = [] ∧ o = [] ∧ H = g ∧ t_16 = .inl t_16a) ?_ ?_
    ·
     rintro _ _ _ ⟨t_16a, rfl, rfl, rfl, rfl⟩
     simp only [Sum.elim_inl] at hx
     refine ZC (ZG (ZB (ZA rfl rfl (ZH rfl) (ZD (ZC (ZV (ZT (vs := [.int .i64 0]) (K := []) (rst := []) (.inl rfl) rfl rfl (ZQ rfl rfl) ZK ?_)))))))
     obtain rfl := Option.some.inj hx
     exact ⟨rfl, rfl, rfl, trivial⟩
    ·
     have hxo_17 := hx; clear hx; have hx := ht_18; clear ht_18
     refine JC.block (JC.forget 0 (JC.loopI (fun n l o g => ∃ s_19 : Int × Nat, l = [(2, .int .i64 s_19.1), (23, .slice aa_8 na_8 ca_8), (24, .int .i64 (p_7.length : Int)), (25, .int .i64 ((s_19.2 : Nat) : Int))] ∧ o = [] ∧ H = g ∧ run (store_asked_l1 p_7) n s_19 = some t_16) FUEL ?_ ⟨(p_6, 0), rfl, rfl, rfl, hx⟩ ⟨rfl, rfl, rfl, rfl, trivial⟩ ?_))
     ·
      rintro _ _ _ ⟨s_19, rfl, rfl, rfl, hn_20⟩
      exact run_zero hn_20
     ·
      rintro n_21 _ _ _ ⟨s_19, rfl, rfl, rfl, hn_20⟩
      clear hx; obtain ⟨oo_23, hx, hd_22⟩ := Z0 hn_20
      unfold store_asked_l1 at hx
      refine ZG (ZB (ZA rfl rfl (Zr rfl rfl) (ZD (ZC (ZG (ZU rfl (fun c_22 => ?_) (fun c_22 => ?_)))))))
      ·
       replace hx := ZW c_22 hx
       refine JC.skip (ZC (ZG (JC.block (ZG (ZB ?_)))))
       obtain ⟨y_23, hN_24, hx⟩ := Zs hx
       obtain ⟨b_25, o_26, cs_27, hE_28, hR_29, hl_30, hc_31⟩ := IsSlice.elem ha_8 hN_24
       obtain ⟨v_32, rfl, hs_33⟩ := hR_29
       obtain ⟨av_32, cv_32, rfl⟩ := IsSlice.val hs_33
       refine ZA rfl rfl (R.ix U22 S45 rfl rfl hE_28) (ZA rfl rfl (R.ldH S45 rfl (hc_31 0 _ rfl)) (ZA rfl rfl (ZH rfl) (ZD (ZC (ZG (ZG (ZB (ZA rfl rfl (ZF rfl) (ZA rfl rfl (Zm U45 rfl (IsSlice.long hs_33)) (ZA rfl rfl (ZF rfl) (ZA rfl rfl (R.neq_i rfl rfl) ?_)))))))))))
       refine ZD (ZC (ZU rfl (fun c_34 => ?_) (fun c_34 => ?_)))
       ·
        replace hx := ZW c_34 hx
        refine ZG (ZB (ZA rfl rfl (ZH rfl) (ZD (ZC (ZV (ZR (Z4 (ZR ?_))))))))
        obtain rfl := Zu hd_22 hx
        refine ZR (Z4 ?_)
        clear hx; have hx := hxo_17
        simp only [Sum.elim_inl, Sum.elim_inr] at hx
        refine ZR (ZR (ZT (vs := [.int .i64 3]) (K := []) (rst := []) (.inl rfl) rfl rfl (ZQ rfl rfl) ZK ?_))
        obtain rfl := Option.some.inj hx
        exact ⟨rfl, rfl, rfl, trivial⟩
       ·
        replace hx := ZX c_34 hx
        refine JC.skip (ZC (ZB (ZA rfl rfl (ZH rfl) (ZD (Zk (ZC (ZB (ZA rfl rfl (R.inc rfl rfl (of_decide_eq_true c_22) (IsSlice.lenI ha_8)) (ZA rfl rfl (ZF rfl) (ZD ?_))))))))))
        replace hx := Zo hd_22 hx
        exact JN.cut ⟨(256, s_19.2 + 1), rfl, rfl, rfl, hx⟩ ⟨rfl, rfl, rfl, rfl, trivial⟩ rfl rfl
      ·
       replace hx := ZX c_22 hx
       refine JC.exit (Ze ?_)
       obtain rfl := Zu hd_22 hx
       refine Ze (Zl ?_)
       exact JN.cut ⟨(), rfl, rfl, rfl, rfl⟩ trivial rfl rfl

set_option maxHeartbeats 8000000 in
theorem space_free_ok (p_1 : List UInt8) (H : Heaplet) {aa_2 : Option Addr} {na_2 : Nat} {ca_2 : Nat} (ha_2 : IsSlice H RU8 1 (.slice aa_2 na_2 ca_2) p_1) (r : (Int × List UInt8)) (hx : space_free p_1 = some r) :
  Does Try.prog 164 #[.slice aa_2 na_2 ca_2] [] H (fun u K' H' => ∃ b0 : Nat, ∃ b1 : Nat, ∃ ao2 : Option Addr, ∃ n2 : Nat, ∃ cap2 : Nat, u = .func (.func 181) #[] #[.pointer (some ⟨b0, 0, none⟩), .pointer (some ⟨b1, 0, none⟩)] ∧ K' = [[(b0, .cells #[.int .i64 r.1] 3 (0, 0))], [(b1, .cells #[.slice ao2 n2 cap2] 45 (0, 0))]] ∧ H = H' ∧ IsSlice H RU8 1 (.slice ao2 n2 cap2) r.2 ∧ True) := by
 refine Does.enterL (vs := [.slice aa_2 na_2 ca_2]) (l := [(0, .slice aa_2 na_2 ca_2)]) Try.func164 rfl rfl ⟨rfl, trivial⟩ (fun w hlt => ?_)
 unfold space_free at hx
 refine ZG (ZB (JL.box rfl rfl (fun b_3 hb_3 => ZA rfl rfl (ZH rfl) (ZD (ZC (ZG (ZB (JL.alloc Z3 rfl (fun b_4 hb_4 => ZN 0 S3 rfl rfl rfl rfl rfl (Nat.le_of_ble_eq_true rfl) (ZD (ZC ?_)))))))))))
 refine ZG (ZB (ZA rfl rfl (R.func (vf := []) (vc := [_, _]) rfl rfl) (ZA rfl rfl (ZH rfl) (ZD (ZC (ZV (ZT (vs := [.func (.func 181) #[] #[.pointer (some ⟨b_4, 0, none⟩), .pointer (some ⟨b_3, 0, none⟩)]]) (K := [_, _]) (rst := []) (.inl rfl) rfl rfl (ZQ rfl rfl) (Za 0 rfl (Za 0 rfl ZK)) ?_)))))))
 obtain rfl := Option.some.inj hx
 exact ⟨b_4, b_3, aa_2, na_2, ca_2, rfl, rfl, rfl, ha_2, trivial⟩

set_option maxHeartbeats 8000000 in
theorem space_free_1_ok (p_2 : Int) (p_4 : List UInt8) (H : Heaplet) {b_1 : Nat} {b_3 : Nat} {aa_5 : Option Addr} {na_5 : Nat} {ca_5 : Nat} (ha_5 : IsSlice H RU8 1 (.slice aa_5 na_5 ca_5) p_4) (r : Int × Int × List UInt8) (hx : space_free_1 p_2 p_4 = some r) :
  Does Try.prog 181 #[.pointer (some ⟨b_1, 0, none⟩), .pointer (some ⟨b_3, 0, none⟩)] [[(b_1, .cells #[.int .i64 p_2] 3 (0, 0))], [(b_3, .cells #[.slice aa_5 na_5 ca_5] 45 (0, 0))]] H (fun u K' H' => ∃ ao0 : Option Addr, ∃ n0 : Nat, ∃ cap0 : Nat, u = .int .i64 r.1 ∧ K' = [[(b_1, .cells #[.int .i64 r.2.1] 3 (0, 0))], [(b_3, .cells #[.slice ao0 n0 cap0] 45 (0, 0))]] ∧ H = H' ∧ IsSlice H RU8 1 (.slice ao0 n0 cap0) r.2.2 ∧ True) := by
 refine Does.enterL (vs := [.pointer (some ⟨b_1, 0, none⟩), .pointer (some ⟨b_3, 0, none⟩)]) (l := [(0, .pointer (some ⟨b_1, 0, none⟩)), (1, .pointer (some ⟨b_3, 0, none⟩))]) Try.func181 rfl rfl ⟨rfl, rfl, trivial⟩ (fun w hlt => ?_)
 unfold space_free_1 at hx
 refine ZG (ZB (ZA rfl rfl (ZH rfl) (ZD (ZC (ZG (ZG (ZB (ZA rfl rfl (Zi 0 S3 rfl rfl rfl) (ZA rfl rfl (R.add_i rfl rfl) (ZN 0 S3 rfl rfl rfl rfl rfl (Nat.le_of_ble_eq_true rfl) (ZD ?_)))))))))))
 refine ZC ?_
 obtain ⟨t_6, ht_8, hx⟩ := ZM hx
 refine JC.cut (fun l o g => ∃ t_6a : Int, l = [(0, .pointer (some ⟨b_1, 0, none⟩)), (1, .pointer (some ⟨b_3, 0, none⟩))] ∧ o = [[(b_1, .cells #[.int .i64 t_6a] 3 (0, 0))], [(b_3, .cells #[.slice aa_5 na_5 ca_5] 45 (0, 0))]] ∧ H = g ∧ t_6 = .inl t_6a) ?_ ?_
 ·
  rintro _ _ _ ⟨t_6a, rfl, rfl, rfl, rfl⟩
  simp only [Sum.elim_inl] at hx
  refine ZC (ZG (ZB (ZA rfl rfl (ZH rfl) (ZD (ZC (ZV (ZT (vs := [.int .i64 (-1)]) (K := [_, _]) (rst := []) (.inl rfl) rfl rfl (ZQ rfl rfl) (Za 0 rfl (Za 0 rfl ZK)) ?_)))))))
  obtain rfl := Option.some.inj hx
  exact ⟨aa_5, na_5, ca_5, rfl, rfl, rfl, ha_5, trivial⟩
 ·
  have hxo_7 := hx; clear hx; have hx := ht_8; clear ht_8
  refine JC.block (Zv 1 rfl (Zv 1 rfl (JC.loopI (fun n l o g => ∃ s_9 : Int, l = [(0, .pointer (some ⟨b_1, 0, none⟩)), (1, .pointer (some ⟨b_3, 0, none⟩))] ∧ o = [[(b_1, .cells #[.int .i64 s_9] 3 (0, 0))], [(b_3, .cells #[.slice aa_5 na_5 ca_5] 45 (0, 0))]] ∧ H = g ∧ run (space_free_1_l1 p_4) n s_9 = some t_6) FUEL ?_ ⟨w64 (p_2 + 1), rfl, rfl, rfl, hx⟩ ⟨rfl, rfl, trivial⟩ ?_)))
  ·
   rintro _ _ _ ⟨s_9, rfl, rfl, rfl, hn_10⟩
   exact run_zero hn_10
  ·
   rintro n_11 _ _ _ ⟨s_9, rfl, rfl, rfl, hn_10⟩
   clear hx; obtain ⟨oo_13, hx, hd_12⟩ := Z0 hn_10
   unfold space_free_1_l1 at hx
   refine ZG (ZG (ZB (ZA rfl rfl (Zi 0 S3 rfl rfl rfl) (ZA rfl rfl (Zi 1 S45 rfl rfl rfl) (ZA rfl rfl (Zm U45 rfl (IsSlice.long ha_5)) (ZA rfl rfl (Zr rfl rfl) (ZD (ZC (ZU rfl (fun c_12 => ?_) (fun c_12 => ?_))))))))))
   ·
    replace hx := ZW c_12 hx
    refine JC.skip (ZC (ZG (JC.block (ZG (ZB (ZA rfl rfl (Zi 1 S45 rfl rfl rfl) (ZA rfl rfl (Zi 0 S3 rfl rfl rfl) ?_)))))))
    obtain ⟨y_13, hN_14, hx⟩ := Zs hx
    obtain ⟨b_15, o_16, cs_17, hE_18, hR_19, hl_20, hc_21⟩ := IsSlice.elem ha_5 hN_14
    obtain rfl := hR_19
    refine ZA rfl rfl (R.ix U45 S5 rfl rfl hE_18) (ZA rfl rfl (R.ldH S5 rfl (hc_21 0 _ rfl)) (ZA rfl rfl (R.eql8 (a := y_13) (b := (0 : UInt8)) rfl rfl) (ZD (ZC (ZU rfl (fun c_22 => ?_) (fun c_22 => ?_))))))
    ·
     replace hx := ZW c_22 hx
     refine ZG (ZB (ZA rfl rfl (Zi 0 S3 rfl rfl rfl) (ZA rfl rfl (ZH rfl) (ZD (ZC (ZV (Z4 (ZR ?_))))))))
     obtain rfl := Zu hd_12 hx
     refine ZR (Z4 ?_)
     clear hx; have hx := hxo_7
     simp only [Sum.elim_inl, Sum.elim_inr] at hx
     refine ZR (ZR (ZT (vs := [.int .i64 s_9]) (K := [_, _]) (rst := []) (.inl rfl) rfl rfl (ZQ rfl rfl) (Za 0 rfl (Za 0 rfl ZK)) ?_))
     obtain rfl := Option.some.inj hx
     exact ⟨aa_5, na_5, ca_5, rfl, rfl, rfl, ha_5, trivial⟩
    ·
     replace hx := ZX c_22 hx
     refine JC.skip (Zk (ZC (ZB (ZA rfl rfl (Zi 0 S3 rfl rfl rfl) (ZA rfl rfl (R.add_i rfl rfl) (ZN 0 S3 rfl rfl rfl rfl rfl (Nat.le_of_ble_eq_true rfl) (ZD ?_)))))))
     replace hx := Zo hd_12 hx
     refine ZO 1 rfl (ZO 1 rfl ?_)
     exact JN.cut ⟨w64 (s_9 + 1), rfl, rfl, rfl, hx⟩ ⟨rfl, rfl, trivial⟩ rfl rfl
   ·
    replace hx := ZX c_12 hx
    refine JC.exit (Ze ?_)
    obtain rfl := Zu hd_12 hx
    refine Ze (Zl (ZO 1 rfl (ZO 1 rfl ?_)))
    exact JN.cut ⟨s_9, rfl, rfl, rfl, rfl⟩ ⟨rfl, rfl, trivial⟩ rfl rfl

set_option maxHeartbeats 8000000 in
theorem space_Take_ok (p_1 : List UInt8) (H : Heaplet) {aa_2 : Option Addr} {na_2 : Nat} {ca_2 : Nat} (ha_2 : IsSlice H RU8 1 (.slice aa_2 na_2 ca_2) p_1) (r : List UInt8 × Int × Int) (hx : space_Take p_1 = some r) :
  Does Try.prog 140 #[.slice aa_2 na_2 ca_2] [] H (fun u K' H' => ∃ ao0 : Option Addr, ∃ n0 : Nat, ∃ cap0 : Nat, ∃ K0 : Own, u = .tuple #[.slice ao0 n0 cap0, .int .i64 r.2.1, .int .i64 r.2.2] ∧ K' = [K0] ∧ H = H' ∧ RowOf (New H H) RU8 0 5 1 (.slice ao0 n0 cap0) r.1 K0 ∧ (∀ p ∈ K0, p.1 ∉ ids (List.flatten [])) ∧ True) := by
 refine Does.enterL (vs := [.slice aa_2 na_2 ca_2]) (l := [(0, .slice aa_2 na_2 ca_2)]) Try.func140 rfl rfl ⟨rfl, trivial⟩ (fun w hlt => ?_)
 unfold space_Take at hx
 refine ZG (ZB (ZA rfl rfl (ZH rfl) (ZA rfl rfl (ZH rfl) (ZA rfl rfl (ZH rfl) (ZD (ZC (ZG (ZG (ZB (ZA rfl rfl (ZF rfl) ?_))))))))))
 obtain ⟨x_3, hr_4, hx⟩ := ZM hx
 refine ZS (vs := [_]) (args := [_]) (K := []) (rst := []) E57 rfl rfl rfl ZK (space_Check_ok p_1 _ ha_2 _ hr_4) rfl (fun u_5 Ku_5 Hu_5 hRu_5 hleu_5 hfu_5 => ?_)
 obtain ⟨rfl, rfl, rfl, -⟩ := hRu_5
 refine ZA rfl rfl (ZH rfl) (ZD (ZC (ZG (ZB (ZA rfl rfl (ZF rfl) (ZA rfl rfl (R.neq_i rfl rfl) (ZD (ZC (ZU rfl (fun c_6 => ?_) (fun c_6 => ?_))))))))))
 ·
  replace hx := ZW c_6 hx
  refine ZG (ZB (ZA rfl rfl (ZF rfl) (ZA rfl rfl (ZH rfl) (ZA rfl rfl (ZH rfl) (ZA rfl rfl (ZH rfl) (ZD (ZC (ZV (ZR (Zn (ZT (vs := [.slice none 0 0, .int .i64 0, .int .i64 x_3]) (K := [_]) (rst := []) (.inl rfl) rfl rfl (ZQ rfl (ZQ rfl (ZQ rfl rfl))) (Za 0 rfl ZK) ?_)))))))))))
  obtain rfl := Option.some.inj hx
  exact ⟨none, 0, 0, [], rfl, rfl, rfl, (Zb _ _ _ _ _), (fun p hp => by cases hp), trivial⟩
 ·
  replace hx := ZX c_6 hx
  refine JC.skip (ZC (ZG (ZG (ZB (ZA rfl rfl (ZF rfl) ?_)))))
  obtain ⟨x_7, hr_8, hx⟩ := ZM hx
  refine ZS (vs := [_]) (args := [_]) (K := []) (rst := []) E164 rfl rfl rfl ZK (space_free_ok p_1 _ ha_2 _ hr_8) rfl (fun u_9 Ku_9 Hu_9 hRu_9 hleu_9 hfu_9 => ?_)
  obtain ⟨b_10, b_11, az_12, nz_12, cz_12, rfl, rfl, rfl, hz_12, -⟩ := hRu_9
  have hb_10 := (hfu_9 _ (Zg 0 rfl (List.mem_singleton.2 rfl))).resolve_left (fun h => by cases h)
  have hb_11 := (hfu_9 _ (Zg 1 rfl (List.mem_singleton.2 rfl))).resolve_left (fun h => by cases h)
  obtain ⟨x_13, hr_14, hx⟩ := ZM hx
  refine ZS (vs := []) (args := [_, _]) (K := [_, _]) (rst := []) E181 rfl rfl rfl (Za 0 rfl (Za 0 rfl ZK)) (space_free_1_ok x_7.1 x_7.2 _ hz_12 _ hr_14) rfl (fun u_15 Ku_15 Hu_15 hRu_15 hleu_15 hfu_15 => ?_)
  obtain ⟨az_16, nz_16, cz_16, rfl, rfl, rfl, hz_16, -⟩ := hRu_15
  refine ZA rfl rfl (ZH rfl) (ZD (ZC (ZG (ZB (ZA rfl rfl (ZF rfl) (ZA rfl rfl (Zr rfl rfl) (ZD (ZC (ZU rfl (fun c_17 => ?_) (fun c_17 => ?_))))))))))
  ·
   replace hx := ZW c_17 hx
   refine ZG (ZB (ZA rfl rfl (ZH rfl) (ZA rfl rfl (ZH rfl) (ZA rfl rfl (ZH rfl) (ZD (ZC (ZV (ZR (Zn (ZT (vs := [.slice none 0 0, .int .i64 0, .int .i64 9]) (K := [_]) (rst := [_, _]) (.inl rfl) rfl rfl (ZQ rfl (ZQ rfl (ZQ rfl rfl))) (Za 0 rfl ZK) ?_))))))))))
   obtain rfl := Option.some.inj hx
   exact ⟨none, 0, 0, [], rfl, rfl, rfl, (Zb _ _ _ _ _), (fun p hp => by cases hp), trivial⟩
  ·
   replace hx := ZX c_17 hx
   refine JC.skip (ZC (ZG (ZB (ZA rfl rfl (ZF rfl) ?_))))
   obtain ⟨x_18, hr_19, hx⟩ := ZM hx
   refine ZS (vs := [_]) (args := [_]) (K := []) (rst := [_, _]) E105 rfl rfl rfl ZK (bytes_Clone_ok p_1 _ ha_2 _ hr_19) rfl (fun u_20 Ku_20 Hu_20 hRu_20 hleu_20 hfu_20 => ?_)
   obtain ⟨ar_21, nr_21, cr_21, Kr_21, rfl, rfl, rfl, hr_21, hnewr_21, -⟩ := hRu_20
   replace hr_21 := (RowOf.base (Zc (H2 := New H H) RU8.const hr_21) (fun p hp => (hfu_20 p (Zg 0 rfl hp)).resolve_left (hnewr_21 p hp)))
   refine ZA rfl rfl (ZH rfl) (ZD (ZC (ZG (ZB (ZA rfl rfl (ZF rfl) (ZA rfl rfl (ZF rfl) ?_))))))
   obtain ⟨hp_22, hx⟩ := chk_some hx
   obtain ⟨b_23, o_24, hE_25⟩ := RowOf.place hr_21 hp_22
   refine ZA rfl rfl (R.ix U45 S5 rfl rfl hE_25) ?_
   obtain ⟨m_26, hm_27, hi_28, hx⟩ := setI_some hx
   refine JL.stE 0 (k := x_13.1) (y := (1 : UInt8)) S5 rfl hr_21 rfl hE_25 rfl rfl (rfl) RU8.one hm_27 (fun Kr_29 hr_29 hlr_29 => ZD (ZC (ZG (ZB (ZA rfl rfl (ZF rfl) (ZA rfl rfl (ZF rfl) (ZA rfl rfl (ZH rfl) (ZA rfl rfl (ZH rfl) (ZA rfl rfl (ZH rfl) (ZD (ZC ?_)))))))))))
   refine ZV (ZT (vs := [.slice ar_21 nr_21 cr_21, .int .i64 x_13.1, .int .i64 0]) (K := [_]) (rst := [_, _]) (.inl rfl) rfl rfl (ZQ rfl (ZQ rfl (ZQ rfl rfl))) (Za 0 rfl ZK) ?_)
   obtain rfl := Option.some.inj hx
   exact ⟨ar_21, nr_21, cr_21, Kr_29, rfl, rfl, rfl, (Zd (Nat.zero_le _) hr_29), (Zx hr_29 hlt), trivial⟩

set_option maxHeartbeats 8000000 in
theorem dev_Write_1_ok (p_2 : Disk) (H : Heaplet) {b_1 : Nat} {aa_3 : Option Addr} {na_3 : Nat} {ca_3 : Nat} {aa_4 : Option Addr} {na_4 : Nat} {ca_4 : Nat} (ha_3 : IsSlice H (RSl RU8 1) 1 (.slice aa_3 na_3 ca_3) p_2.Blocks) (ha_4 : IsSlice H R_Write 2 (.slice aa_4 na_4 ca_4) p_2.Waits) (r : Disk × Disk) (hx : dev_Write_1 p_2 = some r) :
  Does Try.prog 69 #[.pointer (some ⟨b_1, 0, none⟩)] [[(b_1, .cells #[.slice aa_3 na_3 ca_3, .slice aa_4 na_4 ca_4] 25 (0, 0))]] H (fun u K' H' => ∃ ao0 : Option Addr, ∃ n0 : Nat, ∃ cap0 : Nat, ∃ ao1 : Option Addr, ∃ n1 : Nat, ∃ cap1 : Nat, ∃ ao2 : Option Addr, ∃ n2 : Nat, ∃ cap2 : Nat, ∃ ao3 : Option Addr, ∃ n3 : Nat, ∃ cap3 : Nat, u = .agg #[.slice ao2 n2 cap2, .slice ao3 n3 cap3] ∧ K' = [[(b_1, .cells #[.slice ao0 n0 cap0, .slice ao1 n1 cap1] 25 (0, 0))]] ∧ H = H' ∧ IsSlice H (RSl RU8 1) 1 (.slice ao0 n0 cap0) r.2.Blocks ∧ IsSlice H R_Write 2 (.slice ao1 n1 cap1) r.2.Waits ∧ IsSlice H (RSl RU8 1) 1 (.slice ao2 n2 cap2) r.1.Blocks ∧ IsSlice H R_Write 2 (.slice ao3 n3 cap3) r.1.Waits ∧ True) := by
 refine Does.enterL (vs := [.pointer (some ⟨b_1, 0, none⟩)]) (l := [(0, .pointer (some ⟨b_1, 0, none⟩))]) Try.func69 rfl rfl ⟨rfl, trivial⟩ (fun w hlt => ?_)
 unfold dev_Write_1 at hx
 refine ZG (ZB (JL.alloc Z25 rfl (fun b_5 hb_5 => ZD (ZC (ZG (ZB (ZA rfl rfl (Z1 1 (vs := [.slice aa_3 na_3 ca_3, .slice aa_4 na_4 ca_4]) S25 rfl rfl rfl rfl) (ZN 0 S25 rfl rfl rfl rfl rfl (Nat.le_of_ble_eq_true rfl) (ZD (ZC (ZV ?_)))))))))))
 refine ZT (vs := [.agg #[.slice aa_3 na_3 ca_3, .slice aa_4 na_4 ca_4]]) (K := [_]) (rst := [_]) (.inl rfl) rfl rfl (Zf 0 rfl rfl S25 rfl) (Za 1 rfl ZK) ?_
 obtain rfl := Option.some.inj hx
 exact ⟨aa_3, na_3, ca_3, aa_4, na_4, ca_4, aa_3, na_3, ca_3, aa_4, na_4, ca_4, rfl, rfl, rfl, ha_3, ha_4, ha_3, ha_4, trivial⟩

set_option maxHeartbeats 8000000 in
theorem dev_guarded_ok (p_1 : Disk) (p_4 : Bool) (p_6 : Disk) (H : Heaplet) {aa_2 : Option Addr} {na_2 : Nat} {ca_2 : Nat} {aa_3 : Option Addr} {na_3 : Nat} {ca_3 : Nat} {b_5 : Nat} {aa_7 : Option Addr} {na_7 : Nat} {ca_7 : Nat} {aa_8 : Option Addr} {na_8 : Nat} {ca_8 : Nat} (ha_2 : IsSlice H (RSl RU8 1) 1 (.slice aa_2 na_2 ca_2) p_1.Blocks) (ha_3 : IsSlice H R_Write 2 (.slice aa_3 na_3 ca_3) p_1.Waits) (ha_7 : IsSlice H (RSl RU8 1) 1 (.slice aa_7 na_7 ca_7) p_6.Blocks) (ha_8 : IsSlice H R_Write 2 (.slice aa_8 na_8 ca_8) p_6.Waits) (r : Disk × Int × Disk) (hx : dev_guarded p_1 p_4 p_6 = some r) :
  Does Try.prog 68 #[.agg #[.slice aa_2 na_2 ca_2, .slice aa_3 na_3 ca_3], .bool p_4, .func (.func 69) #[] #[.pointer (some ⟨b_5, 0, none⟩)]] [[(b_5, .cells #[.slice aa_7 na_7 ca_7, .slice aa_8 na_8 ca_8] 25 (0, 0))]] H (fun u K' H' => ∃ ao0 : Option Addr, ∃ n0 : Nat, ∃ cap0 : Nat, ∃ ao1 : Option Addr, ∃ n1 : Nat, ∃ cap1 : Nat, ∃ ao2 : Option Addr, ∃ n2 : Nat, ∃ cap2 : Nat, ∃ ao3 : Option Addr, ∃ n3 : Nat, ∃ cap3 : Nat, u = .tuple #[.agg #[.slice ao2 n2 cap2, .slice ao3 n3 cap3], .int .i64 r.2.1] ∧ K' = [[(b_5, .cells #[.slice ao0 n0 cap0, .slice ao1 n1 cap1] 25 (0, 0))]] ∧ H = H' ∧ IsSlice H (RSl RU8 1) 1 (.slice ao0 n0 cap0) r.2.2.Blocks ∧ IsSlice H R_Write 2 (.slice ao1 n1 cap1) r.2.2.Waits ∧ IsSlice H (RSl RU8 1) 1 (.slice ao2 n2 cap2) r.1.Blocks ∧ IsSlice H R_Write 2 (.slice ao3 n3 cap3) r.1.Waits ∧ True) := by
 refine Does.enterL (vs := [.agg #[.slice aa_2 na_2 ca_2, .slice aa_3 na_3 ca_3], .bool p_4, .func (.func 69) #[] #[.pointer (some ⟨b_5, 0, none⟩)]]) (l := [(0, .agg #[.slice aa_2 na_2 ca_2, .slice aa_3 na_3 ca_3]), (1, .bool p_4), (2, .func (.func 69) #[] #[.pointer (some ⟨b_5, 0, none⟩)])]) Try.func68 rfl rfl ⟨rfl, rfl, rfl, trivial⟩ (fun w hlt => ?_)
 unfold dev_guarded at hx
 refine ZG (ZB (JL.box rfl rfl (fun b_9 hb_9 => JL.alloc Z25 rfl (fun b_10 hb_10 => ZA rfl rfl (ZH rfl) (ZD (ZC (ZG (ZB (ZA rfl rfl (Z1 1 (vs := [.slice aa_2 na_2 ca_2, .slice aa_3 na_3 ca_3]) S25 rfl rfl rfl rfl) ?_)))))))))
 obtain ⟨x_11, hr_12, hx⟩ := ZM hx
 refine ZS (vs := [_]) (args := [_]) (K := []) (rst := [_, _, _]) E36 rfl rfl rfl ZK (dev_Check_ok p_1 _ ha_2 ha_3 _ hr_12) rfl (fun u_13 Ku_13 Hu_13 hRu_13 hleu_13 hfu_13 => ?_)
 obtain ⟨rfl, rfl, rfl, -⟩ := hRu_13
 refine ZA rfl rfl (ZH rfl) (ZD (ZC (ZG (JC.block (ZG (ZB (ZA rfl rfl (ZF rfl) (ZA rfl rfl (R.neq_i rfl rfl) (ZA rfl rfl (ZH rfl) (ZD (ZC ?_)))))))))))
 refine ZU rfl (fun c_14 => ?_) (fun c_14 => ?_)
 ·
  replace hx := ZW c_14 hx
  refine ZG (ZB (ZA rfl rfl (R.bldP (vs := []) (cs := [.slice none 0 0, .slice none 0 0]) Z25 B25 rfl rfl rfl) (ZA rfl rfl (ZF rfl) (ZN 0 S25 rfl rfl rfl rfl rfl (Nat.le_of_ble_eq_true rfl) (ZA rfl rfl (ZH rfl) (ZD (ZC (ZV (Z4 (ZR (ZT (vs := [.agg #[.slice none 0 0, .slice none 0 0], .int .i64 x_11]) (K := [_]) (rst := [_, _]) (.inl rfl) rfl rfl (Zf 0 rfl rfl S25 (ZQ rfl rfl)) (Za 2 rfl ZK) ?_)))))))))))
  obtain rfl := Option.some.inj hx
  exact ⟨aa_7, na_7, ca_7, aa_8, na_8, ca_8, none, 0, 0, none, 0, 0, rfl, rfl, rfl, ha_7, ha_8, (IsSlice.nil _ _ _), (IsSlice.nil _ _ _), trivial⟩
 ·
  replace hx := ZX c_14 hx
  refine ZG (ZB (ZA rfl rfl (ZF rfl) (ZA rfl rfl (R.not rfl) (ZA rfl rfl (ZH rfl) (ZD (ZC (ZU rfl (fun c_15 => ?_) (fun c_15 => ?_))))))))
  ·
   replace hx := ZW c_15 hx
   refine ZG (ZB (ZA rfl rfl (R.bldP (vs := []) (cs := [.slice none 0 0, .slice none 0 0]) Z25 B25 rfl rfl rfl) (ZN 0 S25 rfl rfl rfl rfl rfl (Nat.le_of_ble_eq_true rfl) (ZA rfl rfl (ZH rfl) (ZD (ZC (ZV (Z4 (ZR (ZT (vs := [.agg #[.slice none 0 0, .slice none 0 0], .int .i64 2]) (K := [_]) (rst := [_, _]) (.inl rfl) rfl rfl (Zf 0 rfl rfl S25 (ZQ rfl rfl)) (Za 2 rfl ZK) ?_))))))))))
   obtain rfl := Option.some.inj hx
   exact ⟨aa_7, na_7, ca_7, aa_8, na_8, ca_8, none, 0, 0, none, 0, 0, rfl, rfl, rfl, ha_7, ha_8, (IsSlice.nil _ _ _), (IsSlice.nil _ _ _), trivial⟩
  ·
   replace hx := ZX c_15 hx
   refine JC.skip (Zk (ZC (ZG (ZB (ZA rfl rfl (ZF rfl) ?_)))))
   obtain ⟨x_16, hr_17, hx⟩ := ZM hx
   refine ZS (vs := []) (args := [_]) (K := [_]) (rst := [_, _]) E69 rfl rfl rfl (Za 2 rfl ZK) (dev_Write_1_ok p_6 _ ha_7 ha_8 _ hr_17) rfl (fun u_18 Ku_18 Hu_18 hRu_18 hleu_18 hfu_18 => ?_)
   obtain ⟨az_19, nz_19, cz_19, az_20, nz_20, cz_20, az_21, nz_21, cz_21, az_22, nz_22, cz_22, rfl, rfl, rfl, hz_19, hz_20, hz_21, hz_22, -⟩ := hRu_18
   refine ZN 1 S25 rfl rfl rfl rfl rfl (Nat.le_of_ble_eq_true rfl) (ZA rfl rfl (ZH rfl) (ZD (ZC (ZV (ZT (vs := [.agg #[.slice az_21 nz_21 cz_21, .slice az_22 nz_22 cz_22], .int .i64 0]) (K := [_]) (rst := [_, _]) (.inl rfl) rfl rfl (Zf 1 rfl rfl S25 (ZQ rfl rfl)) (Za 0 rfl ZK) ?_)))))
   obtain rfl := Option.some.inj hx
   exact ⟨az_19, nz_19, cz_19, az_20, nz_20, cz_20, az_21, nz_21, cz_21, az_22, nz_22, cz_22, rfl, rfl, rfl, hz_19, hz_20, hz_21, hz_22, trivial⟩

set_option maxHeartbeats 8000000 in
theorem slices_Clip_Write_ok (p_1 : List Write) (H : Heaplet) {aa_2 : Option Addr} {na_2 : Nat} {ca_2 : Nat} (ha_2 : IsSlice H R_Write 2 (.slice aa_2 na_2 ca_2) p_1) (r : List Write) (hx : slices_Clip_Write p_1 = some r) :
  Does Try.prog 71 #[.slice aa_2 na_2 ca_2] [] H (fun u K' H' => ∃ ao0 : Option Addr, ∃ n0 : Nat, u = .slice ao0 n0 n0 ∧ K' = [] ∧ H = H' ∧ IsSlice H R_Write 2 (.slice ao0 n0 n0) r ∧ True) := by
 refine Does.enterL (vs := [.slice aa_2 na_2 ca_2]) (l := [(0, .slice aa_2 na_2 ca_2)]) Try.func71 rfl rfl ⟨rfl, trivial⟩ (fun w hlt => ?_)
 unfold slices_Clip_Write at hx
 refine ZG (ZB (ZA rfl rfl (ZH rfl) (ZD (ZC (ZG (ZB (ZA rfl rfl (ZF rfl) (ZA rfl rfl (ZF rfl) (ZA rfl rfl (Zm U23 rfl (IsSlice.long ha_2)) (ZA rfl rfl (ZF rfl) (ZA rfl rfl (Zm U23 rfl (IsSlice.long ha_2)) ?_)))))))))))
 obtain ⟨m_3, hm_5, hb_4, hx⟩ := slc_some hx
 obtain ⟨vv_6, cv_6, av_6, h1v_6, h2v_6, hsv_6⟩ := IsSlice.cutc ha_2 hm_5 hb_4
 refine ZA rfl rfl (R.slc (cap := cv_6) (a := 0) (b := (p_1.length : Int)) (c := (p_1.length : Int)) (m := p_1) (R := R_Write) U23 S47 rfl rfl ⟨_, rfl⟩ ⟨_, rfl⟩ ⟨hb_4.1, hb_4.2.1, Int.le_refl _⟩ h1v_6 (.inr (fun h => by cases h))) ?_
 subst h2v_6
 refine ZA rfl rfl (ZH rfl) (ZD (ZC (ZV (ZT (vs := [.slice av_6 m_3.length m_3.length]) (K := []) (rst := []) (.inl rfl) rfl rfl (ZQ rfl rfl) ZK ?_))))
 obtain rfl := Option.some.inj hx
 exact ⟨av_6, m_3.length, rfl, rfl, rfl, hsv_6, trivial⟩

set_option maxHeartbeats 8000000 in
theorem dev_Write_ok (p_1 : Disk) (p_4 : Int) (p_5 : List UInt8) (H : Heaplet) {aa_2 : Option Addr} {na_2 : Nat} {ca_2 : Nat} {aa_3 : Option Addr} {na_3 : Nat} {ca_3 : Nat} {aa_6 : Option Addr} {na_6 : Nat} {ca_6 : Nat} (ha_2 : IsSlice H (RSl RU8 1) 1 (.slice aa_2 na_2 ca_2) p_1.Blocks) (ha_3 : IsSlice H R_Write 2 (.slice aa_3 na_3 ca_3) p_1.Waits) (ha_6 : IsSlice H RU8 1 (.slice aa_6 na_6 ca_6) p_5) (r : Disk × Int) (hx : dev_Write p_1 p_4 p_5 = some r) :
  Does Try.prog 38 #[.agg #[.slice aa_2 na_2 ca_2, .slice aa_3 na_3 ca_3], .int .i64 p_4, .slice aa_6 na_6 ca_6] [] H (fun u K' H' => ∃ ao0 : Option Addr, ∃ n0 : Nat, ∃ cap0 : Nat, ∃ ao1 : Option Addr, ∃ n1 : Nat, ∃ cap1 : Nat, ∃ K1 : Own, u = .tuple #[.agg #[.slice ao0 n0 cap0, .slice ao1 n1 cap1], .int .i64 r.2] ∧ K' = [K1] ∧ IsSlice (New H H') (RSl RU8 1) 1 (.slice ao0 n0 cap0) r.1.Blocks ∧ RowOf (New H H') R_Write 0 47 2 (.slice ao1 n1 cap1) r.1.Waits K1 ∧ (∀ p ∈ K1, p.1 ∉ ids (List.flatten [])) ∧ True) := by
 refine Does.enterL (vs := [.agg #[.slice aa_2 na_2 ca_2, .slice aa_3 na_3 ca_3], .int .i64 p_4, .slice aa_6 na_6 ca_6]) (l := [(0, .agg #[.slice aa_2 na_2 ca_2, .slice aa_3 na_3 ca_3]), (1, .int .i64 p_4), (2, .slice aa_6 na_6 ca_6)]) Try.func38 rfl rfl ⟨rfl, rfl, rfl, trivial⟩ (fun w hlt => ?_)
 unfold dev_Write at hx
 refine ZG (ZB (JL.box rfl rfl (fun b_7 hb_7 => JL.alloc Z25 rfl (fun b_8 hb_8 => ZA rfl rfl (ZH rfl) (ZD (ZC (ZG (ZG ?_))))))))
 obtain ⟨t_9, ht_11, hx⟩ := ZM hx
 refine JC.cut (fun l o g => ∃ az_37 : Option Addr, ∃ nz_37 : Nat, ∃ cz_37 : Nat, ∃ az_38 : Option Addr, ∃ nz_38 : Nat, ∃ cz_38 : Nat, l = [(1, .int .i64 p_4), (2, .slice aa_6 na_6 ca_6), (3, .pointer (some ⟨b_7, 0, none⟩)), (6, .pointer (some ⟨b_8, 0, none⟩)), (9, .int .i64 t_9.2.2)] ∧ o = [[(b_7, .cells #[.slice az_37 nz_37 cz_37, .slice az_38 nz_38 cz_38] 25 (0, 0))], [(b_8, .cells #[.slice none 0 0, .slice none 0 0] 25 (0, 0))]] ∧ H = g ∧ IsSlice H (RSl RU8 1) 1 (.slice az_37 nz_37 cz_37) t_9.1 ∧ IsSlice H R_Write 2 (.slice az_38 nz_38 cz_38) t_9.2.1) ?_ ?_
 ·
  rintro _ _ _ ⟨az_37, nz_37, cz_37, az_38, nz_38, cz_38, rfl, rfl, rfl, hz_37, hz_38⟩
  refine ZC (ZG (ZB (ZA rfl rfl (ZF rfl) (ZA rfl rfl (R.neq_i rfl rfl) (ZD (ZC (ZU rfl (fun c_39 => ?_) (fun c_39 => ?_))))))))
  ·
   replace hx := ZW c_39 hx
   refine ZG (ZB (ZA rfl rfl (R.bldP (vs := []) (cs := [.slice none 0 0, .slice none 0 0]) Z25 B25 rfl rfl rfl) (ZA rfl rfl (ZF rfl) (ZN 1 S25 rfl rfl rfl rfl rfl (Nat.le_of_ble_eq_true rfl) (ZA rfl rfl (ZH rfl) (ZD (ZC (ZV (ZR (Zn (ZT (vs := [.agg #[.slice none 0 0, .slice none 0 0], .int .i64 t_9.2.2]) (K := [_]) (rst := [_, _]) (.inl rfl) rfl rfl (Zf 2 rfl rfl S25 (ZQ rfl rfl)) (Za 0 rfl ZK) ?_)))))))))))
   obtain rfl := Option.some.inj hx
   exact ⟨none, 0, 0, none, 0, 0, [], rfl, rfl, (IsSlice.nil _ _ _), (Zb _ _ _ _ _), (fun p hp => by cases hp), trivial⟩
  ·
   replace hx := ZX c_39 hx
   refine JC.skip (ZC (ZG (JC.block (ZG (ZB (ZA rfl rfl (ZF rfl) (ZA rfl rfl (Zm U45 rfl (IsSlice.long ha_6)) (ZA rfl rfl (R.neq_i rfl rfl) (ZA rfl rfl (ZH rfl) (ZD (ZC ?_)))))))))))
   refine ZU rfl (fun c_40 => ?_) (fun c_40 => ?_)
   ·
    replace hx := ZW c_40 hx
    refine ZG (ZB (ZA rfl rfl (R.bldP (vs := []) (cs := [.slice none 0 0, .slice none 0 0]) Z25 B25 rfl rfl rfl) (ZN 1 S25 rfl rfl rfl rfl rfl (Nat.le_of_ble_eq_true rfl) (ZA rfl rfl (ZH rfl) (ZD (ZC (ZV (Z4 (ZR (Zn (ZT (vs := [.agg #[.slice none 0 0, .slice none 0 0], .int .i64 3]) (K := [_]) (rst := [_, _]) (.inl rfl) rfl rfl (Zf 2 rfl rfl S25 (ZQ rfl rfl)) (Za 0 rfl ZK) ?_)))))))))))
    obtain rfl := Option.some.inj hx
    exact ⟨none, 0, 0, none, 0, 0, [], rfl, rfl, (IsSlice.nil _ _ _), (Zb _ _ _ _ _), (fun p hp => by cases hp), trivial⟩
   ·
    replace hx := ZX c_40 hx
    refine ZG (ZB (ZA rfl rfl (R.fa F25_1 rfl) (ZA rfl rfl (Zi 0 S23 rfl rfl rfl) (ZA rfl rfl (Zm U23 rfl (IsSlice.long hz_38)) (ZA rfl rfl (Zy rfl rfl) (ZA rfl rfl (ZH rfl) (ZD (ZC (ZU rfl (fun c_41 => ?_) (fun c_41 => ?_))))))))))
    ·
     replace hx := ZW c_41 hx
     refine ZG (ZB (ZA rfl rfl (R.bldP (vs := []) (cs := [.slice none 0 0, .slice none 0 0]) Z25 B25 rfl rfl rfl) (ZN 1 S25 rfl rfl rfl rfl rfl (Nat.le_of_ble_eq_true rfl) (ZA rfl rfl (ZH rfl) (ZD (ZC (ZV (Z4 (ZR (Zn (ZT (vs := [.agg #[.slice none 0 0, .slice none 0 0], .int .i64 9]) (K := [_]) (rst := [_, _]) (.inl rfl) rfl rfl (Zf 2 rfl rfl S25 (ZQ rfl rfl)) (Za 0 rfl ZK) ?_)))))))))))
     obtain rfl := Option.some.inj hx
     exact ⟨none, 0, 0, none, 0, 0, [], rfl, rfl, (IsSlice.nil _ _ _), (Zb _ _ _ _ _), (fun p hp => by cases hp), trivial⟩
    ·
     replace hx := ZX c_41 hx
     refine JC.skip (Zk (ZC (ZG ?_)))
     obtain ⟨t_42, ht_44, hx⟩ := ZM hx
     refine JC.cut (fun l o g => ∃ H_60 : Heaplet, ∃ ar_61 : Option Addr, ∃ nr_61 : Nat, ∃ cr_61 : Nat, ∃ Kr_61 : Own, ∃ ar_62 : Option Addr, ∃ nr_62 : Nat, ∃ cr_62 : Nat, ∃ Kr_62 : Own, l = [(6, .pointer (some ⟨b_8, 0, none⟩)), (7, .int .i64 0)] ∧ o = [[(b_8, .cells #[.slice ar_61 nr_61 cr_61, .slice ar_62 nr_62 cr_62] 25 (0, 0))], Kr_61, Kr_62] ∧ H_60 = g ∧ Hle H H_60 ∧ Pcs w.heap.size 5 45 (.slice ar_61 nr_61 cr_61) t_42.1 Kr_61 ∧ RowOf (New H H_60) R_Write w.heap.size 47 2 (.slice ar_62 nr_62 cr_62) t_42.2 Kr_62) ?_ ?_
     ·
      rintro _ _ _ ⟨H_60, ar_61, nr_61, cr_61, Kr_61, ar_62, nr_62, cr_62, Kr_62, rfl, rfl, rfl, hleH_60, hr_61, hr_62⟩
      refine ZC (ZV (JN.pubPcs 1  rfl hr_61 (Nat.le_refl _) (fun H_63 hleH_63 hsH_63 => JN.forget 1 (ZT (vs := [.agg #[.slice ar_61 nr_61 cr_61, .slice ar_62 nr_62 cr_62], .int .i64 0]) (K := [_]) (rst := [_]) (.inl rfl) rfl rfl (Zf 0 rfl rfl S25 (ZQ rfl rfl)) (Za 1 rfl ZK) ?_))))
      obtain rfl := Option.some.inj hx
      exact ⟨ar_61, nr_61, cr_61, ar_62, nr_62, cr_62, Kr_62, rfl, rfl, hsH_63, (Zd (Nat.zero_le _) (hr_62.mono R_Write.mono (New.mono hleH_63))), (Zx (hr_62.mono R_Write.mono (New.mono hleH_63)) hlt), trivial⟩
     ·
      have hxo_43 := hx; clear hx; have hx := ht_44; clear ht_44
      refine JC.draw (so := [_]) 14 rfl Mixed ⟨⟨0, rfl⟩, trivial⟩ (JA.val ⟨by kernel_rfl, by kernel_rfl⟩ (ZJ _) (i := 0) rfl ⟨by kernel_rfl, by kernel_rfl, rfl⟩ trivial (ZI (Hle.refl _) ⟨⟨0, rfl⟩, trivial⟩) (R.fa F25_0 rfl) rfl (JA.val ⟨by kernel_rfl, by kernel_rfl⟩ (ZJ _) (i := 1) rfl ⟨by kernel_rfl, by kernel_rfl, rfl⟩ trivial (ZI (Hle.refl _) ⟨⟨0, rfl⟩, trivial⟩) (Zi 0 S22 rfl rfl rfl) rfl (JA.val ⟨by kernel_rfl, by kernel_rfl⟩ (ZJ _) (i := 2) rfl ⟨by kernel_rfl, by kernel_rfl, rfl⟩ trivial (ZI (Hle.refl _) ⟨⟨0, rfl⟩, trivial⟩) (R.fa F25_1 rfl) rfl (JA.val ⟨by kernel_rfl, by kernel_rfl⟩ (ZJ _) (i := 3) rfl ⟨by kernel_rfl, by kernel_rfl, rfl⟩ trivial (ZI (Hle.refl _) ⟨⟨0, rfl⟩, trivial⟩) (Zi 0 S23 rfl rfl rfl) rfl (JA.val ⟨by kernel_rfl, by kernel_rfl⟩ (ZJ _) (i := 5) rfl ⟨by kernel_rfl, by kernel_rfl, rfl⟩ trivial (ZI (Hle.refl _) ⟨⟨0, rfl⟩, trivial⟩) (ZF rfl) rfl (JA.val ⟨by kernel_rfl, by kernel_rfl⟩ (ZJ _) (i := 6) rfl ⟨by kernel_rfl, by kernel_rfl, rfl⟩ trivial (ZI (Hle.refl _) ⟨⟨0, rfl⟩, trivial⟩) (ZF rfl) rfl (JA.val ⟨by kernel_rfl, by kernel_rfl⟩ (ZJ _) (i := 7) rfl ⟨by kernel_rfl, by kernel_rfl, rfl⟩ trivial (ZI (Hle.refl _) ⟨⟨0, rfl⟩, trivial⟩) (R.bldP (vs := [(0, .int .i64 p_4), (1, .slice aa_6 na_6 ca_6)]) (cs := [.int .i64 p_4, .slice aa_6 na_6 ca_6]) Z47 B47 rfl rfl rfl) rfl ?_)))))))
      obtain ⟨x_45, hr_46, hx⟩ := ZM hx
      obtain ⟨q_50, hm_51, hl_52, hx⟩ := app_some hx
      obtain ⟨x_55, hr_56, hx⟩ := ZM hx
      refine JA.two (i := 4) (j := 8) (by kernel_rfl) ?_ ?_
      ·
       refine ZZ rfl trivial rfl (fun K hK => ZS (vs := [_]) (args := [_]) (K := []) (rst := [_, _]) E71 rfl rfl rfl ZK (slices_Clip_Write_ok t_9.2.1 _ hz_38 _ hr_46) rfl (fun u_47 Ku_47 Hu_47 hRu_47 hleu_47 hfu_47 => ?_))
       obtain ⟨az_48, nz_48, rfl, rfl, rfl, hz_48, -⟩ := hRu_47
       refine ZD (hK _ _ _ (ZI (Hle.refl _) ⟨⟨0, rfl⟩, trivial⟩) (JA.one (i := 8) (by kernel_rfl) (ZZ rfl trivial rfl (fun K hK => Zz (HF := H) (R := R_Write) (ls := [Write.mk p_4 p_5]) (vs := [.agg #[.int .i64 p_4, .slice aa_6 na_6 ca_6]]) U23 I47 rfl rfl (⟨_, _, rfl, rfl, ⟨_, rfl, ha_6⟩, rfl⟩) R_Write.one rfl rfl rfl (by simp [maxLen]) rfl (fun vr_49 Kr_49 hr_49 => ?_)))))
       obtain ⟨ar_49, cr_49, rfl⟩ := RowOf.val hr_49
       refine ZD (hK _ _ _ (ZI (Hle.refl _) ⟨⟨1, rfl⟩, trivial⟩) (JA.one (i := 9) (by kernel_rfl) (ZZ rfl trivial rfl (fun K hK => JL.appC (HF := H) U23 I47 rfl R_Write.one (Hle.refl _) hz_48 (fun _ _ h => h) rfl (SrcF.row 0 U23 rfl hr_49) (List.cons_ne_nil _ _) hm_51 hl_52 rfl rfl (fun vr_53 Kr_53 hr_53 => ?_)))))
       obtain ⟨ar_53, cr_53, rfl⟩ := RowOf.val hr_53
       refine ZD (hK _ _ _ (ZI (Hle.refl _) ⟨⟨2, rfl⟩, trivial⟩) (JA.val ⟨by kernel_rfl, by kernel_rfl⟩ (ZJ _) (i := 10) rfl ⟨by kernel_rfl, by kernel_rfl, rfl⟩ trivial (ZI (Hle.refl _) ⟨⟨2, rfl⟩, trivial⟩) (R.bldP (vs := [(0, .slice az_37 nz_37 cz_37), (1, .slice ar_53 q_50.length cr_53)]) (cs := [.slice az_37 nz_37 cz_37, .slice ar_53 q_50.length cr_53]) Z25 B25 rfl rfl rfl) rfl (JA.one (i := 11) (by kernel_rfl) (ZZ rfl trivial rfl (fun K hK => JL.pub 0 R_Write.mono rfl hr_53 (Nat.le_refl _) (fun H_54 hleH_54 hsH_54 => JL.forget 0 (ZS (vs := [_]) (args := [_]) (K := []) (rst := [_, _, _]) E70 rfl rfl rfl ZK (dev_Twin_ok (Disk.mk t_9.1 q_50) _ (hz_37.mono (RSl.mono RU8.mono) hleH_54) hsH_54 _ hr_56) rfl (fun u_57 Ku_57 Hu_57 hRu_57 hleu_57 hfu_57 => ?_))))))))
       obtain ⟨ar_58, nr_58, cr_58, Kr_58, ar_59, nr_59, cr_59, Kr_59, rfl, rfl, hr_58, hnewr_58, hr_59, hnewr_59, -⟩ := hRu_57
       replace hr_58 := (Pcs.base hr_58 (fun p hp => (hfu_57 p (Zg 0 rfl hp)).resolve_left (hnewr_58 p hp)))
       replace hr_59 := (RowOf.base (RowOf.mono R_Write.mono (New.call hleH_54) hr_59) (fun p hp => (hfu_57 p (Zg 1 rfl hp)).resolve_left (hnewr_59 p hp)))
       refine ZD (hK _ _ _ (ZI (hleH_54.trans hleu_57) ⟨⟨3, rfl⟩, trivial⟩) (JA.one (i := 12) (by kernel_rfl) (ZZ rfl trivial rfl (fun K hK => ZN 4 S25 rfl rfl rfl rfl rfl (Nat.le_of_ble_eq_true rfl) (ZD (hK _ _ _ (ZI (hleH_54.trans hleu_57) ⟨⟨3, rfl⟩, trivial⟩) (JA.val ⟨by kernel_rfl, by kernel_rfl⟩ (ZJ _) (i := 13) rfl ⟨by kernel_rfl, by kernel_rfl, rfl⟩ trivial (ZI (hleH_54.trans hleu_57) ⟨⟨3, rfl⟩, trivial⟩) (ZH rfl) rfl (Zt (by kernel_rfl) ?_))))))))
       obtain rfl := Option.some.inj hx
       refine JN.forget 3 (JN.forget 2 (ZO 1 rfl (ZO 1 rfl (ZO 2 rfl ?_))))
       exact JN.cut ⟨Hu_57, ar_58, nr_58, cr_58, Kr_58, ar_59, nr_59, cr_59, Kr_59, rfl, rfl, rfl, ((hleH_54.trans hleu_57)), hr_58, hr_59⟩ ⟨rfl, rfl, trivial⟩ rfl rfl
      ·
       refine ZZ rfl trivial rfl (fun K hK => Zz (HF := H) (R := R_Write) (ls := [Write.mk p_4 p_5]) (vs := [.agg #[.int .i64 p_4, .slice aa_6 na_6 ca_6]]) U23 I47 rfl rfl (⟨_, _, rfl, rfl, ⟨_, rfl, ha_6⟩, rfl⟩) R_Write.one rfl rfl rfl (by simp [maxLen]) rfl (fun vr_49 Kr_49 hr_49 => ?_))
       obtain ⟨ar_49, cr_49, rfl⟩ := RowOf.val hr_49
       refine ZD (hK _ _ _ (ZI (Hle.refl _) ⟨⟨1, rfl⟩, trivial⟩) (JA.one (i := 4) (by kernel_rfl) (ZZ rfl trivial rfl (fun K hK => ZS (vs := [_]) (args := [_]) (K := []) (rst := [_, _, _]) E71 rfl rfl rfl ZK (slices_Clip_Write_ok t_9.2.1 _ hz_38 _ hr_46) rfl (fun u_47 Ku_47 Hu_47 hRu_47 hleu_47 hfu_47 => ?_)))))
       obtain ⟨az_48, nz_48, rfl, rfl, rfl, hz_48, -⟩ := hRu_47
       refine ZD (hK _ _ _ (ZI (Hle.refl _) ⟨⟨1, rfl⟩, trivial⟩) (JA.one (i := 9) (by kernel_rfl) (ZZ rfl trivial rfl (fun K hK => JL.appC (HF := H) U23 I47 rfl R_Write.one (Hle.refl _) hz_48 (fun _ _ h => h) rfl (SrcF.row 0 U23 rfl hr_49) (List.cons_ne_nil _ _) hm_51 hl_52 rfl rfl (fun vr_53 Kr_53 hr_53 => ?_)))))
       obtain ⟨ar_53, cr_53, rfl⟩ := RowOf.val hr_53
       refine ZD (hK _ _ _ (ZI (Hle.refl _) ⟨⟨2, rfl⟩, trivial⟩) (JA.val ⟨by kernel_rfl, by kernel_rfl⟩ (ZJ _) (i := 10) rfl ⟨by kernel_rfl, by kernel_rfl, rfl⟩ trivial (ZI (Hle.refl _) ⟨⟨2, rfl⟩, trivial⟩) (R.bldP (vs := [(0, .slice az_37 nz_37 cz_37), (1, .slice ar_53 q_50.length cr_53)]) (cs := [.slice az_37 nz_37 cz_37, .slice ar_53 q_50.length cr_53]) Z25 B25 rfl rfl rfl) rfl (JA.one (i := 11) (by kernel_rfl) (ZZ rfl trivial rfl (fun K hK => JL.pub 0 R_Write.mono rfl hr_53 (Nat.le_refl _) (fun H_54 hleH_54 hsH_54 => JL.forget 0 (ZS (vs := [_]) (args := [_]) (K := []) (rst := [_, _, _]) E70 rfl rfl rfl ZK (dev_Twin_ok (Disk.mk t_9.1 q_50) _ (hz_37.mono (RSl.mono RU8.mono) hleH_54) hsH_54 _ hr_56) rfl (fun u_57 Ku_57 Hu_57 hRu_57 hleu_57 hfu_57 => ?_))))))))
       obtain ⟨ar_58, nr_58, cr_58, Kr_58, ar_59, nr_59, cr_59, Kr_59, rfl, rfl, hr_58, hnewr_58, hr_59, hnewr_59, -⟩ := hRu_57
       replace hr_58 := (Pcs.base hr_58 (fun p hp => (hfu_57 p (Zg 0 rfl hp)).resolve_left (hnewr_58 p hp)))
       replace hr_59 := (RowOf.base (RowOf.mono R_Write.mono (New.call hleH_54) hr_59) (fun p hp => (hfu_57 p (Zg 1 rfl hp)).resolve_left (hnewr_59 p hp)))
       refine ZD (hK _ _ _ (ZI (hleH_54.trans hleu_57) ⟨⟨3, rfl⟩, trivial⟩) (JA.one (i := 12) (by kernel_rfl) (ZZ rfl trivial rfl (fun K hK => ZN 4 S25 rfl rfl rfl rfl rfl (Nat.le_of_ble_eq_true rfl) (ZD (hK _ _ _ (ZI (hleH_54.trans hleu_57) ⟨⟨3, rfl⟩, trivial⟩) (JA.val ⟨by kernel_rfl, by kernel_rfl⟩ (ZJ _) (i := 13) rfl ⟨by kernel_rfl, by kernel_rfl, rfl⟩ trivial (ZI (hleH_54.trans hleu_57) ⟨⟨3, rfl⟩, trivial⟩) (ZH rfl) rfl (Zt (by kernel_rfl) ?_))))))))
       obtain rfl := Option.some.inj hx
       refine JN.forget 3 (JN.forget 2 (ZO 1 rfl (ZO 1 rfl (ZO 2 rfl ?_))))
       exact JN.cut ⟨Hu_57, ar_58, nr_58, cr_58, Kr_58, ar_59, nr_59, cr_59, Kr_59, rfl, rfl, rfl, ((hleH_54.trans hleu_57)), hr_58, hr_59⟩ ⟨rfl, rfl, trivial⟩ rfl rfl
 ·
  have hxo_10 := hx; clear hx; have hx := ht_11; clear ht_11
  refine JC.draw (so := [_]) 11 rfl Mixed ⟨⟨0, rfl⟩, trivial⟩ (JA.val ⟨by kernel_rfl, by kernel_rfl⟩ (ZJ _) (i := 1) rfl ⟨by kernel_rfl, by kernel_rfl, rfl⟩ trivial (ZI (Hle.refl _) ⟨⟨0, rfl⟩, trivial⟩) (ZF rfl) rfl (JA.val ⟨by kernel_rfl, by kernel_rfl⟩ (ZJ _) (i := 3) rfl ⟨by kernel_rfl, by kernel_rfl, rfl⟩ trivial (ZI (Hle.refl _) ⟨⟨0, rfl⟩, trivial⟩) (R.func (vf := []) (vc := [_]) rfl rfl) rfl (JAA.start [⟨8, 8, 25, .agg #[.slice none 0 0, .slice none 0 0]⟩] rfl ?_)))
  obtain ⟨x_12, hr_13, hx⟩ := ZM hx
  obtain ⟨x_15, hr_16, hx⟩ := ZM hx
  refine JAA.two (i := 0) (j := 2) ⟨⟨_, _, _, rfl, Z25, rfl⟩, trivial⟩ (Hle.refl _) ⟨⟨0, rfl⟩, trivial⟩ rfl (by kernel_rfl) ?_ ?_
  ·
   refine JOA.step rfl trivial rfl (fun tl_23 to_24 K hK => ZA rfl rfl (Z1 1 (vs := [.slice aa_2 na_2 ca_2, .slice aa_3 na_3 ca_3]) S25 rfl rfl rfl rfl) (ZD (hK (by repeat constructor) (by repeat constructor) (ZI (Hle.refl _) ⟨⟨0, rfl⟩, trivial⟩) (JAA.one (i := 2) ⟨⟨_, _, _, rfl, Z25, rfl⟩, trivial⟩ (Hle.refl _) ⟨⟨0, rfl⟩, trivial⟩ rfl (by kernel_rfl) (JOA.step rfl trivial rfl (fun tl_25 to_26 K hK => ZS (vs := [_]) (args := [_]) (K := []) (rst := _ :: _ :: to_26) E67 rfl rfl rfl ZK (dev_place_ok p_4 _ _ hr_13) rfl (fun u_14 Ku_14 Hu_14 hRu_14 hleu_14 hfu_14 => ?_)))))))
   obtain ⟨rfl, rfl, rfl, -⟩ := hRu_14
   refine ZD (hK (by repeat constructor) (by repeat constructor) (ZI (Hle.refl _) ⟨⟨0, rfl⟩, trivial⟩) (JAA.one (i := 4) ⟨⟨_, _, _, rfl, Z25, rfl⟩, trivial⟩ (Hle.refl _) ⟨⟨0, rfl⟩, trivial⟩ rfl (by kernel_rfl) (JOA.step rfl trivial rfl (fun tl_27 to_28 K hK => ZS (vs := [_, _, _]) (args := [_, _, _]) (K := [_]) (rst := _ :: to_28) E68 rfl rfl rfl (Za 1 rfl ZK) (dev_guarded_ok p_1 x_12 p_1 _ ha_2 ha_3 ha_2 ha_3 _ hr_16) rfl (fun u_17 Ku_17 Hu_17 hRu_17 hleu_17 hfu_17 => ?_)))))
   obtain ⟨az_18, nz_18, cz_18, az_19, nz_19, cz_19, az_20, nz_20, cz_20, az_21, nz_21, cz_21, rfl, rfl, rfl, hz_18, hz_19, hz_20, hz_21, -⟩ := hRu_17
   refine ZD (hK (by repeat constructor) (by repeat constructor) (ZI (Hle.refl _) ⟨⟨1, rfl⟩, trivial⟩) (JAA.val ⟨by kernel_rfl, by kernel_rfl⟩ (ZJ _) (i := 5) rfl (by kernel_rfl) rfl trivial (Hle.refl _) ⟨⟨1, rfl⟩, trivial⟩ (ZF rfl) rfl (JAA.val ⟨by kernel_rfl, by kernel_rfl⟩ (ZJ _) (i := 6) rfl (by kernel_rfl) rfl trivial (Hle.refl _) ⟨⟨1, rfl⟩, trivial⟩ (R.extract rfl rfl) rfl (JAA.val ⟨by kernel_rfl, by kernel_rfl⟩ (ZJ _) (i := 7) rfl (by kernel_rfl) rfl trivial (Hle.refl _) ⟨⟨1, rfl⟩, trivial⟩ (R.extract rfl rfl) rfl (JAA.all ⟨⟨_, _, _, rfl, Z25, rfl⟩, trivial⟩ (Hle.refl _) ⟨⟨1, rfl⟩, trivial⟩ rfl (by kernel_rfl) (fun b_29 hb_29 => JA.one (i := 9) (by kernel_rfl) (ZZ rfl trivial rfl (fun K hK => ZN 2 S25 rfl rfl rfl rfl rfl (Nat.le_of_ble_eq_true rfl) (ZD (hK _ _ _ (ZI (Hle.refl _) ⟨⟨1, rfl⟩, trivial⟩) (JA.val ⟨by kernel_rfl, by kernel_rfl⟩ (ZJ _) (i := 10) rfl ⟨by kernel_rfl, by kernel_rfl, rfl⟩ trivial (ZI (Hle.refl _) ⟨⟨1, rfl⟩, trivial⟩) (ZH rfl) rfl ?_)))))))))))
   refine Zt (by kernel_rfl) ?_
   obtain rfl := Option.some.inj hx
   refine JN.forget 2 (ZO 1 rfl (ZO 1 rfl ?_))
   exact JN.cut ⟨az_18, nz_18, cz_18, az_19, nz_19, cz_19, rfl, rfl, rfl, hz_18, hz_19⟩ ⟨rfl, rfl, rfl, rfl, rfl, trivial⟩ rfl rfl
  ·
   refine JOA.step rfl trivial rfl (fun tl_30 to_31 K hK => ZS (vs := [_]) (args := [_]) (K := []) (rst := _ :: _ :: to_31) E67 rfl rfl rfl ZK (dev_place_ok p_4 _ _ hr_13) rfl (fun u_14 Ku_14 Hu_14 hRu_14 hleu_14 hfu_14 => ?_))
   obtain ⟨rfl, rfl, rfl, -⟩ := hRu_14
   refine ZD (hK (by repeat constructor) (by repeat constructor) (ZI (Hle.refl _) ⟨⟨0, rfl⟩, trivial⟩) (JAA.one (i := 0) ⟨⟨_, _, _, rfl, Z25, rfl⟩, trivial⟩ (Hle.refl _) ⟨⟨0, rfl⟩, trivial⟩ rfl (by kernel_rfl) (JOA.step rfl trivial rfl (fun tl_32 to_33 K hK => ZA rfl rfl (Z1 1 (vs := [.slice aa_2 na_2 ca_2, .slice aa_3 na_3 ca_3]) S25 rfl rfl rfl rfl) (ZD (hK (by repeat constructor) (by repeat constructor) (ZI (Hle.refl _) ⟨⟨0, rfl⟩, trivial⟩) (JAA.one (i := 4) ⟨⟨_, _, _, rfl, Z25, rfl⟩, trivial⟩ (Hle.refl _) ⟨⟨0, rfl⟩, trivial⟩ rfl (by kernel_rfl) (JOA.step rfl trivial rfl (fun tl_34 to_35 K hK => ZS (vs := [_, _, _]) (args := [_, _, _]) (K := [_]) (rst := _ :: to_35) E68 rfl rfl rfl (Za 1 rfl ZK) (dev_guarded_ok p_1 x_12 p_1 _ ha_2 ha_3 ha_2 ha_3 _ hr_16) rfl (fun u_17 Ku_17 Hu_17 hRu_17 hleu_17 hfu_17 => ?_))))))))))
   obtain ⟨az_18, nz_18, cz_18, az_19, nz_19, cz_19, az_20, nz_20, cz_20, az_21, nz_21, cz_21, rfl, rfl, rfl, hz_18, hz_19, hz_20, hz_21, -⟩ := hRu_17
   refine ZD (hK (by repeat constructor) (by repeat constructor) (ZI (Hle.refl _) ⟨⟨1, rfl⟩, trivial⟩) (JAA.val ⟨by kernel_rfl, by kernel_rfl⟩ (ZJ _) (i := 5) rfl (by kernel_rfl) rfl trivial (Hle.refl _) ⟨⟨1, rfl⟩, trivial⟩ (ZF rfl) rfl (JAA.val ⟨by kernel_rfl, by kernel_rfl⟩ (ZJ _) (i := 6) rfl (by kernel_rfl) rfl trivial (Hle.refl _) ⟨⟨1, rfl⟩, trivial⟩ (R.extract rfl rfl) rfl (JAA.val ⟨by kernel_rfl, by kernel_rfl⟩ (ZJ _) (i := 7) rfl (by kernel_rfl) rfl trivial (Hle.refl _) ⟨⟨1, rfl⟩, trivial⟩ (R.extract rfl rfl) rfl (JAA.all ⟨⟨_, _, _, rfl, Z25, rfl⟩, trivial⟩ (Hle.refl _) ⟨⟨1, rfl⟩, trivial⟩ rfl (by kernel_rfl) (fun b_36 hb_36 => JA.one (i := 9) (by kernel_rfl) (ZZ rfl trivial rfl (fun K hK => ZN 2 S25 rfl rfl rfl rfl rfl (Nat.le_of_ble_eq_true rfl) (ZD (hK _ _ _ (ZI (Hle.refl _) ⟨⟨1, rfl⟩, trivial⟩) (JA.val ⟨by kernel_rfl, by kernel_rfl⟩ (ZJ _) (i := 10) rfl ⟨by kernel_rfl, by kernel_rfl, rfl⟩ trivial (ZI (Hle.refl _) ⟨⟨1, rfl⟩, trivial⟩) (ZH rfl) rfl ?_)))))))))))
   refine Zt (by kernel_rfl) ?_
   obtain rfl := Option.some.inj hx
   refine JN.forget 2 (ZO 1 rfl (ZO 1 rfl ?_))
   exact JN.cut ⟨az_18, nz_18, cz_18, az_19, nz_19, cz_19, rfl, rfl, rfl, hz_18, hz_19⟩ ⟨rfl, rfl, rfl, rfl, rfl, trivial⟩ rfl rfl

theorem slices_Clone_byte_ok (p_1 : List UInt8) (H : Heaplet) {ao : Option Addr} {n cap : Nat} (hs : IsSlice H RU8 1 (.slice ao n cap) p_1) (r : List UInt8) (hx : slices_Clone_byte p_1 = some r) :
  Does Try.prog 147 #[.slice ao n cap] [] H (fun u K' H' => ∃ ao0 : Option Addr, ∃ n0 : Nat, ∃ cap0 : Nat, ∃ K0 : Own, u = .slice ao0 n0 cap0 ∧ K' = [K0] ∧ H = H' ∧ RowOf (New H H') RU8 0 5 1 (.slice ao0 n0 cap0) r K0 ∧ (∀ p ∈ K0, p.1 ∉ ids (List.flatten [])) ∧ True) := by
 rw [slices_Clone_byte.eq_1] at hx
 obtain ⟨q, hq, hl, hx⟩ := app_some hx
 obtain rfl := Option.some.inj hx
 refine Does.enter (vs := [.slice ao n cap]) (l := [(0, .slice ao n cap)]) Try.func147 rfl rfl ⟨rfl, trivial⟩ (fun w => ZG (ZB (ZA rfl rfl (ZH rfl) (ZD (ZC (ZG (ZG (ZB (ZA rfl rfl (ZF rfl) (ZA rfl rfl (R.eqlNil U45 rfl rfl) (ZD ?_)))))))))))
 refine ZC ?_
 cases ao with
 | none =>
  have hp := hs.none_nil
  subst hp
  simp only [List.append_nil] at hq
  subst hq
  refine Z2 rfl (ZG (ZB (ZA rfl rfl (ZH rfl) (ZD (ZC (ZV (ZR (Zn (ZT (vs := [.slice none 0 0]) (K := [_]) (rst := []) (.inl rfl) rfl rfl (ZQ rfl rfl) (Za 0 rfl ZK) ?_)))))))))
  exact ⟨none, 0, 0, [], rfl, rfl, rfl, Zb _ _ _ _ _, (fun p hp => by cases hp), trivial⟩
 | some a =>
  refine JC.condF rfl (JC.skip (ZC (ZG (ZB (Zz (HF := New H H) (R := RU8) (ls := []) (vs := []) U45 I5 rfl rfl rfl RU8.one rfl rfl rfl (by simp [maxLen]) rfl (fun v1 K1 h1 => ?_))))))
  obtain ⟨ao1, cap1, rfl⟩ := RowOf.val h1
  refine ZA rfl rfl (ZF rfl) (JL.appF (HF := New H H) 0 U45 I5 rfl rfl h1 rfl (SrcF.sliceC RU8.const RU8.one U45 hs) hq hl rfl (Nat.le_refl _) rfl (fun v2 K2 h2 => ?_))
  obtain ⟨ao2, cap2, rfl⟩ := RowOf.val h2
  refine ZA rfl rfl (ZH rfl) (ZD (ZC (ZV (ZT (vs := [.slice ao2 _ cap2]) (K := [_]) (rst := []) (.inl rfl) rfl rfl (ZQ rfl rfl) (Za 0 rfl ZK) ?_))))
  exact ⟨_, _, _, _, rfl, rfl, rfl, Zd (Nat.zero_le _) h2, (fun p hp hm => by cases hm), trivial⟩

set_option maxHeartbeats 8000000 in
theorem slices_Clip_byte_ok (p_1 : List UInt8) (H : Heaplet) {aa_2 : Option Addr} {na_2 : Nat} {ca_2 : Nat} (ha_2 : IsSlice H RU8 1 (.slice aa_2 na_2 ca_2) p_1) (r : List UInt8) (hx : slices_Clip_byte p_1 = some r) :
  Does Try.prog 146 #[.slice aa_2 na_2 ca_2] [] H (fun u K' H' => ∃ ao0 : Option Addr, ∃ n0 : Nat, u = .slice ao0 n0 n0 ∧ K' = [] ∧ H = H' ∧ IsSlice H RU8 1 (.slice ao0 n0 n0) r ∧ True) := by
 refine Does.enterL (vs := [.slice aa_2 na_2 ca_2]) (l := [(0, .slice aa_2 na_2 ca_2)]) Try.func146 rfl rfl ⟨rfl, trivial⟩ (fun w hlt => ?_)
 unfold slices_Clip_byte at hx
 refine ZG (ZB (ZA rfl rfl (ZH rfl) (ZD (ZC (ZG (ZB (ZA rfl rfl (ZF rfl) (ZA rfl rfl (ZF rfl) (ZA rfl rfl (Zm U45 rfl (IsSlice.long ha_2)) (ZA rfl rfl (ZF rfl) (ZA rfl rfl (Zm U45 rfl (IsSlice.long ha_2)) ?_)))))))))))
 obtain ⟨m_3, hm_5, hb_4, hx⟩ := slc_some hx
 obtain ⟨vv_6, cv_6, av_6, h1v_6, h2v_6, hsv_6⟩ := IsSlice.cutc ha_2 hm_5 hb_4
 refine ZA rfl rfl (R.slc (cap := cv_6) (a := 0) (b := (p_1.length : Int)) (c := (p_1.length : Int)) (m := p_1) (R := RU8) U45 S5 rfl rfl ⟨_, rfl⟩ ⟨_, rfl⟩ ⟨hb_4.1, hb_4.2.1, Int.le_refl _⟩ h1v_6 (.inr (fun h => by cases h))) ?_
 subst h2v_6
 refine ZA rfl rfl (ZH rfl) (ZD (ZC (ZV (ZT (vs := [.slice av_6 m_3.length m_3.length]) (K := []) (rst := []) (.inl rfl) rfl rfl (ZQ rfl rfl) ZK ?_))))
 obtain rfl := Option.some.inj hx
 exact ⟨av_6, m_3.length, rfl, rfl, rfl, hsv_6, trivial⟩

theorem slices_Chunk_byte_ok (p_1 : List UInt8) (p_2 : Int) (H : Heaplet) {ao : Option Addr} {n cap : Nat} (hs : IsSlice H RU8 1 (.slice ao n cap) p_1) (r : Unit) (hx : slices_Chunk_byte p_1 p_2 = some r) :
  Does Try.prog 95 #[.slice ao n cap, .int .i64 p_2] [] H (fun u K' H' => ∃ b2 b3 : Nat, u = .func (.func 136) #[] #[.pointer (some ⟨b2, 0, none⟩), .pointer (some ⟨b3, 0, none⟩)] ∧ K' = [] ∧ H' b2 0 = some (.slice ao n cap) ∧ H' b3 0 = some (.int .i64 p_2) ∧ (1 ≤ p_2 ∧ p_2 ≤ 1099511627776 ∧ p_1.length ≤ LIM) ∧ True) := by
 unfold slices_Chunk_byte at hx
 split at hx
 case isFalse => cases hx
 rename_i hp
 refine Does.enter (vs := [.slice ao n cap, .int .i64 p_2]) (l := [(0, .slice ao n cap), (1, .int .i64 p_2)]) Try.func95 rfl rfl ⟨rfl, rfl, trivial⟩ (fun w => ZG (ZB (JL.box rfl rfl (fun b2 hb2 => JL.box rfl rfl (fun b3 hb3 => ZA rfl rfl (ZH rfl) (ZD (ZC (ZG (ZG (ZB (ZA rfl rfl (Zi 0 S3 rfl rfl rfl) ?_)))))))))))
 refine ZA rfl rfl (Zr rfl rfl) (ZD (ZC (ZU rfl (fun c => ?_) (fun c => ?_))))
 ·
  exact absurd (of_decide_eq_true c) (by omega)
 refine JC.skip (ZC (ZG (ZB (ZA rfl rfl (R.func (vf := []) (vc := [_, _]) rfl rfl) (ZA rfl rfl (ZH rfl) (ZD (ZC (ZV (JN.pubBox 0 rfl hb3 (fun H1 hle1 hc1 => JN.forget 0 (JN.pubBox 0 rfl hb2 (fun H2 hle2 hc2 => ?_))))))))))))
 refine JN.forget 0 (JN.out1 (.inl rfl) rfl rfl rfl ?_)
 exact ⟨_, _, rfl, rfl, hc2 0 _ rfl, hle2 _ _ _ (hc1 0 _ rfl), hp, trivial⟩

set_option maxHeartbeats 8000000 in
theorem slices_Chunk_byte_it (m : List UInt8) (N : Int) (hN : 1 ≤ N ∧ N ≤ 1099511627776 ∧ m.length ≤ LIM) (H : Heaplet) {v : Value} {b2 b3 : Nat} (hs : IsSlice H RU8 1 v m) (hb2 : H b2 0 = some v) (hb3 : H b3 0 = some (.int .i64 N)) :
  IterL Try.prog 136 #[.pointer (some ⟨b2, 0, none⟩), .pointer (some ⟨b3, 0, none⟩)] H (fun H' args (y : List UInt8) => ∃ ao : Option Addr, args = #[.slice ao y.length y.length] ∧ IsSlice H' RU8 1 (.slice ao y.length y.length) y) (chunks N.toNat m.length m) := by
 intro lr I X o hY hI
 obtain ⟨hN1, hN2, hml⟩ := hN
 unfold LIM at hml
 obtain ⟨ao, cap, rfl⟩ := hs.val
 show Does Try.prog 136 #[.func (.yield lr) #[] #[], .pointer (some ⟨b2, 0, none⟩), .pointer (some ⟨b3, 0, none⟩)] o H _
 refine Does.enter (vs := [.func (.yield lr) #[] #[], .pointer (some ⟨b2, 0, none⟩), .pointer (some ⟨b3, 0, none⟩)]) (l := [(0, .func (.yield lr) #[] #[]), (1, .pointer (some ⟨b2, 0, none⟩)), (2, .pointer (some ⟨b3, 0, none⟩))]) Try.func136 rfl rfl ⟨rfl, rfl, rfl, trivial⟩ (fun w => ZG (ZB (ZA rfl rfl (ZH rfl) (ZD (ZC (JC.block ?_))))))
 refine JC.loop (ι := Nat × Nat × List (List UInt8) × List Own × Heaplet) (fun i => [(0, .func (.yield lr) #[] #[]), (1, .pointer (some ⟨b2, 0, none⟩)), (2, .pointer (some ⟨b3, 0, none⟩)), (4, .int .i64 ((i.1 : Nat) : Int))]) (fun i => i.2.2.2.1) (fun i => i.2.2.2.2)
  (fun i => i.1 ≤ 2199023255552 ∧ m.length ≤ i.1 + i.2.1 ∧ i.2.2.1 ++ chunks N.toNat i.2.1 (m.drop i.1) = chunks N.toNat m.length m ∧ I i.2.2.1 i.2.2.2.1 i.2.2.2.2 ∧ Hle H i.2.2.2.2) (fun i => m.length + 1 - i.1) (0, m.length, [], o, H) (⟨by omega, by simp, by simp, hI, Hle.refl _⟩) ⟨rfl, rfl, rfl, rfl, trivial⟩ rfl rfl ?_
 rintro ⟨i, f, pre, o2, H2⟩ hI0
 dsimp only at hI0 ⊢
 obtain ⟨hi2, hf, hpre, hI2, hle⟩ := hI0
 have hb2' := hle _ _ _ hb2
 have hb3' := hle _ _ _ hb3
 have hs2 := IsSlice.mono RU8.mono hle hs
 refine ZG (ZG (ZB (ZA rfl rfl (ZF rfl) (ZA rfl rfl (R.ldH S45 rfl hb2') (ZA rfl rfl (Zm U45 rfl (IsSlice.long hs2)) (ZA rfl rfl (Zr rfl rfl) (ZD (ZC (ZU rfl (fun c => ?_) (fun c => ?_))))))))))
 ·
  have hlt : i < m.length := by have := of_decide_eq_true c; omega
  have hne : m.drop i ≠ [] := fun h => by have := List.drop_eq_nil_iff.1 h; omega
  obtain ⟨f', rfl⟩ : ∃ f', f = f' + 1 := ⟨f - 1, by omega⟩
  rw [chunks_step hne, List.drop_drop] at hpre
  obtain ⟨e, he⟩ : ∃ e : Int, e = min N ((m.length : Int) - i) := ⟨_, rfl⟩
  have hcut : (m.drop i).take N.toNat = cut m (i : Int) ((i : Int) + e) := by
   unfold cut
   rw [Int.toNat_natCast]
   by_cases h : N ≤ (m.length : Int) - i
   ·
    rw [show ((i : Int) + e).toNat - i = N.toNat by omega]
   ·
    rw [List.take_of_length_le (by rw [List.length_drop]; omega), List.take_of_length_le (by rw [List.length_drop]; omega)]
  refine JC.skip (ZC (ZG (JC.block (ZG ?_))))
  obtain ⟨v1, c1, h1, h2, h3, hs1⟩ := IsSlice.cutv (m' := cut m (i : Int) (m.length : Int)) hs2 rfl ⟨by omega, by omega, Int.le_refl _⟩
  have hl1 : ((cut m (i : Int) (m.length : Int)).length : Int) = (m.length : Int) - i := cut_length (by omega) (by omega) (Int.le_refl _)
  refine JC.draw (so := []) 7 rfl Mixed trivial (JA.val ⟨by kernel_rfl, by kernel_rfl⟩ (ZJ _) (i := 0) rfl ⟨by kernel_rfl, by kernel_rfl, rfl⟩ trivial (ZI (Hle.refl _) trivial) (R.ldH S3 rfl hb3') rfl (JA.val ⟨by kernel_rfl, by kernel_rfl⟩ (ZJ _) (i := 1) rfl ⟨by kernel_rfl, by kernel_rfl, rfl⟩ trivial (ZI (Hle.refl _) trivial) (R.ldH S45 rfl hb2') rfl (JA.val ⟨by kernel_rfl, by kernel_rfl⟩ (ZJ _) (i := 2) rfl ⟨by kernel_rfl, by kernel_rfl, rfl⟩ trivial (ZI (Hle.refl _) trivial) (ZF rfl) rfl (JA.val ⟨by kernel_rfl, by kernel_rfl⟩ (ZJ _) (i := 3) rfl ⟨by kernel_rfl, by kernel_rfl, rfl⟩ trivial (ZI (Hle.refl _) trivial) (R.slc (cap := c1) (a := (i : Int)) (b := (m.length : Int)) (c := (c1 : Int)) (m := m) (R := RU8) U45 S5 rfl ⟨_, rfl⟩ rfl (by obtain ⟨ao, n, e, _⟩ := h1; exact ⟨ao, n, e, rfl⟩) ⟨by omega, by omega, h2⟩ h3 (.inl rfl)) rfl (JA.val ⟨by kernel_rfl, by kernel_rfl⟩ (ZJ _) (i := 4) rfl ⟨by kernel_rfl, by kernel_rfl, rfl⟩ trivial (ZI (Hle.refl _) trivial) (R.lenE U45 rfl ⟨_, IsSlice.long hs1, hl1⟩) rfl (JA.val ⟨by kernel_rfl, by kernel_rfl⟩ (ZJ _) (i := 5) rfl ⟨by kernel_rfl, by kernel_rfl, rfl⟩ trivial (ZI (Hle.refl _) trivial) (R.min2 rfl rfl) rfl ?_))))))
  rw [← he]
  refine JA.val ⟨by kernel_rfl, by kernel_rfl⟩ (ZJ _) (i := 6) rfl ⟨by kernel_rfl, by kernel_rfl, rfl⟩ trivial (ZI (Hle.refl _) trivial) (ZH rfl) rfl (Zt (by kernel_rfl) (ZC ?_))
  have hw : w64 ((i : Int) + e) = (i : Int) + e := w64_of (by omega) (by omega)
  obtain ⟨v2, c2, ao2, g1, g2, hs3⟩ := IsSlice.cutc (m' := (m.drop i).take N.toNat) hs2 hcut ⟨by omega, by omega, by omega⟩
  subst g2
  refine ZG (ZB (ZA rfl rfl (ZF rfl) (ZA rfl rfl (R.ldH S45 rfl hb2') (ZA rfl rfl (ZF rfl) (ZA rfl rfl (ZF rfl) (ZA rfl rfl (ZF rfl) (ZA rfl rfl (R.add_i rfl rfl) ?_)))))))
  rw [hw]
  refine ZA rfl rfl (ZF rfl) (ZA rfl rfl (ZF rfl) (ZA rfl rfl (R.add_i rfl rfl) ?_))
  rw [hw]
  refine ZA rfl rfl (R.slc (cap := c2) (a := (i : Int)) (b := (i : Int) + e) (c := (i : Int) + e) (m := m) (R := RU8) U45 S5 rfl ⟨_, rfl⟩ ⟨_, rfl⟩ ⟨_, rfl⟩ ⟨by omega, by omega, Int.le_refl _⟩ g1 (.inr (fun h => by cases h))) (JL.yield (vs := [_]) (mine := []) ((m.drop i).take N.toNat) hY rfl rfl hI2 (⟨⟨ao2, rfl, hs3⟩, _, by rw [← hpre]⟩) rfl rfl (fun o17 H17 hle17 hI17 => ?_) (fun o17 H17 hle17 hX17 => ?_))
  ·
   refine ZA rfl rfl (R.not rfl) (ZD (ZC (JC.condF rfl (JC.skip (Zk (ZC (ZB (ZA rfl rfl (ZF rfl) (ZA rfl rfl (R.ldH S3 rfl (hle17 _ _ _ hb3')) (ZA rfl rfl (R.add_i rfl rfl) (ZA rfl rfl (ZH rfl) ?_)))))))))))
   refine ZD ?_
   have hw2 : w64 ((i : Int) + N) = ((i + N.toNat : Nat) : Int) := by rw [w64_of (by omega) (by omega)]; omega
   refine JN.again (i := (i, f' + 1, pre, o2, H2)) (i + N.toNat, f', pre ++ [(m.drop i).take N.toNat], o17, H17) (by
    refine ⟨?_, ?_, ?_, hI17, hle.trans hle17⟩
    ·
     simp only; omega
    ·
     simp only; omega
    ·
     simp only [List.append_assoc, List.singleton_append]; exact hpre) (by simp only; omega) (by exact ⟨rfl, rfl, rfl, by show some _ = some _; rw [hw2], trivial⟩) rfl rfl
  ·
   refine ZA rfl rfl (R.not rfl) (ZD (ZC (Z2 rfl (ZV (Z4 (ZR (ZR (Z4 (JN.out0 (.inl rfl) rfl rfl ?_)))))))))
   exact ⟨hle.trans hle17, .inr ⟨_, ⟨chunks N.toNat f' (m.drop (i + N.toNat)), by rw [← hpre]; simp⟩, hX17⟩⟩
 ·
  have hge : m.length ≤ i := by have := of_decide_eq_false c; omega
  refine JC.exit (Ze (Ze (Zl (JN.out0 (.inr rfl) rfl rfl (⟨hle, .inl ⟨pre, ?_, hI2⟩⟩)))))
  rw [← hpre, List.drop_eq_nil_of_le hge, chunks_nil, List.append_nil]

theorem slices_Backward_byte_ok (p_1 : List UInt8) (H : Heaplet) {ao : Option Addr} {n cap : Nat} (hs : IsSlice H RU8 1 (.slice ao n cap) p_1) (r : Unit) (hx : slices_Backward_byte p_1 = some r) :
  Does Try.prog 119 #[.slice ao n cap] [] H (fun u K' H' => ∃ b : Nat, u = .func (.func 151) #[] #[.pointer (some ⟨b, 0, none⟩)] ∧ K' = [] ∧ H' b 0 = some (.slice ao n cap) ∧ True) := by
 refine Does.enter (vs := [.slice ao n cap]) (l := [(0, .slice ao n cap)]) Try.func119 rfl rfl ⟨rfl, trivial⟩ (fun w => ZG (ZB (JL.box rfl rfl (fun b1 hb1 => JL.assign rfl rfl (ZD (ZC (ZG (ZB (JL.func (vf := #[]) (vc := #[_]) rfl rfl rfl (JL.assign rfl rfl (ZD ?_)))))))))))
 refine ZC (ZV (JN.pubBox 0 rfl hb1 (fun H1 hle1 hc1 => JN.forget 0 ?_)))
 have hc := hc1 0 _ rfl
 refine JN.out1 (.inl rfl) rfl rfl rfl ?_
 exact ⟨_, rfl, rfl, hc, trivial⟩

theorem slices_Backward_byte_it (m : List UInt8) (H : Heaplet) {v : Value} {b : Nat} (hs : IsSlice H RU8 1 v m) (hb : H b 0 = some v) :
  IterL Try.prog 151 #[.pointer (some ⟨b, 0, none⟩)] H (fun _ args (y : Nat × UInt8) => args = #[.int .i64 ((y.1 : Nat) : Int), .int .u8 (y.2.toNat : Int)]) (bwd m m.length) := by
 intro lr I X o hY hI
 have hlen := hs.len_le
 obtain ⟨ao, cap, rfl⟩ := hs.val
 show Does Try.prog 151 #[.func (.yield lr) #[] #[], .pointer (some ⟨b, 0, none⟩)] o H _
 refine Does.enter (vs := [.func (.yield lr) #[] #[], .pointer (some ⟨b, 0, none⟩)]) (l := [(0, .func (.yield lr) #[] #[]), (1, .pointer (some ⟨b, 0, none⟩))]) Try.func151 rfl rfl ⟨rfl, rfl, trivial⟩ (fun w => ZG (ZB (JL.ldH S45 rfl hb rfl (JL.lenS U45 rfl hs rfl (JL.subI rfl rfl (wi64 (by omega) (by omega)) rfl (JL.assign rfl rfl (ZD (ZC (JC.block (JC.loop (ι := Nat × List (Nat × UInt8) × List Own × Heaplet) (fun i => [(0, .func (.yield lr) #[] #[]), (1, .pointer (some ⟨b, 0, none⟩)), (3, .int .i64 ((i.1 : Int) - 1))]) (fun i => i.2.2.1) (fun i => i.2.2.2) (fun i => i.1 ≤ m.length ∧ i.2.1 ++ bwd m i.1 = bwd m m.length ∧ I i.2.1 i.2.2.1 i.2.2.2 ∧ Hle H i.2.2.2) (fun i => i.1) (m.length, [], o, H) (⟨Nat.le_refl _, rfl, hI, Hle.refl _⟩) ⟨rfl, rfl, rfl, trivial⟩ rfl rfl ?_))))))))))
 rintro ⟨k, pre, o2, H2⟩ hI0
 dsimp only at hI0 ⊢
 obtain ⟨hk, hpre, hI2, hle⟩ := hI0
 have hb2 := hle _ _ _ hb
 have hs2 := IsB.mono hle hs
 refine ZG (ZG (ZB (JL.move rfl rfl (JL.geq rfl rfl rfl (ZD (ZC (JC.condP rfl (fun c8 => ?_) (fun c8 => ?_))))))))
 ·
  refine JC.skip (ZC (ZG (JC.block (ZG (ZB (JL.move rfl rfl (JL.move rfl rfl (JL.ldH S45 rfl hb2 rfl (JL.move rfl rfl (JL.ixB (k := k - 1) U45 S5 rfl hs2 rfl (by omega) (by omega) rfl (fun b15 o15 hc15 => JL.ldH S5 rfl hc15 rfl ?_)))))))))))
  have e1 : ((k - 1 : Nat) : Int) = (k : Int) - 1 := by omega
  have e2 : m.getD (k - 1) 0 = m[k - 1] := by rw [List.getD_eq_getElem?_getD, List.getElem?_eq_getElem (show k - 1 < m.length by omega), Option.getD_some]
  have e3 : bwd m k = (k - 1, m.getD (k - 1) 0) :: bwd m (k - 1) := by rw [show k = (k - 1) + 1 by omega]; rfl
  refine JL.yield (vs := [_, _]) (mine := []) ((k - 1, m.getD (k - 1) 0)) hY rfl rfl hI2 (⟨by simp only [e1, e2], bwd m (k - 1), by rw [← hpre, e3]⟩) rfl rfl (fun o17 H17 hle17 hI17 => ?_) (fun o17 H17 hle17 hX17 => ?_)
  ·
   refine JL.not rfl rfl (ZD (ZC (JC.condF rfl (JC.skip (Zk (ZC (ZB (JL.move rfl rfl (JL.subI rfl rfl (wi64 (by omega) (by omega)) rfl (JL.assign rfl rfl (ZD ?_)))))))))))
   refine JN.again (i := (k, pre, o2, H2)) (k - 1, pre ++ [(k - 1, m.getD (k - 1) 0)], o17, H17) (by exact ⟨by simp only; omega, by rw [← hpre, e3]; simp, hI17, hle.trans hle17⟩) (by simp only; omega) (by exact ⟨rfl, rfl, by show some _ = some _; simp only [e1], trivial⟩) rfl rfl
  ·
   refine JL.not rfl rfl (ZD (ZC (Z2 rfl (ZV (Z4 (ZR (ZR (Z4 (JN.out0 (.inl rfl) rfl rfl ?_)))))))))
   exact ⟨hle.trans hle17, .inr ⟨_, ⟨bwd m (k - 1), by rw [← hpre, e3]; simp⟩, hX17⟩⟩
 ·
  refine JC.exit (Ze (Ze (Zl (JN.out0 (.inr rfl) rfl rfl ?_))))
  exact ⟨hle, .inl ⟨pre, by rw [← hpre, show k = 0 by omega]; simp [bwd], hI2⟩⟩

set_option maxHeartbeats 8000000 in
theorem code_Get_ok (p_1 : List UInt8) (p_3 : Int) (p_4 : Int) (H : Heaplet) {aa_2 : Option Addr} {na_2 : Nat} {ca_2 : Nat} (ha_2 : IsSlice H RU8 1 (.slice aa_2 na_2 ca_2) p_1) (r : Int × Int) (hx : code_Get p_1 p_3 p_4 = some r) :
  Does Try.prog 83 #[.slice aa_2 na_2 ca_2, .int .i64 p_3, .int .i64 p_4] [] H (fun u K' H' => u = .tuple #[.int .i64 r.1, .int .i64 r.2] ∧ K' = [] ∧ True) := by
 refine Does.enterML (vs := [.slice aa_2 na_2 ca_2, .int .i64 p_3, .int .i64 p_4]) (l := [(0, .slice aa_2 na_2 ca_2), (1, .int .i64 p_3), (2, .int .i64 p_4)]) Try.func83 rfl rfl ⟨rfl, rfl, rfl, trivial⟩ (fun w hlt => ?_)
 unfold code_Get at hx
 refine ZG (ZB (ZA rfl rfl (ZH rfl) (ZA rfl rfl (ZH rfl) (ZD (ZC (ZG (JC.block (ZG (ZG (ZB (ZA rfl rfl (ZF rfl) ?_)))))))))))
 obtain ⟨x_5, hr_6, hx⟩ := ZM hx
 refine ZS (vs := [_]) (args := [_]) (K := []) (rst := []) E111 rfl rfl rfl ZK (code_sized_ok p_4 _ _ hr_6) rfl (fun u_7 Ku_7 Hu_7 hRu_7 hleu_7 hfu_7 => ?_)
 obtain ⟨rfl, rfl, rfl, -⟩ := hRu_7
 refine ZA rfl rfl (R.not rfl) (ZA rfl rfl (ZH rfl) (ZD (ZC ?_)))
 obtain ⟨t_8, ht_10, hx⟩ := ZM hx
 refine JC.cut (fun l o g => l = [(0, .slice aa_2 na_2 ca_2), (1, .int .i64 p_3), (2, .int .i64 p_4), (11, .bool t_8)] ∧ o = [] ∧ H = g) ?_ ?_
 ·
  rintro _ _ _ ⟨rfl, rfl, rfl⟩
  refine ZC (ZU rfl (fun c_13 => ?_) (fun c_13 => ?_))
  ·
   replace hx := ZW c_13 hx
   refine ZG (ZB (ZA rfl rfl (ZH rfl) (ZA rfl rfl (ZH rfl) (ZD (ZC (ZV (Z4 (ZR (JN.outMP (vs := [.int .i64 0, .int .i64 2]) (K := []) (rst := []) (own2 := []) [] (.inl rfl) ⟨rfl, rfl, rfl, rfl⟩ rfl rfl ZK (ZQ rfl (ZQ rfl rfl)) ZK ?_)))))))))
   obtain rfl := Option.some.inj hx
   exact ⟨rfl, rfl, trivial⟩
  ·
   replace hx := ZX c_13 hx
   refine ZG (ZB (ZA rfl rfl (ZF rfl) (ZA rfl rfl (ZF rfl) (ZA rfl rfl (R.add_i rfl rfl) (ZA rfl rfl (ZF rfl) (ZA rfl rfl (Zm U45 rfl (IsSlice.long ha_2)) (ZA rfl rfl (R.gtr_i rfl rfl) (ZA rfl rfl (ZH rfl) (ZD (ZC (ZU rfl (fun c_14 => ?_) (fun c_14 => ?_))))))))))))
   ·
    replace hx := ZW c_14 hx
    refine ZG (ZB (ZA rfl rfl (ZH rfl) (ZA rfl rfl (ZH rfl) (ZD (ZC (ZV (Z4 (ZR (JN.outMP (vs := [.int .i64 0, .int .i64 8]) (K := []) (rst := []) (own2 := []) [] (.inl rfl) ⟨rfl, rfl, rfl, rfl⟩ rfl rfl ZK (ZQ rfl (ZQ rfl rfl)) ZK ?_)))))))))
    obtain rfl := Option.some.inj hx
    exact ⟨rfl, rfl, trivial⟩
   ·
    replace hx := ZX c_14 hx
    refine JC.skip (Zk (ZC (ZG (ZB (JL.alloc Z3 rfl (fun b_15 hb_15 => ZN 0 S3 rfl rfl rfl rfl rfl (Nat.le_of_ble_eq_true rfl) (ZD (ZC (ZG (ZG (ZB ?_)))))))))))
    refine ZA rfl rfl (ZF rfl) (ZA rfl rfl (ZF rfl) (ZA rfl rfl (ZF rfl) (ZA rfl rfl (ZF rfl) (ZA rfl rfl (R.add_i rfl rfl) ?_))))
    obtain ⟨m_16, hm_18, hb_17, hx⟩ := slc_some hx
    obtain ⟨vv_19, cv_19, h1v_19, h2v_19, h3v_19, hsv_19⟩ := IsSlice.cutv ha_2 hm_18 hb_17
    refine ZA rfl rfl (R.slc (cap := cv_19) (a := p_3) (b := w64 (p_3 + p_4)) (c := (cv_19 : Int)) (m := p_1) (R := RU8) U45 S5 rfl ⟨_, rfl⟩ ⟨_, rfl⟩ (by obtain ⟨ao, n, e, _⟩ := h1v_19; exact ⟨ao, n, e, rfl⟩) ⟨hb_17.1, hb_17.2.1, h2v_19⟩ h3v_19 (.inl rfl)) ?_
    obtain ⟨av_19, cv_19', rfl⟩ := IsSlice.val hsv_19
    obtain ⟨x_20, hr_21, hx⟩ := ZM hx
    refine ZS (vs := [_]) (args := [_]) (K := []) (rst := [_]) E119 rfl rfl rfl ZK (slices_Backward_byte_ok m_16 _ hsv_19 _ hr_21) rfl (fun u_22 Ku_22 Hu_22 hRu_22 hleu_22 hfu_22 => ?_)
    obtain ⟨bit_23, rfl, rfl, hit_23, -⟩ := hRu_22
    refine ZD (ZC (JC.block ?_))
    obtain ⟨t_24, ht_26, hx⟩ := ZM hx
    refine JC.rangeL (RA := fun _ args (y : Nat × UInt8) => args = #[.int .i64 ((y.1 : Nat) : Int), .int .u8 (y.2.toNat : Int)]) rfl code_Get_r1 0 t_24 ht_26 (fun s_27 o g => ∃ H_33 : Heaplet, o = [[(b_15, .cells #[.int .i64 s_27] 3 (0, 0))]] ∧ H_33 = g ∧ Hle Hu_22 H_33) (fun e c o g => False) rfl E151 (slices_Backward_byte_it m_16 _ (hsv_19.mono RU8.mono hleu_22) hit_23) (fun _ _ _ h => by rw [h]; rfl) rfl ⟨Hu_22, rfl, rfl, (Hle.refl _)⟩ ?_ ?_ ?_
    ·
     rintro lr_29 y_28 s_27 args o g out_31 ⟨H_33, rfl, rfl, hleH_33⟩ hA hx2
     clear hx; have hx := hx2; clear hx2; unfold code_Get_r1 at hx
     subst hA
     refine ⟨[(8, .pointer (some ⟨b_15, 0, none⟩)), (10, .int .u8 (y_28.2.toNat : Int))], fun wb_30 hwb_30 => ?_, fun wb_30 hwb_30 => ?_⟩
     ·
      refine ZB (ZA rfl rfl (ZH rfl) (ZD ?_))
      exact JN.assigned ⟨rfl, rfl, trivial⟩
     ·
      refine JC.block (ZB (ZA rfl rfl (Zi 0 S3 rfl rfl rfl) (ZA rfl rfl (R.mul_i rfl rfl) (ZA rfl rfl (ZF rfl) (ZA rfl rfl (R.cv_u8_i64 (a := y_28.2) U5 U3 rfl) (ZA rfl rfl (R.add_i rfl rfl) (ZN 0 S3 rfl rfl rfl rfl rfl (Nat.le_of_ble_eq_true rfl) (ZD (Zk ?_)))))))))
      obtain rfl := Option.some.inj hx
      exact JN.rN ⟨H_33, rfl, rfl, (hleH_33)⟩
    ·
     rintro D_32 s_27 o g hD_32 htt ⟨H_33, rfl, rfl, hleH_33⟩ hle2
     subst htt; simp only [Sum.elim_inl] at hx
     refine Zk (ZC (ZG (ZB (ZA rfl rfl (Zi 1 S3 rfl rfl rfl) (ZA rfl rfl (ZH rfl) (ZA rfl rfl (ZH rfl) (ZD (ZC (ZV (JN.outMP (vs := [.int .i64 s_27, .int .i64 0]) (K := []) (rst := [_]) (own2 := [_]) [D_32] (.inl rfl) ⟨rfl, rfl, rfl, rfl⟩ rfl rfl (Za 0 rfl ZK) (ZQ rfl (ZQ rfl rfl)) ZK ?_))))))))))
     obtain rfl := Option.some.inj hx
     exact ⟨rfl, rfl, trivial⟩
    ·
     rintro D c e o g hD htt hX; exact hX.elim
 ·
  have hxo_9 := hx; clear hx; have hx := ht_10; clear ht_10
  refine ZU rfl (fun c_11 => ?_) (fun c_11 => ?_)
  ·
   replace hx := ZW c_11 hx
   refine JC.skip ?_
   obtain rfl := Option.some.inj hx
   exact JN.cut ⟨rfl, rfl, rfl⟩ ⟨rfl, rfl, rfl, rfl, trivial⟩ rfl rfl
  ·
   replace hx := ZX c_11 hx
   refine ZG (ZB (ZA rfl rfl (ZF rfl) (ZA rfl rfl (Zr rfl rfl) (ZA rfl rfl (ZH rfl) (ZD (ZC (ZU rfl (fun c_12 => ?_) (fun c_12 => ?_))))))))
   ·
    replace hx := ZW c_12 hx
    refine JC.skip ?_
    obtain rfl := Option.some.inj hx
    exact JN.cut ⟨rfl, rfl, rfl⟩ ⟨rfl, rfl, rfl, rfl, trivial⟩ rfl rfl
   ·
    replace hx := ZX c_12 hx
    refine ZB (ZA rfl rfl (ZF rfl) (ZA rfl rfl (ZF rfl) (ZA rfl rfl (Zm U45 rfl (IsSlice.long ha_2)) (ZA rfl rfl (R.gtr_i rfl rfl) (ZA rfl rfl (ZH rfl) (ZD ?_))))))
    obtain rfl := Option.some.inj hx
    exact JN.cut ⟨rfl, rfl, rfl⟩ ⟨rfl, rfl, rfl, rfl, trivial⟩ rfl rfl

set_option maxHeartbeats 8000000 in
theorem mix_number_ok (p_1 : List UInt8) (H : Heaplet) {aa_2 : Option Addr} {na_2 : Nat} {ca_2 : Nat} (ha_2 : IsSlice H RU8 1 (.slice aa_2 na_2 ca_2) p_1) (r : UInt32) (hx : mix_number p_1 = some r) :
  Does Try.prog 148 #[.slice aa_2 na_2 ca_2] [] H (fun u K' H' => u = .int .u32 (r.toNat : Int) ∧ K' = [] ∧ True) := by
 refine Does.enterL (vs := [.slice aa_2 na_2 ca_2]) (l := [(0, .slice aa_2 na_2 ca_2)]) Try.func148 rfl rfl ⟨rfl, trivial⟩ (fun w hlt => ?_)
 unfold mix_number at hx
 refine ZG (ZB (ZA rfl rfl (ZH rfl) (ZD (ZC (ZG (ZB (ZA rfl rfl (ZF rfl) ?_)))))))
 obtain ⟨x_3, hr_4, hx⟩ := ZM hx
 refine ZS (vs := [_, _, _]) (args := [_, _, _]) (K := []) (rst := []) E83 rfl rfl rfl ZK (code_Get_ok p_1 0 4 _ ha_2 _ hr_4) rfl (fun u_5 Ku_5 Hu_5 hRu_5 hleu_5 hfu_5 => ?_)
 obtain ⟨rfl, rfl, -⟩ := hRu_5
 refine ZA rfl rfl (ZF rfl) (ZA rfl rfl (R.extract rfl rfl) (ZA rfl rfl (R.extract rfl rfl) (ZA rfl rfl (ZH rfl) (ZA rfl rfl (ZH rfl) (ZD (ZC (ZG (ZB (ZA rfl rfl (ZF rfl) (ZA rfl rfl (R.cv_i64_u32 U3 U26 rfl) (ZA rfl rfl (ZH rfl) ?_)))))))))))
 refine ZD (ZC (ZV (ZT (vs := [.int .u32 ((u32i x_3.1).toNat : Int)]) (K := []) (rst := []) (.inl rfl) rfl rfl (ZQ rfl rfl) ZK ?_)))
 obtain rfl := Option.some.inj hx
 exact ⟨rfl, rfl, trivial⟩

set_option maxHeartbeats 8000000 in
theorem math_bits_RotateLeft32_ok (p_1 : UInt32) (p_2 : Int) (H : Heaplet) (r : UInt32) (hx : math_bits_RotateLeft32 p_1 p_2 = some r) :
  Does Try.prog 186 #[.int .u32 (p_1.toNat : Int), .int .i64 p_2] [] H (fun u K' H' => u = .int .u32 (r.toNat : Int) ∧ K' = [] ∧ H = H' ∧ True) := by
 refine Does.enterL (vs := [.int .u32 (p_1.toNat : Int), .int .i64 p_2]) (l := [(0, .int .u32 (p_1.toNat : Int)), (1, .int .i64 p_2)]) Try.func186 rfl rfl ⟨rfl, rfl, trivial⟩ (fun w hlt => ?_)
 unfold math_bits_RotateLeft32 at hx
 refine ZG (ZB (ZA rfl rfl (ZH rfl) (ZD (ZC (ZG (ZB (ZA rfl rfl (ZF rfl) (ZA rfl rfl (R.cv_i64_u64 U3 U133 rfl) (ZA rfl rfl (R.and64 (a := u64i p_2) (b := (31 : UInt64)) rfl rfl) (ZA rfl rfl (ZH rfl) (ZD ?_)))))))))))
 refine ZC (ZG (ZB (ZA rfl rfl (ZF rfl) (ZA rfl rfl (ZF rfl) (ZA rfl rfl (R.shl32 (n := (((u64i p_2) &&& (31 : UInt64)).toNat : Int)) (a := p_1) rfl rfl (Int.natCast_nonneg _)) (ZA rfl rfl (ZF rfl) (ZA rfl rfl (ZF rfl) (ZA rfl rfl (R.sub64 (a := (32 : UInt64)) (b := (u64i p_2) &&& (31 : UInt64)) rfl rfl) (ZA rfl rfl (R.shr32 (n := (((32 : UInt64) - ((u64i p_2) &&& (31 : UInt64))).toNat : Int)) (a := p_1) rfl rfl (Int.natCast_nonneg _)) (ZA rfl rfl (R.or32 (a := sl32 p_1 ((((u64i p_2) &&& (31 : UInt64)).toNat : Int)).toNat) (b := sr32 p_1 ((((32 : UInt64) - ((u64i p_2) &&& (31 : UInt64))).toNat : Int)).toNat) rfl rfl) (ZA rfl rfl (ZH rfl) ?_)))))))))))
 refine ZD (ZC (ZV (ZT (vs := [.int .u32 (((sl32 p_1 ((((u64i p_2) &&& (31 : UInt64)).toNat : Int)).toNat) ||| (sr32 p_1 ((((32 : UInt64) - ((u64i p_2) &&& (31 : UInt64))).toNat : Int)).toNat)).toNat : Int)]) (K := []) (rst := []) (.inl rfl) rfl rfl (ZQ rfl rfl) ZK ?_)))
 obtain rfl := Option.some.inj hx
 exact ⟨rfl, rfl, rfl, trivial⟩

set_option maxHeartbeats 8000000 in
theorem mix_words_turned_1_ok (p_1 : Int) (p_2 : Int) (p_4 : A4 UInt32) (H : Heaplet) {b_3 : Nat} (r : A4 UInt32) (hx : mix_words_turned_1 p_1 p_2 p_4 = some r) :
  Does Try.prog 185 #[.int .i64 p_1, .int .i64 p_2, .pointer (some ⟨b_3, 0, none⟩)] [[(b_3, .cells #[.int .u32 (p_4.e0.toNat : Int), .int .u32 (p_4.e1.toNat : Int), .int .u32 (p_4.e2.toNat : Int), .int .u32 (p_4.e3.toNat : Int)] 161 (0, 0))]] H (fun u K' H' => u = .tuple #[] ∧ K' = [[(b_3, .cells #[.int .u32 (r.e0.toNat : Int), .int .u32 (r.e1.toNat : Int), .int .u32 (r.e2.toNat : Int), .int .u32 (r.e3.toNat : Int)] 161 (0, 0))]] ∧ H = H' ∧ True) := by
 refine Does.enterL (vs := [.int .i64 p_1, .int .i64 p_2, .pointer (some ⟨b_3, 0, none⟩)]) (l := [(0, .int .i64 p_1), (1, .int .i64 p_2), (2, .pointer (some ⟨b_3, 0, none⟩))]) Try.func185 rfl rfl ⟨rfl, rfl, rfl, trivial⟩ (fun w hlt => ?_)
 unfold mix_words_turned_1 at hx
 refine ZG (ZB (ZA rfl rfl (R.ixA 0 U161 S26 rfl rfl rfl) (ZA rfl rfl (Zi 0 S26 rfl rfl rfl) (ZA rfl rfl (R.ixA 1 U161 S26 rfl rfl rfl) (ZA rfl rfl (Zi 0 S26 rfl rfl rfl) (ZA rfl rfl (R.add32 (a := p_4.e0) (b := p_4.e1) rfl rfl) (ZA rfl rfl (R.ixA 0 U161 S26 rfl rfl rfl) (ZN 0 S26 rfl rfl rfl rfl rfl (Nat.le_of_ble_eq_true rfl) (ZD (ZC (ZG ?_)))))))))))
 refine ZB (ZA rfl rfl (R.ixA 3 U161 S26 rfl rfl rfl) (ZA rfl rfl (Zi 0 S26 rfl rfl rfl) (ZA rfl rfl (R.ixA 0 U161 S26 rfl rfl rfl) (ZA rfl rfl (Zi 0 S26 rfl rfl rfl) (ZA rfl rfl (R.xor32 (a := p_4.e3) (b := p_4.e0 + p_4.e1) rfl rfl) (ZA rfl rfl (ZF rfl) ?_))))))
 obtain ⟨x_5, hr_6, hx⟩ := ZM hx
 refine ZS (vs := [_, _]) (args := [_, _]) (K := []) (rst := [_]) E186 rfl rfl rfl ZK (math_bits_RotateLeft32_ok (p_4.e3 ^^^ (p_4.e0 + p_4.e1)) p_1 _ _ hr_6) rfl (fun u_7 Ku_7 Hu_7 hRu_7 hleu_7 hfu_7 => ?_)
 obtain ⟨rfl, rfl, rfl, -⟩ := hRu_7
 refine ZA rfl rfl (R.ixA 3 U161 S26 rfl rfl rfl) (ZN 0 S26 rfl rfl rfl rfl rfl (Nat.le_of_ble_eq_true rfl) (ZD (ZC (ZG (ZB (ZA rfl rfl (R.ixA 2 U161 S26 rfl rfl rfl) (ZA rfl rfl (Zi 0 S26 rfl rfl rfl) (ZA rfl rfl (R.ixA 3 U161 S26 rfl rfl rfl) (ZA rfl rfl (Zi 0 S26 rfl rfl rfl) (ZA rfl rfl (R.add32 (a := p_4.e2) (b := x_5) rfl rfl) (ZA rfl rfl (R.ixA 2 U161 S26 rfl rfl rfl) ?_)))))))))))
 refine ZN 0 S26 rfl rfl rfl rfl rfl (Nat.le_of_ble_eq_true rfl) (ZD (ZC (ZB (ZA rfl rfl (R.ixA 1 U161 S26 rfl rfl rfl) (ZA rfl rfl (Zi 0 S26 rfl rfl rfl) (ZA rfl rfl (R.ixA 2 U161 S26 rfl rfl rfl) (ZA rfl rfl (Zi 0 S26 rfl rfl rfl) (ZA rfl rfl (R.xor32 (a := p_4.e1) (b := p_4.e2 + x_5) rfl rfl) (ZA rfl rfl (ZF rfl) ?_)))))))))
 obtain ⟨x_8, hr_9, hx⟩ := ZM hx
 refine ZS (vs := [_, _]) (args := [_, _]) (K := []) (rst := [_]) E186 rfl rfl rfl ZK (math_bits_RotateLeft32_ok (p_4.e1 ^^^ (p_4.e2 + x_5)) p_2 _ _ hr_9) rfl (fun u_10 Ku_10 Hu_10 hRu_10 hleu_10 hfu_10 => ?_)
 obtain ⟨rfl, rfl, rfl, -⟩ := hRu_10
 refine ZA rfl rfl (R.ixA 1 U161 S26 rfl rfl rfl) (ZN 0 S26 rfl rfl rfl rfl rfl (Nat.le_of_ble_eq_true rfl) (ZD (ZT (vs := []) (K := [_]) (rst := []) (.inr rfl) rfl rfl rfl (Za 0 rfl ZK) ?_)))
 obtain rfl := Option.some.inj hx
 exact ⟨rfl, rfl, rfl, trivial⟩

set_option maxHeartbeats 8000000 in
theorem mix_words_turned_ok (p_1 : A4 UInt32) (H : Heaplet) (r : A4 UInt32) (hx : mix_words_turned p_1 = some r) :
  Does Try.prog 175 #[.agg #[.int .u32 (p_1.e0.toNat : Int), .int .u32 (p_1.e1.toNat : Int), .int .u32 (p_1.e2.toNat : Int), .int .u32 (p_1.e3.toNat : Int)]] [] H (fun u K' H' => u = .agg #[.int .u32 (r.e0.toNat : Int), .int .u32 (r.e1.toNat : Int), .int .u32 (r.e2.toNat : Int), .int .u32 (r.e3.toNat : Int)] ∧ K' = [] ∧ H = H' ∧ True) := by
 refine Does.enterL (vs := [.agg #[.int .u32 (p_1.e0.toNat : Int), .int .u32 (p_1.e1.toNat : Int), .int .u32 (p_1.e2.toNat : Int), .int .u32 (p_1.e3.toNat : Int)]]) (l := [(0, .agg #[.int .u32 (p_1.e0.toNat : Int), .int .u32 (p_1.e1.toNat : Int), .int .u32 (p_1.e2.toNat : Int), .int .u32 (p_1.e3.toNat : Int)])]) Try.func175 rfl rfl ⟨rfl, trivial⟩ (fun w hlt => ?_)
 unfold mix_words_turned at hx
 refine ZG (ZB (JL.box rfl rfl (fun b_2 hb_2 => JL.alloc Z161 rfl (fun b_3 hb_3 => ZD (ZC (ZG (ZB (ZA rfl rfl (R.func (vf := []) (vc := [_]) rfl rfl) (ZA rfl rfl (ZH rfl) (ZD (ZC ?_)))))))))))
 refine ZG (ZB (ZA rfl rfl (ZF rfl) ?_))
 obtain ⟨x_4, hr_5, hx⟩ := ZM hx
 refine ZS (vs := [_, _]) (args := [_, _, _]) (K := [_]) (rst := [_]) E185 rfl rfl rfl (Za 1 rfl ZK) (mix_words_turned_1_ok 15 11 p_1 _ _ hr_5) rfl (fun u_6 Ku_6 Hu_6 hRu_6 hleu_6 hfu_6 => ?_)
 obtain ⟨rfl, rfl, rfl, -⟩ := hRu_6
 refine ZD (ZC (ZG (ZB (ZA rfl rfl (ZF rfl) ?_))))
 obtain ⟨x_7, hr_8, hx⟩ := ZM hx
 refine ZS (vs := [_, _]) (args := [_, _, _]) (K := [_]) (rst := [_]) E185 rfl rfl rfl (Za 0 rfl ZK) (mix_words_turned_1_ok 9 6 x_4 _ _ hr_8) rfl (fun u_9 Ku_9 Hu_9 hRu_9 hleu_9 hfu_9 => ?_)
 obtain ⟨rfl, rfl, rfl, -⟩ := hRu_9
 refine ZD (ZC (ZG (ZB (ZA rfl rfl (Z1 0 (vs := [.int .u32 (x_7.e0.toNat : Int), .int .u32 (x_7.e1.toNat : Int), .int .u32 (x_7.e2.toNat : Int), .int .u32 (x_7.e3.toNat : Int)]) S161 rfl rfl rfl rfl) (ZN 1 S161 rfl rfl rfl rfl rfl (Nat.le_of_ble_eq_true rfl) (ZD (ZC (ZV (ZT (vs := [.agg #[.int .u32 (x_7.e0.toNat : Int), .int .u32 (x_7.e1.toNat : Int), .int .u32 (x_7.e2.toNat : Int), .int .u32 (x_7.e3.toNat : Int)]]) (K := []) (rst := [_, _]) (.inl rfl) rfl rfl (Zf 1 rfl rfl S161 rfl) ZK ?_)))))))))
 obtain rfl := Option.some.inj hx
 exact ⟨rfl, rfl, rfl, trivial⟩

set_option maxHeartbeats 8000000 in
theorem mix_words_often_ok (p_1 : A4 UInt32) (p_2 : Int) (H : Heaplet) (r : A4 UInt32) (hx : mix_words_often p_1 p_2 = some r) :
  Does Try.prog 149 #[.agg #[.int .u32 (p_1.e0.toNat : Int), .int .u32 (p_1.e1.toNat : Int), .int .u32 (p_1.e2.toNat : Int), .int .u32 (p_1.e3.toNat : Int)], .int .i64 p_2] [] H (fun u K' H' => u = .agg #[.int .u32 (r.e0.toNat : Int), .int .u32 (r.e1.toNat : Int), .int .u32 (r.e2.toNat : Int), .int .u32 (r.e3.toNat : Int)] ∧ K' = [] ∧ H = H' ∧ True) := by
 refine Does.enterL (vs := [.agg #[.int .u32 (p_1.e0.toNat : Int), .int .u32 (p_1.e1.toNat : Int), .int .u32 (p_1.e2.toNat : Int), .int .u32 (p_1.e3.toNat : Int)], .int .i64 p_2]) (l := [(0, .agg #[.int .u32 (p_1.e0.toNat : Int), .int .u32 (p_1.e1.toNat : Int), .int .u32 (p_1.e2.toNat : Int), .int .u32 (p_1.e3.toNat : Int)]), (1, .int .i64 p_2)]) Try.func149 rfl rfl ⟨rfl, rfl, trivial⟩ (fun w hlt => ?_)
 unfold mix_words_often at hx
 refine ZG (ZB (JL.box rfl rfl (fun b_3 hb_3 => JL.alloc Z161 rfl (fun b_4 hb_4 => ZD (ZC (ZG (ZG (ZB (ZA rfl rfl (ZF rfl) (ZA rfl rfl (ZF rfl) (ZD ?_)))))))))))
 refine ZC ?_
 obtain ⟨t_5, ht_7, hx⟩ := ZM hx
 refine JC.cut (fun l o g => l = [(2, .pointer (some ⟨b_3, 0, none⟩)), (4, .pointer (some ⟨b_4, 0, none⟩))] ∧ o = [[(b_3, .cells #[.int .u32 (t_5.1.toNat : Int), .int .u32 (t_5.2.1.toNat : Int), .int .u32 (t_5.2.2.1.toNat : Int), .int .u32 (t_5.2.2.2.toNat : Int)] 161 (0, 0))], [(b_4, .cells #[.int .u32 ((0 : UInt32).toNat : Int), .int .u32 ((0 : UInt32).toNat : Int), .int .u32 ((0 : UInt32).toNat : Int), .int .u32 ((0 : UInt32).toNat : Int)] 161 (0, 0))]] ∧ H = g) ?_ ?_
 ·
  rintro _ _ _ ⟨rfl, rfl, rfl⟩
  refine ZC (ZG (ZB (ZA rfl rfl (Z1 0 (vs := [.int .u32 (t_5.1.toNat : Int), .int .u32 (t_5.2.1.toNat : Int), .int .u32 (t_5.2.2.1.toNat : Int), .int .u32 (t_5.2.2.2.toNat : Int)]) S161 rfl rfl rfl rfl) (ZN 1 S161 rfl rfl rfl rfl rfl (Nat.le_of_ble_eq_true rfl) (ZD (ZC (ZV (ZT (vs := [.agg #[.int .u32 (t_5.1.toNat : Int), .int .u32 (t_5.2.1.toNat : Int), .int .u32 (t_5.2.2.1.toNat : Int), .int .u32 (t_5.2.2.2.toNat : Int)]]) (K := []) (rst := [_, _]) (.inl rfl) rfl rfl (Zf 1 rfl rfl S161 rfl) ZK ?_))))))))
  obtain rfl := Option.some.inj hx
  exact ⟨rfl, rfl, rfl, trivial⟩
 ·
  have hxo_6 := hx; clear hx; have hx := ht_7; clear ht_7
  refine JC.block (Zv 1 rfl (JC.loopI (fun n l o g => ∃ s_8 : UInt32 × UInt32 × UInt32 × UInt32 × Int, l = [(2, .pointer (some ⟨b_3, 0, none⟩)), (4, .pointer (some ⟨b_4, 0, none⟩)), (5, .int .i64 p_2), (6, .int .i64 s_8.2.2.2.2)] ∧ o = [[(b_3, .cells #[.int .u32 (s_8.1.toNat : Int), .int .u32 (s_8.2.1.toNat : Int), .int .u32 (s_8.2.2.1.toNat : Int), .int .u32 (s_8.2.2.2.1.toNat : Int)] 161 (0, 0))], [(b_4, .cells #[.int .u32 ((0 : UInt32).toNat : Int), .int .u32 ((0 : UInt32).toNat : Int), .int .u32 ((0 : UInt32).toNat : Int), .int .u32 ((0 : UInt32).toNat : Int)] 161 (0, 0))]] ∧ H = g ∧ run (mix_words_often_l1 p_2) n s_8 = some t_5) FUEL ?_ ⟨(p_1.e0, p_1.e1, p_1.e2, p_1.e3, 0), rfl, rfl, rfl, hx⟩ ⟨rfl, rfl, rfl, rfl, trivial⟩ ?_))
  ·
   rintro _ _ _ ⟨s_8, rfl, rfl, rfl, hn_9⟩
   exact run_zero hn_9
  ·
   rintro n_10 _ _ _ ⟨s_8, rfl, rfl, rfl, hn_9⟩
   clear hx; obtain ⟨oo_12, hx, hd_11⟩ := Z0 hn_9
   unfold mix_words_often_l1 at hx
   refine ZG (ZB (ZA rfl rfl (Zr rfl rfl) (ZD (ZC (ZG (ZU rfl (fun c_11 => ?_) (fun c_11 => ?_)))))))
   ·
    replace hx := ZW c_11 hx
    refine JC.skip (ZC (ZG (JC.block (ZB (ZA rfl rfl (Z1 0 (vs := [.int .u32 (s_8.1.toNat : Int), .int .u32 (s_8.2.1.toNat : Int), .int .u32 (s_8.2.2.1.toNat : Int), .int .u32 (s_8.2.2.2.1.toNat : Int)]) S161 rfl rfl rfl rfl) ?_)))))
    obtain ⟨x_12, hr_13, hx⟩ := ZM hx
    refine ZS (vs := [_]) (args := [_]) (K := []) (rst := [_, _]) E175 rfl rfl rfl ZK (mix_words_turned_ok (A4.mk s_8.1 s_8.2.1 s_8.2.2.1 s_8.2.2.2.1) _ _ hr_13) rfl (fun u_14 Ku_14 Hu_14 hRu_14 hleu_14 hfu_14 => ?_)
    obtain ⟨rfl, rfl, rfl, -⟩ := hRu_14
    refine ZN 0 S161 rfl rfl rfl rfl rfl (Nat.le_of_ble_eq_true rfl) (ZD (Zk (ZC (ZB (ZA rfl rfl (R.add_i rfl rfl) (ZA rfl rfl (ZF rfl) (ZD ?_)))))))
    replace hx := Zo hd_11 hx
    refine ZO 1 rfl (ZO 1 rfl ?_)
    exact JN.cut ⟨(x_12.e0, x_12.e1, x_12.e2, x_12.e3, w64 (s_8.2.2.2.2 + 1)), rfl, rfl, rfl, hx⟩ ⟨rfl, rfl, rfl, rfl, trivial⟩ rfl rfl
   ·
    replace hx := ZX c_11 hx
    refine JC.exit (Ze ?_)
    obtain rfl := Zu hd_11 hx
    refine Ze (Zl (ZO 1 rfl (ZO 1 rfl ?_)))
    exact JN.cut ⟨rfl, rfl, rfl⟩ ⟨rfl, rfl, trivial⟩ rfl rfl

set_option maxHeartbeats 8000000 in
theorem mix_four_ok (p_1 : List UInt8) (H : Heaplet) {aa_2 : Option Addr} {na_2 : Nat} {ca_2 : Nat} (ha_2 : IsSlice H RU8 1 (.slice aa_2 na_2 ca_2) p_1) (r : A4 UInt32) (hx : mix_four p_1 = some r) :
  Does Try.prog 113 #[.slice aa_2 na_2 ca_2] [] H (fun u K' H' => u = .agg #[.int .u32 (r.e0.toNat : Int), .int .u32 (r.e1.toNat : Int), .int .u32 (r.e2.toNat : Int), .int .u32 (r.e3.toNat : Int)] ∧ K' = [] ∧ True) := by
 refine Does.enterML (vs := [.slice aa_2 na_2 ca_2]) (l := [(0, .slice aa_2 na_2 ca_2)]) Try.func113 rfl rfl ⟨rfl, trivial⟩ (fun w hlt => ?_)
 unfold mix_four at hx
 refine ZG (ZB (JL.alloc Z161 rfl (fun b_3 hb_3 => ZD (ZC (ZG (ZB (ZA rfl rfl (R.bldA (vs := [(0, .int .u32 ((1 : UInt32).toNat : Int)), (1, .int .u32 ((2 : UInt32).toNat : Int)), (2, .int .u32 ((3 : UInt32).toNat : Int)), (3, .int .u32 ((4 : UInt32).toNat : Int))]) (cells := #[.int .u32 ((1 : UInt32).toNat : Int), .int .u32 ((2 : UInt32).toNat : Int), .int .u32 ((3 : UInt32).toNat : Int), .int .u32 ((4 : UInt32).toNat : Int)]) Z161 B161 rfl rfl rfl rfl) (JL.alloc Z161 rfl (fun b_4 hb_4 => ZN 0 S161 rfl rfl rfl rfl rfl (Nat.le_of_ble_eq_true rfl) (ZD (ZC ?_)))))))))))
 refine ZG (ZB (ZA rfl rfl (ZF rfl) ?_))
 obtain ⟨x_5, hr_6, hx⟩ := ZM hx
 refine ZS (vs := [_]) (args := [_]) (K := []) (rst := [_, _]) E147 rfl rfl rfl ZK (slices_Clone_byte_ok p_1 _ ha_2 _ hr_6) rfl (fun u_7 Ku_7 Hu_7 hRu_7 hleu_7 hfu_7 => ?_)
 obtain ⟨ar_8, nr_8, cr_8, Kr_8, rfl, rfl, rfl, hr_8, hnewr_8, -⟩ := hRu_7
 replace hr_8 := (RowOf.base (Zc (H2 := New H H) RU8.const hr_8) (fun p hp => (hfu_7 p (Zg 0 rfl hp)).resolve_left (hnewr_8 p hp)))
 refine JL.pubN 0 RU8.mono rfl hr_8 (Nat.le_refl _) (fun H_9 hleH_9 hsH_9 => JL.forget 0 ?_)
 obtain ⟨x_10, hr_11, hx⟩ := ZM hx
 refine ZS (vs := [_]) (args := [_]) (K := []) (rst := [_, _]) E146 rfl rfl rfl ZK (slices_Clip_byte_ok x_5 _ (hsH_9.old RU8.mono) _ hr_11) rfl (fun u_12 Ku_12 Hu_12 hRu_12 hleu_12 hfu_12 => ?_)
 obtain ⟨az_13, nz_13, rfl, rfl, rfl, hz_13, -⟩ := hRu_12
 refine Zz (HF := (New H H_9)) (R := RU8) (ls := [(1 : UInt8)]) (vs := [.int .u8 ((1 : UInt8).toNat : Int)]) U45 I5 rfl rfl (⟨_, _, rfl, rfl, rfl, rfl⟩) RU8.one rfl rfl rfl (by simp [maxLen]) rfl (fun vr_14 Kr_14 hr_14 => ?_)
 obtain ⟨ar_14, cr_14, rfl⟩ := RowOf.val hr_14
 obtain ⟨q_15, hm_16, hl_17, hx⟩ := app_some hx
 refine JL.appC (HF := (New H H_9)) U45 I5 rfl RU8.one (Hle.refl _) hz_13 (fun _ _ h => RU8.const _ _ _ _ h) rfl (SrcF.row 0 U45 rfl (Zc RU8.const hr_14)) (List.cons_ne_nil _ _) hm_16 hl_17 rfl rfl (fun vr_18 Kr_18 hr_18 => ?_)
 obtain ⟨ar_18, cr_18, rfl⟩ := RowOf.val hr_18
 refine ZA rfl rfl (ZH rfl) (ZD (ZC (ZG ?_)))
 obtain ⟨t_19, ht_21, hx⟩ := ZM hx
 refine JC.cut (fun l o g => ∃ ar_26 : Option Addr, ∃ nr_26 : Nat, ∃ cr_26 : Nat, ∃ Kr_26 : Own, l = [(0, .slice aa_2 na_2 ca_2), (2, .pointer (some ⟨b_3, 0, none⟩)), (3, .pointer (some ⟨b_4, 0, none⟩)), (4, .slice ar_26 nr_26 cr_26)] ∧ o = [[(b_3, .cells #[.int .u32 ((0 : UInt32).toNat : Int), .int .u32 ((0 : UInt32).toNat : Int), .int .u32 ((0 : UInt32).toNat : Int), .int .u32 ((0 : UInt32).toNat : Int)] 161 (0, 0))], [(b_4, .cells #[.int .u32 ((1 : UInt32).toNat : Int), .int .u32 ((2 : UInt32).toNat : Int), .int .u32 ((3 : UInt32).toNat : Int), .int .u32 ((4 : UInt32).toNat : Int)] 161 (0, 0))], Kr_26] ∧ H_9 = g ∧ RowOf (New H H_9) RU8 w.heap.size 5 1 (.slice ar_26 nr_26 cr_26) t_19 Kr_26) ?_ ?_
 ·
  rintro _ _ _ ⟨ar_26, nr_26, cr_26, Kr_26, rfl, rfl, rfl, hr_26⟩
  refine ZC (ZG (ZG (ZB (ZA rfl rfl (ZF rfl) (JL.pubN 2 RU8.mono rfl hr_26 (Nat.le_refl _) (fun H_27 hleH_27 hsH_27 => JL.forget 2 ?_))))))
  obtain ⟨x_28, hr_29, hx⟩ := ZM hx
  refine ZS (vs := [_, _]) (args := [_, _]) (K := []) (rst := [_, _]) E95 rfl rfl rfl ZK (slices_Chunk_byte_ok t_19 8 _ (hsH_27.old RU8.mono) _ hr_29) rfl (fun u_30 Ku_30 Hu_30 hRu_30 hleu_30 hfu_30 => ?_)
  obtain ⟨bit_31, cit_31, rfl, rfl, hit_31, kit_31, pit_31, -⟩ := hRu_30
  refine ZD (ZC (JC.block ?_))
  obtain ⟨t_32, ht_34, hx⟩ := ZM hx
  refine Zv 1 rfl (Zv 1 rfl (JC.rangeL (RA := fun H' args (y : List UInt8) => ∃ ao : Option Addr, args = #[.slice ao y.length y.length] ∧ IsSlice H' RU8 1 (.slice ao y.length y.length) y) rfl mix_four_r2 ((1 : UInt32), (2 : UInt32), (3 : UInt32), (4 : UInt32)) t_32 ht_34 (fun s_35 o g => ∃ H_41 : Heaplet, o = [[(b_3, .cells #[.int .u32 ((0 : UInt32).toNat : Int), .int .u32 ((0 : UInt32).toNat : Int), .int .u32 ((0 : UInt32).toNat : Int), .int .u32 ((0 : UInt32).toNat : Int)] 161 (0, 0))], [(b_4, .cells #[.int .u32 (s_35.1.toNat : Int), .int .u32 (s_35.2.1.toNat : Int), .int .u32 (s_35.2.2.1.toNat : Int), .int .u32 (s_35.2.2.2.toNat : Int)] 161 (0, 0))]] ∧ H_41 = g ∧ Hle Hu_30 H_41) (fun e c o g => False) rfl E136 (slices_Chunk_byte_it t_19 8 pit_31 _ ((hsH_27.mono RU8.mono (New.mono hleu_30)).old RU8.mono) hit_31 kit_31) (fun _ _ _ h => by obtain ⟨_, h, _⟩ := h; rw [h]; rfl) rfl ⟨Hu_30, rfl, rfl, (Hle.refl _)⟩ ?_ ?_ ?_))
  ·
   rintro lr_37 y_36 s_35 args o g out_39 ⟨H_41, rfl, rfl, hleH_41⟩ hA hx2
   clear hx; have hx := hx2; clear hx2; unfold mix_four_r2 at hx
   obtain ⟨aoit_31, rfl, hyit_31⟩ := hA
   refine ⟨[(0, .slice aa_2 na_2 ca_2), (2, .pointer (some ⟨b_3, 0, none⟩)), (3, .pointer (some ⟨b_4, 0, none⟩)), (5, .slice aoit_31 y_36.length y_36.length)], fun wb_38 hwb_38 => ?_, fun wb_38 hwb_38 => ?_⟩
   ·
    refine ZB (ZA rfl rfl (ZH rfl) (ZD ?_))
    exact JN.assigned ⟨rfl, rfl, rfl, rfl, trivial⟩
   ·
    refine JC.block (ZG ?_)
    obtain ⟨t_42, ht_44, hx⟩ := ZM hx
    refine JC.cut (fun l o g => ∃ H_55 : Heaplet, l = [(0, .slice aa_2 na_2 ca_2), (2, .pointer (some ⟨b_3, 0, none⟩)), (3, .pointer (some ⟨b_4, 0, none⟩)), (5, .slice aoit_31 y_36.length y_36.length)] ∧ o = [[(b_3, .cells #[.int .u32 ((0 : UInt32).toNat : Int), .int .u32 ((0 : UInt32).toNat : Int), .int .u32 ((0 : UInt32).toNat : Int), .int .u32 ((0 : UInt32).toNat : Int)] 161 (0, 0))], [(b_4, .cells #[.int .u32 (t_42.toNat : Int), .int .u32 (s_35.2.1.toNat : Int), .int .u32 (s_35.2.2.1.toNat : Int), .int .u32 (s_35.2.2.2.toNat : Int)] 161 (0, 0))]] ∧ H_55 = g ∧ Hle H_41 H_55) ?_ ?_
    ·
     rintro _ _ _ ⟨H_55, rfl, rfl, rfl, hleH_55⟩
     refine ZC (ZG (JC.draw (so := [_]) 8 rfl Mixed ⟨⟨0, rfl⟩, trivial⟩ (JA.val ⟨by kernel_rfl, by kernel_rfl⟩ (ZJ _) (i := 0) rfl ⟨by kernel_rfl, by kernel_rfl, rfl⟩ trivial (ZI (Hle.refl _) ⟨⟨0, rfl⟩, trivial⟩) (R.ixA 2 U161 S26 rfl rfl rfl) rfl (JA.val ⟨by kernel_rfl, by kernel_rfl⟩ (ZJ _) (i := 2) rfl ⟨by kernel_rfl, by kernel_rfl, rfl⟩ trivial (ZI (Hle.refl _) ⟨⟨0, rfl⟩, trivial⟩) (ZF rfl) rfl ?_))))
     obtain ⟨m_56, hm_58, hb_57, hx⟩ := slc_some hx
     obtain ⟨vv_59, cv_59, h1v_59, h2v_59, h3v_59, hsv_59⟩ := IsSlice.cutv (hyit_31.mono RU8.mono hleH_55) hm_58 hb_57
     refine JA.val ⟨by kernel_rfl, by kernel_rfl⟩ (ZJ _) (i := 3) rfl ⟨by kernel_rfl, by kernel_rfl, rfl⟩ trivial (ZI (Hle.refl _) ⟨⟨0, rfl⟩, trivial⟩) (R.slc (cap := cv_59) (a := 4) (b := (y_36.length : Int)) (c := (cv_59 : Int)) (m := y_36) (R := RU8) U45 S5 rfl ⟨_, rfl⟩ rfl (by obtain ⟨ao, n, e, _⟩ := h1v_59; exact ⟨ao, n, e, rfl⟩) ⟨hb_57.1, hb_57.2.1, h2v_59⟩ h3v_59 (.inl rfl)) rfl ?_
     obtain ⟨av_59, cv_59', rfl⟩ := IsSlice.val hsv_59
     refine JA.two (i := 1) (j := 4) (by kernel_rfl) ?_ ?_
     ·
      refine ZZ rfl trivial rfl (fun K hK => ZA rfl rfl (Zi 1 S26 rfl rfl rfl) (ZD (hK _ _ _ (ZI (Hle.refl _) ⟨⟨0, rfl⟩, trivial⟩) (JA.one (i := 4) (by kernel_rfl) (ZZ rfl trivial rfl (fun K hK => ?_))))))
      obtain ⟨x_60, hr_61, hx⟩ := ZM hx
      refine ZS (vs := [_]) (args := [_]) (K := []) (rst := [_, _]) E148 rfl rfl rfl ZK (mix_number_ok m_56 _ hsv_59 _ hr_61) rfl (fun u_62 Ku_62 Hu_62 hRu_62 hleu_62 hfu_62 => ?_)
      obtain ⟨rfl, rfl, -⟩ := hRu_62
      refine ZD (hK _ _ _ (ZI hleu_62 ⟨⟨0, rfl⟩, trivial⟩) (JA.val ⟨by kernel_rfl, by kernel_rfl⟩ (ZJ _) (i := 5) rfl ⟨by kernel_rfl, by kernel_rfl, rfl⟩ trivial (ZI hleu_62 ⟨⟨0, rfl⟩, trivial⟩) (R.xor32 (a := s_35.2.2.1) (b := x_60) rfl rfl) rfl (JA.val ⟨by kernel_rfl, by kernel_rfl⟩ (ZJ _) (i := 6) rfl ⟨by kernel_rfl, by kernel_rfl, rfl⟩ trivial (ZI hleu_62 ⟨⟨0, rfl⟩, trivial⟩) (R.ixA 2 U161 S26 rfl rfl rfl) rfl (JA.one (i := 7) (by kernel_rfl) (ZZ rfl trivial rfl (fun K hK => ZN 1 S26 rfl rfl rfl rfl rfl (Nat.le_of_ble_eq_true rfl) (ZD (hK _ _ _ (ZI hleu_62 ⟨⟨0, rfl⟩, trivial⟩) (Zt (by kernel_rfl) (ZC (ZB ?_)))))))))))
      refine ZA rfl rfl (Z1 1 (vs := [.int .u32 (t_42.toNat : Int), .int .u32 (s_35.2.1.toNat : Int), .int .u32 ((s_35.2.2.1 ^^^ x_60).toNat : Int), .int .u32 (s_35.2.2.2.toNat : Int)]) S161 rfl rfl rfl rfl) ?_
      obtain ⟨x_63, hr_64, hx⟩ := ZM hx
      refine ZS (vs := [_, _]) (args := [_, _]) (K := []) (rst := [_, _]) E149 rfl rfl rfl ZK (mix_words_often_ok (A4.mk t_42 s_35.2.1 (s_35.2.2.1 ^^^ x_60) s_35.2.2.2) 4 _ _ hr_64) rfl (fun u_65 Ku_65 Hu_65 hRu_65 hleu_65 hfu_65 => ?_)
      obtain ⟨rfl, rfl, rfl, -⟩ := hRu_65
      refine ZN 1 S161 rfl rfl rfl rfl rfl (Nat.le_of_ble_eq_true rfl) (ZD (Zk ?_))
      obtain rfl := Option.some.inj hx
      refine ZO 1 rfl (ZO 1 rfl ?_)
      exact JN.rN ⟨Hu_62, rfl, rfl, ((hleH_41.trans (hleH_55.trans hleu_62)))⟩
     ·
      refine ZZ rfl trivial rfl (fun K hK => ?_)
      obtain ⟨x_66, hr_67, hx⟩ := ZM hx
      refine ZS (vs := [_]) (args := [_]) (K := []) (rst := [_, _]) E148 rfl rfl rfl ZK (mix_number_ok m_56 _ hsv_59 _ hr_67) rfl (fun u_68 Ku_68 Hu_68 hRu_68 hleu_68 hfu_68 => ?_)
      obtain ⟨rfl, rfl, -⟩ := hRu_68
      refine ZD (hK _ _ _ (ZI hleu_68 ⟨⟨0, rfl⟩, trivial⟩) (JA.one (i := 1) (by kernel_rfl) (ZZ rfl trivial rfl (fun K hK => ZA rfl rfl (Zi 1 S26 rfl rfl rfl) (ZD (hK _ _ _ (ZI hleu_68 ⟨⟨0, rfl⟩, trivial⟩) (JA.val ⟨by kernel_rfl, by kernel_rfl⟩ (ZJ _) (i := 5) rfl ⟨by kernel_rfl, by kernel_rfl, rfl⟩ trivial (ZI hleu_68 ⟨⟨0, rfl⟩, trivial⟩) (R.xor32 (a := s_35.2.2.1) (b := x_66) rfl rfl) rfl (JA.val ⟨by kernel_rfl, by kernel_rfl⟩ (ZJ _) (i := 6) rfl ⟨by kernel_rfl, by kernel_rfl, rfl⟩ trivial (ZI hleu_68 ⟨⟨0, rfl⟩, trivial⟩) (R.ixA 2 U161 S26 rfl rfl rfl) rfl (JA.one (i := 7) (by kernel_rfl) (ZZ rfl trivial rfl (fun K hK => ZN 1 S26 rfl rfl rfl rfl rfl (Nat.le_of_ble_eq_true rfl) ?_)))))))))))
      refine ZD (hK _ _ _ (ZI hleu_68 ⟨⟨0, rfl⟩, trivial⟩) (Zt (by kernel_rfl) (ZC (ZB (ZA rfl rfl (Z1 1 (vs := [.int .u32 (t_42.toNat : Int), .int .u32 (s_35.2.1.toNat : Int), .int .u32 ((s_35.2.2.1 ^^^ x_66).toNat : Int), .int .u32 (s_35.2.2.2.toNat : Int)]) S161 rfl rfl rfl rfl) ?_)))))
      obtain ⟨x_69, hr_70, hx⟩ := ZM hx
      refine ZS (vs := [_, _]) (args := [_, _]) (K := []) (rst := [_, _]) E149 rfl rfl rfl ZK (mix_words_often_ok (A4.mk t_42 s_35.2.1 (s_35.2.2.1 ^^^ x_66) s_35.2.2.2) 4 _ _ hr_70) rfl (fun u_71 Ku_71 Hu_71 hRu_71 hleu_71 hfu_71 => ?_)
      obtain ⟨rfl, rfl, rfl, -⟩ := hRu_71
      refine ZN 1 S161 rfl rfl rfl rfl rfl (Nat.le_of_ble_eq_true rfl) (ZD (Zk ?_))
      obtain rfl := Option.some.inj hx
      refine ZO 1 rfl (ZO 1 rfl ?_)
      exact JN.rN ⟨Hu_68, rfl, rfl, ((hleH_41.trans (hleH_55.trans hleu_68)))⟩
    ·
     have hxo_43 := hx; clear hx; have hx := ht_44; clear ht_44
     refine JC.draw (so := [_]) 8 rfl Mixed ⟨⟨0, rfl⟩, trivial⟩ (JA.val ⟨by kernel_rfl, by kernel_rfl⟩ (ZJ _) (i := 0) rfl ⟨by kernel_rfl, by kernel_rfl, rfl⟩ trivial (ZI (Hle.refl _) ⟨⟨0, rfl⟩, trivial⟩) (R.ixA 0 U161 S26 rfl rfl rfl) rfl (JA.val ⟨by kernel_rfl, by kernel_rfl⟩ (ZJ _) (i := 2) rfl ⟨by kernel_rfl, by kernel_rfl, rfl⟩ trivial (ZI (Hle.refl _) ⟨⟨0, rfl⟩, trivial⟩) (ZF rfl) rfl ?_))
     obtain ⟨m_45, hm_47, hb_46, hx⟩ := slc_some hx
     obtain ⟨vv_48, cv_48, h1v_48, h2v_48, h3v_48, hsv_48⟩ := IsSlice.cutv hyit_31 hm_47 hb_46
     refine JA.val ⟨by kernel_rfl, by kernel_rfl⟩ (ZJ _) (i := 3) rfl ⟨by kernel_rfl, by kernel_rfl, rfl⟩ trivial (ZI (Hle.refl _) ⟨⟨0, rfl⟩, trivial⟩) (R.slc (cap := cv_48) (a := 0) (b := 4) (c := (cv_48 : Int)) (m := y_36) (R := RU8) U45 S5 rfl rfl ⟨_, rfl⟩ (by obtain ⟨ao, n, e, _⟩ := h1v_48; exact ⟨ao, n, e, rfl⟩) ⟨hb_46.1, hb_46.2.1, h2v_48⟩ h3v_48 (.inl rfl)) rfl ?_
     obtain ⟨av_48, cv_48', rfl⟩ := IsSlice.val hsv_48
     refine JA.two (i := 1) (j := 4) (by kernel_rfl) ?_ ?_
     ·
      refine ZZ rfl trivial rfl (fun K hK => ZA rfl rfl (Zi 1 S26 rfl rfl rfl) (ZD (hK _ _ _ (ZI (Hle.refl _) ⟨⟨0, rfl⟩, trivial⟩) (JA.one (i := 4) (by kernel_rfl) (ZZ rfl trivial rfl (fun K hK => ?_))))))
      obtain ⟨x_49, hr_50, hx⟩ := ZM hx
      refine ZS (vs := [_]) (args := [_]) (K := []) (rst := [_, _]) E148 rfl rfl rfl ZK (mix_number_ok m_45 _ hsv_48 _ hr_50) rfl (fun u_51 Ku_51 Hu_51 hRu_51 hleu_51 hfu_51 => ?_)
      obtain ⟨rfl, rfl, -⟩ := hRu_51
      refine ZD (hK _ _ _ (ZI hleu_51 ⟨⟨0, rfl⟩, trivial⟩) (JA.val ⟨by kernel_rfl, by kernel_rfl⟩ (ZJ _) (i := 5) rfl ⟨by kernel_rfl, by kernel_rfl, rfl⟩ trivial (ZI hleu_51 ⟨⟨0, rfl⟩, trivial⟩) (R.xor32 (a := s_35.1) (b := x_49) rfl rfl) rfl (JA.val ⟨by kernel_rfl, by kernel_rfl⟩ (ZJ _) (i := 6) rfl ⟨by kernel_rfl, by kernel_rfl, rfl⟩ trivial (ZI hleu_51 ⟨⟨0, rfl⟩, trivial⟩) (R.ixA 0 U161 S26 rfl rfl rfl) rfl (JA.one (i := 7) (by kernel_rfl) (ZZ rfl trivial rfl (fun K hK => ZN 1 S26 rfl rfl rfl rfl rfl (Nat.le_of_ble_eq_true rfl) (ZD (hK _ _ _ (ZI hleu_51 ⟨⟨0, rfl⟩, trivial⟩) (Zt (by kernel_rfl) ?_)))))))))
      obtain rfl := Option.some.inj hx
      refine ZO 1 rfl (ZO 1 rfl ?_)
      exact JN.cut ⟨Hu_51, rfl, rfl, rfl, (hleu_51)⟩ ⟨rfl, rfl, rfl, rfl, trivial⟩ rfl rfl
     ·
      refine ZZ rfl trivial rfl (fun K hK => ?_)
      obtain ⟨x_52, hr_53, hx⟩ := ZM hx
      refine ZS (vs := [_]) (args := [_]) (K := []) (rst := [_, _]) E148 rfl rfl rfl ZK (mix_number_ok m_45 _ hsv_48 _ hr_53) rfl (fun u_54 Ku_54 Hu_54 hRu_54 hleu_54 hfu_54 => ?_)
      obtain ⟨rfl, rfl, -⟩ := hRu_54
      refine ZD (hK _ _ _ (ZI hleu_54 ⟨⟨0, rfl⟩, trivial⟩) (JA.one (i := 1) (by kernel_rfl) (ZZ rfl trivial rfl (fun K hK => ZA rfl rfl (Zi 1 S26 rfl rfl rfl) (ZD (hK _ _ _ (ZI hleu_54 ⟨⟨0, rfl⟩, trivial⟩) (JA.val ⟨by kernel_rfl, by kernel_rfl⟩ (ZJ _) (i := 5) rfl ⟨by kernel_rfl, by kernel_rfl, rfl⟩ trivial (ZI hleu_54 ⟨⟨0, rfl⟩, trivial⟩) (R.xor32 (a := s_35.1) (b := x_52) rfl rfl) rfl (JA.val ⟨by kernel_rfl, by kernel_rfl⟩ (ZJ _) (i := 6) rfl ⟨by kernel_rfl, by kernel_rfl, rfl⟩ trivial (ZI hleu_54 ⟨⟨0, rfl⟩, trivial⟩) (R.ixA 0 U161 S26 rfl rfl rfl) rfl (JA.one (i := 7) (by kernel_rfl) (ZZ rfl trivial rfl (fun K hK => ZN 1 S26 rfl rfl rfl rfl rfl (Nat.le_of_ble_eq_true rfl) ?_)))))))))))
      refine ZD (hK _ _ _ (ZI hleu_54 ⟨⟨0, rfl⟩, trivial⟩) (Zt (by kernel_rfl) ?_))
      obtain rfl := Option.some.inj hx
      refine ZO 1 rfl (ZO 1 rfl ?_)
      exact JN.cut ⟨Hu_54, rfl, rfl, rfl, (hleu_54)⟩ ⟨rfl, rfl, rfl, rfl, trivial⟩ rfl rfl
  ·
   rintro D_40 s_35 o g hD_40 htt ⟨H_41, rfl, rfl, hleH_41⟩ hle2
   subst htt; simp only [Sum.elim_inl] at hx
   refine Zk (ZC (ZG (ZB (ZA rfl rfl (R.ixA 1 U161 S26 rfl rfl rfl) (ZA rfl rfl (Zi 2 S26 rfl rfl rfl) (ZA rfl rfl (ZF rfl) (ZA rfl rfl (Zm U45 rfl (IsSlice.long ha_2)) (ZA rfl rfl (R.cv_i64_u32 U3 U26 rfl) (ZA rfl rfl (R.xor32 (a := s_35.2.1) (b := u32i (p_1.length : Int)) rfl rfl) (ZA rfl rfl (R.ixA 1 U161 S26 rfl rfl rfl) (ZN 2 S26 rfl rfl rfl rfl rfl (Nat.le_of_ble_eq_true rfl) ?_)))))))))))
   refine ZD (ZC (ZG (ZB (ZA rfl rfl (Z1 2 (vs := [.int .u32 (s_35.1.toNat : Int), .int .u32 ((s_35.2.1 ^^^ (u32i (p_1.length : Int))).toNat : Int), .int .u32 (s_35.2.2.1.toNat : Int), .int .u32 (s_35.2.2.2.toNat : Int)]) S161 rfl rfl rfl rfl) ?_))))
   obtain ⟨x_42, hr_43, hx⟩ := ZM hx
   refine ZS (vs := [_, _]) (args := [_, _]) (K := []) (rst := [_, _, _]) E149 rfl rfl rfl ZK (mix_words_often_ok (A4.mk s_35.1 (s_35.2.1 ^^^ (u32i (p_1.length : Int))) s_35.2.2.1 s_35.2.2.2) 8 _ _ hr_43) rfl (fun u_44 Ku_44 Hu_44 hRu_44 hleu_44 hfu_44 => ?_)
   obtain ⟨rfl, rfl, rfl, -⟩ := hRu_44
   refine ZN 1 S161 rfl rfl rfl rfl rfl (Nat.le_of_ble_eq_true rfl) (ZD (ZC (ZV (JN.outMP (vs := [.agg #[.int .u32 (x_42.e0.toNat : Int), .int .u32 (x_42.e1.toNat : Int), .int .u32 (x_42.e2.toNat : Int), .int .u32 (x_42.e3.toNat : Int)]]) (K := []) (rst := [_, _]) (own2 := [_, _]) [D_40] (.inl rfl) ⟨rfl, rfl, rfl, rfl⟩ rfl rfl (Za 0 rfl ZK) (Zf 0 rfl rfl S161 rfl) ZK ?_))))
   obtain rfl := Option.some.inj hx
   exact ⟨rfl, rfl, trivial⟩
  ·
   rintro D c e o g hD htt hX; exact hX.elim
 ·
  have hxo_20 := hx; clear hx; have hx := ht_21; clear ht_21
  refine JC.block (JC.forget 1 (Zv 1 rfl (Zv 2 rfl (JC.loopI (fun n l o g => ∃ s_22 : List UInt8, ∃ ar_25 : Option Addr, ∃ nr_25 : Nat, ∃ cr_25 : Nat, ∃ Kr_25 : Own, l = [(0, .slice aa_2 na_2 ca_2), (2, .pointer (some ⟨b_3, 0, none⟩)), (3, .pointer (some ⟨b_4, 0, none⟩)), (4, .slice ar_25 nr_25 cr_25)] ∧ o = [[(b_3, .cells #[.int .u32 ((0 : UInt32).toNat : Int), .int .u32 ((0 : UInt32).toNat : Int), .int .u32 ((0 : UInt32).toNat : Int), .int .u32 ((0 : UInt32).toNat : Int)] 161 (0, 0))], [(b_4, .cells #[.int .u32 ((1 : UInt32).toNat : Int), .int .u32 ((2 : UInt32).toNat : Int), .int .u32 ((3 : UInt32).toNat : Int), .int .u32 ((4 : UInt32).toNat : Int)] 161 (0, 0))], Kr_25] ∧ H_9 = g ∧ run mix_four_l1 n s_22 = some t_19 ∧ RowOf (New H H_9) RU8 w.heap.size 5 1 (.slice ar_25 nr_25 cr_25) s_22 Kr_25) FUEL ?_ ⟨q_15, ar_18, q_15.length, cr_18, Kr_18, rfl, rfl, rfl, hx, hr_18⟩ ⟨rfl, rfl, rfl, rfl, trivial⟩ ?_))))
  ·
   rintro _ _ _ ⟨s_22, ar_25, nr_25, cr_25, Kr_25, rfl, rfl, rfl, hn_23, hr_25⟩
   exact run_zero hn_23
  ·
   rintro n_24 _ _ _ ⟨s_22, ar_25, nr_25, cr_25, Kr_25, rfl, rfl, rfl, hn_23, hr_25⟩
   clear hx; obtain ⟨oo_27, hx, hd_26⟩ := Z0 hn_23
   unfold mix_four_l1 at hx
   refine ZG (ZG (ZB (ZA rfl rfl (ZF rfl) (ZA rfl rfl (Zm U45 rfl (RowOf.long hr_25)) (ZA rfl rfl (R.rem_i rfl rfl (by decide)) (ZA rfl rfl (R.neq_i rfl rfl) (ZD (ZC (ZU rfl (fun c_26 => ?_) (fun c_26 => ?_))))))))))
   ·
    replace hx := ZW c_26 hx
    refine JC.skip (ZC (JC.block (ZB (ZA rfl rfl (ZF rfl) (Zz (HF := (New H H_9)) (R := RU8) (ls := [(0 : UInt8)]) (vs := [.int .u8 ((0 : UInt8).toNat : Int)]) U45 I5 rfl rfl (⟨_, _, rfl, rfl, rfl, rfl⟩) RU8.one rfl rfl rfl (by simp [maxLen]) rfl (fun vr_27 Kr_27 hr_27 => ?_))))))
    obtain ⟨ar_27, cr_27, rfl⟩ := RowOf.val hr_27
    obtain ⟨q_28, hm_29, hl_30, hx⟩ := app_some hx
    refine JL.appF (HF := (New H H_9)) 3 U45 I5 rfl rfl hr_25 rfl (SrcF.row 0 U45 rfl hr_27) hm_29 hl_30 rfl (Nat.le_refl _) rfl (fun vr_31 Kr_31 hr_31 => ?_)
    obtain ⟨ar_31, cr_31, rfl⟩ := RowOf.val hr_31
    refine ZA rfl rfl (ZH rfl) (ZD (Zk ?_))
    replace hx := Zo hd_26 hx
    refine JN.forget 0 (ZO 2 rfl (ZO 2 rfl (ZO 2 rfl ?_)))
    exact JN.cut ⟨q_28, ar_31, q_28.length, cr_31, Kr_31, rfl, rfl, rfl, hx, hr_31⟩ ⟨rfl, rfl, rfl, rfl, trivial⟩ rfl rfl
   ·
    replace hx := ZX c_26 hx
    refine JC.exit (Ze ?_)
    obtain rfl := Zu hd_26 hx
    refine Ze (Zl (ZO 2 rfl (ZO 2 rfl (ZO 2 rfl ?_))))
    exact JN.cut ⟨ar_25, nr_25, cr_25, Kr_25, rfl, rfl, rfl, hr_25⟩ ⟨rfl, rfl, rfl, rfl, trivial⟩ rfl rfl

set_option maxHeartbeats 8000000 in
theorem mix_Sum_ok (p_1 : List UInt8) (H : Heaplet) {aa_2 : Option Addr} {na_2 : Nat} {ca_2 : Nat} (ha_2 : IsSlice H RU8 1 (.slice aa_2 na_2 ca_2) p_1) (r : UInt32) (hx : mix_Sum p_1 = some r) :
  Does Try.prog 74 #[.slice aa_2 na_2 ca_2] [] H (fun u K' H' => u = .int .u32 (r.toNat : Int) ∧ K' = [] ∧ True) := by
 refine Does.enterL (vs := [.slice aa_2 na_2 ca_2]) (l := [(0, .slice aa_2 na_2 ca_2)]) Try.func74 rfl rfl ⟨rfl, trivial⟩ (fun w hlt => ?_)
 unfold mix_Sum at hx
 refine ZG (ZB (ZA rfl rfl (ZH rfl) (ZD (ZC (ZG (ZB (ZA rfl rfl (ZF rfl) ?_)))))))
 obtain ⟨x_3, hr_4, hx⟩ := ZM hx
 refine ZS (vs := [_]) (args := [_]) (K := []) (rst := []) E113 rfl rfl rfl ZK (mix_four_ok p_1 _ ha_2 _ hr_4) rfl (fun u_5 Ku_5 Hu_5 hRu_5 hleu_5 hfu_5 => ?_)
 obtain ⟨rfl, rfl, -⟩ := hRu_5
 refine ZA rfl rfl (R.idxAk 0 U161 S26 rfl rfl rfl rfl rfl) (ZA rfl rfl (ZH rfl) (ZD (ZC (ZV (ZT (vs := [.int .u32 (x_3.e0.toNat : Int)]) (K := []) (rst := []) (.inl rfl) rfl rfl (ZQ rfl rfl) ZK ?_)))))
 obtain rfl := Option.some.inj hx
 exact ⟨rfl, rfl, trivial⟩

set_option maxHeartbeats 8000000 in
theorem store_put_ok (p_1 : Store) (p_5 : Ptr) (p_6 : List UInt8) (H : Heaplet) {aa_2 : Option Addr} {na_2 : Nat} {ca_2 : Nat} {aa_3 : Option Addr} {na_3 : Nat} {ca_3 : Nat} {aa_4 : Option Addr} {na_4 : Nat} {ca_4 : Nat} {aa_7 : Option Addr} {na_7 : Nat} {ca_7 : Nat} (ha_2 : IsSlice H (RSl RU8 1) 1 (.slice aa_2 na_2 ca_2) p_1.Disk.Blocks) (ha_3 : IsSlice H R_Write 2 (.slice aa_3 na_3 ca_3) p_1.Disk.Waits) (ha_4 : IsSlice H RU8 1 (.slice aa_4 na_4 ca_4) p_1.Space) (ha_7 : IsSlice H RU8 1 (.slice aa_7 na_7 ca_7) p_6) (r : Store × Ptr × Int) (hx : store_put p_1 p_5 p_6 = some r) :
  Does Try.prog 99 #[.agg #[.slice aa_2 na_2 ca_2, .slice aa_3 na_3 ca_3, .slice aa_4 na_4 ca_4, .int .u32 (p_1.Epoch.toNat : Int), .int .u32 (p_1.Count.toNat : Int)], .agg #[.int .i64 p_5.At, .int .u32 (p_5.Birth.toNat : Int), .int .u32 (p_5.Iv.toNat : Int), .int .u32 (p_5.Tag.toNat : Int), .int .u32 (p_5.Sum.toNat : Int)], .slice aa_7 na_7 ca_7] [] H (fun u K' H' => ∃ ao0 : Option Addr, ∃ n0 : Nat, ∃ cap0 : Nat, ∃ ao1 : Option Addr, ∃ n1 : Nat, ∃ cap1 : Nat, ∃ K1 : Own, ∃ ao2 : Option Addr, ∃ n2 : Nat, ∃ cap2 : Nat, ∃ K2 : Own, u = .tuple #[.agg #[.slice ao0 n0 cap0, .slice ao1 n1 cap1, .slice ao2 n2 cap2, .int .u32 (r.1.Epoch.toNat : Int), .int .u32 (r.1.Count.toNat : Int)], .agg #[.int .i64 r.2.1.At, .int .u32 (r.2.1.Birth.toNat : Int), .int .u32 (r.2.1.Iv.toNat : Int), .int .u32 (r.2.1.Tag.toNat : Int), .int .u32 (r.2.1.Sum.toNat : Int)], .int .i64 r.2.2] ∧ K' = [K1, K2] ∧ IsSlice (New H H') (RSl RU8 1) 1 (.slice ao0 n0 cap0) r.1.Disk.Blocks ∧ RowOf (New H H') R_Write 0 47 2 (.slice ao1 n1 cap1) r.1.Disk.Waits K1 ∧ (∀ p ∈ K1, p.1 ∉ ids (List.flatten [])) ∧ RowOf (New H H') RU8 0 5 1 (.slice ao2 n2 cap2) r.1.Space K2 ∧ (∀ p ∈ K2, p.1 ∉ ids (List.flatten [])) ∧ True) := by
 refine Does.enterL (vs := [.agg #[.slice aa_2 na_2 ca_2, .slice aa_3 na_3 ca_3, .slice aa_4 na_4 ca_4, .int .u32 (p_1.Epoch.toNat : Int), .int .u32 (p_1.Count.toNat : Int)], .agg #[.int .i64 p_5.At, .int .u32 (p_5.Birth.toNat : Int), .int .u32 (p_5.Iv.toNat : Int), .int .u32 (p_5.Tag.toNat : Int), .int .u32 (p_5.Sum.toNat : Int)], .slice aa_7 na_7 ca_7]) (l := [(0, .agg #[.slice aa_2 na_2 ca_2, .slice aa_3 na_3 ca_3, .slice aa_4 na_4 ca_4, .int .u32 (p_1.Epoch.toNat : Int), .int .u32 (p_1.Count.toNat : Int)]), (1, .agg #[.int .i64 p_5.At, .int .u32 (p_5.Birth.toNat : Int), .int .u32 (p_5.Iv.toNat : Int), .int .u32 (p_5.Tag.toNat : Int), .int .u32 (p_5.Sum.toNat : Int)]), (2, .slice aa_7 na_7 ca_7)]) Try.func99 rfl rfl ⟨rfl, rfl, rfl, trivial⟩ (fun w hlt => ?_)
 unfold store_put at hx
 refine ZG (ZB (JL.box rfl rfl (fun b_8 hb_8 => JL.box rfl rfl (fun b_9 hb_9 => JL.alloc Z50 rfl (fun b_10 hb_10 => JL.alloc Z28 rfl (fun b_11 hb_11 => ZA rfl rfl (ZH rfl) (ZD (ZC (ZG (ZG (ZB ?_)))))))))))
 refine ZA rfl rfl (R.fa F50_1 rfl) (ZA rfl rfl (Zi 3 S45 rfl rfl rfl) ?_)
 obtain ⟨x_12, hr_13, hx⟩ := ZM hx
 refine ZS (vs := [_]) (args := [_]) (K := []) (rst := [_, _, _, _]) E140 rfl rfl rfl ZK (space_Take_ok p_1.Space _ ha_4 _ hr_13) rfl (fun u_14 Ku_14 Hu_14 hRu_14 hleu_14 hfu_14 => ?_)
 obtain ⟨ar_15, nr_15, cr_15, Kr_15, rfl, rfl, rfl, hr_15, hnewr_15, -⟩ := hRu_14
 replace hr_15 := (RowOf.base (Zc (H2 := New H H) RU8.const hr_15) (fun p hp => (hfu_14 p (Zg 0 rfl hp)).resolve_left (hnewr_15 p hp)))
 refine ZA rfl rfl (ZF rfl) (ZA rfl rfl (R.extract rfl rfl) (ZA rfl rfl (R.extract rfl rfl) (ZA rfl rfl (R.extract rfl rfl) (ZA rfl rfl (R.fa F50_1 rfl) (ZN 2 S45 rfl rfl rfl rfl rfl (Nat.le_of_ble_eq_true rfl) (ZA rfl rfl (R.fa F28_0 rfl) (ZN 3 S3 rfl rfl rfl rfl rfl (Nat.le_of_ble_eq_true rfl) (ZA rfl rfl (ZH rfl) (ZD (ZC (ZG ?_)))))))))))
 refine ZB (ZA rfl rfl (ZF rfl) (ZA rfl rfl (R.neq_i rfl rfl) (ZD (ZC (ZU rfl (fun c_16 => ?_) (fun c_16 => ?_))))))
 ·
  replace hx := ZW c_16 hx
  refine ZG (ZB (ZA rfl rfl (R.bldP (vs := []) (cs := [.slice none 0 0, .slice none 0 0, .slice none 0 0, .int .u32 ((0 : UInt32).toNat : Int), .int .u32 ((0 : UInt32).toNat : Int)]) Z50 B50 rfl rfl rfl) (ZA rfl rfl (R.bldP (vs := []) (cs := [.int .i64 0, .int .u32 ((0 : UInt32).toNat : Int), .int .u32 ((0 : UInt32).toNat : Int), .int .u32 ((0 : UInt32).toNat : Int), .int .u32 ((0 : UInt32).toNat : Int)]) Z28 B28 rfl rfl rfl) (ZA rfl rfl (ZF rfl) (ZN 2 S50 rfl rfl rfl rfl rfl (Nat.le_of_ble_eq_true rfl) (ZN 1 S28 rfl rfl rfl rfl rfl (Nat.le_of_ble_eq_true rfl) (ZA rfl rfl (ZH rfl) (ZD (ZC (ZV (ZR ?_)))))))))))
  refine Zn (Zn (ZT (vs := [.agg #[.slice none 0 0, .slice none 0 0, .slice none 0 0, .int .u32 ((0 : UInt32).toNat : Int), .int .u32 ((0 : UInt32).toNat : Int)], .agg #[.int .i64 0, .int .u32 ((0 : UInt32).toNat : Int), .int .u32 ((0 : UInt32).toNat : Int), .int .u32 ((0 : UInt32).toNat : Int), .int .u32 ((0 : UInt32).toNat : Int)], .int .i64 x_12.2.2]) (K := [_, _]) (rst := [_, _, _, _, _]) (.inl rfl) rfl rfl (Zf 4 rfl rfl S50 (Zf 3 rfl rfl S28 (ZQ rfl rfl))) (Za 0 rfl (Za 0 rfl ZK)) ?_))
  obtain rfl := Option.some.inj hx
  exact ⟨none, 0, 0, none, 0, 0, [], none, 0, 0, [], rfl, rfl, (IsSlice.nil _ _ _), (Zb _ _ _ _ _), (fun p hp => by cases hp), (Zb _ _ _ _ _), (fun p hp => by cases hp), trivial⟩
 ·
  replace hx := ZX c_16 hx
  refine JC.skip (ZC (ZG (ZG (ZB (ZA rfl rfl (R.fa F50_0 rfl) (ZA rfl rfl (Z1 4 (vs := [.slice aa_2 na_2 ca_2, .slice aa_3 na_3 ca_3]) S25 rfl rfl rfl rfl) (ZA rfl rfl (R.fa F28_0 rfl) (ZA rfl rfl (Zi 3 S3 rfl rfl rfl) (ZA rfl rfl (ZF rfl) ?_)))))))))
  obtain ⟨x_17, hr_18, hx⟩ := ZM hx
  refine ZS (vs := [_, _, _]) (args := [_, _, _]) (K := []) (rst := [_, _, _, _, _]) E38 rfl rfl rfl ZK (dev_Write_ok (Disk.mk p_1.Disk.Blocks p_1.Disk.Waits) x_12.2.1 p_6 _ ha_2 ha_3 ha_7 _ hr_18) rfl (fun u_19 Ku_19 Hu_19 hRu_19 hleu_19 hfu_19 => ?_)
  obtain ⟨az_20, nz_20, cz_20, ar_21, nr_21, cr_21, Kr_21, rfl, rfl, hz_20, hr_21, hnewr_21, -⟩ := hRu_19
  replace hr_21 := (RowOf.base (RowOf.mono R_Write.mono (New.call (Hle.refl _)) hr_21) (fun p hp => (hfu_19 p (Zg 0 rfl hp)).resolve_left (hnewr_21 p hp)))
  replace hz_20 := IsSlice.mono (RSl.mono RU8.mono) (New.call (Hle.refl _)) hz_20
  refine ZA rfl rfl (ZF rfl) (ZA rfl rfl (R.extract rfl rfl) (ZA rfl rfl (R.extract rfl rfl) (ZA rfl rfl (R.fa F50_0 rfl) (ZN 3 S25 rfl rfl rfl rfl rfl (Nat.le_of_ble_eq_true rfl) (ZA rfl rfl (ZH rfl) (ZD (ZC (ZG (ZB (ZA rfl rfl (ZF rfl) (ZA rfl rfl (R.neq_i rfl rfl) ?_)))))))))))
  refine ZD (ZC (ZU rfl (fun c_22 => ?_) (fun c_22 => ?_)))
  ·
   replace hx := ZW c_22 hx
   refine ZG (ZB (ZA rfl rfl (R.bldP (vs := []) (cs := [.slice none 0 0, .slice none 0 0, .slice none 0 0, .int .u32 ((0 : UInt32).toNat : Int), .int .u32 ((0 : UInt32).toNat : Int)]) Z50 B50 rfl rfl rfl) (ZA rfl rfl (R.bldP (vs := []) (cs := [.int .i64 0, .int .u32 ((0 : UInt32).toNat : Int), .int .u32 ((0 : UInt32).toNat : Int), .int .u32 ((0 : UInt32).toNat : Int), .int .u32 ((0 : UInt32).toNat : Int)]) Z28 B28 rfl rfl rfl) (ZA rfl rfl (ZF rfl) (ZN 3 S50 rfl rfl rfl rfl rfl (Nat.le_of_ble_eq_true rfl) (ZN 2 S28 rfl rfl rfl rfl rfl (Nat.le_of_ble_eq_true rfl) (ZA rfl rfl (ZH rfl) (ZD (ZC (ZV (ZR ?_)))))))))))
   refine Zn (Zn (ZT (vs := [.agg #[.slice none 0 0, .slice none 0 0, .slice none 0 0, .int .u32 ((0 : UInt32).toNat : Int), .int .u32 ((0 : UInt32).toNat : Int)], .agg #[.int .i64 0, .int .u32 ((0 : UInt32).toNat : Int), .int .u32 ((0 : UInt32).toNat : Int), .int .u32 ((0 : UInt32).toNat : Int), .int .u32 ((0 : UInt32).toNat : Int)], .int .i64 x_17.2]) (K := [_, _]) (rst := [_, _, _, _, _, _]) (.inl rfl) rfl rfl (Zf 5 rfl rfl S50 (Zf 4 rfl rfl S28 (ZQ rfl rfl))) (Za 0 rfl (Za 0 rfl ZK)) ?_))
   obtain rfl := Option.some.inj hx
   exact ⟨none, 0, 0, none, 0, 0, [], none, 0, 0, [], rfl, rfl, (IsSlice.nil _ _ _), (Zb _ _ _ _ _), (fun p hp => by cases hp), (Zb _ _ _ _ _), (fun p hp => by cases hp), trivial⟩
  ·
   replace hx := ZX c_22 hx
   refine JC.skip (ZC (ZG (JC.draw (so := [_, _, _, _, _]) 8 rfl Mixed ⟨⟨0, rfl⟩, ⟨1, rfl⟩, ⟨2, rfl⟩, ⟨4, rfl⟩, ⟨5, rfl⟩, trivial⟩ (JA.val ⟨by kernel_rfl, by kernel_rfl⟩ (ZJ _) (i := 0) rfl ⟨by kernel_rfl, by kernel_rfl, rfl⟩ trivial (ZI (Hle.refl _) ⟨⟨0, rfl⟩, ⟨1, rfl⟩, ⟨2, rfl⟩, ⟨4, rfl⟩, ⟨5, rfl⟩, trivial⟩) (R.fa F50_2 rfl) rfl (JA.val ⟨by kernel_rfl, by kernel_rfl⟩ (ZJ _) (i := 1) rfl ⟨by kernel_rfl, by kernel_rfl, rfl⟩ trivial (ZI (Hle.refl _) ⟨⟨0, rfl⟩, ⟨1, rfl⟩, ⟨2, rfl⟩, ⟨4, rfl⟩, ⟨5, rfl⟩, trivial⟩) (Zi 4 S26 rfl rfl rfl) rfl (JA.val ⟨by kernel_rfl, by kernel_rfl⟩ (ZJ _) (i := 2) rfl ⟨by kernel_rfl, by kernel_rfl, rfl⟩ trivial (ZI (Hle.refl _) ⟨⟨0, rfl⟩, ⟨1, rfl⟩, ⟨2, rfl⟩, ⟨4, rfl⟩, ⟨5, rfl⟩, trivial⟩) (R.fa F50_3 rfl) rfl (JA.val ⟨by kernel_rfl, by kernel_rfl⟩ (ZJ _) (i := 3) rfl ⟨by kernel_rfl, by kernel_rfl, rfl⟩ trivial (ZI (Hle.refl _) ⟨⟨0, rfl⟩, ⟨1, rfl⟩, ⟨2, rfl⟩, ⟨4, rfl⟩, ⟨5, rfl⟩, trivial⟩) (Zi 4 S26 rfl rfl rfl) rfl (JA.val ⟨by kernel_rfl, by kernel_rfl⟩ (ZJ _) (i := 4) rfl ⟨by kernel_rfl, by kernel_rfl, rfl⟩ trivial (ZI (Hle.refl _) ⟨⟨0, rfl⟩, ⟨1, rfl⟩, ⟨2, rfl⟩, ⟨4, rfl⟩, ⟨5, rfl⟩, trivial⟩) (R.fa F50_2 rfl) rfl (JA.one (i := 5) (by kernel_rfl) (ZZ rfl trivial rfl (fun K hK => ZN 3 S26 rfl rfl rfl rfl rfl (Nat.le_of_ble_eq_true rfl) ?_)))))))))))
   refine ZD (hK _ _ _ (ZI (Hle.refl _) ⟨⟨0, rfl⟩, ⟨1, rfl⟩, ⟨2, rfl⟩, ⟨4, rfl⟩, ⟨5, rfl⟩, trivial⟩) (JA.val ⟨by kernel_rfl, by kernel_rfl⟩ (ZJ _) (i := 6) rfl ⟨by kernel_rfl, by kernel_rfl, rfl⟩ trivial (ZI (Hle.refl _) ⟨⟨0, rfl⟩, ⟨1, rfl⟩, ⟨2, rfl⟩, ⟨4, rfl⟩, ⟨5, rfl⟩, trivial⟩) (R.fa F50_3 rfl) rfl (JA.one (i := 7) (by kernel_rfl) (ZZ rfl trivial rfl (fun K hK => ZN 3 S26 rfl rfl rfl rfl rfl (Nat.le_of_ble_eq_true rfl) (ZD (hK _ _ _ (ZI (Hle.refl _) ⟨⟨0, rfl⟩, ⟨1, rfl⟩, ⟨2, rfl⟩, ⟨4, rfl⟩, ⟨5, rfl⟩, trivial⟩) (Zt (by kernel_rfl) (ZC (JC.tidyP (l' := [(2, .slice aa_7 na_7 ca_7), (4, .pointer (some ⟨b_9, 0, none⟩)), (6, .pointer (some ⟨b_10, 0, none⟩)), (7, .pointer (some ⟨b_11, 0, none⟩)), (8, .int .i64 x_17.2)]) (own' := [Kr_21, Kr_15, [(b_11, .cells #[.int .i64 0, .int .u32 ((0 : UInt32).toNat : Int), .int .u32 ((0 : UInt32).toNat : Int), .int .u32 ((0 : UInt32).toNat : Int), .int .u32 ((0 : UInt32).toNat : Int)] 28 (0, 0))], [(b_10, .cells #[.slice az_20 nz_20 cz_20, .slice ar_21 nr_21 cr_21, .slice ar_15 nr_15 cr_15, .int .u32 (p_1.Epoch.toNat : Int), .int .u32 (p_1.Count.toNat : Int)] 50 (0, 0))], [(b_9, .cells #[.int .i64 x_12.2.1, .int .u32 (p_5.Birth.toNat : Int), .int .u32 (p_5.Iv.toNat : Int), .int .u32 (p_5.Tag.toNat : Int), .int .u32 (p_5.Sum.toNat : Int)] 28 (0, 0))]]) (rst := [_]) ⟨rfl, rfl, rfl, rfl, rfl, trivial⟩ (Za 0 rfl (Za 0 rfl (Za 0 rfl (Za 0 rfl (Za 0 rfl ZK))))) (ZG ?_)))))))))))
   refine ZB (ZA rfl rfl (ZF rfl) ?_)
   obtain ⟨x_23, hr_24, hx⟩ := ZM hx
   refine ZS (vs := [_]) (args := [_]) (K := []) (rst := [_, _, _, _, _]) E74 rfl rfl rfl ZK (mix_Sum_ok p_6 _ (ha_7.mono RU8.mono hleu_19) _ hr_24) rfl (fun u_25 Ku_25 Hu_25 hRu_25 hleu_25 hfu_25 => ?_)
   obtain ⟨rfl, rfl, -⟩ := hRu_25
   refine ZA rfl rfl (R.fa F28_4 rfl) (ZN 4 S26 rfl rfl rfl rfl rfl (Nat.le_of_ble_eq_true rfl) (ZD (ZC (ZG (JC.draw (so := [_, _, _]) 5 rfl Mixed ⟨⟨0, rfl⟩, ⟨1, rfl⟩, ⟨4, rfl⟩, trivial⟩ (JA.val ⟨by kernel_rfl, by kernel_rfl⟩ (ZJ _) (i := 1) rfl ⟨by kernel_rfl, by kernel_rfl, rfl⟩ trivial (ZI (Hle.refl _) ⟨⟨0, rfl⟩, ⟨1, rfl⟩, ⟨4, rfl⟩, trivial⟩) (Z1 2 (vs := [.int .i64 x_12.2.1, .int .u32 (p_5.Birth.toNat : Int), .int .u32 (p_5.Iv.toNat : Int), .int .u32 (p_5.Tag.toNat : Int), .int .u32 (x_23.toNat : Int)]) S28 rfl rfl rfl rfl) rfl (JA.one (i := 0) (by kernel_rfl) (ZZ rfl trivial rfl (fun K hK => ZA rfl rfl (Z1 3 (vs := [.slice az_20 nz_20 cz_20, .slice ar_21 nr_21 cr_21, .slice ar_15 nr_15 cr_15, .int .u32 (p_1.Epoch.toNat : Int), .int .u32 (p_1.Count.toNat : Int)]) S50 rfl rfl rfl rfl) (ZD (hK _ _ _ (ZI (Hle.refl _) ⟨⟨0, rfl⟩, ⟨1, rfl⟩, ⟨4, rfl⟩, trivial⟩) ?_)))))))))))
   refine JA.one (i := 2) (by kernel_rfl) (ZZ rfl trivial rfl (fun K hK => ZN 3 S50 rfl rfl rfl rfl rfl (Nat.le_of_ble_eq_true rfl) (ZD (hK _ _ _ (ZI (Hle.refl _) ⟨⟨0, rfl⟩, ⟨1, rfl⟩, ⟨4, rfl⟩, trivial⟩) (JA.one (i := 3) (by kernel_rfl) (ZZ rfl trivial rfl (fun K hK => ZN 2 S28 rfl rfl rfl rfl rfl (Nat.le_of_ble_eq_true rfl) (ZD (hK _ _ _ (ZI (Hle.refl _) ⟨⟨0, rfl⟩, ⟨1, rfl⟩, ⟨4, rfl⟩, trivial⟩) (JA.val ⟨by kernel_rfl, by kernel_rfl⟩ (ZJ _) (i := 4) rfl ⟨by kernel_rfl, by kernel_rfl, rfl⟩ trivial (ZI (Hle.refl _) ⟨⟨0, rfl⟩, ⟨1, rfl⟩, ⟨4, rfl⟩, trivial⟩) (ZH rfl) rfl (Zt (by kernel_rfl) ?_)))))))))))
   refine ZC (ZV (ZT (vs := [.agg #[.slice az_20 nz_20 cz_20, .slice ar_21 nr_21 cr_21, .slice ar_15 nr_15 cr_15, .int .u32 (p_1.Epoch.toNat : Int), .int .u32 (p_1.Count.toNat : Int)], .agg #[.int .i64 x_12.2.1, .int .u32 (p_5.Birth.toNat : Int), .int .u32 (p_5.Iv.toNat : Int), .int .u32 (p_5.Tag.toNat : Int), .int .u32 (x_23.toNat : Int)], .int .i64 0]) (K := [_, _]) (rst := [_, _, _]) (.inl rfl) rfl rfl (Zf 3 rfl rfl S50 (Zf 2 rfl rfl S28 (ZQ rfl rfl))) (Za 0 rfl (Za 0 rfl ZK)) ?_))
   obtain rfl := Option.some.inj hx
   exact ⟨az_20, nz_20, cz_20, ar_21, nr_21, cr_21, Kr_21, ar_15, nr_15, cr_15, Kr_15, rfl, rfl, (hz_20.mono (RSl.mono RU8.mono) (New.mono hleu_25)), (Zd (Nat.zero_le _) (hr_21.mono R_Write.mono (New.mono hleu_25))), (Zx (hr_21.mono R_Write.mono (New.mono hleu_25)) hlt), (Zd (Nat.zero_le _) (hr_15.mono RU8.mono (New.mono (hleu_19.trans hleu_25)))), (Zx (hr_15.mono RU8.mono (New.mono (hleu_19.trans hleu_25))) hlt), trivial⟩
end Go.Proofs.Ytdoebbgjjlicjaa
