import Derived.Test.YtdoebbgjjlicjaaW2p1
/- walks: what the code computes, function by function. -/
namespace Go.Proofs.Ytdoebbgjjlicjaa
open Go.Ow Go.RowKit Go.Proofs
set_option linter.unusedVariables false
set_option linter.unusedSimpArgs false
set_option maxHeartbeats 8000000 in
theorem dev_left_ok (p_1 : Disk) (H : Heaplet) {aoa_2 : Option Addr} {na_2 : Nat} {capa_2 : Nat} {aoa_3 : Option Addr} {na_3 : Nat} {capa_3 : Nat} (ha_2 : IsSlice H (RSl RU8 1) 1 (.slice aoa_2 na_2 capa_2) p_1.Blocks) (ha_3 : IsSlice H R_Write 2 (.slice aoa_3 na_3 capa_3) p_1.Waits) (r : Disk) (hx : dev_left p_1 = some r) :
  Does Try.prog 81 #[.agg #[.slice aoa_2 na_2 capa_2, .slice aoa_3 na_3 capa_3], .func (.func 82) #[] #[]] [] H (fun u K' H' => ∃ ao0 : Option Addr, ∃ n0 : Nat, ∃ cap0 : Nat, ∃ K0 : Own, ∃ ao1 : Option Addr, ∃ n1 : Nat, ∃ cap1 : Nat, ∃ K1 : Own, u = .agg #[.slice ao0 n0 cap0, .slice ao1 n1 cap1] ∧ K' = [K0, K1] ∧ Pcs 0 5 45 (.slice ao0 n0 cap0) r.Blocks K0 ∧ (∀ p ∈ K0, p.1 ∉ ids (List.flatten [])) ∧ RowOf (New H H') R_Write 0 47 2 (.slice ao1 n1 cap1) r.Waits K1 ∧ (∀ p ∈ K1, p.1 ∉ ids (List.flatten [])) ∧ True) := by
 refine Does.enterL (vs := [.agg #[.slice aoa_2 na_2 capa_2, .slice aoa_3 na_3 capa_3], .func (.func 82) #[] #[]]) (l := [(0, .agg #[.slice aoa_2 na_2 capa_2, .slice aoa_3 na_3 capa_3]), (1, .func (.func 82) #[] #[])]) Try.func81 rfl rfl ⟨rfl, rfl, trivial⟩ (fun w hlt => ?_)
 unfold dev_left at hx
 refine JC.seq (JC.region (JL.box rfl rfl (fun b_4 hb_4 => JL.alloc Z25 rfl (fun b_5 hb_5 => JL.nil (JN.next (JC.seq ?_))))))
 obtain ⟨t_6, ht_8, hx⟩ := bnd_some hx
 refine JC.cut (fun l o g => ∃ aor_21 : Option Addr, ∃ nr_21 : Nat, ∃ capr_21 : Nat, ∃ Kr_21 : Own, l = [(1, .func (.func 82) #[] #[]), (2, .pointer (some ⟨b_4, 0, none⟩)), (4, .pointer (some ⟨b_5, 0, none⟩))] ∧ o = [[(b_4, .cells #[.slice aor_21 nr_21 capr_21, .slice aoa_3 na_3 capa_3] 25 (0, 0))], Kr_21, [(b_5, .cells #[.slice none 0 0, .slice none 0 0] 25 (0, 0))]] ∧ H = g ∧ RowOf H (RSl RU8 1) w.heap.size 45 1 (.slice aor_21 nr_21 capr_21) t_6 Kr_21) ?_ ?_
 ·
  rintro _ _ _ ⟨aor_21, nr_21, capr_21, Kr_21, rfl, rfl, rfl, hr_21⟩
  refine JN.next (JC.seq (JC.seq (JC.region (JL.val rfl rfl (R.ldoN 0 (vs := [.slice aor_21 nr_21 capr_21, .slice aoa_3 na_3 capa_3]) S25 rfl rfl rfl rfl) (JL.val rfl rfl (R.move rfl) ?_)))))
  obtain ⟨x_22, hr_23, hx⟩ := bnd_some hx
  refine JL.callC (vs := [_, _]) (args := [_, _]) (K := []) (rst := [_, _, _]) E118 rfl rfl rfl picks0 (dev_lasts_ok (Disk.mk t_6 p_1.Waits) _ ha_3 _ hr_23) rfl (fun u_24 Ku_24 Hu_24 hRu_24 hleu_24 hfu_24 => ?_)
  obtain ⟨aor_25, nr_25, capr_25, Kr_25, rfl, rfl, rfl, hr_25, hnewr_25, -⟩ := hRu_24
  replace hr_25 := (MapOf.base hr_25 (fun p hp => (hfu_24 p (mem_seg 0 rfl hp)).resolve_left (hnewr_25 p hp)))
  refine JL.rangeMapF 0 U166 rfl rfl hr_25 rfl (fun b_26 es_27 hK_28 hM_29 => ?_)
  subst hK_28
  refine JL.nil (JN.next ?_)
  obtain ⟨m_30, hm_31, hin_32, hx⟩ := layR_some hx
  refine JC.block (JC.loop (ι := Array Nat × (List (List UInt8)) × Own) (fun _ => [(2, .pointer (some ⟨b_4, 0, none⟩)), (4, .pointer (some ⟨b_5, 0, none⟩)), (16, .pointer (some ⟨b_26, 0, none⟩))]) (fun i => [[(b_26, .mapIter (some nr_25) (x_22).length i.1 (x_22).length)], [(nr_25, .map es_27 (x_22).length)], [(b_4, .cells #[.slice aor_21 nr_21 capr_21, .slice aoa_3 na_3 capa_3] 25 (0, 0))], i.2.2, [(b_5, .cells #[.slice none 0 0, .slice none 0 0] 25 (0, 0))]]) (fun _ => H) (fun i => i.1.toList.Nodup ∧ (∀ q ∈ i.1.toList, q < (x_22).length) ∧ Laid (fun y : Write => y.Data) t_6 x_22 i.1.toList i.2.1 ∧ RowOf H (RSl RU8 1) w.heap.size 45 1 (.slice aor_21 nr_21 capr_21) i.2.1 i.2.2) (fun i => (x_22).length - i.1.size) (#[], t_6, Kr_21) ⟨by simp, by simp, Laid.start _ _ _, hr_21⟩ ⟨rfl, rfl, rfl, trivial⟩ rfl rfl ?_)
  rintro ⟨seen_33, B_34, K_35⟩ ⟨hn_36, hlt_37, hL_38, hr_39⟩
  dsimp only at hn_36 hlt_37 hL_38 hr_39 ⊢
  refine JC.seq (JC.region (JL.nextMap 0 1 rfl rfl rfl hM_29 (Nat.le_refl _) rfl (fun he_40 => ?_) (fun n_41 k_42 y_43 cs_44 hMn_45 hen_46 hns_47 hRy_48 => ?_)))
  ·
   refine JL.val rfl rfl (R.extract rfl rfl) (JL.nil (JN.next (JC.seq (JC.condF rfl (JC.exit (JN.passX (JN.passX (JN.exitSame ?_))))))))
   obtain rfl := hm_31.trans (hL_38.full hM_29.nodup hin_32 he_40).symm
   refine JN.forget 1 (JN.forget 0 (JN.next (JC.seq (JC.region (JL.val rfl rfl (R.fa F25_1 rfl) (JL.store 0 S23 rfl rfl rfl rfl rfl (Nat.le_of_ble_eq_true rfl) (JL.nil (JN.next (JC.seq (JC.region (JL.val rfl rfl (R.ldoN 0 (vs := [.slice aor_21 nr_21 capr_21, .slice none 0 0]) S25 rfl rfl rfl rfl) ?_)))))))))))
   refine JL.pub 1 (RSl.mono RU8.mono) rfl hr_39 (Nat.le_refl _) (fun H_49 hleH_49 hsH_49 => JL.forget 1 ?_)
   obtain ⟨x_50, hr_51, hx⟩ := bnd_some hx
   refine JL.callC (vs := [_]) (args := [_]) (K := []) (rst := [_, _]) E70 rfl rfl rfl picks0 (dev_Twin_ok (Disk.mk m_30 ([] : List Write)) _ hsH_49 (IsSlice.nil _ _ _) _ hr_51) rfl (fun u_52 Ku_52 Hu_52 hRu_52 hleu_52 hfu_52 => ?_)
   obtain ⟨aor_53, nr_53, capr_53, Kr_53, aor_54, nr_54, capr_54, Kr_54, rfl, rfl, hr_53, hnewr_53, hr_54, hnewr_54, -⟩ := hRu_52
   replace hr_53 := (Pcs.base hr_53 (fun p hp => (hfu_52 p (mem_seg 0 rfl hp)).resolve_left (hnewr_53 p hp)))
   replace hr_54 := (RowOf.base (RowOf.mono R_Write.mono (New.call hleH_49) hr_54) (fun p hp => (hfu_52 p (mem_seg 1 rfl hp)).resolve_left (hnewr_54 p hp)))
   refine JL.store 3 S25 rfl rfl rfl rfl rfl (Nat.le_of_ble_eq_true rfl) (JL.nil (JN.next (JC.ret (JN.outP (vs := [.agg #[.slice aor_53 nr_53 capr_53, .slice aor_54 nr_54 capr_54]]) (K := [_, _]) (rst := [_, _]) (.inl rfl) rfl rfl (Res.cellN 3 rfl rfl S25 rfl) (picks 0 rfl (picks 0 rfl picks0)) ?_))))
   obtain rfl := Option.some.inj hx
   exact ⟨aor_53, nr_53, capr_53, Kr_53, aor_54, nr_54, capr_54, Kr_54, rfl, rfl, (Pcs.weak (Nat.zero_le _) hr_53), (newP_ids hr_53 hlt), (RowOf.weak (Nat.zero_le _) hr_54), (new_ids hr_54 hlt), trivial⟩
  ·
   have hs_49 := seen_more hn_36 hlt_37 (List.getElem?_eq_some_iff.1 hMn_45).1 hns_47
   refine JL.val rfl rfl (R.extract rfl rfl) (JL.nil (JN.next (JC.seq (JC.condT rfl (JC.skip (JN.next (JC.block (JC.seq (JC.region ?_)))))))))
   obtain ⟨v_50, rfl, hs_51⟩ := hRy_48
   obtain ⟨aov_50, capv_50, rfl⟩ := IsSlice.val hs_51
   refine JL.entryMap 0 1 rfl rfl rfl hM_29 hen_46 rfl ?_
   have hp_53 := hin_32 _ (List.mem_of_getElem? hMn_45)
   rw [← hL_38.len] at hp_53
   clear hx
   have hx : (chk (0 ≤ k_42 ∧ k_42.toNat < B_34.length) <| setI B_34 k_42 y_43.Data fun m_60 =>  some m_60) = some (B_34.set k_42.toNat y_43.Data) := lay_step hp_53
   refine JL.val rfl rfl (R.extract rfl rfl) (JL.val rfl rfl (R.extract rfl rfl) (JL.alloc Z47 rfl (fun b_55 hb_55 => JL.val rfl rfl (R.assign rfl) (JL.store 0 S47 rfl rfl rfl rfl rfl (Nat.le_of_ble_eq_true rfl) (JL.nil (JN.next (JC.region (JL.val rfl rfl (R.fa F25_0 rfl) (JL.val rfl rfl (R.ldo 3 S22 rfl rfl rfl) (JL.val rfl rfl (R.move rfl) (JL.val rfl rfl (R.fa F47_1 rfl) ?_)))))))))))
   refine JL.val rfl rfl (R.ldo 0 S45 rfl rfl rfl) ?_
   obtain ⟨hp_56, hx⟩ := chk_some hx
   obtain ⟨b_57, o_58, hE_59⟩ := RowOf.place hr_39 hp_56
   refine JL.val rfl rfl (R.ix U22 S45 rfl rfl hE_59) ?_
   obtain ⟨m_60, hm_61, hi_62, hx⟩ := setI_some hx
   refine JL.stE 4 (k := k_42) (y := y_43.Data) S45 rfl hr_39 rfl hE_59 rfl rfl (⟨_, rfl, hs_51⟩) RSl.one hm_61 (fun Kr_63 hr_63 hlr_63 => JL.nil (JN.blkN ?_))
   obtain rfl := Option.some.inj hx
   refine JN.forget 0 (JN.front 4 rfl (JN.front 4 rfl (JN.front 4 rfl (JN.front 4 rfl (JN.front 4 rfl ?_)))))
   exact JN.again (i := (seen_33, B_34, K_35)) (seen_33.push n_41, B_34.set k_42.toNat y_43.Data, Kr_63) ⟨by simp only [Array.toList_push]; exact List.nodup_append.2 ⟨hn_36, by simp, fun a ha b hb e => by simp at hb; subst hb; subst e; exact hns_47 ha⟩, by simp only [Array.toList_push]; intro q hq; rcases List.mem_append.1 hq with h | h; exact hlt_37 q h; simp at h; subst h; exact (List.getElem?_eq_some_iff.1 hMn_45).1, hL_38.step (f := (fun y : Write => y.Data)) hM_29.nodup hin_32 hMn_45 _ (fun q => by simp), hr_63⟩ (by simp only [Array.size_push]; simp only [Array.length_toList] at hs_49; omega) ⟨rfl, rfl, rfl, trivial⟩ rfl rfl
 ·
  have hxo_7 := hx; clear hx; have hx := ht_8; clear ht_8
  refine JC.draw (so := [_]) 7 rfl Mixed ⟨⟨0, rfl⟩, trivial⟩ (JA.val ⟨by kernel_rfl, by kernel_rfl⟩ (calm_only _) (i := 0) rfl ⟨by kernel_rfl, by kernel_rfl, rfl⟩ trivial (stab_of (Hle.refl _) ⟨⟨0, rfl⟩, trivial⟩) (R.fa F25_0 rfl) rfl (JA.val ⟨by kernel_rfl, by kernel_rfl⟩ (calm_only _) (i := 3) rfl ⟨by kernel_rfl, by kernel_rfl, rfl⟩ trivial (stab_of (Hle.refl _) ⟨⟨0, rfl⟩, trivial⟩) (R.fa F25_1 rfl) rfl (JA.two (i := 1) (j := 4) (by kernel_rfl) ?_ ?_)))
  ·
   refine JO.step rfl trivial rfl (fun K hK => JL.val rfl rfl (R.ldo 1 S22 rfl rfl rfl) (JL.nil (hK _ _ _ (stab_of (Hle.refl _) ⟨⟨0, rfl⟩, trivial⟩) (JA.two (i := 2) (j := 4) (by kernel_rfl) ?_ ?_))))
   ·
    refine JO.step rfl trivial rfl (fun K hK => ?_)
    obtain ⟨x_9, hr_10, hx⟩ := bnd_some hx
    refine JL.callC (vs := [_]) (args := [_]) (K := []) (rst := [_, _]) E117 rfl rfl rfl picks0 (slices_Clone_byte_L_ok p_1.Blocks _ ha_2 _ hr_10) rfl (fun u_11 Ku_11 Hu_11 hRu_11 hleu_11 hfu_11 => ?_)
    obtain ⟨aor_12, nr_12, capr_12, Kr_12, rfl, rfl, rfl, hr_12, hnewr_12, -⟩ := hRu_11
    replace hr_12 := (RowOf.base hr_12 (fun p hp => (hfu_11 p (mem_seg 0 rfl hp)).resolve_left (hnewr_12 p hp)))
    refine JL.nil (hK _ _ _ (stab_of (Hle.refl _) ⟨⟨1, rfl⟩, trivial⟩) (JA.one (i := 4) (by kernel_rfl) (JO.step rfl trivial rfl (fun K hK => JL.val rfl rfl (R.ldo 2 S23 rfl rfl rfl) (JL.nil (hK _ _ _ (stab_of (Hle.refl _) ⟨⟨1, rfl⟩, trivial⟩) (JA.val ⟨by kernel_rfl, by kernel_rfl⟩ (calm_only _) (i := 5) rfl ⟨by kernel_rfl, by kernel_rfl, rfl⟩ trivial (stab_of (Hle.refl _) ⟨⟨1, rfl⟩, trivial⟩) (R.bldP (vs := [(0, .slice aor_12 nr_12 capr_12), (1, .slice aoa_3 na_3 capa_3)]) (cs := [.slice aor_12 nr_12 capr_12, .slice aoa_3 na_3 capa_3]) Z25 B25 rfl rfl rfl) rfl (JA.one (i := 6) (by kernel_rfl) (JO.step rfl trivial rfl (fun K hK => JL.store 2 S25 rfl rfl rfl rfl rfl (Nat.le_of_ble_eq_true rfl) (JL.nil ?_)))))))))))
    refine hK _ _ _ (stab_of (Hle.refl _) ⟨⟨1, rfl⟩, trivial⟩) (JA.doneN (by kernel_rfl) ?_)
    obtain rfl := Option.some.inj hx
    refine JN.front 1 rfl (JN.front 1 rfl (JN.front 2 rfl ?_))
    exact JN.cut ⟨aor_12, nr_12, capr_12, Kr_12, rfl, rfl, rfl, hr_12⟩ ⟨rfl, rfl, rfl, trivial⟩ rfl rfl
   ·
    refine JO.step rfl trivial rfl (fun K hK => JL.val rfl rfl (R.ldo 1 S23 rfl rfl rfl) (JL.nil (hK _ _ _ (stab_of (Hle.refl _) ⟨⟨0, rfl⟩, trivial⟩) (JA.one (i := 2) (by kernel_rfl) (JO.step rfl trivial rfl (fun K hK => ?_))))))
    obtain ⟨x_13, hr_14, hx⟩ := bnd_some hx
    refine JL.callC (vs := [_]) (args := [_]) (K := []) (rst := [_, _]) E117 rfl rfl rfl picks0 (slices_Clone_byte_L_ok p_1.Blocks _ ha_2 _ hr_14) rfl (fun u_15 Ku_15 Hu_15 hRu_15 hleu_15 hfu_15 => ?_)
    obtain ⟨aor_16, nr_16, capr_16, Kr_16, rfl, rfl, rfl, hr_16, hnewr_16, -⟩ := hRu_15
    replace hr_16 := (RowOf.base hr_16 (fun p hp => (hfu_15 p (mem_seg 0 rfl hp)).resolve_left (hnewr_16 p hp)))
    refine JL.nil (hK _ _ _ (stab_of (Hle.refl _) ⟨⟨1, rfl⟩, trivial⟩) (JA.val ⟨by kernel_rfl, by kernel_rfl⟩ (calm_only _) (i := 5) rfl ⟨by kernel_rfl, by kernel_rfl, rfl⟩ trivial (stab_of (Hle.refl _) ⟨⟨1, rfl⟩, trivial⟩) (R.bldP (vs := [(0, .slice aor_16 nr_16 capr_16), (1, .slice aoa_3 na_3 capa_3)]) (cs := [.slice aor_16 nr_16 capr_16, .slice aoa_3 na_3 capa_3]) Z25 B25 rfl rfl rfl) rfl (JA.one (i := 6) (by kernel_rfl) (JO.step rfl trivial rfl (fun K hK => JL.store 2 S25 rfl rfl rfl rfl rfl (Nat.le_of_ble_eq_true rfl) (JL.nil (hK _ _ _ (stab_of (Hle.refl _) ⟨⟨1, rfl⟩, trivial⟩) (JA.doneN (by kernel_rfl) ?_))))))))
    obtain rfl := Option.some.inj hx
    refine JN.front 1 rfl (JN.front 1 rfl (JN.front 2 rfl ?_))
    exact JN.cut ⟨aor_16, nr_16, capr_16, Kr_16, rfl, rfl, rfl, hr_16⟩ ⟨rfl, rfl, rfl, trivial⟩ rfl rfl
  ·
   refine JO.step rfl trivial rfl (fun K hK => JL.val rfl rfl (R.ldo 1 S23 rfl rfl rfl) (JL.nil (hK _ _ _ (stab_of (Hle.refl _) ⟨⟨0, rfl⟩, trivial⟩) (JA.one (i := 1) (by kernel_rfl) (JO.step rfl trivial rfl (fun K hK => JL.val rfl rfl (R.ldo 1 S22 rfl rfl rfl) (JL.nil (hK _ _ _ (stab_of (Hle.refl _) ⟨⟨0, rfl⟩, trivial⟩) (JA.one (i := 2) (by kernel_rfl) (JO.step rfl trivial rfl (fun K hK => ?_)))))))))))
   obtain ⟨x_17, hr_18, hx⟩ := bnd_some hx
   refine JL.callC (vs := [_]) (args := [_]) (K := []) (rst := [_, _]) E117 rfl rfl rfl picks0 (slices_Clone_byte_L_ok p_1.Blocks _ ha_2 _ hr_18) rfl (fun u_19 Ku_19 Hu_19 hRu_19 hleu_19 hfu_19 => ?_)
   obtain ⟨aor_20, nr_20, capr_20, Kr_20, rfl, rfl, rfl, hr_20, hnewr_20, -⟩ := hRu_19
   replace hr_20 := (RowOf.base hr_20 (fun p hp => (hfu_19 p (mem_seg 0 rfl hp)).resolve_left (hnewr_20 p hp)))
   refine JL.nil (hK _ _ _ (stab_of (Hle.refl _) ⟨⟨1, rfl⟩, trivial⟩) (JA.val ⟨by kernel_rfl, by kernel_rfl⟩ (calm_only _) (i := 5) rfl ⟨by kernel_rfl, by kernel_rfl, rfl⟩ trivial (stab_of (Hle.refl _) ⟨⟨1, rfl⟩, trivial⟩) (R.bldP (vs := [(0, .slice aor_20 nr_20 capr_20), (1, .slice aoa_3 na_3 capa_3)]) (cs := [.slice aor_20 nr_20 capr_20, .slice aoa_3 na_3 capa_3]) Z25 B25 rfl rfl rfl) rfl (JA.one (i := 6) (by kernel_rfl) (JO.step rfl trivial rfl (fun K hK => JL.store 2 S25 rfl rfl rfl rfl rfl (Nat.le_of_ble_eq_true rfl) (JL.nil (hK _ _ _ (stab_of (Hle.refl _) ⟨⟨1, rfl⟩, trivial⟩) (JA.doneN (by kernel_rfl) ?_))))))))
   obtain rfl := Option.some.inj hx
   refine JN.front 1 rfl (JN.front 1 rfl (JN.front 2 rfl ?_))
   exact JN.cut ⟨aor_20, nr_20, capr_20, Kr_20, rfl, rfl, rfl, hr_20⟩ ⟨rfl, rfl, rfl, trivial⟩ rfl rfl

set_option maxHeartbeats 8000000 in
theorem dev_Read_1_ok (p_2 : Disk) (H : Heaplet) {b_1 : Nat} {aoa_3 : Option Addr} {na_3 : Nat} {capa_3 : Nat} {aoa_4 : Option Addr} {na_4 : Nat} {capa_4 : Nat} (ha_3 : IsSlice H (RSl RU8 1) 1 (.slice aoa_3 na_3 capa_3) p_2.Blocks) (ha_4 : IsSlice H R_Write 2 (.slice aoa_4 na_4 capa_4) p_2.Waits) (r : Disk × Disk) (hx : dev_Read_1 p_2 = some r) :
  Does Try.prog 80 #[.pointer (some ⟨b_1, 0, none⟩)] [[(b_1, .cells #[.slice aoa_3 na_3 capa_3, .slice aoa_4 na_4 capa_4] 25 (0, 0))]] H (fun u K' H' => ∃ ao0 : Option Addr, ∃ n0 : Nat, ∃ cap0 : Nat, ∃ ao1 : Option Addr, ∃ n1 : Nat, ∃ cap1 : Nat, ∃ ao2 : Option Addr, ∃ n2 : Nat, ∃ cap2 : Nat, ∃ K2 : Own, ∃ ao3 : Option Addr, ∃ n3 : Nat, ∃ cap3 : Nat, ∃ K3 : Own, u = .agg #[.slice ao2 n2 cap2, .slice ao3 n3 cap3] ∧ K' = [[(b_1, .cells #[.slice ao0 n0 cap0, .slice ao1 n1 cap1] 25 (0, 0))], K2, K3] ∧ IsSlice H' (RSl RU8 1) 1 (.slice ao0 n0 cap0) r.2.Blocks ∧ IsSlice H' R_Write 2 (.slice ao1 n1 cap1) r.2.Waits ∧ Pcs 0 5 45 (.slice ao2 n2 cap2) r.1.Blocks K2 ∧ (∀ p ∈ K2, p.1 ∉ ids (List.flatten [[(b_1, .cells #[.slice aoa_3 na_3 capa_3, .slice aoa_4 na_4 capa_4] 25 (0, 0))]])) ∧ RowOf (New H H') R_Write 0 47 2 (.slice ao3 n3 cap3) r.1.Waits K3 ∧ (∀ p ∈ K3, p.1 ∉ ids (List.flatten [[(b_1, .cells #[.slice aoa_3 na_3 capa_3, .slice aoa_4 na_4 capa_4] 25 (0, 0))]])) ∧ True) := by
 refine Does.enterL (vs := [.pointer (some ⟨b_1, 0, none⟩)]) (l := [(0, .pointer (some ⟨b_1, 0, none⟩))]) Try.func80 rfl rfl ⟨rfl, trivial⟩ (fun w hlt => ?_)
 unfold dev_Read_1 at hx
 refine JC.seq (JC.region (JL.alloc Z25 rfl (fun b_5 hb_5 => JL.nil (JN.next (JC.seq (JC.region (JL.val rfl rfl (R.ldoN 1 (vs := [.slice aoa_3 na_3 capa_3, .slice aoa_4 na_4 capa_4]) S25 rfl rfl rfl rfl) ?_)))))))
 obtain ⟨x_6, hr_7, hx⟩ := bnd_some hx
 refine JL.callC (vs := [_, _]) (args := [_, _]) (K := []) (rst := [_, _]) E81 rfl rfl rfl picks0 (dev_left_ok p_2 _ ha_3 ha_4 _ hr_7) rfl (fun u_8 Ku_8 Hu_8 hRu_8 hleu_8 hfu_8 => ?_)
 obtain ⟨aor_9, nr_9, capr_9, Kr_9, aor_10, nr_10, capr_10, Kr_10, rfl, rfl, hr_9, hnewr_9, hr_10, hnewr_10, -⟩ := hRu_8
 replace hr_9 := (Pcs.base hr_9 (fun p hp => (hfu_8 p (mem_seg 0 rfl hp)).resolve_left (hnewr_9 p hp)))
 replace hr_10 := (RowOf.base (RowOf.mono R_Write.mono (New.call (Hle.refl _)) hr_10) (fun p hp => (hfu_8 p (mem_seg 1 rfl hp)).resolve_left (hnewr_10 p hp)))
 refine JL.store 2 S25 rfl rfl rfl rfl rfl (Nat.le_of_ble_eq_true rfl) (JL.nil (JN.next (JC.ret (JN.outP (vs := [.agg #[.slice aor_9 nr_9 capr_9, .slice aor_10 nr_10 capr_10]]) (K := [_, _, _]) (rst := [_]) (.inl rfl) rfl rfl (Res.cellN 2 rfl rfl S25 rfl) (picks 3 rfl (picks 0 rfl (picks 0 rfl picks0))) ?_))))
 obtain rfl := Option.some.inj hx
 exact ⟨aoa_3, na_3, capa_3, aoa_4, na_4, capa_4, aor_9, nr_9, capr_9, Kr_9, aor_10, nr_10, capr_10, Kr_10, rfl, rfl, (ha_3.mono (RSl.mono RU8.mono) hleu_8), (ha_4.mono R_Write.mono hleu_8), (Pcs.weak (Nat.zero_le _) hr_9), (newP_ids hr_9 hlt), (RowOf.weak (Nat.zero_le _) hr_10), (new_ids hr_10 hlt), trivial⟩

set_option maxHeartbeats 8000000 in
theorem dev_guarded_v2_ok (p_1 : Disk) (p_4 : Bool) (p_6 : Disk) (H : Heaplet) {aoa_2 : Option Addr} {na_2 : Nat} {capa_2 : Nat} {aoa_3 : Option Addr} {na_3 : Nat} {capa_3 : Nat} {b_5 : Nat} {aoa_7 : Option Addr} {na_7 : Nat} {capa_7 : Nat} {aoa_8 : Option Addr} {na_8 : Nat} {capa_8 : Nat} (ha_2 : IsSlice H (RSl RU8 1) 1 (.slice aoa_2 na_2 capa_2) p_1.Blocks) (ha_3 : IsSlice H R_Write 2 (.slice aoa_3 na_3 capa_3) p_1.Waits) (ha_7 : IsSlice H (RSl RU8 1) 1 (.slice aoa_7 na_7 capa_7) p_6.Blocks) (ha_8 : IsSlice H R_Write 2 (.slice aoa_8 na_8 capa_8) p_6.Waits) (r : Disk × Int × Disk) (hx : dev_guarded_v2 p_1 p_4 p_6 = some r) :
  Does Try.prog 68 #[.agg #[.slice aoa_2 na_2 capa_2, .slice aoa_3 na_3 capa_3], .bool p_4, .func (.func 80) #[] #[.pointer (some ⟨b_5, 0, none⟩)]] [[(b_5, .cells #[.slice aoa_7 na_7 capa_7, .slice aoa_8 na_8 capa_8] 25 (0, 0))]] H (fun u K' H' => ∃ ao0 : Option Addr, ∃ n0 : Nat, ∃ cap0 : Nat, ∃ ao1 : Option Addr, ∃ n1 : Nat, ∃ cap1 : Nat, ∃ ao2 : Option Addr, ∃ n2 : Nat, ∃ cap2 : Nat, ∃ ao3 : Option Addr, ∃ n3 : Nat, ∃ cap3 : Nat, ∃ K3 : Own, u = .tuple #[.agg #[.slice ao2 n2 cap2, .slice ao3 n3 cap3], .int .i64 r.2.1] ∧ K' = [[(b_5, .cells #[.slice ao0 n0 cap0, .slice ao1 n1 cap1] 25 (0, 0))], K3] ∧ IsSlice H' (RSl RU8 1) 1 (.slice ao0 n0 cap0) r.2.2.Blocks ∧ IsSlice H' R_Write 2 (.slice ao1 n1 cap1) r.2.2.Waits ∧ IsSlice (New H H') (RSl RU8 1) 1 (.slice ao2 n2 cap2) r.1.Blocks ∧ RowOf (New H H') R_Write 0 47 2 (.slice ao3 n3 cap3) r.1.Waits K3 ∧ (∀ p ∈ K3, p.1 ∉ ids (List.flatten [[(b_5, .cells #[.slice aoa_7 na_7 capa_7, .slice aoa_8 na_8 capa_8] 25 (0, 0))]])) ∧ True) := by
 refine Does.enterL (vs := [.agg #[.slice aoa_2 na_2 capa_2, .slice aoa_3 na_3 capa_3], .bool p_4, .func (.func 80) #[] #[.pointer (some ⟨b_5, 0, none⟩)]]) (l := [(0, .agg #[.slice aoa_2 na_2 capa_2, .slice aoa_3 na_3 capa_3]), (1, .bool p_4), (2, .func (.func 80) #[] #[.pointer (some ⟨b_5, 0, none⟩)])]) Try.func68 rfl rfl ⟨rfl, rfl, rfl, trivial⟩ (fun w hlt => ?_)
 unfold dev_guarded_v2 at hx
 refine JC.seq (JC.region (JL.box rfl rfl (fun b_9 hb_9 => JL.alloc Z25 rfl (fun b_10 hb_10 => JL.val rfl rfl (R.assign rfl) (JL.nil (JN.next (JC.seq (JC.region (JL.val rfl rfl (R.ldoN 1 (vs := [.slice aoa_2 na_2 capa_2, .slice aoa_3 na_3 capa_3]) S25 rfl rfl rfl rfl) ?_)))))))))
 obtain ⟨x_11, hr_12, hx⟩ := bnd_some hx
 refine JL.callC (vs := [_]) (args := [_]) (K := []) (rst := [_, _, _]) E36 rfl rfl rfl picks0 (dev_Check_ok p_1 _ ha_2 ha_3 _ hr_12) rfl (fun u_13 Ku_13 Hu_13 hRu_13 hleu_13 hfu_13 => ?_)
 obtain ⟨rfl, rfl, rfl, -⟩ := hRu_13
 refine JL.val rfl rfl (R.assign rfl) (JL.nil (JN.next (JC.seq (JC.block (JC.seq (JC.region (JL.val rfl rfl (R.move rfl) (JL.val rfl rfl (R.neq_i rfl rfl) (JL.val rfl rfl (R.assign rfl) (JL.nil (JN.next ?_)))))))))))
 refine JC.condB rfl (fun c_14 => ?_) (fun c_14 => ?_)
 ·
  replace hx := cond_t c_14 hx
  refine JC.seq (JC.region (JL.val rfl rfl (R.bldP (vs := []) (cs := [.slice none 0 0, .slice none 0 0]) Z25 B25 rfl rfl rfl) (JL.val rfl rfl (R.move rfl) (JL.store 0 S25 rfl rfl rfl rfl rfl (Nat.le_of_ble_eq_true rfl) (JL.val rfl rfl (R.assign rfl) (JL.nil (JN.next (JC.ret (JN.blkR (JN.passR (JN.seg0 ?_)))))))))))
  refine JN.outP (vs := [.agg #[.slice none 0 0, .slice none 0 0], .int .i64 x_11]) (K := [_, _]) (rst := [_, _]) (.inl rfl) rfl rfl (Res.cellN 1 rfl rfl S25 (Res.tmp rfl rfl)) (picks 3 rfl (picks 0 rfl picks0)) ?_
  obtain rfl := Option.some.inj hx
  exact ⟨aoa_7, na_7, capa_7, aoa_8, na_8, capa_8, none, 0, 0, none, 0, 0, [], rfl, rfl, ha_7, ha_8, (IsSlice.nil _ _ _), (RowOf.nil _ _ _ _ _), (fun p hp => by cases hp), trivial⟩
 ·
  replace hx := cond_f c_14 hx
  refine JC.seq (JC.region (JL.val rfl rfl (R.move rfl) (JL.val rfl rfl (R.not rfl) (JL.val rfl rfl (R.assign rfl) (JL.nil (JN.next (JC.condB rfl (fun c_15 => ?_) (fun c_15 => ?_))))))))
  ·
   replace hx := cond_t c_15 hx
   refine JC.seq (JC.region (JL.val rfl rfl (R.bldP (vs := []) (cs := [.slice none 0 0, .slice none 0 0]) Z25 B25 rfl rfl rfl) (JL.store 0 S25 rfl rfl rfl rfl rfl (Nat.le_of_ble_eq_true rfl) (JL.val rfl rfl (R.assign rfl) (JL.nil (JN.next (JC.ret (JN.blkR (JN.passR (JN.seg0 (JN.outP (vs := [.agg #[.slice none 0 0, .slice none 0 0], .int .i64 2]) (K := [_, _]) (rst := [_, _]) (.inl rfl) rfl rfl (Res.cellN 1 rfl rfl S25 (Res.tmp rfl rfl)) (picks 3 rfl (picks 0 rfl picks0)) ?_)))))))))))
   obtain rfl := Option.some.inj hx
   exact ⟨aoa_7, na_7, capa_7, aoa_8, na_8, capa_8, none, 0, 0, none, 0, 0, [], rfl, rfl, ha_7, ha_8, (IsSlice.nil _ _ _), (RowOf.nil _ _ _ _ _), (fun p hp => by cases hp), trivial⟩
  ·
   replace hx := cond_f c_15 hx
   refine JC.skip (JN.blkN (JN.next (JC.seq (JC.region (JL.val rfl rfl (R.move rfl) ?_)))))
   obtain ⟨x_16, hr_17, hx⟩ := bnd_some hx
   refine JL.callC (vs := []) (args := [_]) (K := [_]) (rst := [_, _]) E80 rfl rfl rfl (picks 2 rfl picks0) (dev_Read_1_ok p_6 _ ha_7 ha_8 _ hr_17) rfl (fun u_18 Ku_18 Hu_18 hRu_18 hleu_18 hfu_18 => ?_)
   obtain ⟨aoz_19, nz_19, capz_19, aoz_20, nz_20, capz_20, aor_21, nr_21, capr_21, Kr_21, aor_22, nr_22, capr_22, Kr_22, rfl, rfl, hz_19, hz_20, hr_21, hnewr_21, hr_22, hnewr_22, -⟩ := hRu_18
   replace hr_21 := (Pcs.base hr_21 (fun p hp => (hfu_18 p (mem_seg 1 rfl hp)).resolve_left (hnewr_21 p hp)))
   replace hr_22 := (RowOf.base (RowOf.mono R_Write.mono (New.call (Hle.refl _)) hr_22) (fun p hp => (hfu_18 p (mem_seg 2 rfl hp)).resolve_left (hnewr_22 p hp)))
   refine JL.store 3 S25 rfl rfl rfl rfl rfl (Nat.le_of_ble_eq_true rfl) (JL.val rfl rfl (R.assign rfl) (JL.nil (JN.next (JC.ret (JN.pubPcs 1  rfl hr_21 (Nat.le_refl _) (fun H_23 hleH_23 hsH_23 => JN.forget 1 (JN.outP (vs := [.agg #[.slice aor_21 nr_21 capr_21, .slice aor_22 nr_22 capr_22], .int .i64 0]) (K := [_, _]) (rst := [_, _]) (.inl rfl) rfl rfl (Res.cellN 2 rfl rfl S25 (Res.tmp rfl rfl)) (picks 0 rfl (picks 0 rfl picks0)) ?_)))))))
   obtain rfl := Option.some.inj hx
   exact ⟨aoz_19, nz_19, capz_19, aoz_20, nz_20, capz_20, aor_21, nr_21, capr_21, aor_22, nr_22, capr_22, Kr_22, rfl, rfl, (hz_19.mono (RSl.mono RU8.mono) hleH_23), (hz_20.mono R_Write.mono hleH_23), hsH_23, (RowOf.weak (Nat.zero_le _) (hr_22.mono R_Write.mono (New.mono hleH_23))), (new_ids (hr_22.mono R_Write.mono (New.mono hleH_23)) hlt), trivial⟩

set_option maxHeartbeats 8000000 in
theorem dev_Read_ok (p_1 : Disk) (p_4 : Int) (H : Heaplet) {aoa_2 : Option Addr} {na_2 : Nat} {capa_2 : Nat} {aoa_3 : Option Addr} {na_3 : Nat} {capa_3 : Nat} (ha_2 : IsSlice H (RSl RU8 1) 1 (.slice aoa_2 na_2 capa_2) p_1.Blocks) (ha_3 : IsSlice H R_Write 2 (.slice aoa_3 na_3 capa_3) p_1.Waits) (r : List UInt8 × Int) (hx : dev_Read p_1 p_4 = some r) :
  Does Try.prog 43 #[.agg #[.slice aoa_2 na_2 capa_2, .slice aoa_3 na_3 capa_3], .int .i64 p_4] [] H (fun u K' H' => ∃ ao0 : Option Addr, ∃ n0 : Nat, ∃ cap0 : Nat, u = .tuple #[.slice ao0 n0 cap0, .int .i64 r.2] ∧ K' = [] ∧ IsSlice (New H H') RU8 1 (.slice ao0 n0 cap0) r.1 ∧ True) := by
 refine Does.enterL (vs := [.agg #[.slice aoa_2 na_2 capa_2, .slice aoa_3 na_3 capa_3], .int .i64 p_4]) (l := [(0, .agg #[.slice aoa_2 na_2 capa_2, .slice aoa_3 na_3 capa_3]), (1, .int .i64 p_4)]) Try.func43 rfl rfl ⟨rfl, rfl, trivial⟩ (fun w hlt => ?_)
 unfold dev_Read at hx
 refine JC.seq (JC.region (JL.box rfl rfl (fun b_5 hb_5 => JL.val rfl rfl (R.assign rfl) (JL.val rfl rfl (R.assign rfl) (JL.nil (JN.next (JC.seq ?_)))))))
 obtain ⟨t_6, ht_8, hx⟩ := bnd_some hx
 refine JC.cut (fun l o g => ∃ H_34 : Heaplet, ∃ b_35 : Nat, ∃ aoz_36 : Option Addr, ∃ nz_36 : Nat, ∃ capz_36 : Nat, ∃ aor_37 : Option Addr, ∃ nr_37 : Nat, ∃ capr_37 : Nat, ∃ Kr_37 : Own, l = [(1, .int .i64 p_4), (6, .pointer (some ⟨b_35, 0, none⟩)), (7, .int .i64 t_6.2.2)] ∧ o = [[(b_35, .cells #[.slice aoz_36 nz_36 capz_36, .slice aor_37 nr_37 capr_37] 25 (0, 0))], Kr_37] ∧ H_34 = g ∧ Hle H H_34 ∧ w.heap.size ≤ b_35 ∧ IsSlice (New H H_34) (RSl RU8 1) 1 (.slice aoz_36 nz_36 capz_36) t_6.1 ∧ RowOf (New H H_34) R_Write w.heap.size 47 2 (.slice aor_37 nr_37 capr_37) t_6.2.1 Kr_37) ?_ ?_
 ·
  rintro _ _ _ ⟨H_34, b_35, aoz_36, nz_36, capz_36, aor_37, nr_37, capr_37, Kr_37, rfl, rfl, rfl, hleH_34, hb_35, hz_36, hr_37⟩
  refine JN.next (JC.seq (JC.seq (JC.region (JL.val rfl rfl (R.move rfl) (JL.val rfl rfl (R.neq_i rfl rfl) (JL.nil (JN.next (JC.condB rfl (fun c_38 => ?_) (fun c_38 => ?_)))))))))
  ·
   replace hx := cond_t c_38 hx
   refine JC.seq (JC.region (JL.val rfl rfl (R.move rfl) (JL.val rfl rfl (R.assign rfl) (JL.val rfl rfl (R.assign rfl) (JL.nil (JN.next (JC.ret (JN.passR (JN.outP (vs := [.slice none 0 0, .int .i64 t_6.2.2]) (K := []) (rst := [_, _]) (.inl rfl) rfl rfl (Res.tmp rfl (Res.tmp rfl rfl)) picks0 ?_)))))))))
   obtain rfl := Option.some.inj hx
   exact ⟨none, 0, 0, rfl, rfl, (IsSlice.nil _ _ _), trivial⟩
  ·
   replace hx := cond_f c_38 hx
   refine JC.skip (JN.next (JC.seq (JC.region (JL.val rfl rfl (R.fa F25_0 rfl) (JL.val rfl rfl (R.ldo 0 S22 rfl rfl rfl) (JL.val rfl rfl (R.move rfl) ?_))))))
   obtain ⟨y_39, hN_40, hx⟩ := idx_some hx
   obtain ⟨b_41, o_42, cs_43, hE_44, hR_45, hl_46, hc_47⟩ := IsSlice.elem hz_36 hN_40
   obtain ⟨v_48, rfl, hs_49⟩ := hR_45
   obtain ⟨aov_48, capv_48, rfl⟩ := IsSlice.val hs_49
   refine JL.val rfl rfl (R.ix U22 S45 rfl rfl hE_44) (JL.val rfl rfl (R.ldH S45 rfl ((fun j u e => New.le _ _ _ _ _ (hc_47 j u e)) 0 _ rfl)) (JL.val rfl rfl (R.assign rfl) (JL.val rfl rfl (R.assign rfl) (JL.nil (JN.next (JC.ret (JN.outP (vs := [.slice aov_48 y_39.length capv_48, .int .i64 0]) (K := []) (rst := [_, _]) (.inl rfl) rfl rfl (Res.tmp rfl (Res.tmp rfl rfl)) picks0 ?_)))))))
   obtain rfl := Option.some.inj hx
   exact ⟨aov_48, y_39.length, capv_48, rfl, rfl, hs_49, trivial⟩
 ·
  have hxo_7 := hx; clear hx; have hx := ht_8; clear ht_8
  refine JC.draw (so := []) 11 rfl Mixed trivial (JA.val ⟨by kernel_rfl, by kernel_rfl⟩ (calm_only _) (i := 1) rfl ⟨by kernel_rfl, by kernel_rfl, rfl⟩ trivial (stab_of (Hle.refl _) trivial) (R.move rfl) rfl (JA.val ⟨by kernel_rfl, by kernel_rfl⟩ (calm_only _) (i := 3) rfl ⟨by kernel_rfl, by kernel_rfl, rfl⟩ trivial (stab_of (Hle.refl _) trivial) (R.func (vf := []) (vc := [_]) rfl rfl) rfl (JAA.start [⟨8, 6, 25, .agg #[.slice none 0 0, .slice none 0 0]⟩] rfl ?_)))
  obtain ⟨x_9, hr_10, hx⟩ := bnd_some hx
  obtain ⟨x_12, hr_13, hx⟩ := bnd_some hx
  refine JAA.two (i := 0) (j := 2) ⟨⟨_, _, _, rfl, Z25, rfl⟩, trivial⟩ (Hle.refl _) trivial rfl (by kernel_rfl) ?_ ?_
  ·
   refine JOA.step rfl trivial rfl (fun tl_20 to_21 K hK => JL.val rfl rfl (R.ldoN 0 (vs := [.slice aoa_2 na_2 capa_2, .slice aoa_3 na_3 capa_3]) S25 rfl rfl rfl rfl) (JL.nil (hK (by repeat constructor) (by repeat constructor) (stab_of (Hle.refl _) trivial) (JAA.one (i := 2) ⟨⟨_, _, _, rfl, Z25, rfl⟩, trivial⟩ (Hle.refl _) trivial rfl (by kernel_rfl) (JOA.step rfl trivial rfl (fun tl_22 to_23 K hK => JL.callC (vs := [_]) (args := [_]) (K := []) (rst := _ :: to_23) E67 rfl rfl rfl picks0 (dev_place_ok p_4 _ _ hr_10) rfl (fun u_11 Ku_11 Hu_11 hRu_11 hleu_11 hfu_11 => ?_)))))))
   obtain ⟨rfl, rfl, rfl, -⟩ := hRu_11
   refine JL.nil (hK (by repeat constructor) (by repeat constructor) (stab_of (Hle.refl _) trivial) (JAA.one (i := 4) ⟨⟨_, _, _, rfl, Z25, rfl⟩, trivial⟩ (Hle.refl _) trivial rfl (by kernel_rfl) (JOA.step rfl trivial rfl (fun tl_24 to_25 K hK => JL.callC (vs := [_, _, _]) (args := [_, _, _]) (K := [_]) (rst := to_25) E68 rfl rfl rfl (picks 0 rfl picks0) (dev_guarded_v2_ok p_1 x_9 p_1 _ ha_2 ha_3 ha_2 ha_3 _ hr_13) rfl (fun u_14 Ku_14 Hu_14 hRu_14 hleu_14 hfu_14 => ?_)))))
   obtain ⟨aoz_15, nz_15, capz_15, aoz_16, nz_16, capz_16, aoz_17, nz_17, capz_17, aor_18, nr_18, capr_18, Kr_18, rfl, rfl, hz_15, hz_16, hz_17, hr_18, hnewr_18, -⟩ := hRu_14
   replace hr_18 := (RowOf.base (RowOf.mono R_Write.mono (New.call (Hle.refl _)) hr_18) (fun p hp => (hfu_14 p (mem_seg 1 rfl hp)).resolve_left (hnewr_18 p hp)))
   replace hz_17 := IsSlice.mono (RSl.mono RU8.mono) (New.call (Hle.refl _)) hz_17
   refine JL.nil (hK (by repeat constructor) (by repeat constructor) (stab_of hleu_14 trivial) (JAA.val ⟨by kernel_rfl, by kernel_rfl⟩ (calm_only _) (i := 5) rfl (by kernel_rfl) rfl trivial hleu_14 trivial (R.move rfl) rfl (JAA.val ⟨by kernel_rfl, by kernel_rfl⟩ (calm_only _) (i := 6) rfl (by kernel_rfl) rfl trivial hleu_14 trivial (R.extract rfl rfl) rfl (JAA.val ⟨by kernel_rfl, by kernel_rfl⟩ (calm_only _) (i := 7) rfl (by kernel_rfl) rfl trivial hleu_14 trivial (R.extract rfl rfl) rfl (JAA.all ⟨⟨_, _, _, rfl, Z25, rfl⟩, trivial⟩ hleu_14 trivial rfl (by kernel_rfl) (fun b_26 hb_26 => JA.one (i := 9) (by kernel_rfl) (JO.step rfl trivial rfl (fun K hK => JL.store 2 S25 rfl rfl rfl rfl rfl (Nat.le_of_ble_eq_true rfl) (JL.nil (hK _ _ _ (stab_of hleu_14 trivial) (JA.val ⟨by kernel_rfl, by kernel_rfl⟩ (calm_only _) (i := 10) rfl ⟨by kernel_rfl, by kernel_rfl, rfl⟩ trivial (stab_of hleu_14 trivial) (R.assign rfl) rfl ?_)))))))))))
   refine JA.doneN (by kernel_rfl) ?_
   obtain rfl := Option.some.inj hx
   refine JN.forget 0 (JN.front 1 rfl ?_)
   exact JN.cut ⟨Hu_14, b_26, aoz_17, nz_17, capz_17, aor_18, nr_18, capr_18, Kr_18, rfl, rfl, rfl, (hleu_14), hb_26, hz_17, hr_18⟩ ⟨rfl, rfl, rfl, trivial⟩ rfl rfl
  ·
   refine JOA.step rfl trivial rfl (fun tl_27 to_28 K hK => JL.callC (vs := [_]) (args := [_]) (K := []) (rst := _ :: to_28) E67 rfl rfl rfl picks0 (dev_place_ok p_4 _ _ hr_10) rfl (fun u_11 Ku_11 Hu_11 hRu_11 hleu_11 hfu_11 => ?_))
   obtain ⟨rfl, rfl, rfl, -⟩ := hRu_11
   refine JL.nil (hK (by repeat constructor) (by repeat constructor) (stab_of (Hle.refl _) trivial) (JAA.one (i := 0) ⟨⟨_, _, _, rfl, Z25, rfl⟩, trivial⟩ (Hle.refl _) trivial rfl (by kernel_rfl) (JOA.step rfl trivial rfl (fun tl_29 to_30 K hK => JL.val rfl rfl (R.ldoN 0 (vs := [.slice aoa_2 na_2 capa_2, .slice aoa_3 na_3 capa_3]) S25 rfl rfl rfl rfl) (JL.nil (hK (by repeat constructor) (by repeat constructor) (stab_of (Hle.refl _) trivial) (JAA.one (i := 4) ⟨⟨_, _, _, rfl, Z25, rfl⟩, trivial⟩ (Hle.refl _) trivial rfl (by kernel_rfl) (JOA.step rfl trivial rfl (fun tl_31 to_32 K hK => JL.callC (vs := [_, _, _]) (args := [_, _, _]) (K := [_]) (rst := to_32) E68 rfl rfl rfl (picks 0 rfl picks0) (dev_guarded_v2_ok p_1 x_9 p_1 _ ha_2 ha_3 ha_2 ha_3 _ hr_13) rfl (fun u_14 Ku_14 Hu_14 hRu_14 hleu_14 hfu_14 => ?_))))))))))
   obtain ⟨aoz_15, nz_15, capz_15, aoz_16, nz_16, capz_16, aoz_17, nz_17, capz_17, aor_18, nr_18, capr_18, Kr_18, rfl, rfl, hz_15, hz_16, hz_17, hr_18, hnewr_18, -⟩ := hRu_14
   replace hr_18 := (RowOf.base (RowOf.mono R_Write.mono (New.call (Hle.refl _)) hr_18) (fun p hp => (hfu_14 p (mem_seg 1 rfl hp)).resolve_left (hnewr_18 p hp)))
   replace hz_17 := IsSlice.mono (RSl.mono RU8.mono) (New.call (Hle.refl _)) hz_17
   refine JL.nil (hK (by repeat constructor) (by repeat constructor) (stab_of hleu_14 trivial) (JAA.val ⟨by kernel_rfl, by kernel_rfl⟩ (calm_only _) (i := 5) rfl (by kernel_rfl) rfl trivial hleu_14 trivial (R.move rfl) rfl (JAA.val ⟨by kernel_rfl, by kernel_rfl⟩ (calm_only _) (i := 6) rfl (by kernel_rfl) rfl trivial hleu_14 trivial (R.extract rfl rfl) rfl (JAA.val ⟨by kernel_rfl, by kernel_rfl⟩ (calm_only _) (i := 7) rfl (by kernel_rfl) rfl trivial hleu_14 trivial (R.extract rfl rfl) rfl (JAA.all ⟨⟨_, _, _, rfl, Z25, rfl⟩, trivial⟩ hleu_14 trivial rfl (by kernel_rfl) (fun b_33 hb_33 => JA.one (i := 9) (by kernel_rfl) (JO.step rfl trivial rfl (fun K hK => JL.store 2 S25 rfl rfl rfl rfl rfl (Nat.le_of_ble_eq_true rfl) (JL.nil (hK _ _ _ (stab_of hleu_14 trivial) (JA.val ⟨by kernel_rfl, by kernel_rfl⟩ (calm_only _) (i := 10) rfl ⟨by kernel_rfl, by kernel_rfl, rfl⟩ trivial (stab_of hleu_14 trivial) (R.assign rfl) rfl ?_)))))))))))
   refine JA.doneN (by kernel_rfl) ?_
   obtain rfl := Option.some.inj hx
   refine JN.forget 0 (JN.front 1 rfl ?_)
   exact JN.cut ⟨Hu_14, b_33, aoz_17, nz_17, capz_17, aor_18, nr_18, capr_18, Kr_18, rfl, rfl, rfl, (hleu_14), hb_33, hz_17, hr_18⟩ ⟨rfl, rfl, rfl, trivial⟩ rfl rfl

set_option maxHeartbeats 8000000 in
theorem store_Look_ok (p_1 : Store) (p_5 : Ptr) (H : Heaplet) {aoa_2 : Option Addr} {na_2 : Nat} {capa_2 : Nat} {aoa_3 : Option Addr} {na_3 : Nat} {capa_3 : Nat} {aoa_4 : Option Addr} {na_4 : Nat} {capa_4 : Nat} (ha_2 : IsSlice H (RSl RU8 1) 1 (.slice aoa_2 na_2 capa_2) p_1.Disk.Blocks) (ha_3 : IsSlice H R_Write 2 (.slice aoa_3 na_3 capa_3) p_1.Disk.Waits) (ha_4 : IsSlice H RU8 1 (.slice aoa_4 na_4 capa_4) p_1.Space) (r : List UInt8 × Int) (hx : store_Look p_1 p_5 = some r) :
  Does Try.prog 55 #[.agg #[.slice aoa_2 na_2 capa_2, .slice aoa_3 na_3 capa_3, .slice aoa_4 na_4 capa_4, .int .u32 (p_1.Epoch.toNat : Int), .int .u32 (p_1.Count.toNat : Int)], .agg #[.int .i64 p_5.At, .int .u32 (p_5.Birth.toNat : Int), .int .u32 (p_5.Iv.toNat : Int), .int .u32 (p_5.Tag.toNat : Int), .int .u32 (p_5.Sum.toNat : Int)]] [] H (fun u K' H' => ∃ ao0 : Option Addr, ∃ n0 : Nat, ∃ cap0 : Nat, u = .tuple #[.slice ao0 n0 cap0, .int .i64 r.2] ∧ K' = [] ∧ IsSlice (New H H') RU8 1 (.slice ao0 n0 cap0) r.1 ∧ True) := by
 refine Does.enterL (vs := [.agg #[.slice aoa_2 na_2 capa_2, .slice aoa_3 na_3 capa_3, .slice aoa_4 na_4 capa_4, .int .u32 (p_1.Epoch.toNat : Int), .int .u32 (p_1.Count.toNat : Int)], .agg #[.int .i64 p_5.At, .int .u32 (p_5.Birth.toNat : Int), .int .u32 (p_5.Iv.toNat : Int), .int .u32 (p_5.Tag.toNat : Int), .int .u32 (p_5.Sum.toNat : Int)]]) (l := [(0, .agg #[.slice aoa_2 na_2 capa_2, .slice aoa_3 na_3 capa_3, .slice aoa_4 na_4 capa_4, .int .u32 (p_1.Epoch.toNat : Int), .int .u32 (p_1.Count.toNat : Int)]), (1, .agg #[.int .i64 p_5.At, .int .u32 (p_5.Birth.toNat : Int), .int .u32 (p_5.Iv.toNat : Int), .int .u32 (p_5.Tag.toNat : Int), .int .u32 (p_5.Sum.toNat : Int)])]) Try.func55 rfl rfl ⟨rfl, rfl, trivial⟩ (fun w hlt => ?_)
 unfold store_Look at hx
 refine JC.seq (JC.region (JL.box rfl rfl (fun b_6 hb_6 => JL.box rfl rfl (fun b_7 hb_7 => JL.val rfl rfl (R.assign rfl) (JL.val rfl rfl (R.assign rfl) (JL.nil (JN.next (JC.seq (JC.seq (JC.region (JL.val rfl rfl (R.ldoN 1 (vs := [.slice aoa_2 na_2 capa_2, .slice aoa_3 na_3 capa_3, .slice aoa_4 na_4 capa_4, .int .u32 (p_1.Epoch.toNat : Int), .int .u32 (p_1.Count.toNat : Int)]) S50 rfl rfl rfl rfl) ?_)))))))))))
 obtain ⟨x_8, hr_9, hx⟩ := bnd_some hx
 refine JL.callC (vs := [_]) (args := [_]) (K := []) (rst := [_, _]) E26 rfl rfl rfl picks0 (store_Check_ok p_1 _ ha_2 ha_3 ha_4 _ hr_9) rfl (fun u_10 Ku_10 Hu_10 hRu_10 hleu_10 hfu_10 => ?_)
 obtain ⟨rfl, rfl, rfl, -⟩ := hRu_10
 refine JL.val rfl rfl (R.neq_i rfl rfl) (JL.val rfl rfl (R.move rfl) (JL.gSplit (t := 11) rfl (fun c_11 => ?_) (fun c_11 => ?_)))
 ·
  replace hx := cond_t c_11 hx
  refine JL.gNo rfl rfl rfl rfl rfl (JL.gNo rfl rfl rfl rfl rfl (JL.gNo rfl rfl rfl rfl rfl (JL.val rfl rfl (R.pickT rfl rfl) (JL.nil (JN.next (JC.condT rfl (JC.seq (JC.region (JL.val rfl rfl (R.assign rfl) (JL.val rfl rfl (R.assign rfl) (JL.nil ?_)))))))))))
  refine JN.next (JC.ret (JN.passR (JN.outP (vs := [.slice none 0 0, .int .i64 8]) (K := []) (rst := [_, _]) (.inl rfl) rfl rfl (Res.tmp rfl (Res.tmp rfl rfl)) picks0 ?_)))
  obtain rfl := Option.some.inj hx
  exact ⟨none, 0, 0, rfl, rfl, (IsSlice.nil _ _ _), trivial⟩
 ·
  replace hx := cond_f c_11 hx
  refine JL.gYes rfl rfl rfl (JL.val rfl rfl (R.ldoN 0 (vs := [.int .i64 p_5.At, .int .u32 (p_5.Birth.toNat : Int), .int .u32 (p_5.Iv.toNat : Int), .int .u32 (p_5.Tag.toNat : Int), .int .u32 (p_5.Sum.toNat : Int)]) S28 rfl rfl rfl rfl) (JL.gYes rfl rfl rfl ?_))
  obtain ⟨x_12, hr_13, hx⟩ := bnd_some hx
  refine JL.callC (vs := [_]) (args := [_]) (K := []) (rst := [_, _]) E49 rfl rfl rfl picks0 (ptr_Check_ok p_5 _ _ hr_13) rfl (fun u_14 Ku_14 Hu_14 hRu_14 hleu_14 hfu_14 => ?_)
  obtain ⟨rfl, rfl, rfl, -⟩ := hRu_14
  refine JL.gYes rfl rfl rfl (JL.val rfl rfl (R.neq_i rfl rfl) (JL.val rfl rfl (R.pickF rfl rfl) (JL.nil (JN.next (JC.condB rfl (fun c_15 => ?_) (fun c_15 => ?_))))))
  ·
   replace hx := cond_t c_15 hx
   refine JC.seq (JC.region (JL.val rfl rfl (R.assign rfl) (JL.val rfl rfl (R.assign rfl) (JL.nil (JN.next (JC.ret (JN.passR (JN.outP (vs := [.slice none 0 0, .int .i64 8]) (K := []) (rst := [_, _]) (.inl rfl) rfl rfl (Res.tmp rfl (Res.tmp rfl rfl)) picks0 ?_))))))))
   obtain rfl := Option.some.inj hx
   exact ⟨none, 0, 0, rfl, rfl, (IsSlice.nil _ _ _), trivial⟩
  ·
   replace hx := cond_f c_15 hx
   refine JC.skip (JN.next (JC.seq (JC.seq (JC.region (JL.val rfl rfl (R.ldoN 0 (vs := [.int .i64 p_5.At, .int .u32 (p_5.Birth.toNat : Int), .int .u32 (p_5.Iv.toNat : Int), .int .u32 (p_5.Tag.toNat : Int), .int .u32 (p_5.Sum.toNat : Int)]) S28 rfl rfl rfl rfl) (JL.val rfl rfl (R.bldP (vs := []) (cs := [.int .i64 0, .int .u32 ((0 : UInt32).toNat : Int), .int .u32 ((0 : UInt32).toNat : Int), .int .u32 ((0 : UInt32).toNat : Int), .int .u32 ((0 : UInt32).toNat : Int)]) Z28 B28 rfl rfl rfl) (JL.val rfl rfl (R.eqlAgg QU28 QP28 QG28 QF28 rfl rfl (EqF.i (by decide) S3 U3 rfl rfl (EqF.u32 (a := p_5.Birth) (b := (0 : UInt32)) (by decide) S26 U26 rfl rfl (EqF.u32 (a := p_5.Iv) (b := (0 : UInt32)) (by decide) S26 U26 rfl rfl (EqF.u32 (a := p_5.Tag) (b := (0 : UInt32)) (by decide) S26 U26 rfl rfl (EqF.u32 (a := p_5.Sum) (b := (0 : UInt32)) (by decide) S26 U26 rfl rfl EqF.nil)))))) (JL.nil (JN.next (JC.condB rfl (fun c_16 => ?_) (fun c_16 => ?_)))))))))))
   ·
    replace hx := cond_t c_16 hx
    refine JC.seq (JC.region (JL.val rfl rfl (R.assign rfl) (JL.val rfl rfl (R.assign rfl) (JL.nil (JN.next (JC.ret (JN.passR (JN.outP (vs := [.slice none 0 0, .int .i64 6]) (K := []) (rst := [_, _]) (.inl rfl) rfl rfl (Res.tmp rfl (Res.tmp rfl rfl)) picks0 ?_))))))))
    obtain rfl := Option.some.inj hx
    exact ⟨none, 0, 0, rfl, rfl, (IsSlice.nil _ _ _), trivial⟩
   ·
    replace hx := cond_f c_16 hx
    refine JC.skip (JN.next (JC.seq (JC.region (JL.val rfl rfl (R.fa F50_0 rfl) (JL.val rfl rfl (R.ldoN 1 (vs := [.slice aoa_2 na_2 capa_2, .slice aoa_3 na_3 capa_3]) S25 rfl rfl rfl rfl) (JL.val rfl rfl (R.fa F28_0 rfl) (JL.val rfl rfl (R.ldo 0 S3 rfl rfl rfl) ?_)))))))
    obtain ⟨x_17, hr_18, hx⟩ := bnd_some hx
    refine JL.callC (vs := [_, _]) (args := [_, _]) (K := []) (rst := [_, _]) E43 rfl rfl rfl picks0 (dev_Read_ok (Disk.mk p_1.Disk.Blocks p_1.Disk.Waits) p_5.At _ ha_2 ha_3 _ hr_18) rfl (fun u_19 Ku_19 Hu_19 hRu_19 hleu_19 hfu_19 => ?_)
    obtain ⟨aoz_20, nz_20, capz_20, rfl, rfl, hz_20, -⟩ := hRu_19
    replace hz_20 := IsSlice.mono RU8.mono (New.call (Hle.refl _)) hz_20
    refine JL.val rfl rfl (R.move rfl) (JL.val rfl rfl (R.extract rfl rfl) (JL.val rfl rfl (R.extract rfl rfl) (JL.val rfl rfl (R.assign rfl) (JL.val rfl rfl (R.assign rfl) (JL.nil (JN.next (JC.seq ?_)))))))
    obtain ⟨t_21, ht_23, hx⟩ := bnd_some hx
    refine JC.cut (fun l o g => ∃ H_29 : Heaplet, ∃ aoz_30 : Option Addr, ∃ nz_30 : Nat, ∃ capz_30 : Nat, l = [(6, .slice aoz_30 nz_30 capz_30), (7, .int .i64 t_21.2)] ∧ o = [] ∧ H_29 = g ∧ Hle Hu_19 H_29 ∧ IsSlice (New H H_29) RU8 1 (.slice aoz_30 nz_30 capz_30) t_21.1) ?_ ?_
    ·
     rintro _ _ _ ⟨H_29, aoz_30, nz_30, capz_30, rfl, rfl, rfl, hleH_29, hz_30⟩
     refine JN.next (JC.seq (JC.region (JL.val rfl rfl (R.move rfl) (JL.val rfl rfl (R.move rfl) (JL.val rfl rfl (R.assign rfl) (JL.val rfl rfl (R.assign rfl) (JL.nil (JN.next (JC.ret (JN.outP (vs := [.slice aoz_30 nz_30 capz_30, .int .i64 t_21.2]) (K := []) (rst := []) (.inl rfl) rfl rfl (Res.tmp rfl (Res.tmp rfl rfl)) picks0 ?_))))))))))
     obtain rfl := Option.some.inj hx
     exact ⟨aoz_30, nz_30, capz_30, rfl, rfl, hz_30, trivial⟩
    ·
     have hxo_22 := hx; clear hx; have hx := ht_23; clear ht_23
     refine JC.seq (JC.draw (so := [_, _]) 9 rfl Mixed ⟨⟨0, rfl⟩, ⟨1, rfl⟩, trivial⟩ (JA.val ⟨by kernel_rfl, by kernel_rfl⟩ (calm_only _) (i := 0) rfl ⟨by kernel_rfl, by kernel_rfl, rfl⟩ trivial (stab_of (Hle.refl _) ⟨⟨0, rfl⟩, ⟨1, rfl⟩, trivial⟩) (R.move rfl) rfl (JA.val ⟨by kernel_rfl, by kernel_rfl⟩ (calm_only _) (i := 1) rfl ⟨by kernel_rfl, by kernel_rfl, rfl⟩ trivial (stab_of (Hle.refl _) ⟨⟨0, rfl⟩, ⟨1, rfl⟩, trivial⟩) (R.eql_i rfl rfl) rfl (JA.val ⟨by kernel_rfl, by kernel_rfl⟩ (calm_only _) (i := 2) rfl ⟨by kernel_rfl, by kernel_rfl, rfl⟩ trivial (stab_of (Hle.refl _) ⟨⟨0, rfl⟩, ⟨1, rfl⟩, trivial⟩) (R.move rfl) rfl (JA.gSplit (t := 29) rfl (fun c_24 => ?_) (fun c_24 => ?_))))))
     ·
      replace hx := cond_t c_24 hx
      refine JA.val ⟨by kernel_rfl, by kernel_rfl⟩ (calm_only _) (i := 3) rfl ⟨by kernel_rfl, by kernel_rfl, rfl⟩ ⟨_, _, rfl, rfl, rfl⟩ (stab_of (Hle.refl _) ⟨⟨0, rfl⟩, ⟨1, rfl⟩, trivial⟩) (R.move rfl) rfl (JA.val ⟨by kernel_rfl, by kernel_rfl⟩ (calm_only _) (i := 5) rfl ⟨by kernel_rfl, by kernel_rfl, rfl⟩ ⟨_, _, rfl, rfl, rfl⟩ (stab_of (Hle.refl _) ⟨⟨0, rfl⟩, ⟨1, rfl⟩, trivial⟩) (R.fa F28_4 rfl) rfl (JA.val ⟨by kernel_rfl, by kernel_rfl⟩ (calm_only _) (i := 6) rfl ⟨by kernel_rfl, by kernel_rfl, rfl⟩ ⟨_, _, rfl, rfl, rfl⟩ (stab_of (Hle.refl _) ⟨⟨0, rfl⟩, ⟨1, rfl⟩, trivial⟩) (R.ldo 0 S26 rfl rfl rfl) rfl (JA.one (i := 4) (by kernel_rfl) (JO.step rfl ⟨_, _, rfl, rfl, rfl⟩ rfl (fun K hK => ?_)))))
      obtain ⟨x_25, hr_26, hx⟩ := bnd_some hx
      refine JL.callC (vs := [_]) (args := [_]) (K := []) (rst := [_, _]) E74 rfl rfl rfl picks0 (mix_Sum_ok x_17.1 _ (hz_20.old RU8.mono) _ hr_26) rfl (fun u_27 Ku_27 Hu_27 hRu_27 hleu_27 hfu_27 => ?_)
      obtain ⟨rfl, rfl, -⟩ := hRu_27
      refine JL.nil (hK _ _ _ (stab_of hleu_27 ⟨⟨0, rfl⟩, ⟨1, rfl⟩, trivial⟩) (JA.val ⟨by kernel_rfl, by kernel_rfl⟩ (calm_only _) (i := 7) rfl ⟨by kernel_rfl, by kernel_rfl, rfl⟩ ⟨_, _, rfl, rfl, rfl⟩ (stab_of hleu_27 ⟨⟨0, rfl⟩, ⟨1, rfl⟩, trivial⟩) (R.neq32 (a := x_25) (b := p_5.Sum) rfl rfl) rfl (JA.val ⟨by kernel_rfl, by kernel_rfl⟩ (calm_only _) (i := 8) rfl ⟨by kernel_rfl, by kernel_rfl, rfl⟩ trivial (stab_of hleu_27 ⟨⟨0, rfl⟩, ⟨1, rfl⟩, trivial⟩) (R.pickT rfl rfl) rfl (JA.doneN (by kernel_rfl) (JN.next (JC.condB rfl (fun c_28 => ?_) (fun c_28 => ?_)))))))
      ·
       replace hx := cond_t c_28 hx
       refine JC.region (JL.val rfl rfl (R.assign rfl) (JL.val rfl rfl (R.assign rfl) (JL.nil ?_)))
       obtain rfl := Option.some.inj hx
       refine JN.forget 1 (JN.forget 0 ?_)
       exact JN.cut ⟨Hu_27, none, 0, 0, rfl, rfl, rfl, (hleu_27), (IsSlice.nil _ _ _)⟩ ⟨rfl, rfl, trivial⟩ rfl rfl
      ·
       replace hx := cond_f c_28 hx
       refine JC.skip ?_
       obtain rfl := Option.some.inj hx
       refine JN.forget 1 (JN.forget 0 ?_)
       exact JN.cut ⟨Hu_27, aoz_20, nz_20, capz_20, rfl, rfl, rfl, (hleu_27), (hz_20.mono RU8.mono (New.mono hleu_27))⟩ ⟨rfl, rfl, trivial⟩ rfl rfl
     ·
      replace hx := cond_f c_24 hx
      refine JA.no ⟨by kernel_rfl, by kernel_rfl⟩ (calm_only _) (i := 3) rfl ⟨by kernel_rfl, by kernel_rfl, rfl⟩ rfl rfl rfl rfl (stab_of (Hle.refl _) ⟨⟨0, rfl⟩, ⟨1, rfl⟩, trivial⟩) rfl (JA.no ⟨by kernel_rfl, by kernel_rfl⟩ (calm_only _) (i := 4) rfl ⟨by kernel_rfl, by kernel_rfl, rfl⟩ rfl rfl rfl rfl (stab_of (Hle.refl _) ⟨⟨0, rfl⟩, ⟨1, rfl⟩, trivial⟩) rfl (JA.no ⟨by kernel_rfl, by kernel_rfl⟩ (calm_only _) (i := 5) rfl ⟨by kernel_rfl, by kernel_rfl, rfl⟩ rfl rfl rfl rfl (stab_of (Hle.refl _) ⟨⟨0, rfl⟩, ⟨1, rfl⟩, trivial⟩) rfl (JA.no ⟨by kernel_rfl, by kernel_rfl⟩ (calm_only _) (i := 6) rfl ⟨by kernel_rfl, by kernel_rfl, rfl⟩ rfl rfl rfl rfl (stab_of (Hle.refl _) ⟨⟨0, rfl⟩, ⟨1, rfl⟩, trivial⟩) rfl (JA.no ⟨by kernel_rfl, by kernel_rfl⟩ (calm_only _) (i := 7) rfl ⟨by kernel_rfl, by kernel_rfl, rfl⟩ rfl rfl rfl rfl (stab_of (Hle.refl _) ⟨⟨0, rfl⟩, ⟨1, rfl⟩, trivial⟩) rfl (JA.val ⟨by kernel_rfl, by kernel_rfl⟩ (calm_only _) (i := 8) rfl ⟨by kernel_rfl, by kernel_rfl, rfl⟩ trivial (stab_of (Hle.refl _) ⟨⟨0, rfl⟩, ⟨1, rfl⟩, trivial⟩) (R.pickF rfl rfl) rfl (JA.doneN (by kernel_rfl) (JN.next (JC.condF rfl (JC.skip ?_)))))))))
      obtain rfl := Option.some.inj hx
      refine JN.forget 1 (JN.forget 0 ?_)
      exact JN.cut ⟨Hu_19, aoz_20, nz_20, capz_20, rfl, rfl, rfl, (Hle.refl _), hz_20⟩ ⟨rfl, rfl, trivial⟩ rfl rfl

set_option maxHeartbeats 8000000 in
theorem ptr_Read_ok (p_1 : List UInt8) (H : Heaplet) {aoa_2 : Option Addr} {na_2 : Nat} {capa_2 : Nat} (ha_2 : IsSlice H RU8 1 (.slice aoa_2 na_2 capa_2) p_1) (r : Ptr × Int) (hx : ptr_Read p_1 = some r) :
  Does Try.prog 84 #[.slice aoa_2 na_2 capa_2] [] H (fun u K' H' => u = .tuple #[.agg #[.int .i64 r.1.At, .int .u32 (r.1.Birth.toNat : Int), .int .u32 (r.1.Iv.toNat : Int), .int .u32 (r.1.Tag.toNat : Int), .int .u32 (r.1.Sum.toNat : Int)], .int .i64 r.2] ∧ K' = [] ∧ True) := by
 refine Does.enterL (vs := [.slice aoa_2 na_2 capa_2]) (l := [(0, .slice aoa_2 na_2 capa_2)]) Try.func84 rfl rfl ⟨rfl, trivial⟩ (fun w hlt => ?_)
 unfold ptr_Read at hx
 refine JC.seq (JC.region (JL.alloc Z28 rfl (fun b_3 hb_3 => JL.val rfl rfl (R.assign rfl) (JL.nil (JN.next (JC.seq (JC.seq (JC.region (JL.val rfl rfl (R.move rfl) (JL.val rfl rfl (R.lenL U45 rfl (IsSlice.long ha_2)) (JL.val rfl rfl (R.neq_i rfl rfl) ?_)))))))))))
 refine JL.nil (JN.next (JC.condB rfl (fun c_4 => ?_) (fun c_4 => ?_)))
 ·
  replace hx := cond_t c_4 hx
  refine JC.seq (JC.region (JL.val rfl rfl (R.bldP (vs := []) (cs := [.int .i64 0, .int .u32 ((0 : UInt32).toNat : Int), .int .u32 ((0 : UInt32).toNat : Int), .int .u32 ((0 : UInt32).toNat : Int), .int .u32 ((0 : UInt32).toNat : Int)]) Z28 B28 rfl rfl rfl) (JL.store 0 S28 rfl rfl rfl rfl rfl (Nat.le_of_ble_eq_true rfl) (JL.val rfl rfl (R.assign rfl) (JL.nil (JN.next (JC.ret (JN.passR (JN.outP (vs := [.agg #[.int .i64 0, .int .u32 ((0 : UInt32).toNat : Int), .int .u32 ((0 : UInt32).toNat : Int), .int .u32 ((0 : UInt32).toNat : Int), .int .u32 ((0 : UInt32).toNat : Int)], .int .i64 3]) (K := []) (rst := [_]) (.inl rfl) rfl rfl (Res.cellN 0 rfl rfl S28 (Res.tmp rfl rfl)) picks0 ?_)))))))))
  obtain rfl := Option.some.inj hx
  exact ⟨rfl, rfl, trivial⟩
 ·
  replace hx := cond_f c_4 hx
  refine JC.skip (JN.next (JC.seq (JC.region (JL.alloc Z158 rfl (fun b_5 hb_5 => JL.nil (JN.next (JC.seq (JC.region (JL.val rfl rfl (R.assign rfl) (JL.nil (JN.next ?_)))))))))))
  refine JC.seq (JC.seq (JC.region ?_))
  obtain ⟨x_6, hr_7, hx⟩ := bnd_some hx
  refine JL.callC (vs := []) (args := []) (K := []) (rst := [_, _]) E112 rfl rfl rfl picks0 (ptr_sizes_ok _ _ hr_7) rfl (fun u_8 Ku_8 Hu_8 hRu_8 hleu_8 hfu_8 => ?_)
  obtain ⟨rfl, rfl, rfl, -⟩ := hRu_8
  refine JL.val rfl rfl (R.move rfl) (JL.nil (JN.next ?_))
  obtain ⟨t_9, ht_11, hx⟩ := bnd_some hx
  refine JC.cut (fun l o g => ∃ H_16 : Heaplet, l = [(2, .pointer (some ⟨b_3, 0, none⟩)), (4, .pointer (some ⟨b_5, 0, none⟩))] ∧ o = [[(b_3, .cells #[.int .i64 0, .int .u32 ((0 : UInt32).toNat : Int), .int .u32 ((0 : UInt32).toNat : Int), .int .u32 ((0 : UInt32).toNat : Int), .int .u32 ((0 : UInt32).toNat : Int)] 28 (0, 0))], [(b_5, .cells #[.int .i64 t_9.1, .int .i64 t_9.2.1, .int .i64 t_9.2.2.1, .int .i64 t_9.2.2.2.1, .int .i64 t_9.2.2.2.2] 158 (0, 0))]] ∧ H_16 = g ∧ Hle H H_16) ?_ ?_
  ·
   rintro _ _ _ ⟨H_16, rfl, rfl, rfl, hleH_16⟩
   refine JN.next (JC.seq (JC.region (JL.val rfl rfl (R.ixA 0 U158 S3 rfl rfl rfl) (JL.val rfl rfl (R.ldo 1 S3 rfl rfl rfl) (JL.val rfl rfl (R.ixA 1 U158 S3 rfl rfl rfl) (JL.val rfl rfl (R.ldo 1 S3 rfl rfl rfl) (JL.val rfl rfl (R.cv_i64_u32 U3 U26 rfl) (JL.val rfl rfl (R.ixA 2 U158 S3 rfl rfl rfl) (JL.val rfl rfl (R.ldo 1 S3 rfl rfl rfl) (JL.val rfl rfl (R.cv_i64_u32 U3 U26 rfl) (JL.val rfl rfl (R.ixA 3 U158 S3 rfl rfl rfl) ?_)))))))))))
   refine JL.val rfl rfl (R.ldo 1 S3 rfl rfl rfl) (JL.val rfl rfl (R.cv_i64_u32 U3 U26 rfl) (JL.val rfl rfl (R.ixA 4 U158 S3 rfl rfl rfl) (JL.val rfl rfl (R.ldo 1 S3 rfl rfl rfl) (JL.val rfl rfl (R.cv_i64_u32 U3 U26 rfl) (JL.val rfl rfl (R.bldP (vs := [(0, .int .i64 t_9.1), (1, .int .u32 ((u32i t_9.2.1).toNat : Int)), (2, .int .u32 ((u32i t_9.2.2.1).toNat : Int)), (3, .int .u32 ((u32i t_9.2.2.2.1).toNat : Int)), (4, .int .u32 ((u32i t_9.2.2.2.2).toNat : Int))]) (cs := [.int .i64 t_9.1, .int .u32 ((u32i t_9.2.1).toNat : Int), .int .u32 ((u32i t_9.2.2.1).toNat : Int), .int .u32 ((u32i t_9.2.2.2.1).toNat : Int), .int .u32 ((u32i t_9.2.2.2.2).toNat : Int)]) Z28 B28 rfl rfl rfl) (JL.store 0 S28 rfl rfl rfl rfl rfl (Nat.le_of_ble_eq_true rfl) (JL.nil (JN.next (JC.seq (JC.seq (JC.region ?_)))))))))))
   refine JL.val rfl rfl (R.ldoN 0 (vs := [.int .i64 t_9.1, .int .u32 ((u32i t_9.2.1).toNat : Int), .int .u32 ((u32i t_9.2.2.1).toNat : Int), .int .u32 ((u32i t_9.2.2.2.1).toNat : Int), .int .u32 ((u32i t_9.2.2.2.2).toNat : Int)]) S28 rfl rfl rfl rfl) ?_
   obtain ⟨x_17, hr_18, hx⟩ := bnd_some hx
   refine JL.callC (vs := [_]) (args := [_]) (K := []) (rst := [_, _]) E49 rfl rfl rfl picks0 (ptr_Check_ok (Ptr.mk t_9.1 (u32i t_9.2.1) (u32i t_9.2.2.1) (u32i t_9.2.2.2.1) (u32i t_9.2.2.2.2)) _ _ hr_18) rfl (fun u_19 Ku_19 Hu_19 hRu_19 hleu_19 hfu_19 => ?_)
   obtain ⟨rfl, rfl, rfl, -⟩ := hRu_19
   refine JL.val rfl rfl (R.assign rfl) (JL.nil (JN.next (JC.seq (JC.region (JL.val rfl rfl (R.move rfl) (JL.val rfl rfl (R.neq_i rfl rfl) (JL.nil (JN.next (JC.condB rfl (fun c_20 => ?_) (fun c_20 => ?_))))))))))
   ·
    replace hx := cond_t c_20 hx
    refine JC.seq (JC.region (JL.val rfl rfl (R.bldP (vs := []) (cs := [.int .i64 0, .int .u32 ((0 : UInt32).toNat : Int), .int .u32 ((0 : UInt32).toNat : Int), .int .u32 ((0 : UInt32).toNat : Int), .int .u32 ((0 : UInt32).toNat : Int)]) Z28 B28 rfl rfl rfl) (JL.val rfl rfl (R.move rfl) (JL.store 0 S28 rfl rfl rfl rfl rfl (Nat.le_of_ble_eq_true rfl) (JL.val rfl rfl (R.assign rfl) (JL.nil (JN.next (JC.ret (JN.passR (JN.outP (vs := [.agg #[.int .i64 0, .int .u32 ((0 : UInt32).toNat : Int), .int .u32 ((0 : UInt32).toNat : Int), .int .u32 ((0 : UInt32).toNat : Int), .int .u32 ((0 : UInt32).toNat : Int)], .int .i64 x_17]) (K := []) (rst := [_, _]) (.inl rfl) rfl rfl (Res.cellN 0 rfl rfl S28 (Res.tmp rfl rfl)) picks0 ?_))))))))))
    obtain rfl := Option.some.inj hx
    exact ⟨rfl, rfl, trivial⟩
   ·
    replace hx := cond_f c_20 hx
    refine JC.skip (JN.next (JC.seq (JC.region (JL.val rfl rfl (R.ldoN 0 (vs := [.int .i64 t_9.1, .int .u32 ((u32i t_9.2.1).toNat : Int), .int .u32 ((u32i t_9.2.2.1).toNat : Int), .int .u32 ((u32i t_9.2.2.2.1).toNat : Int), .int .u32 ((u32i t_9.2.2.2.2).toNat : Int)]) S28 rfl rfl rfl rfl) (JL.store 0 S28 rfl rfl rfl rfl rfl (Nat.le_of_ble_eq_true rfl) (JL.val rfl rfl (R.assign rfl) (JL.nil (JN.next (JC.ret (JN.outP (vs := [.agg #[.int .i64 t_9.1, .int .u32 ((u32i t_9.2.1).toNat : Int), .int .u32 ((u32i t_9.2.2.1).toNat : Int), .int .u32 ((u32i t_9.2.2.2.1).toNat : Int), .int .u32 ((u32i t_9.2.2.2.2).toNat : Int)], .int .i64 0]) (K := []) (rst := [_, _]) (.inl rfl) rfl rfl (Res.cellN 0 rfl rfl S28 (Res.tmp rfl rfl)) picks0 ?_))))))))))
    obtain rfl := Option.some.inj hx
    exact ⟨rfl, rfl, trivial⟩
  ·
   have hxo_10 := hx; clear hx; have hx := ht_11; clear ht_11
   refine JC.block (JC.front 1 rfl (JC.loopI (fun n l o g => ∃ s_12 : Int × Int × Int × Int × Int × Int × Nat, ∃ H_15 : Heaplet, l = [(0, .slice aoa_2 na_2 capa_2), (2, .pointer (some ⟨b_3, 0, none⟩)), (4, .pointer (some ⟨b_5, 0, none⟩)), (5, .int .i64 s_12.2.2.2.2.2.1), (13, .agg #[.int .i64 x_6.e0, .int .i64 x_6.e1, .int .i64 x_6.e2, .int .i64 x_6.e3, .int .i64 x_6.e4]), (14, .int .i64 ((s_12.2.2.2.2.2.2 : Nat) : Int))] ∧ o = [[(b_3, .cells #[.int .i64 0, .int .u32 ((0 : UInt32).toNat : Int), .int .u32 ((0 : UInt32).toNat : Int), .int .u32 ((0 : UInt32).toNat : Int), .int .u32 ((0 : UInt32).toNat : Int)] 28 (0, 0))], [(b_5, .cells #[.int .i64 s_12.1, .int .i64 s_12.2.1, .int .i64 s_12.2.2.1, .int .i64 s_12.2.2.2.1, .int .i64 s_12.2.2.2.2.1] 158 (0, 0))]] ∧ H_15 = g ∧ run (ptr_Read_l1 p_1 x_6) n s_12 = some t_9 ∧ Hle H H_15) FUEL ?_ ⟨(0, 0, 0, 0, 0, 0, 0), H, rfl, rfl, rfl, hx, (Hle.refl _)⟩ ⟨rfl, rfl, rfl, rfl, rfl, rfl, trivial⟩ ?_))
   ·
    rintro _ _ _ ⟨s_12, H_15, rfl, rfl, rfl, hn_13, hleH_15⟩
    exact run_zero hn_13
   ·
    rintro n_14 _ _ _ ⟨s_12, H_15, rfl, rfl, rfl, hn_13, hleH_15⟩
    clear hx; obtain ⟨oo_17, hx, hd_16⟩ := run_some hn_13
    unfold ptr_Read_l1 at hx
    refine JC.seq (JC.region (JL.val rfl rfl (R.lss_i rfl rfl) (JL.nil (JN.next (JC.seq (JC.condB rfl (fun c_16 => ?_) (fun c_16 => ?_)))))))
    ·
     replace hx := cond_t c_16 hx
     refine JC.skip (JN.next (JC.seq (JC.block (JC.seq (JC.region (JL.val rfl rfl (R.move rfl) ?_))))))
     obtain ⟨y_17, hN_18, hx⟩ := idx_some hx
     refine JL.val rfl rfl (R.idxA (enc := (fun a : Int => Value.int .i64 a)) (L := x_6.l) U158 S3 rfl rfl rfl rfl rfl hN_18) (JL.val rfl rfl (R.assign rfl) (JL.val rfl rfl (R.assign rfl) (JL.nil (JN.next (JC.seq (JC.region (JL.val rfl rfl (R.move rfl) (JL.val rfl rfl (R.move rfl) (JL.val rfl rfl (R.move rfl) (JL.val rfl rfl (R.move rfl) ?_))))))))))
     obtain ⟨x_19, hr_20, hx⟩ := bnd_some hx
     refine JL.callC (vs := [_, _, _]) (args := [_, _, _]) (K := []) (rst := [_, _]) E83 rfl rfl rfl picks0 (code_Get_ok p_1 s_12.2.2.2.2.2.1 y_17 _ (ha_2.mono RU8.mono hleH_15) _ hr_20) rfl (fun u_21 Ku_21 Hu_21 hRu_21 hleu_21 hfu_21 => ?_)
     obtain ⟨rfl, rfl, -⟩ := hRu_21
     refine JL.val rfl rfl (R.move rfl) (JL.val rfl rfl (R.extract rfl rfl) (JL.val rfl rfl (R.extract rfl rfl) ?_))
     obtain ⟨hp_22, hx⟩ := chk_some hx
     refine JL.val rfl rfl (R.ixAs U158 S3 rfl rfl hp_22) ?_
     obtain ⟨m_23, hm_24, hb_25, hx⟩ := A5.setI_some hx
     refine JL.stA 1 (enc := (fun a : Int => Value.int .i64 a)) (L := (A5.mk s_12.1 s_12.2.1 s_12.2.2.1 s_12.2.2.2.1 s_12.2.2.2.2.1).l) (L' := m_23.l) (cur' := #[.int .i64 m_23.e0, .int .i64 m_23.e1, .int .i64 m_23.e2, .int .i64 m_23.e3, .int .i64 m_23.e4]) S3 rfl rfl rfl rfl rfl rfl rfl hm_24 hb_25.2 rfl (JL.nil (JN.next (JC.region (JL.val rfl rfl (R.move rfl) (JL.val rfl rfl (R.move rfl) (JL.val rfl rfl (R.add_i rfl rfl) (JL.val rfl rfl (R.assign rfl) (JL.nil (JN.blkN (JN.next (JC.region ?_)))))))))))
     refine JL.val rfl rfl (R.inc rfl rfl (of_decide_eq_true c_16) (by decide)) (JL.val rfl rfl (R.move rfl) (JL.nil ?_))
     replace hx := run_next hd_16 hx
     refine JN.front 1 rfl (JN.front 1 rfl ?_)
     exact JN.cut ⟨(m_23.e0, m_23.e1, m_23.e2, m_23.e3, m_23.e4, w64 (s_12.2.2.2.2.2.1 + y_17), s_12.2.2.2.2.2.2 + 1), Hu_21, rfl, rfl, rfl, hx, ((hleH_15.trans hleu_21))⟩ ⟨rfl, rfl, rfl, rfl, rfl, rfl, trivial⟩ rfl rfl
    ·
     replace hx := cond_f c_16 hx
     refine JC.exit (JN.passX ?_)
     obtain rfl := run_done hd_16 hx
     refine JN.passX (JN.exitSame (JN.front 1 rfl (JN.front 1 rfl ?_)))
     exact JN.cut ⟨H_15, rfl, rfl, rfl, (hleH_15)⟩ ⟨rfl, rfl, trivial⟩ rfl rfl

set_option maxHeartbeats 8000000 in
theorem ptr_Rows_ok (p_1 : List UInt8) (H : Heaplet) {aoa_2 : Option Addr} {na_2 : Nat} {capa_2 : Nat} (ha_2 : IsSlice H RU8 1 (.slice aoa_2 na_2 capa_2) p_1) (r : List Ptr × Int) (hx : ptr_Rows p_1 = some r) :
  Does Try.prog 56 #[.slice aoa_2 na_2 capa_2] [] H (fun u K' H' => ∃ ao0 : Option Addr, ∃ n0 : Nat, ∃ cap0 : Nat, ∃ K0 : Own, u = .tuple #[.slice ao0 n0 cap0, .int .i64 r.2] ∧ K' = [K0] ∧ RowOf (New H H') R_Ptr 0 28 5 (.slice ao0 n0 cap0) r.1 K0 ∧ (∀ p ∈ K0, p.1 ∉ ids (List.flatten [])) ∧ True) := by
 refine Does.enterML (vs := [.slice aoa_2 na_2 capa_2]) (l := [(0, .slice aoa_2 na_2 capa_2)]) Try.func56 rfl rfl ⟨rfl, trivial⟩ (fun w hlt => ?_)
 unfold ptr_Rows at hx
 refine JC.seq (JC.region (JL.alloc Z53 rfl (fun b_3 hb_3 => JL.alloc Z33 rfl (fun b_4 hb_4 => JL.nil (JN.next (JC.seq (JC.seq (JC.region (JL.val rfl rfl (R.move rfl) (JL.val rfl rfl (R.lenL U45 rfl (IsSlice.long ha_2)) (JL.val rfl rfl (R.neq_i rfl rfl) ?_)))))))))))
 refine JL.nil (JN.next (JC.condB rfl (fun c_5 => ?_) (fun c_5 => ?_)))
 ·
  replace hx := cond_t c_5 hx
  refine JC.seq (JC.region (JL.store 1 S53 rfl rfl rfl rfl rfl (Nat.le_of_ble_eq_true rfl) (JL.store 0 S33 rfl rfl rfl rfl rfl (Nat.le_of_ble_eq_true rfl) (JL.nil (JN.next (JC.ret (JN.passR (JN.seg0 (JN.outMP (vs := [.slice none 0 0, .int .i64 3]) (K := [_]) (rst := [_, _]) (own2 := [_, _, _]) [] (.inl rfl) ⟨rfl, rfl, rfl, rfl⟩ rfl rfl picks0 (Res.cell1 2 rfl rfl S53 rfl (Res.cell1 1 rfl rfl S33 rfl rfl)) (picks 0 rfl picks0) ?_)))))))))
  obtain rfl := Option.some.inj hx
  exact ⟨none, 0, 0, [], rfl, rfl, (RowOf.nil _ _ _ _ _), (fun p hp => by cases hp), trivial⟩
 ·
  replace hx := cond_f c_5 hx
  refine JC.skip (JN.next (JC.seq (JC.seq (JC.region (JL.val rfl rfl (R.move rfl) ?_)))))
  obtain ⟨x_6, hr_7, hx⟩ := bnd_some hx
  refine JL.callC (vs := [_, _]) (args := [_, _]) (K := []) (rst := [_, _]) E95 rfl rfl rfl picks0 (slices_Chunk_byte_ok p_1 16 _ ha_2 _ hr_7) rfl (fun u_8 Ku_8 Hu_8 hRu_8 hleu_8 hfu_8 => ?_)
  obtain ⟨bit_9, cit_9, rfl, rfl, hit_9, kit_9, pit_9, -⟩ := hRu_8
  refine JL.nil (JN.next (JC.block ?_))
  obtain ⟨t_10, ht_12, hx⟩ := bnd_some hx
  refine JC.seg0 (JC.front 1 rfl (JC.front 1 rfl (JC.front 2 rfl (JC.rangeL (RA := fun H' args (y : List UInt8) => ∃ ao : Option Addr, args = #[.slice ao y.length y.length] ∧ IsSlice H' RU8 1 (.slice ao y.length y.length) y) rfl ptr_Rows_r1 ([] : List Ptr) t_10 ht_12 (fun s_13 o g => ∃ H_19 : Heaplet, ∃ aor_20 : Option Addr, ∃ nr_20 : Nat, ∃ capr_20 : Nat, ∃ Kr_20 : Own, o = [[(b_3, .cells #[.slice aor_20 nr_20 capr_20] 53 (0, 0))], Kr_20, [(b_4, .cells #[.int .i64 0] 33 (0, 0))]] ∧ H_19 = g ∧ Hle Hu_8 H_19 ∧ RowOf (New H H_19) R_Ptr w.heap.size 28 5 (.slice aor_20 nr_20 capr_20) s_13 Kr_20) (fun e c o g => (c = .ret ∧ ∃ t_10e0 : Int, t_10e0 = e ∧ ∃ H_21 : Heaplet, o = [[(b_3, .cells #[.slice none 0 0] 53 (0, 0))], [(b_4, .cells #[.int .i64 t_10e0] 33 (0, 0))]] ∧ H_21 = g ∧ Hle Hu_8 H_21)) rfl E136 (slices_Chunk_byte_it p_1 16 pit_9 _ (ha_2.mono RU8.mono hleu_8) hit_9 kit_9) (fun _ _ _ h => by obtain ⟨_, h, _⟩ := h; rw [h]; rfl) rfl ⟨Hu_8, none, 0, 0, [], rfl, rfl, (Hle.refl _), (RowOf.nil _ _ _ _ _)⟩ ?_ ?_ ?_))))
  ·
   rintro lr_15 y_14 s_13 args o g out_17 ⟨H_19, aor_20, nr_20, capr_20, Kr_20, rfl, rfl, hleH_19, hr_20⟩ hA hx2
   clear hx; have hx := hx2; clear hx2; unfold ptr_Rows_r1 at hx
   obtain ⟨aoit_9, rfl, hyit_9⟩ := hA
   refine ⟨[(2, .pointer (some ⟨b_3, 0, none⟩)), (3, .pointer (some ⟨b_4, 0, none⟩)), (4, .slice aoit_9 y_14.length y_14.length)], fun wb_16 hwb_16 => ?_, fun wb_16 hwb_16 => ?_⟩
   ·
    refine JC.region (JL.val rfl rfl (R.assign rfl) (JL.nil ?_))
    exact JN.assigned ⟨rfl, rfl, rfl, trivial⟩
   ·
    refine JC.block (JC.seq (JC.region (JL.val rfl rfl (R.move rfl) ?_)))
    obtain ⟨x_21, hr_22, hx⟩ := bnd_some hx
    refine JL.callC (vs := [_]) (args := [_]) (K := []) (rst := [_, _, _]) E84 rfl rfl rfl picks0 (ptr_Read_ok y_14 _ hyit_9 _ hr_22) rfl (fun u_23 Ku_23 Hu_23 hRu_23 hleu_23 hfu_23 => ?_)
    obtain ⟨rfl, rfl, -⟩ := hRu_23
    refine JL.val rfl rfl (R.move rfl) (JL.val rfl rfl (R.extract rfl rfl) (JL.val rfl rfl (R.extract rfl rfl) (JL.alloc Z28 rfl (fun b_24 hb_24 => JL.store 0 S28 rfl rfl rfl rfl rfl (Nat.le_of_ble_eq_true rfl) (JL.val rfl rfl (R.assign rfl) (JL.nil (JN.next (JC.seq (JC.seq (JC.region (JL.val rfl rfl (R.move rfl) ?_)))))))))))
    refine JL.val rfl rfl (R.neq_i rfl rfl) (JL.nil (JN.next (JC.condB rfl (fun c_25 => ?_) (fun c_25 => ?_))))
    ·
     replace hx := cond_t c_25 hx
     refine JC.seq (JC.region (JL.val rfl rfl (R.move rfl) (JL.store 1 S53 rfl rfl rfl rfl rfl (Nat.le_of_ble_eq_true rfl) (JL.store 3 S33 rfl rfl rfl rfl rfl (Nat.le_of_ble_eq_true rfl) (JL.nil (JN.next (JC.ret (JN.passR (JN.blkR ?_)))))))))
     obtain rfl := Option.some.inj hx
     refine JN.forget 2 (JN.forget 0 (JN.front 1 rfl (JN.front 1 rfl ?_)))
     exact JN.rR ⟨rfl, x_21.2, rfl, Hu_23, rfl, rfl, ((hleH_19.trans hleu_23))⟩
    ·
     replace hx := cond_f c_25 hx
     refine JC.skip (JN.next (JC.region (JL.val rfl rfl (R.ldo 1 S53 rfl rfl rfl) (JL.val rfl rfl (R.ldoN 0 (vs := [.int .i64 x_21.1.At, .int .u32 (x_21.1.Birth.toNat : Int), .int .u32 (x_21.1.Iv.toNat : Int), .int .u32 (x_21.1.Tag.toNat : Int), .int .u32 (x_21.1.Sum.toNat : Int)]) S28 rfl rfl rfl rfl) (JL.bslF (HF := (New H Hu_23)) (R := R_Ptr) (ls := [x_21.1]) (vs := [.agg #[.int .i64 x_21.1.At, .int .u32 (x_21.1.Birth.toNat : Int), .int .u32 (x_21.1.Iv.toNat : Int), .int .u32 (x_21.1.Tag.toNat : Int), .int .u32 (x_21.1.Sum.toNat : Int)]]) U53 I28 rfl rfl (⟨_, _, rfl, rfl, rfl, rfl⟩) R_Ptr.one rfl rfl rfl (by simp [maxLen]) rfl (fun vr_26 Kr_26 hr_26 => ?_))))))
     obtain ⟨aor_26, capr_26, rfl⟩ := RowOf.val hr_26
     obtain ⟨q_27, hm_28, hl_29, hx⟩ := app_some hx
     refine JL.appF (HF := (New H Hu_23)) 3 U53 I28 rfl rfl (hr_20.mono R_Ptr.mono (New.mono hleu_23)) rfl (SrcF.row 0 U53 rfl hr_26) hm_28 hl_29 rfl hwb_16 rfl (fun vr_30 Kr_30 hr_30 => ?_)
     obtain ⟨aor_30, capr_30, rfl⟩ := RowOf.val hr_30
     refine JL.store 2 S53 rfl rfl rfl rfl rfl (Nat.le_of_ble_eq_true rfl) (JL.nil (JN.blkN ?_))
     obtain rfl := Option.some.inj hx
     refine JN.forget 1 (JN.forget 0 (JN.front 2 rfl (JN.front 2 rfl (JN.front 2 rfl ?_))))
     exact JN.rN ⟨Hu_23, aor_30, q_27.length, capr_30, Kr_30, rfl, rfl, ((hleH_19.trans hleu_23)), hr_30⟩
  ·
   rintro D_18 s_13 o g hD_18 htt ⟨H_19, aor_20, nr_20, capr_20, Kr_20, rfl, rfl, hleH_19, hr_20⟩ hle2
   subst htt; simp only [Sum.elim_inl] at hx
   refine JN.blkN (JN.next (JC.seq (JC.region (JL.val rfl rfl (R.ldo 1 S53 rfl rfl rfl) (JL.store 1 S53 rfl rfl rfl rfl rfl (Nat.le_of_ble_eq_true rfl) (JL.store 3 S33 rfl rfl rfl rfl rfl (Nat.le_of_ble_eq_true rfl) (JL.nil (JN.next (JC.ret (JN.outMP (vs := [.slice aor_20 nr_20 capr_20, .int .i64 0]) (K := [_]) (rst := [_, _]) (own2 := [_, _, _]) [D_18] (.inl rfl) ⟨rfl, rfl, rfl, rfl⟩ rfl rfl (picks 0 rfl picks0) (Res.cell1 0 rfl rfl S53 rfl (Res.cell1 2 rfl rfl S33 rfl rfl)) (picks 1 rfl picks0) ?_))))))))))
   obtain rfl := Option.some.inj hx
   exact ⟨aor_20, nr_20, capr_20, Kr_20, rfl, rfl, (RowOf.weak (Nat.zero_le _) hr_20), (new_ids hr_20 hlt), trivial⟩
  ·
   rintro D_18 c e o g hD_18 htt hX hle2
   rcases hX with ⟨rfl, t_10e0, rfl, H_21, rfl, rfl, hleH_21⟩
   subst htt; simp only [Sum.elim_inl, Sum.elim_inr] at hx
   refine JC.ret (JN.blkR (JN.passR (JN.seg0 (JN.outMP (vs := [.slice none 0 0, .int .i64 t_10e0]) (K := [_]) (rst := [_, _]) (own2 := [_, _, _]) [D_18] (.inl rfl) ⟨rfl, rfl, rfl, rfl⟩ rfl rfl (picks 1 rfl picks0) (Res.cell1 1 rfl rfl S53 rfl (Res.cell1 2 rfl rfl S33 rfl rfl)) (picks 0 rfl picks0) ?_))))
   obtain rfl := Option.some.inj hx
   exact ⟨none, 0, 0, [], rfl, rfl, (RowOf.nil _ _ _ _ _), (fun p hp => by cases hp), trivial⟩

set_option maxHeartbeats 8000000 in
theorem set_Ptrs_ok (p_1 : Store) (p_5 : Ptr) (H : Heaplet) {aoa_2 : Option Addr} {na_2 : Nat} {capa_2 : Nat} {aoa_3 : Option Addr} {na_3 : Nat} {capa_3 : Nat} {aoa_4 : Option Addr} {na_4 : Nat} {capa_4 : Nat} (ha_2 : IsSlice H (RSl RU8 1) 1 (.slice aoa_2 na_2 capa_2) p_1.Disk.Blocks) (ha_3 : IsSlice H R_Write 2 (.slice aoa_3 na_3 capa_3) p_1.Disk.Waits) (ha_4 : IsSlice H RU8 1 (.slice aoa_4 na_4 capa_4) p_1.Space) (r : List Ptr × Int) (hx : set_Ptrs p_1 p_5 = some r) :
  Does Try.prog 24 #[.agg #[.slice aoa_2 na_2 capa_2, .slice aoa_3 na_3 capa_3, .slice aoa_4 na_4 capa_4, .int .u32 (p_1.Epoch.toNat : Int), .int .u32 (p_1.Count.toNat : Int)], .agg #[.int .i64 p_5.At, .int .u32 (p_5.Birth.toNat : Int), .int .u32 (p_5.Iv.toNat : Int), .int .u32 (p_5.Tag.toNat : Int), .int .u32 (p_5.Sum.toNat : Int)]] [] H (fun u K' H' => ∃ ao0 : Option Addr, ∃ n0 : Nat, ∃ cap0 : Nat, ∃ K0 : Own, u = .tuple #[.slice ao0 n0 cap0, .int .i64 r.2] ∧ K' = [K0] ∧ RowOf (New H H') R_Ptr 0 28 5 (.slice ao0 n0 cap0) r.1 K0 ∧ (∀ p ∈ K0, p.1 ∉ ids (List.flatten [])) ∧ True) := by
 refine Does.enterL (vs := [.agg #[.slice aoa_2 na_2 capa_2, .slice aoa_3 na_3 capa_3, .slice aoa_4 na_4 capa_4, .int .u32 (p_1.Epoch.toNat : Int), .int .u32 (p_1.Count.toNat : Int)], .agg #[.int .i64 p_5.At, .int .u32 (p_5.Birth.toNat : Int), .int .u32 (p_5.Iv.toNat : Int), .int .u32 (p_5.Tag.toNat : Int), .int .u32 (p_5.Sum.toNat : Int)]]) (l := [(0, .agg #[.slice aoa_2 na_2 capa_2, .slice aoa_3 na_3 capa_3, .slice aoa_4 na_4 capa_4, .int .u32 (p_1.Epoch.toNat : Int), .int .u32 (p_1.Count.toNat : Int)]), (1, .agg #[.int .i64 p_5.At, .int .u32 (p_5.Birth.toNat : Int), .int .u32 (p_5.Iv.toNat : Int), .int .u32 (p_5.Tag.toNat : Int), .int .u32 (p_5.Sum.toNat : Int)])]) Try.func24 rfl rfl ⟨rfl, rfl, trivial⟩ (fun w hlt => ?_)
 unfold set_Ptrs at hx
 refine JC.seq (JC.region (JL.box rfl rfl (fun b_6 hb_6 => JL.box rfl rfl (fun b_7 hb_7 => JL.val rfl rfl (R.assign rfl) (JL.val rfl rfl (R.assign rfl) (JL.nil (JN.next (JC.seq (JC.seq (JC.region (JL.val rfl rfl (R.ldoN 1 (vs := [.slice aoa_2 na_2 capa_2, .slice aoa_3 na_3 capa_3, .slice aoa_4 na_4 capa_4, .int .u32 (p_1.Epoch.toNat : Int), .int .u32 (p_1.Count.toNat : Int)]) S50 rfl rfl rfl rfl) ?_)))))))))))
 obtain ⟨x_8, hr_9, hx⟩ := bnd_some hx
 refine JL.callC (vs := [_]) (args := [_]) (K := []) (rst := [_, _]) E26 rfl rfl rfl picks0 (store_Check_ok p_1 _ ha_2 ha_3 ha_4 _ hr_9) rfl (fun u_10 Ku_10 Hu_10 hRu_10 hleu_10 hfu_10 => ?_)
 obtain ⟨rfl, rfl, rfl, -⟩ := hRu_10
 refine JL.val rfl rfl (R.neq_i rfl rfl) (JL.val rfl rfl (R.move rfl) (JL.gSplit (t := 12) rfl (fun c_11 => ?_) (fun c_11 => ?_)))
 ·
  replace hx := cond_t c_11 hx
  refine JL.gNo rfl rfl rfl rfl rfl (JL.gNo rfl rfl rfl rfl rfl (JL.gNo rfl rfl rfl rfl rfl (JL.val rfl rfl (R.pickT rfl rfl) (JL.nil (JN.next (JC.condT rfl (JC.seq (JC.region (JL.val rfl rfl (R.assign rfl) (JL.val rfl rfl (R.assign rfl) (JL.nil ?_)))))))))))
  refine JN.next (JC.ret (JN.passR (JN.seg0 (JN.outP (vs := [.slice none 0 0, .int .i64 8]) (K := [_]) (rst := [_, _]) (.inl rfl) rfl rfl (Res.tmp rfl (Res.tmp rfl rfl)) (picks 0 rfl picks0) ?_))))
  obtain rfl := Option.some.inj hx
  exact ⟨none, 0, 0, [], rfl, rfl, (RowOf.nil _ _ _ _ _), (fun p hp => by cases hp), trivial⟩
 ·
  replace hx := cond_f c_11 hx
  refine JL.gYes rfl rfl rfl (JL.val rfl rfl (R.ldoN 0 (vs := [.int .i64 p_5.At, .int .u32 (p_5.Birth.toNat : Int), .int .u32 (p_5.Iv.toNat : Int), .int .u32 (p_5.Tag.toNat : Int), .int .u32 (p_5.Sum.toNat : Int)]) S28 rfl rfl rfl rfl) (JL.gYes rfl rfl rfl ?_))
  obtain ⟨x_12, hr_13, hx⟩ := bnd_some hx
  refine JL.callC (vs := [_]) (args := [_]) (K := []) (rst := [_, _]) E49 rfl rfl rfl picks0 (ptr_Check_ok p_5 _ _ hr_13) rfl (fun u_14 Ku_14 Hu_14 hRu_14 hleu_14 hfu_14 => ?_)
  obtain ⟨rfl, rfl, rfl, -⟩ := hRu_14
  refine JL.gYes rfl rfl rfl (JL.val rfl rfl (R.neq_i rfl rfl) (JL.val rfl rfl (R.pickF rfl rfl) (JL.nil (JN.next (JC.condB rfl (fun c_15 => ?_) (fun c_15 => ?_))))))
  ·
   replace hx := cond_t c_15 hx
   refine JC.seq (JC.region (JL.val rfl rfl (R.assign rfl) (JL.val rfl rfl (R.assign rfl) (JL.nil (JN.next (JC.ret (JN.passR (JN.seg0 (JN.outP (vs := [.slice none 0 0, .int .i64 8]) (K := [_]) (rst := [_, _]) (.inl rfl) rfl rfl (Res.tmp rfl (Res.tmp rfl rfl)) (picks 0 rfl picks0) ?_)))))))))
   obtain rfl := Option.some.inj hx
   exact ⟨none, 0, 0, [], rfl, rfl, (RowOf.nil _ _ _ _ _), (fun p hp => by cases hp), trivial⟩
  ·
   replace hx := cond_f c_15 hx
   refine JC.skip (JN.next (JC.seq (JC.seq (JC.region (JL.val rfl rfl (R.ldoN 0 (vs := [.int .i64 p_5.At, .int .u32 (p_5.Birth.toNat : Int), .int .u32 (p_5.Iv.toNat : Int), .int .u32 (p_5.Tag.toNat : Int), .int .u32 (p_5.Sum.toNat : Int)]) S28 rfl rfl rfl rfl) (JL.val rfl rfl (R.bldP (vs := []) (cs := [.int .i64 0, .int .u32 ((0 : UInt32).toNat : Int), .int .u32 ((0 : UInt32).toNat : Int), .int .u32 ((0 : UInt32).toNat : Int), .int .u32 ((0 : UInt32).toNat : Int)]) Z28 B28 rfl rfl rfl) (JL.val rfl rfl (R.eqlAgg QU28 QP28 QG28 QF28 rfl rfl (EqF.i (by decide) S3 U3 rfl rfl (EqF.u32 (a := p_5.Birth) (b := (0 : UInt32)) (by decide) S26 U26 rfl rfl (EqF.u32 (a := p_5.Iv) (b := (0 : UInt32)) (by decide) S26 U26 rfl rfl (EqF.u32 (a := p_5.Tag) (b := (0 : UInt32)) (by decide) S26 U26 rfl rfl (EqF.u32 (a := p_5.Sum) (b := (0 : UInt32)) (by decide) S26 U26 rfl rfl EqF.nil)))))) (JL.nil (JN.next (JC.condB rfl (fun c_16 => ?_) (fun c_16 => ?_)))))))))))
   ·
    replace hx := cond_t c_16 hx
    refine JC.seq (JC.region ?_)
    obtain ⟨x_19, hm_18, hc_17, hx⟩ := mks_some hx
    refine JL.mkF (HF := New H H) (R := R_Ptr) (y := Ptr.mk 0 (0 : UInt32) (0 : UInt32) (0 : UInt32) (0 : UInt32)) (n := 16) U53 I28 rfl rfl (fun _ => rfl) R_Ptr.one hm_18 hc_17 rfl rfl (fun vr_20 Kr_20 hr_20 => ?_)
    obtain ⟨aor_20, capr_20, rfl⟩ := RowOf.val hr_20
    refine JL.val rfl rfl (R.assign rfl) (JL.val rfl rfl (R.assign rfl) (JL.nil (JN.next (JC.ret (JN.passR (JN.outP (vs := [.slice aor_20 x_19.length capr_20, .int .i64 0]) (K := [_]) (rst := [_, _]) (.inl rfl) rfl rfl (Res.tmp rfl (Res.tmp rfl rfl)) (picks 0 rfl picks0) ?_))))))
    obtain rfl := Option.some.inj hx
    exact ⟨aor_20, x_19.length, capr_20, Kr_20, rfl, rfl, (RowOf.weak (Nat.zero_le _) hr_20), (new_ids hr_20 hlt), trivial⟩
   ·
    replace hx := cond_f c_16 hx
    refine JC.skip (JN.next (JC.seq (JC.region (JL.val rfl rfl (R.ldoN 1 (vs := [.slice aoa_2 na_2 capa_2, .slice aoa_3 na_3 capa_3, .slice aoa_4 na_4 capa_4, .int .u32 (p_1.Epoch.toNat : Int), .int .u32 (p_1.Count.toNat : Int)]) S50 rfl rfl rfl rfl) (JL.val rfl rfl (R.ldoN 0 (vs := [.int .i64 p_5.At, .int .u32 (p_5.Birth.toNat : Int), .int .u32 (p_5.Iv.toNat : Int), .int .u32 (p_5.Tag.toNat : Int), .int .u32 (p_5.Sum.toNat : Int)]) S28 rfl rfl rfl rfl) ?_)))))
    obtain ⟨x_21, hr_22, hx⟩ := bnd_some hx
    refine JL.callC (vs := [_, _]) (args := [_, _]) (K := []) (rst := [_, _]) E55 rfl rfl rfl picks0 (store_Look_ok p_1 p_5 _ ha_2 ha_3 ha_4 _ hr_22) rfl (fun u_23 Ku_23 Hu_23 hRu_23 hleu_23 hfu_23 => ?_)
    obtain ⟨aoz_24, nz_24, capz_24, rfl, rfl, hz_24, -⟩ := hRu_23
    replace hz_24 := IsSlice.mono RU8.mono (New.call (Hle.refl _)) hz_24
    refine JL.val rfl rfl (R.move rfl) (JL.val rfl rfl (R.extract rfl rfl) (JL.val rfl rfl (R.extract rfl rfl) (JL.val rfl rfl (R.assign rfl) (JL.val rfl rfl (R.assign rfl) (JL.nil (JN.next (JC.seq (JC.seq (JC.region (JL.val rfl rfl (R.move rfl) (JL.val rfl rfl (R.neq_i rfl rfl) ?_)))))))))))
    refine JL.nil (JN.next (JC.condB rfl (fun c_25 => ?_) (fun c_25 => ?_)))
    ·
     replace hx := cond_t c_25 hx
     refine JC.seq (JC.region (JL.val rfl rfl (R.move rfl) (JL.val rfl rfl (R.assign rfl) (JL.val rfl rfl (R.assign rfl) (JL.nil (JN.next (JC.ret (JN.passR (JN.seg0 (JN.outP (vs := [.slice none 0 0, .int .i64 x_21.2]) (K := [_]) (rst := [_, _]) (.inl rfl) rfl rfl (Res.tmp rfl (Res.tmp rfl rfl)) (picks 0 rfl picks0) ?_))))))))))
     obtain rfl := Option.some.inj hx
     exact ⟨none, 0, 0, [], rfl, rfl, (RowOf.nil _ _ _ _ _), (fun p hp => by cases hp), trivial⟩
    ·
     replace hx := cond_f c_25 hx
     refine JC.skip (JN.next (JC.seq (JC.region (JL.val rfl rfl (R.move rfl) ?_))))
     obtain ⟨x_26, hr_27, hx⟩ := bnd_some hx
     refine JL.callC (vs := [_]) (args := [_]) (K := []) (rst := [_, _]) E56 rfl rfl rfl picks0 (ptr_Rows_ok x_21.1 _ (hz_24.old RU8.mono) _ hr_27) rfl (fun u_28 Ku_28 Hu_28 hRu_28 hleu_28 hfu_28 => ?_)
     obtain ⟨aor_29, nr_29, capr_29, Kr_29, rfl, rfl, hr_29, hnewr_29, -⟩ := hRu_28
     replace hr_29 := (RowOf.base (RowOf.const (H2 := New H Hu_28) R_Ptr.const hr_29) (fun p hp => (hfu_28 p (mem_seg 0 rfl hp)).resolve_left (hnewr_29 p hp)))
     refine JL.val rfl rfl (R.move rfl) (JL.val rfl rfl (R.extract rfl rfl) (JL.val rfl rfl (R.extract rfl rfl) (JL.val rfl rfl (R.assign rfl) (JL.val rfl rfl (R.assign rfl) (JL.nil (JN.next (JC.seq (JC.seq (JC.region (JL.val rfl rfl (R.move rfl) (JL.val rfl rfl (R.neq_i rfl rfl) ?_)))))))))))
     refine JL.nil (JN.next (JC.condB rfl (fun c_30 => ?_) (fun c_30 => ?_)))
     ·
      replace hx := cond_t c_30 hx
      refine JC.seq (JC.region (JL.val rfl rfl (R.assign rfl) (JL.val rfl rfl (R.assign rfl) (JL.nil (JN.next (JC.ret (JN.passR (JN.seg0 (JN.outP (vs := [.slice none 0 0, .int .i64 8]) (K := [_]) (rst := [_, _, _]) (.inl rfl) rfl rfl (Res.tmp rfl (Res.tmp rfl rfl)) (picks 0 rfl picks0) ?_)))))))))
      obtain rfl := Option.some.inj hx
      exact ⟨none, 0, 0, [], rfl, rfl, (RowOf.nil _ _ _ _ _), (fun p hp => by cases hp), trivial⟩
     ·
      replace hx := cond_f c_30 hx
      refine JC.skip (JN.next (JC.seq (JC.region (JL.val rfl rfl (R.move rfl) (JL.val rfl rfl (R.assign rfl) (JL.val rfl rfl (R.assign rfl) (JL.nil (JN.next (JC.ret (JN.outP (vs := [.slice aor_29 nr_29 capr_29, .int .i64 0]) (K := [_]) (rst := [_, _]) (.inl rfl) rfl rfl (Res.tmp rfl (Res.tmp rfl rfl)) (picks 0 rfl picks0) ?_))))))))))
      obtain rfl := Option.some.inj hx
      exact ⟨aor_29, nr_29, capr_29, Kr_29, rfl, rfl, (RowOf.weak (Nat.zero_le _) hr_29), (new_ids hr_29 hlt), trivial⟩

set_option maxHeartbeats 8000000 in
theorem obj_Read_ok (p_1 : List UInt8) (H : Heaplet) {aoa_2 : Option Addr} {na_2 : Nat} {capa_2 : Nat} (ha_2 : IsSlice H RU8 1 (.slice aoa_2 na_2 capa_2) p_1) (r : Object × Int) (hx : obj_Read p_1 = some r) :
  Does Try.prog 94 #[.slice aoa_2 na_2 capa_2] [] H (fun u K' H' => ∃ ao0 : Option Addr, ∃ n0 : Nat, u = .tuple #[.agg #[.int .u8 (r.1.Kind.toNat : Int), .int .i64 r.1.Links, .int .i64 r.1.Size, .slice ao0 n0 n0], .int .i64 r.2] ∧ K' = [] ∧ IsSlice (New H H') R_Ptr 5 (.slice ao0 n0 n0) r.1.Data ∧ True) := by
 refine Does.enterL (vs := [.slice aoa_2 na_2 capa_2]) (l := [(0, .slice aoa_2 na_2 capa_2)]) Try.func94 rfl rfl ⟨rfl, trivial⟩ (fun w hlt => ?_)
 unfold obj_Read at hx
 refine JC.seq (JC.region (JL.alloc Z60 rfl (fun b_3 hb_3 => JL.val rfl rfl (R.assign rfl) (JL.nil (JN.next (JC.seq (JC.seq (JC.region (JL.val rfl rfl (R.move rfl) (JL.val rfl rfl (R.lenL U45 rfl (IsSlice.long ha_2)) (JL.val rfl rfl (R.neq_i rfl rfl) ?_)))))))))))
 refine JL.nil (JN.next (JC.condB rfl (fun c_4 => ?_) (fun c_4 => ?_)))
 ·
  replace hx := cond_t c_4 hx
  refine JC.seq (JC.region (JL.val rfl rfl (R.bldP (vs := []) (cs := [.int .u8 ((0 : UInt8).toNat : Int), .int .i64 0, .int .i64 0, .slice none 0 0]) Z60 B60 rfl rfl rfl) (JL.store 0 S60 rfl rfl rfl rfl rfl (Nat.le_of_ble_eq_true rfl) (JL.val rfl rfl (R.assign rfl) (JL.nil (JN.next (JC.ret (JN.passR (JN.outP (vs := [.agg #[.int .u8 ((0 : UInt8).toNat : Int), .int .i64 0, .int .i64 0, .slice none 0 0], .int .i64 3]) (K := []) (rst := [_]) (.inl rfl) rfl rfl (Res.cellN 0 rfl rfl S60 (Res.tmp rfl rfl)) picks0 ?_)))))))))
  obtain rfl := Option.some.inj hx
  exact ⟨none, 0, rfl, rfl, (IsSlice.nil _ _ _), trivial⟩
 ·
  replace hx := cond_f c_4 hx
  refine JC.skip (JN.next (JC.seq (JC.region (JL.val rfl rfl (R.move rfl) ?_))))
  obtain ⟨m_5, hm_6, hl_7, hx⟩ := A16.first_some hx
  obtain ⟨b_8, o_9, ha_10, hn_11, hc_12⟩ := IsSlice.first ha_2 hm_6 hl_7 (by decide)
  refine JL.val rfl rfl (R.s2aH U138 rfl hn_11 ha_10) (JL.val rfl rfl (R.ldHE (cs := [.int .u8 (m_5.e0.toNat : Int), .int .u8 (m_5.e1.toNat : Int), .int .u8 (m_5.e2.toNat : Int), .int .u8 (m_5.e3.toNat : Int), .int .u8 (m_5.e4.toNat : Int), .int .u8 (m_5.e5.toNat : Int), .int .u8 (m_5.e6.toNat : Int), .int .u8 (m_5.e7.toNat : Int), .int .u8 (m_5.e8.toNat : Int), .int .u8 (m_5.e9.toNat : Int), .int .u8 (m_5.e10.toNat : Int), .int .u8 (m_5.e11.toNat : Int), .int .u8 (m_5.e12.toNat : Int), .int .u8 (m_5.e13.toNat : Int), .int .u8 (m_5.e14.toNat : Int), .int .u8 (m_5.e15.toNat : Int)]) (k := 0) (vs := [.int .u8 (m_5.e0.toNat : Int), .int .u8 (m_5.e1.toNat : Int), .int .u8 (m_5.e2.toNat : Int), .int .u8 (m_5.e3.toNat : Int), .int .u8 (m_5.e4.toNat : Int), .int .u8 (m_5.e5.toNat : Int), .int .u8 (m_5.e6.toNat : Int), .int .u8 (m_5.e7.toNat : Int), .int .u8 (m_5.e8.toNat : Int), .int .u8 (m_5.e9.toNat : Int), .int .u8 (m_5.e10.toNat : Int), .int .u8 (m_5.e11.toNat : Int), .int .u8 (m_5.e12.toNat : Int), .int .u8 (m_5.e13.toNat : Int), .int .u8 (m_5.e14.toNat : Int), .int .u8 (m_5.e15.toNat : Int)]) S138 rfl hc_12 rfl rfl) (JL.alloc Z138 rfl (fun b_13 hb_13 => JL.store 0 S138 rfl rfl rfl rfl rfl (Nat.le_of_ble_eq_true rfl) (JL.nil (JN.next (JC.seq (JC.region (JL.val rfl rfl (R.move rfl) (JL.val rfl rfl (R.move rfl) (JL.val rfl rfl (R.lenL U45 rfl (IsSlice.long ha_2)) (JL.val rfl rfl (R.move rfl) ?_)))))))))))
  refine JL.val rfl rfl (R.lenL U45 rfl (IsSlice.long ha_2)) ?_
  obtain ⟨m_14, hm_16, hb_15, hx⟩ := slc_some hx
  obtain ⟨vv_17, cv_17, aov_17, h1v_17, h2v_17, hsv_17⟩ := IsSlice.cutc ha_2 hm_16 hb_15
  refine JL.val rfl rfl (R.slc (cap := cv_17) (a := 16) (b := (p_1.length : Int)) (c := (p_1.length : Int)) (m := p_1) (R := RU8) U45 S5 rfl ⟨_, rfl⟩ ⟨_, rfl⟩ ⟨_, rfl⟩ ⟨hb_15.1, hb_15.2.1, Int.le_refl _⟩ h1v_17 (.inr (fun h => by cases h))) ?_
  subst h2v_17
  obtain ⟨q_18, hm_19, hl_20, hx⟩ := app_some hx
  refine JL.appZC (HF := (New H H)) (y := (0 : UInt8)) (N := 16) U45 U3 I5 rfl RU8.one (Hle.refl _) hsv_17 (fun _ _ h => RU8.const _ _ _ _ h) rfl (fun _ => rfl) rfl hm_19 (by simpa using hl_20) rfl rfl (fun vr_21 Kr_21 hr_21 => ?_)
  obtain ⟨aor_21, capr_21, rfl⟩ := RowOf.val hr_21
  obtain ⟨x_25, hr_26, hx⟩ := bnd_some hx
  refine JL.callL3 (vs := [_]) E56 rfl rfl (fun H_24 hle_23 hl_22 => ptr_Rows_ok q_18 _ (Lent.row' 0 hl_22 RU8.mono hle_23 rfl (hr_21.old RU8.mono)) _ hr_26) rfl (fun _ _ _ _ hR_28 hf_29 => ?_)
  obtain ⟨aor_27, nr_27, capr_27, Kr_27, rfl, rfl, hr_27, -, -⟩ := hR_28
  replace hr_27 := RowOf.base (RowOf.const (H2 := New H H) R_Ptr.const hr_27) (fun p hp => hf_29 p (mem_seg 0 rfl hp))
  refine JL.val rfl rfl (R.move rfl) (JL.val rfl rfl (R.extract rfl rfl) (JL.val rfl rfl (R.extract rfl rfl) (JL.val rfl rfl (R.assign rfl) (JL.val rfl rfl (R.assign rfl) (JL.nil (JN.next (JC.seq (JC.seq (JC.region (JL.val rfl rfl (R.move rfl) (JL.val rfl rfl (R.neq_i rfl rfl) ?_)))))))))))
  refine JL.val rfl rfl (R.move rfl) (JL.gSplit (t := 28) rfl (fun c_30 => ?_) (fun c_30 => ?_))
  ·
   replace hx := cond_t c_30 hx
   refine JL.gNo rfl rfl rfl rfl rfl (JL.gNo rfl rfl rfl rfl rfl (JL.gNo rfl rfl rfl rfl rfl (JL.gNo rfl rfl rfl rfl rfl (JL.gNo rfl rfl rfl rfl rfl (JL.val rfl rfl (R.pickT rfl rfl) (JL.nil (JN.next (JC.condT rfl (JC.seq (JC.region (JL.val rfl rfl (R.bldP (vs := []) (cs := [.int .u8 ((0 : UInt8).toNat : Int), .int .i64 0, .int .i64 0, .slice none 0 0]) Z60 B60 rfl rfl rfl) ?_)))))))))))
   refine JL.store 3 S60 rfl rfl rfl rfl rfl (Nat.le_of_ble_eq_true rfl) (JL.val rfl rfl (R.assign rfl) (JL.nil (JN.next (JC.ret (JN.passR (JN.outP (vs := [.agg #[.int .u8 ((0 : UInt8).toNat : Int), .int .i64 0, .int .i64 0, .slice none 0 0], .int .i64 8]) (K := []) (rst := [_, _, _, _]) (.inl rfl) rfl rfl (Res.cellN 3 rfl rfl S60 (Res.tmp rfl rfl)) picks0 ?_))))))
   obtain rfl := Option.some.inj hx
   exact ⟨none, 0, rfl, rfl, (IsSlice.nil _ _ _), trivial⟩
  ·
   replace hx := cond_f c_30 hx
   refine JL.gYes rfl rfl rfl (JL.val rfl rfl (R.slcA U138 S5 rfl ⟨_, _, rfl, rfl⟩ rfl rfl rfl rfl) (JL.gYes rfl rfl rfl (JL.val rfl rfl (R.s2aK U186 rfl rfl) (JL.gYes rfl rfl rfl (JL.val rfl rfl (R.ldoN 2 (vs := [.int .u8 (m_5.e4.toNat : Int), .int .u8 (m_5.e5.toNat : Int), .int .u8 (m_5.e6.toNat : Int), .int .u8 (m_5.e7.toNat : Int), .int .u8 (m_5.e8.toNat : Int), .int .u8 (m_5.e9.toNat : Int), .int .u8 (m_5.e10.toNat : Int), .int .u8 (m_5.e11.toNat : Int), .int .u8 (m_5.e12.toNat : Int), .int .u8 (m_5.e13.toNat : Int), .int .u8 (m_5.e14.toNat : Int), .int .u8 (m_5.e15.toNat : Int)]) S186 rfl rfl rfl rfl) (JL.gYes rfl rfl rfl (JL.val rfl rfl (R.bldA (vs := []) (cells := #[.int .u8 ((0 : UInt8).toNat : Int), .int .u8 ((0 : UInt8).toNat : Int), .int .u8 ((0 : UInt8).toNat : Int), .int .u8 ((0 : UInt8).toNat : Int), .int .u8 ((0 : UInt8).toNat : Int), .int .u8 ((0 : UInt8).toNat : Int), .int .u8 ((0 : UInt8).toNat : Int), .int .u8 ((0 : UInt8).toNat : Int), .int .u8 ((0 : UInt8).toNat : Int), .int .u8 ((0 : UInt8).toNat : Int), .int .u8 ((0 : UInt8).toNat : Int), .int .u8 ((0 : UInt8).toNat : Int)]) Z186 B186 rfl rfl rfl rfl) (JL.gYes rfl rfl rfl (JL.val rfl rfl (R.neqArr [m_5.e4, m_5.e5, m_5.e6, m_5.e7, m_5.e8, m_5.e9, m_5.e10, m_5.e11, m_5.e12, m_5.e13, m_5.e14, m_5.e15] [(0 : UInt8), (0 : UInt8), (0 : UInt8), (0 : UInt8), (0 : UInt8), (0 : UInt8), (0 : UInt8), (0 : UInt8), (0 : UInt8), (0 : UInt8), (0 : UInt8), (0 : UInt8)] U186 U5 S5 C5 QG186 rfl rfl rfl rfl rfl rfl) (JL.val rfl rfl (R.pickF rfl rfl) (JL.nil ?_)))))))))))
   refine JN.next (JC.condB rfl (fun c_31 => ?_) (fun c_31 => ?_))
   ·
    replace hx := cond_t c_31 hx
    refine JC.seq (JC.region (JL.val rfl rfl (R.bldP (vs := []) (cs := [.int .u8 ((0 : UInt8).toNat : Int), .int .i64 0, .int .i64 0, .slice none 0 0]) Z60 B60 rfl rfl rfl) (JL.store 3 S60 rfl rfl rfl rfl rfl (Nat.le_of_ble_eq_true rfl) (JL.val rfl rfl (R.assign rfl) (JL.nil (JN.next (JC.ret (JN.passR (JN.outP (vs := [.agg #[.int .u8 ((0 : UInt8).toNat : Int), .int .i64 0, .int .i64 0, .slice none 0 0], .int .i64 8]) (K := []) (rst := [_, _, _, _]) (.inl rfl) rfl rfl (Res.cellN 3 rfl rfl S60 (Res.tmp rfl rfl)) picks0 ?_)))))))))
    obtain rfl := Option.some.inj hx
    exact ⟨none, 0, rfl, rfl, (IsSlice.nil _ _ _), trivial⟩
   ·
    replace hx := cond_f c_31 hx
    refine JC.skip (JN.next (JC.seq (JC.region (JL.val rfl rfl (R.move rfl) ?_))))
    obtain ⟨x_32, hr_33, hx⟩ := bnd_some hx
    refine JL.callC (vs := [_, _, _]) (args := [_, _, _]) (K := []) (rst := [_, _, _, _]) E83 rfl rfl rfl picks0 (code_Get_ok p_1 2 2 _ ha_2 _ hr_33) rfl (fun u_34 Ku_34 Hu_34 hRu_34 hleu_34 hfu_34 => ?_)
    obtain ⟨rfl, rfl, -⟩ := hRu_34
    refine JL.val rfl rfl (R.move rfl) (JL.val rfl rfl (R.extract rfl rfl) (JL.val rfl rfl (R.extract rfl rfl) (JL.val rfl rfl (R.assign rfl) (JL.val rfl rfl (R.assign rfl) (JL.nil (JN.next (JC.seq (JC.pubN 0 R_Ptr.mono rfl (hr_27.mono R_Ptr.mono (New.mono hleu_34)) (Nat.le_refl _) (fun H_35 hleH_35 hsH_35 => JC.forget 0 (JC.draw (so := [_, _]) 10 rfl Mixed ⟨⟨0, rfl⟩, ⟨1, rfl⟩, trivial⟩ (JA.val ⟨by kernel_rfl, by kernel_rfl⟩ (calm_only _) (i := 0) rfl ⟨by kernel_rfl, by kernel_rfl, rfl⟩ trivial (stab_of (Hle.refl _) ⟨⟨0, rfl⟩, ⟨1, rfl⟩, trivial⟩) (R.ixA 0 U138 S5 rfl rfl rfl) rfl ?_)))))))))))
    refine JA.val ⟨by kernel_rfl, by kernel_rfl⟩ (calm_only _) (i := 1) rfl ⟨by kernel_rfl, by kernel_rfl, rfl⟩ trivial (stab_of (Hle.refl _) ⟨⟨0, rfl⟩, ⟨1, rfl⟩, trivial⟩) (R.ldo 1 S5 rfl rfl rfl) rfl (JA.val ⟨by kernel_rfl, by kernel_rfl⟩ (calm_only _) (i := 2) rfl ⟨by kernel_rfl, by kernel_rfl, rfl⟩ trivial (stab_of (Hle.refl _) ⟨⟨0, rfl⟩, ⟨1, rfl⟩, trivial⟩) (R.ixA 1 U138 S5 rfl rfl rfl) rfl (JA.val ⟨by kernel_rfl, by kernel_rfl⟩ (calm_only _) (i := 3) rfl ⟨by kernel_rfl, by kernel_rfl, rfl⟩ trivial (stab_of (Hle.refl _) ⟨⟨0, rfl⟩, ⟨1, rfl⟩, trivial⟩) (R.ldo 1 S5 rfl rfl rfl) rfl (JA.val ⟨by kernel_rfl, by kernel_rfl⟩ (calm_only _) (i := 4) rfl ⟨by kernel_rfl, by kernel_rfl, rfl⟩ trivial (stab_of (Hle.refl _) ⟨⟨0, rfl⟩, ⟨1, rfl⟩, trivial⟩) (R.cv_u8_i64 (a := m_5.e1) U5 U3 rfl) rfl (JA.val ⟨by kernel_rfl, by kernel_rfl⟩ (calm_only _) (i := 5) rfl ⟨by kernel_rfl, by kernel_rfl, rfl⟩ trivial (stab_of (Hle.refl _) ⟨⟨0, rfl⟩, ⟨1, rfl⟩, trivial⟩) (R.move rfl) rfl (JA.val ⟨by kernel_rfl, by kernel_rfl⟩ (calm_only _) (i := 6) rfl ⟨by kernel_rfl, by kernel_rfl, rfl⟩ trivial (stab_of (Hle.refl _) ⟨⟨0, rfl⟩, ⟨1, rfl⟩, trivial⟩) (R.move rfl) rfl ?_)))))
    obtain ⟨m_36, hm_38, hb_37, hx⟩ := slc_some hx
    obtain ⟨vv_39, cv_39, aov_39, h1v_39, h2v_39, hsv_39⟩ := IsSlice.cutc hsH_35 hm_38 hb_37
    refine JA.val ⟨by kernel_rfl, by kernel_rfl⟩ (calm_only _) (i := 7) rfl ⟨by kernel_rfl, by kernel_rfl, rfl⟩ trivial (stab_of (Hle.refl _) ⟨⟨0, rfl⟩, ⟨1, rfl⟩, trivial⟩) (R.slc (cap := cv_39) (a := 0) (b := 15) (c := 15) (m := x_25.1) (R := R_Ptr) U53 S28 rfl rfl ⟨_, rfl⟩ ⟨_, rfl⟩ ⟨hb_37.1, hb_37.2.1, Int.le_refl _⟩ h1v_39 (.inr (fun h => by cases h))) rfl ?_
    subst h2v_39
    refine JA.val ⟨by kernel_rfl, by kernel_rfl⟩ (calm_only _) (i := 8) rfl ⟨by kernel_rfl, by kernel_rfl, rfl⟩ trivial (stab_of (Hle.refl _) ⟨⟨0, rfl⟩, ⟨1, rfl⟩, trivial⟩) (R.bldP (vs := [(0, .int .u8 (m_5.e0.toNat : Int)), (1, .int .i64 (m_5.e1.toNat : Int)), (2, .int .i64 x_32.1), (3, .slice aov_39 m_36.length m_36.length)]) (cs := [.int .u8 (m_5.e0.toNat : Int), .int .i64 (m_5.e1.toNat : Int), .int .i64 x_32.1, .slice aov_39 m_36.length m_36.length]) Z60 B60 rfl rfl rfl) rfl (JA.one (i := 9) (by kernel_rfl) (JO.step rfl trivial rfl (fun K hK => JL.store 2 S60 rfl rfl rfl rfl rfl (Nat.le_of_ble_eq_true rfl) (JL.nil (hK _ _ _ (stab_of (Hle.refl _) ⟨⟨0, rfl⟩, ⟨1, rfl⟩, trivial⟩) (JA.doneN (by kernel_rfl) (JN.next (JC.tidyP (l' := [(2, .pointer (some ⟨b_3, 0, none⟩)), (3, .int .i64 x_25.2)]) (own' := [[(b_3, .cells #[.int .u8 (m_5.e0.toNat : Int), .int .i64 (m_5.e1.toNat : Int), .int .i64 x_32.1, .slice aov_39 m_36.length m_36.length] 60 (0, 0))]]) (rst := [_, _]) ⟨rfl, rfl, trivial⟩ (picks 2 rfl picks0) (JC.seq (JC.seq (JC.region ?_)))))))))))
    refine JL.val rfl rfl (R.ldoN 0 (vs := [.int .u8 (m_5.e0.toNat : Int), .int .i64 (m_5.e1.toNat : Int), .int .i64 x_32.1, .slice aov_39 m_36.length m_36.length]) S60 rfl rfl rfl rfl) ?_
    obtain ⟨x_40, hr_41, hx⟩ := bnd_some hx
    refine JL.callC (vs := [_]) (args := [_]) (K := []) (rst := [_]) E93 rfl rfl rfl picks0 (obj_Check_ok (Object.mk m_5.e0 (m_5.e1.toNat : Int) x_32.1 m_36) _ (hsv_39.old R_Ptr.mono) _ hr_41) rfl (fun u_42 Ku_42 Hu_42 hRu_42 hleu_42 hfu_42 => ?_)
    obtain ⟨rfl, rfl, rfl, -⟩ := hRu_42
    refine JL.val rfl rfl (R.neq_i rfl rfl) (JL.nil (JN.next (JC.condB rfl (fun c_43 => ?_) (fun c_43 => ?_))))
    ·
     replace hx := cond_t c_43 hx
     refine JC.seq (JC.region (JL.val rfl rfl (R.bldP (vs := []) (cs := [.int .u8 ((0 : UInt8).toNat : Int), .int .i64 0, .int .i64 0, .slice none 0 0]) Z60 B60 rfl rfl rfl) (JL.store 0 S60 rfl rfl rfl rfl rfl (Nat.le_of_ble_eq_true rfl) (JL.val rfl rfl (R.assign rfl) (JL.nil (JN.next (JC.ret (JN.passR (JN.outP (vs := [.agg #[.int .u8 ((0 : UInt8).toNat : Int), .int .i64 0, .int .i64 0, .slice none 0 0], .int .i64 8]) (K := []) (rst := [_]) (.inl rfl) rfl rfl (Res.cellN 0 rfl rfl S60 (Res.tmp rfl rfl)) picks0 ?_)))))))))
     obtain rfl := Option.some.inj hx
     exact ⟨none, 0, rfl, rfl, (IsSlice.nil _ _ _), trivial⟩
    ·
     replace hx := cond_f c_43 hx
     refine JC.skip (JN.next (JC.seq (JC.region (JL.val rfl rfl (R.ldoN 0 (vs := [.int .u8 (m_5.e0.toNat : Int), .int .i64 (m_5.e1.toNat : Int), .int .i64 x_32.1, .slice aov_39 m_36.length m_36.length]) S60 rfl rfl rfl rfl) (JL.store 0 S60 rfl rfl rfl rfl rfl (Nat.le_of_ble_eq_true rfl) (JL.val rfl rfl (R.assign rfl) (JL.nil (JN.next (JC.ret (JN.outP (vs := [.agg #[.int .u8 (m_5.e0.toNat : Int), .int .i64 (m_5.e1.toNat : Int), .int .i64 x_32.1, .slice aov_39 m_36.length m_36.length], .int .i64 0]) (K := []) (rst := [_]) (.inl rfl) rfl rfl (Res.cellN 0 rfl rfl S60 (Res.tmp rfl rfl)) picks0 ?_))))))))))
     obtain rfl := Option.some.inj hx
     exact ⟨aov_39, m_36.length, rfl, rfl, hsv_39, trivial⟩

set_option maxHeartbeats 8000000 in
theorem set_one_ok (p_1 : Store) (p_5 : Ptr) (H : Heaplet) {aoa_2 : Option Addr} {na_2 : Nat} {capa_2 : Nat} {aoa_3 : Option Addr} {na_3 : Nat} {capa_3 : Nat} {aoa_4 : Option Addr} {na_4 : Nat} {capa_4 : Nat} (ha_2 : IsSlice H (RSl RU8 1) 1 (.slice aoa_2 na_2 capa_2) p_1.Disk.Blocks) (ha_3 : IsSlice H R_Write 2 (.slice aoa_3 na_3 capa_3) p_1.Disk.Waits) (ha_4 : IsSlice H RU8 1 (.slice aoa_4 na_4 capa_4) p_1.Space) (r : Object × Int) (hx : set_one p_1 p_5 = some r) :
  Does Try.prog 54 #[.agg #[.slice aoa_2 na_2 capa_2, .slice aoa_3 na_3 capa_3, .slice aoa_4 na_4 capa_4, .int .u32 (p_1.Epoch.toNat : Int), .int .u32 (p_1.Count.toNat : Int)], .agg #[.int .i64 p_5.At, .int .u32 (p_5.Birth.toNat : Int), .int .u32 (p_5.Iv.toNat : Int), .int .u32 (p_5.Tag.toNat : Int), .int .u32 (p_5.Sum.toNat : Int)]] [] H (fun u K' H' => ∃ ao0 : Option Addr, ∃ n0 : Nat, u = .tuple #[.agg #[.int .u8 (r.1.Kind.toNat : Int), .int .i64 r.1.Links, .int .i64 r.1.Size, .slice ao0 n0 n0], .int .i64 r.2] ∧ K' = [] ∧ IsSlice (New H H') R_Ptr 5 (.slice ao0 n0 n0) r.1.Data ∧ True) := by
 refine Does.enterL (vs := [.agg #[.slice aoa_2 na_2 capa_2, .slice aoa_3 na_3 capa_3, .slice aoa_4 na_4 capa_4, .int .u32 (p_1.Epoch.toNat : Int), .int .u32 (p_1.Count.toNat : Int)], .agg #[.int .i64 p_5.At, .int .u32 (p_5.Birth.toNat : Int), .int .u32 (p_5.Iv.toNat : Int), .int .u32 (p_5.Tag.toNat : Int), .int .u32 (p_5.Sum.toNat : Int)]]) (l := [(0, .agg #[.slice aoa_2 na_2 capa_2, .slice aoa_3 na_3 capa_3, .slice aoa_4 na_4 capa_4, .int .u32 (p_1.Epoch.toNat : Int), .int .u32 (p_1.Count.toNat : Int)]), (1, .agg #[.int .i64 p_5.At, .int .u32 (p_5.Birth.toNat : Int), .int .u32 (p_5.Iv.toNat : Int), .int .u32 (p_5.Tag.toNat : Int), .int .u32 (p_5.Sum.toNat : Int)])]) Try.func54 rfl rfl ⟨rfl, rfl, trivial⟩ (fun w hlt => ?_)
 unfold set_one at hx
 refine JC.seq (JC.region (JL.box rfl rfl (fun b_6 hb_6 => JL.box rfl rfl (fun b_7 hb_7 => JL.alloc Z60 rfl (fun b_8 hb_8 => JL.val rfl rfl (R.assign rfl) (JL.nil (JN.next (JC.seq (JC.region (JL.val rfl rfl (R.ldoN 2 (vs := [.slice aoa_2 na_2 capa_2, .slice aoa_3 na_3 capa_3, .slice aoa_4 na_4 capa_4, .int .u32 (p_1.Epoch.toNat : Int), .int .u32 (p_1.Count.toNat : Int)]) S50 rfl rfl rfl rfl) (JL.val rfl rfl (R.ldoN 1 (vs := [.int .i64 p_5.At, .int .u32 (p_5.Birth.toNat : Int), .int .u32 (p_5.Iv.toNat : Int), .int .u32 (p_5.Tag.toNat : Int), .int .u32 (p_5.Sum.toNat : Int)]) S28 rfl rfl rfl rfl) ?_)))))))))))
 obtain ⟨x_9, hr_10, hx⟩ := bnd_some hx
 refine JL.callC (vs := [_, _]) (args := [_, _]) (K := []) (rst := [_, _, _]) E55 rfl rfl rfl picks0 (store_Look_ok p_1 p_5 _ ha_2 ha_3 ha_4 _ hr_10) rfl (fun u_11 Ku_11 Hu_11 hRu_11 hleu_11 hfu_11 => ?_)
 obtain ⟨aoz_12, nz_12, capz_12, rfl, rfl, hz_12, -⟩ := hRu_11
 replace hz_12 := IsSlice.mono RU8.mono (New.call (Hle.refl _)) hz_12
 refine JL.val rfl rfl (R.move rfl) (JL.val rfl rfl (R.extract rfl rfl) (JL.val rfl rfl (R.extract rfl rfl) (JL.val rfl rfl (R.assign rfl) (JL.val rfl rfl (R.assign rfl) (JL.nil (JN.next (JC.seq (JC.seq (JC.region (JL.val rfl rfl (R.move rfl) (JL.val rfl rfl (R.neq_i rfl rfl) ?_)))))))))))
 refine JL.nil (JN.next (JC.condB rfl (fun c_13 => ?_) (fun c_13 => ?_)))
 ·
  replace hx := cond_t c_13 hx
  refine JC.seq (JC.region (JL.val rfl rfl (R.bldP (vs := []) (cs := [.int .u8 ((0 : UInt8).toNat : Int), .int .i64 0, .int .i64 0, .slice none 0 0]) Z60 B60 rfl rfl rfl) (JL.val rfl rfl (R.move rfl) (JL.store 0 S60 rfl rfl rfl rfl rfl (Nat.le_of_ble_eq_true rfl) (JL.val rfl rfl (R.assign rfl) (JL.nil (JN.next (JC.ret (JN.passR (JN.outP (vs := [.agg #[.int .u8 ((0 : UInt8).toNat : Int), .int .i64 0, .int .i64 0, .slice none 0 0], .int .i64 x_9.2]) (K := []) (rst := [_, _, _]) (.inl rfl) rfl rfl (Res.cellN 0 rfl rfl S60 (Res.tmp rfl rfl)) picks0 ?_))))))))))
  obtain rfl := Option.some.inj hx
  exact ⟨none, 0, rfl, rfl, (IsSlice.nil _ _ _), trivial⟩
 ·
  replace hx := cond_f c_13 hx
  refine JC.skip (JN.next (JC.seq (JC.region (JL.val rfl rfl (R.move rfl) ?_))))
  obtain ⟨x_14, hr_15, hx⟩ := bnd_some hx
  refine JL.callC (vs := [_]) (args := [_]) (K := []) (rst := [_, _, _]) E94 rfl rfl rfl picks0 (obj_Read_ok x_9.1 _ (hz_12.old RU8.mono) _ hr_15) rfl (fun u_16 Ku_16 Hu_16 hRu_16 hleu_16 hfu_16 => ?_)
  obtain ⟨aoz_17, nz_17, rfl, rfl, hz_17, -⟩ := hRu_16
  replace hz_17 := IsSlice.mono R_Ptr.mono (New.call hleu_11) hz_17
  refine JL.val rfl rfl (R.move rfl) (JL.val rfl rfl (R.extract rfl rfl) (JL.val rfl rfl (R.extract rfl rfl) (JL.alloc Z60 rfl (fun b_18 hb_18 => JL.store 0 S60 rfl rfl rfl rfl rfl (Nat.le_of_ble_eq_true rfl) (JL.val rfl rfl (R.assign rfl) (JL.nil (JN.next (JC.seq (JC.seq (JC.region (JL.val rfl rfl (R.move rfl) ?_)))))))))))
  refine JL.val rfl rfl (R.neq_i rfl rfl) (JL.nil (JN.next (JC.condB rfl (fun c_19 => ?_) (fun c_19 => ?_))))
  ·
   replace hx := cond_t c_19 hx
   refine JC.seq (JC.region (JL.val rfl rfl (R.bldP (vs := []) (cs := [.int .u8 ((0 : UInt8).toNat : Int), .int .i64 0, .int .i64 0, .slice none 0 0]) Z60 B60 rfl rfl rfl) (JL.store 1 S60 rfl rfl rfl rfl rfl (Nat.le_of_ble_eq_true rfl) (JL.val rfl rfl (R.assign rfl) (JL.nil (JN.next (JC.ret (JN.passR (JN.outP (vs := [.agg #[.int .u8 ((0 : UInt8).toNat : Int), .int .i64 0, .int .i64 0, .slice none 0 0], .int .i64 8]) (K := []) (rst := [_, _, _, _]) (.inl rfl) rfl rfl (Res.cellN 1 rfl rfl S60 (Res.tmp rfl rfl)) picks0 ?_)))))))))
   obtain rfl := Option.some.inj hx
   exact ⟨none, 0, rfl, rfl, (IsSlice.nil _ _ _), trivial⟩
  ·
   replace hx := cond_f c_19 hx
   refine JC.skip (JN.next (JC.seq (JC.region (JL.val rfl rfl (R.ldoN 0 (vs := [.int .u8 (x_14.1.Kind.toNat : Int), .int .i64 x_14.1.Links, .int .i64 x_14.1.Size, .slice aoz_17 nz_17 nz_17]) S60 rfl rfl rfl rfl) (JL.store 1 S60 rfl rfl rfl rfl rfl (Nat.le_of_ble_eq_true rfl) (JL.val rfl rfl (R.assign rfl) (JL.nil (JN.next (JC.ret (JN.outP (vs := [.agg #[.int .u8 (x_14.1.Kind.toNat : Int), .int .i64 x_14.1.Links, .int .i64 x_14.1.Size, .slice aoz_17 nz_17 nz_17], .int .i64 0]) (K := []) (rst := [_, _, _, _]) (.inl rfl) rfl rfl (Res.cellN 1 rfl rfl S60 (Res.tmp rfl rfl)) picks0 ?_))))))))))
   obtain rfl := Option.some.inj hx
   exact ⟨aoz_17, nz_17, rfl, rfl, hz_17, trivial⟩

set_option maxHeartbeats 8000000 in
theorem set_young_1_ok {σ τ : Type} (p_1 : Ptr → σ → Option (σ ⊕ τ)) (p_2 : σ) (p_4 : Ptr) (p_6 : UInt32) (p_8 : Store) (p_14 : Int) (H : Heaplet) {lr_ : Nat} {I_ : σ → Own → Heaplet → Prop} {X_ : τ → Own → Heaplet → Prop} {O_ : Own} {b_3 : Nat} {b_5 : Nat} {b_7 : Nat} {aoa_9 : Option Addr} {na_9 : Nat} {capa_9 : Nat} {aoa_10 : Option Addr} {na_10 : Nat} {capa_10 : Nat} {aoa_11 : Option Addr} {na_11 : Nat} {capa_11 : Nat} {b_12 : Nat} {b_13 : Nat} (hY_ : YSpecG Try.prog lr_ (fun (H : Heaplet) (args : Array Value) (y : Ptr) => args = #[.agg #[.int .i64 y.At, .int .u32 (y.Birth.toNat : Int), .int .u32 (y.Iv.toNat : Int), .int .u32 (y.Tag.toNat : Int), .int .u32 (y.Sum.toNat : Int)]]) p_1 I_ X_) (hI_ : IX I_ X_ (.inl p_2) O_ H) (ha_9 : IsSlice H (RSl RU8 1) 1 (.slice aoa_9 na_9 capa_9) p_8.Disk.Blocks) (ha_10 : IsSlice H R_Write 2 (.slice aoa_10 na_10 capa_10) p_8.Disk.Waits) (ha_11 : IsSlice H RU8 1 (.slice aoa_11 na_11 capa_11) p_8.Space) (r : (σ ⊕ τ) × Int) (hx : set_young_1 p_1 p_2 p_4 p_6 p_8 p_14 = some r) :
  Does Try.prog 92 #[.func (.yield lr_) #[] #[], .pointer (some ⟨b_3, 0, none⟩), .pointer (some ⟨b_5, 0, none⟩), .pointer (some ⟨b_7, 0, none⟩), .pointer (some ⟨b_12, 0, none⟩)] [[(b_3, .cells #[.int .i64 p_4.At, .int .u32 (p_4.Birth.toNat : Int), .int .u32 (p_4.Iv.toNat : Int), .int .u32 (p_4.Tag.toNat : Int), .int .u32 (p_4.Sum.toNat : Int)] 28 (0, 0))], [(b_5, .cells #[.int .u32 (p_6.toNat : Int)] 26 (0, 0))], [(b_7, .cells #[.slice aoa_9 na_9 capa_9, .slice aoa_10 na_10 capa_10, .slice aoa_11 na_11 capa_11, .int .u32 (p_8.Epoch.toNat : Int), .int .u32 (p_8.Count.toNat : Int)] 50 (0, 0))], [(b_12, .cells #[.pointer (some ⟨b_13, 0, none⟩)] 98 (0, 0))], [(b_13, .cells #[.int .i64 p_14] 33 (0, 0))], O_] H (fun u K' H' => ∃ O' : Own, u = .tuple #[] ∧ K' = [[(b_3, .cells #[.int .i64 p_4.At, .int .u32 (p_4.Birth.toNat : Int), .int .u32 (p_4.Iv.toNat : Int), .int .u32 (p_4.Tag.toNat : Int), .int .u32 (p_4.Sum.toNat : Int)] 28 (0, 0))], [(b_5, .cells #[.int .u32 (p_6.toNat : Int)] 26 (0, 0))], [(b_7, .cells #[.slice aoa_9 na_9 capa_9, .slice aoa_10 na_10 capa_10, .slice aoa_11 na_11 capa_11, .int .u32 (p_8.Epoch.toNat : Int), .int .u32 (p_8.Count.toNat : Int)] 50 (0, 0))], [(b_12, .cells #[.pointer (some ⟨b_13, 0, none⟩)] 98 (0, 0))], [(b_13, .cells #[.int .i64 r.2] 33 (0, 0))], O'] ∧ IX I_ X_ r.1 O' H' ∧ True) := by
 refine Does.enterL (vs := [.func (.yield lr_) #[] #[], .pointer (some ⟨b_3, 0, none⟩), .pointer (some ⟨b_5, 0, none⟩), .pointer (some ⟨b_7, 0, none⟩), .pointer (some ⟨b_12, 0, none⟩)]) (l := [(0, .func (.yield lr_) #[] #[]), (1, .pointer (some ⟨b_3, 0, none⟩)), (2, .pointer (some ⟨b_5, 0, none⟩)), (3, .pointer (some ⟨b_7, 0, none⟩)), (4, .pointer (some ⟨b_12, 0, none⟩))]) Try.func92 rfl rfl ⟨rfl, rfl, rfl, rfl, rfl, trivial⟩ (fun w hlt => ?_)
 unfold set_young_1 at hx
 refine JC.seq (JC.region (JL.val rfl rfl (R.assign rfl) (JL.nil (JN.next (JC.seq (JC.seq (JC.region (JL.val rfl rfl (R.fa F28_1 rfl) (JL.val rfl rfl (R.ldo 0 S26 rfl rfl rfl) (JL.val rfl rfl (R.ldo 1 S26 rfl rfl rfl) (JL.val rfl rfl (R.leq32 (a := p_4.Birth) (b := p_6) rfl rfl) ?_)))))))))))
 refine JL.nil (JN.next (JC.condB rfl (fun c_15 => ?_) (fun c_15 => ?_)))
 ·
  replace hx := cond_t c_15 hx
  refine JC.ret (JN.passR (JN.outP (vs := []) (K := [_, _, _, _, _, _]) (rst := []) (.inl rfl) rfl rfl rfl (picks 0 rfl (picks 0 rfl (picks 0 rfl (picks 0 rfl (picks 0 rfl (picks 0 rfl picks0)))))) ?_))
  obtain rfl := Option.some.inj hx
  exact ⟨O_, rfl, rfl, hI_, trivial⟩
 ·
  replace hx := cond_f c_15 hx
  refine JC.skip (JN.next (JC.seq (JC.seq (JC.draw (so := [_, _, _, _, _]) 10 rfl Mixed ⟨⟨0, rfl⟩, ⟨1, rfl⟩, ⟨2, rfl⟩, ⟨3, rfl⟩, ⟨5, rfl⟩, trivial⟩ (JA.val ⟨by kernel_rfl, by kernel_rfl⟩ (calm_only _) (i := 0) rfl ⟨by kernel_rfl, by kernel_rfl, rfl⟩ trivial (stab_of (Hle.refl _) ⟨⟨0, rfl⟩, ⟨1, rfl⟩, ⟨2, rfl⟩, ⟨3, rfl⟩, ⟨5, rfl⟩, trivial⟩) (R.ldo 3 S98 rfl rfl rfl) rfl (JA.val ⟨by kernel_rfl, by kernel_rfl⟩ (calm_only _) (i := 1) rfl ⟨by kernel_rfl, by kernel_rfl, rfl⟩ trivial (stab_of (Hle.refl _) ⟨⟨0, rfl⟩, ⟨1, rfl⟩, ⟨2, rfl⟩, ⟨3, rfl⟩, ⟨5, rfl⟩, trivial⟩) (R.ldoN 2 (vs := [.slice aoa_9 na_9 capa_9, .slice aoa_10 na_10 capa_10, .slice aoa_11 na_11 capa_11, .int .u32 (p_8.Epoch.toNat : Int), .int .u32 (p_8.Count.toNat : Int)]) S50 rfl rfl rfl rfl) rfl (JA.val ⟨by kernel_rfl, by kernel_rfl⟩ (calm_only _) (i := 2) rfl ⟨by kernel_rfl, by kernel_rfl, rfl⟩ trivial (stab_of (Hle.refl _) ⟨⟨0, rfl⟩, ⟨1, rfl⟩, ⟨2, rfl⟩, ⟨3, rfl⟩, ⟨5, rfl⟩, trivial⟩) (R.ldoN 0 (vs := [.int .i64 p_4.At, .int .u32 (p_4.Birth.toNat : Int), .int .u32 (p_4.Iv.toNat : Int), .int .u32 (p_4.Tag.toNat : Int), .int .u32 (p_4.Sum.toNat : Int)]) S28 rfl rfl rfl rfl) rfl (JA.one (i := 3) (by kernel_rfl) (JO.step rfl trivial rfl (fun K hK => ?_))))))))))
  obtain ⟨x_16, hr_17, hx⟩ := bnd_some hx
  refine JL.callC (vs := [_, _]) (args := [_, _]) (K := []) (rst := [_, _, _, _, _, _]) E24 rfl rfl rfl picks0 (set_Ptrs_ok p_8 p_4 _ ha_9 ha_10 ha_11 _ hr_17) rfl (fun u_18 Ku_18 Hu_18 hRu_18 hleu_18 hfu_18 => ?_)
  obtain ⟨aor_19, nr_19, capr_19, Kr_19, rfl, rfl, hr_19, hnewr_19, -⟩ := hRu_18
  replace hr_19 := (RowOf.base (RowOf.const (H2 := New H Hu_18) R_Ptr.const hr_19) (fun p hp => (hfu_18 p (mem_seg 0 rfl hp)).resolve_left (hnewr_19 p hp)))
  refine JL.nil (hK _ _ _ (stab_of hleu_18 ⟨⟨1, rfl⟩, ⟨2, rfl⟩, ⟨3, rfl⟩, ⟨4, rfl⟩, ⟨6, rfl⟩, trivial⟩) (JA.val ⟨by kernel_rfl, by kernel_rfl⟩ (calm_only _) (i := 4) rfl ⟨by kernel_rfl, by kernel_rfl, rfl⟩ trivial (stab_of hleu_18 ⟨⟨1, rfl⟩, ⟨2, rfl⟩, ⟨3, rfl⟩, ⟨4, rfl⟩, ⟨6, rfl⟩, trivial⟩) (R.move rfl) rfl (JA.val ⟨by kernel_rfl, by kernel_rfl⟩ (calm_only _) (i := 5) rfl ⟨by kernel_rfl, by kernel_rfl, rfl⟩ trivial (stab_of hleu_18 ⟨⟨1, rfl⟩, ⟨2, rfl⟩, ⟨3, rfl⟩, ⟨4, rfl⟩, ⟨6, rfl⟩, trivial⟩) (R.extract rfl rfl) rfl (JA.val ⟨by kernel_rfl, by kernel_rfl⟩ (calm_only _) (i := 6) rfl ⟨by kernel_rfl, by kernel_rfl, rfl⟩ trivial (stab_of hleu_18 ⟨⟨1, rfl⟩, ⟨2, rfl⟩, ⟨3, rfl⟩, ⟨4, rfl⟩, ⟨6, rfl⟩, trivial⟩) (R.extract rfl rfl) rfl (JA.val ⟨by kernel_rfl, by kernel_rfl⟩ (calm_only _) (i := 7) rfl ⟨by kernel_rfl, by kernel_rfl, rfl⟩ trivial (stab_of hleu_18 ⟨⟨1, rfl⟩, ⟨2, rfl⟩, ⟨3, rfl⟩, ⟨4, rfl⟩, ⟨6, rfl⟩, trivial⟩) (R.assign rfl) rfl (JA.val ⟨by kernel_rfl, by kernel_rfl⟩ (calm_only _) (i := 8) rfl ⟨by kernel_rfl, by kernel_rfl, rfl⟩ trivial (stab_of hleu_18 ⟨⟨1, rfl⟩, ⟨2, rfl⟩, ⟨3, rfl⟩, ⟨4, rfl⟩, ⟨6, rfl⟩, trivial⟩) (R.nilCheck rfl) rfl (JA.one (i := 9) (by kernel_rfl) (JO.step rfl trivial rfl (fun K hK => JL.store 5 S33 rfl rfl rfl rfl rfl (Nat.le_of_ble_eq_true rfl) (JL.nil (hK _ _ _ (stab_of hleu_18 ⟨⟨1, rfl⟩, ⟨2, rfl⟩, ⟨3, rfl⟩, ⟨4, rfl⟩, ⟨6, rfl⟩, trivial⟩) ?_)))))))))))
  refine JA.doneN (by kernel_rfl) (JN.next (JC.seq (JC.region (JL.val rfl rfl (R.ldo 4 S98 rfl rfl rfl) (JL.val rfl rfl (R.nilCheck rfl) (JL.val rfl rfl (R.ldo 5 S33 rfl rfl rfl) (JL.val rfl rfl (R.neq_i rfl rfl) (JL.val rfl rfl (R.move rfl) (JL.gSplit (t := 28) rfl (fun c_20 => ?_) (fun c_20 => ?_))))))))))
  ·
   replace hx := cond_t c_20 hx
   refine JL.gNo rfl rfl rfl rfl rfl (JL.gNo rfl rfl rfl rfl rfl (JL.gNo rfl rfl rfl rfl rfl (JL.gNo rfl rfl rfl rfl rfl (JL.val rfl rfl (R.pickT rfl rfl) (JL.nil (JN.next (JC.condT rfl (JC.ret (JN.passR (JN.outP (vs := []) (K := [_, _, _, _, _, _]) (rst := [_]) (.inl rfl) rfl rfl rfl (picks 1 rfl (picks 1 rfl (picks 1 rfl (picks 1 rfl (picks 1 rfl (picks 1 rfl picks0)))))) ?_))))))))))
   obtain rfl := Option.some.inj hx
   exact ⟨O_, rfl, rfl, (hI_.mono hleu_18), trivial⟩
  ·
   replace hx := cond_f c_20 hx
   refine JL.gYes rfl rfl rfl (JL.val rfl rfl (R.move rfl) (JL.gYes rfl rfl rfl (JL.val rfl rfl (R.ldoN 1 (vs := [.int .i64 p_4.At, .int .u32 (p_4.Birth.toNat : Int), .int .u32 (p_4.Iv.toNat : Int), .int .u32 (p_4.Tag.toNat : Int), .int .u32 (p_4.Sum.toNat : Int)]) S28 rfl rfl rfl rfl) (JL.gYes rfl rfl rfl ?_))))
   obtain ⟨out_21, hb_22, hx⟩ := bnd_some hx
   refine JL.yieldG 6 p_4 hb_22 hY_ rfl rfl rfl (hI_.mono hleu_18) rfl rfl (fun s_23 O_25 H_26 hleH_26 hIH_26 he_27 => ?_) (fun t_24 O_25 H_26 hleH_26 hIH_26 he_27 => ?_)
   ·
    subst he_27
    simp only [Sum.elim_inl] at hx
    refine JL.gYes rfl rfl rfl (JL.val rfl rfl (R.not rfl) (JL.val rfl rfl (R.pickF rfl rfl) (JL.nil (JN.next (JC.condF rfl (JC.skip (JN.next (JC.seq (JC.region (JL.val rfl rfl (R.move rfl) (JL.val rfl rfl (R.lenL U53 rfl (RowOf.long hr_19)) ?_)))))))))))
    refine JL.val rfl rfl (R.move rfl) (JL.nil (JN.next ?_))
    obtain ⟨t_28, ht_30, hx⟩ := bnd_some hx
    refine JC.cut (fun l o g => ∃ t_28a : σ × Int, ∃ H_37 : Heaplet, ∃ O_38 : Own, l = [(1, .pointer (some ⟨b_3, 0, none⟩)), (2, .pointer (some ⟨b_5, 0, none⟩)), (3, .pointer (some ⟨b_7, 0, none⟩)), (4, .pointer (some ⟨b_12, 0, none⟩))] ∧ o = [O_38, [(b_3, .cells #[.int .i64 p_4.At, .int .u32 (p_4.Birth.toNat : Int), .int .u32 (p_4.Iv.toNat : Int), .int .u32 (p_4.Tag.toNat : Int), .int .u32 (p_4.Sum.toNat : Int)] 28 (0, 0))], [(b_5, .cells #[.int .u32 (p_6.toNat : Int)] 26 (0, 0))], [(b_7, .cells #[.slice aoa_9 na_9 capa_9, .slice aoa_10 na_10 capa_10, .slice aoa_11 na_11 capa_11, .int .u32 (p_8.Epoch.toNat : Int), .int .u32 (p_8.Count.toNat : Int)] 50 (0, 0))], [(b_12, .cells #[.pointer (some ⟨b_13, 0, none⟩)] 98 (0, 0))], [(b_13, .cells #[.int .i64 t_28a.2] 33 (0, 0))]] ∧ H_37 = g ∧ t_28 = .inl t_28a ∧ Hle H_26 H_37 ∧ IX I_ X_ (.inl (t_28a.1)) O_38 H_37) ?_ ?_
    ·
     rintro _ _ _ ⟨t_28a, H_37, O_38, rfl, rfl, rfl, rfl, hleH_37, hI_39⟩
     simp only [Sum.elim_inl] at hx
     refine JN.outP (vs := []) (K := [_, _, _, _, _, _]) (rst := []) (.inr rfl) rfl rfl rfl (picks 1 rfl (picks 1 rfl (picks 1 rfl (picks 1 rfl (picks 1 rfl (picks 0 rfl picks0)))))) ?_
     obtain rfl := Option.some.inj hx
     exact ⟨O_38, rfl, rfl, hI_39, trivial⟩
    ·
     have hxo_29 := hx; clear hx; have hx := ht_30; clear ht_30
     refine JC.block (JC.front 5 rfl (JC.front 5 rfl (JC.front 5 rfl (JC.front 5 rfl (JC.front 5 rfl (JC.front 6 rfl (JC.loopI (fun n l o g => ∃ s_31 : σ × Int × Nat, ∃ H_34 : Heaplet, ∃ O_35 : Own, l = [(0, .func (.yield lr_) #[] #[]), (1, .pointer (some ⟨b_3, 0, none⟩)), (2, .pointer (some ⟨b_5, 0, none⟩)), (3, .pointer (some ⟨b_7, 0, none⟩)), (4, .pointer (some ⟨b_12, 0, none⟩)), (34, .slice aor_19 nr_19 capr_19), (35, .int .i64 (x_16.1.length : Int)), (36, .int .i64 ((s_31.2.2 : Nat) : Int))] ∧ o = [O_35, [(b_3, .cells #[.int .i64 p_4.At, .int .u32 (p_4.Birth.toNat : Int), .int .u32 (p_4.Iv.toNat : Int), .int .u32 (p_4.Tag.toNat : Int), .int .u32 (p_4.Sum.toNat : Int)] 28 (0, 0))], [(b_5, .cells #[.int .u32 (p_6.toNat : Int)] 26 (0, 0))], [(b_7, .cells #[.slice aoa_9 na_9 capa_9, .slice aoa_10 na_10 capa_10, .slice aoa_11 na_11 capa_11, .int .u32 (p_8.Epoch.toNat : Int), .int .u32 (p_8.Count.toNat : Int)] 50 (0, 0))], [(b_12, .cells #[.pointer (some ⟨b_13, 0, none⟩)] 98 (0, 0))], [(b_13, .cells #[.int .i64 s_31.2.1] 33 (0, 0))], Kr_19] ∧ H_34 = g ∧ run (set_young_1_l2 p_1 p_6 p_8 x_16) n s_31 = some t_28 ∧ Hle H_26 H_34 ∧ IX I_ X_ (.inl (s_31.1)) O_35 H_34) FUEL ?_ ⟨(s_23, x_16.2, 0), H_26, O_25, rfl, rfl, rfl, hx, (Hle.refl _), hIH_26⟩ ⟨rfl, rfl, rfl, rfl, rfl, rfl, rfl, rfl, trivial⟩ ?_)))))))
     ·
      rintro _ _ _ ⟨s_31, H_34, O_35, rfl, rfl, rfl, hn_32, hleH_34, hI_36⟩
      exact run_zero hn_32
     ·
      rintro n_33 _ _ _ ⟨s_31, H_34, O_35, rfl, rfl, rfl, hn_32, hleH_34, hI_36⟩
      clear hx; obtain ⟨oo_38, hx, hd_37⟩ := run_some hn_32
      unfold set_young_1_l2 at hx
      refine JC.seq (JC.region (JL.val rfl rfl (R.lss_i rfl rfl) (JL.nil (JN.next (JC.seq (JC.condB rfl (fun c_37 => ?_) (fun c_37 => ?_)))))))
      ·
       replace hx := cond_t c_37 hx
       refine JC.skip (JN.next (JC.seq (JC.block (JC.seq (JC.region ?_)))))
       obtain ⟨y_38, hN_39, hx⟩ := idx_some hx
       obtain ⟨b_40, o_41, cs_42, cur_47, hK_48, hE_43, hR_44, hl_45, hc_46⟩ := RowOf.elem (hr_19.mono R_Ptr.mono (New.mono (hleH_26.trans hleH_34))) hN_39
       subst hK_48
       obtain rfl := hR_44
       refine JL.val rfl rfl (R.ix U53 S28 rfl rfl hE_43) (JL.val rfl rfl (R.ldoE 6 (cs := [.int .i64 y_38.At, .int .u32 (y_38.Birth.toNat : Int), .int .u32 (y_38.Iv.toNat : Int), .int .u32 (y_38.Tag.toNat : Int), .int .u32 (y_38.Sum.toNat : Int)]) (k := 0) (vs := [.int .i64 y_38.At, .int .u32 (y_38.Birth.toNat : Int), .int .u32 (y_38.Iv.toNat : Int), .int .u32 (y_38.Tag.toNat : Int), .int .u32 (y_38.Sum.toNat : Int)]) S28 rfl rfl hc_46 rfl rfl) (JL.alloc Z28 rfl (fun b_49 hb_49 => JL.store 0 S28 rfl rfl rfl rfl rfl (Nat.le_of_ble_eq_true rfl) (JL.nil (JN.next (JC.seq (JC.seq (JC.region (JL.val rfl rfl (R.fa F28_1 rfl) (JL.val rfl rfl (R.ldo 0 S26 rfl rfl rfl) (JL.val rfl rfl (R.ldo 3 S26 rfl rfl rfl) ?_)))))))))))
       refine JL.val rfl rfl (R.leq32 (a := y_38.Birth) (b := p_6) rfl rfl) (JL.nil (JN.next (JC.condB rfl (fun c_50 => ?_) (fun c_50 => ?_))))
       ·
        replace hx := cond_t c_50 hx
        refine JC.exit (JN.passX (JN.exitSame (JN.next (JC.region (JL.val rfl rfl (R.inc rfl rfl (of_decide_eq_true c_37) (RowOf.lenI hr_19)) (JL.val rfl rfl (R.move rfl) (JL.nil ?_)))))))
        replace hx := run_next hd_37 hx
        refine JN.forget 0 (JN.front 6 rfl (JN.front 6 rfl (JN.front 6 rfl (JN.front 6 rfl (JN.front 6 rfl (JN.front 6 rfl (JN.front 6 rfl ?_)))))))
        exact JN.cut ⟨((s_31.1), s_31.2.1, s_31.2.2 + 1), H_34, O_35, rfl, rfl, rfl, hx, (hleH_34), hI_36⟩ ⟨rfl, rfl, rfl, rfl, rfl, rfl, rfl, rfl, trivial⟩ rfl rfl
       ·
        replace hx := cond_f c_50 hx
        refine JC.skip (JN.next (JC.seq (JC.region (JL.alloc Z60 rfl (fun b_51 hb_51 => JL.nil (JN.next (JC.seq (JC.seq (JC.draw (so := [_, _, _, _, _, _, _]) 10 rfl Mixed ⟨⟨1, rfl⟩, ⟨2, rfl⟩, ⟨3, rfl⟩, ⟨4, rfl⟩, ⟨5, rfl⟩, ⟨6, rfl⟩, ⟨8, rfl⟩, trivial⟩ (JA.val ⟨by kernel_rfl, by kernel_rfl⟩ (calm_only _) (i := 0) rfl ⟨by kernel_rfl, by kernel_rfl, rfl⟩ trivial (stab_of (Hle.refl _) ⟨⟨1, rfl⟩, ⟨2, rfl⟩, ⟨3, rfl⟩, ⟨4, rfl⟩, ⟨5, rfl⟩, ⟨6, rfl⟩, ⟨8, rfl⟩, trivial⟩) (R.ldo 5 S98 rfl rfl rfl) rfl (JA.val ⟨by kernel_rfl, by kernel_rfl⟩ (calm_only _) (i := 1) rfl ⟨by kernel_rfl, by kernel_rfl, rfl⟩ trivial (stab_of (Hle.refl _) ⟨⟨1, rfl⟩, ⟨2, rfl⟩, ⟨3, rfl⟩, ⟨4, rfl⟩, ⟨5, rfl⟩, ⟨6, rfl⟩, ⟨8, rfl⟩, trivial⟩) (R.ldoN 4 (vs := [.slice aoa_9 na_9 capa_9, .slice aoa_10 na_10 capa_10, .slice aoa_11 na_11 capa_11, .int .u32 (p_8.Epoch.toNat : Int), .int .u32 (p_8.Count.toNat : Int)]) S50 rfl rfl rfl rfl) rfl ?_)))))))))))
        refine JA.val ⟨by kernel_rfl, by kernel_rfl⟩ (calm_only _) (i := 2) rfl ⟨by kernel_rfl, by kernel_rfl, rfl⟩ trivial (stab_of (Hle.refl _) ⟨⟨1, rfl⟩, ⟨2, rfl⟩, ⟨3, rfl⟩, ⟨4, rfl⟩, ⟨5, rfl⟩, ⟨6, rfl⟩, ⟨8, rfl⟩, trivial⟩) (R.ldoN 0 (vs := [.int .i64 y_38.At, .int .u32 (y_38.Birth.toNat : Int), .int .u32 (y_38.Iv.toNat : Int), .int .u32 (y_38.Tag.toNat : Int), .int .u32 (y_38.Sum.toNat : Int)]) S28 rfl rfl rfl rfl) rfl (JA.one (i := 3) (by kernel_rfl) (JO.step rfl trivial rfl (fun K hK => ?_)))
        obtain ⟨x_52, hr_53, hx⟩ := bnd_some hx
        refine JL.callC (vs := [_, _]) (args := [_, _]) (K := []) (rst := [_, _, _, _, _, _, _, _, _]) E54 rfl rfl rfl picks0 (set_one_ok p_8 y_38 _ (ha_9.mono (RSl.mono RU8.mono) (hleu_18.trans (hleH_26.trans hleH_34))) (ha_10.mono R_Write.mono (hleu_18.trans (hleH_26.trans hleH_34))) (ha_11.mono RU8.mono (hleu_18.trans (hleH_26.trans hleH_34))) _ hr_53) rfl (fun u_54 Ku_54 Hu_54 hRu_54 hleu_54 hfu_54 => ?_)
        obtain ⟨aoz_55, nz_55, rfl, rfl, hz_55, -⟩ := hRu_54
        replace hz_55 := IsSlice.mono R_Ptr.mono (New.call (hleu_18.trans (hleH_26.trans hleH_34))) hz_55
        refine JL.nil (hK _ _ _ (stab_of hleu_54 ⟨⟨1, rfl⟩, ⟨2, rfl⟩, ⟨3, rfl⟩, ⟨4, rfl⟩, ⟨5, rfl⟩, ⟨6, rfl⟩, ⟨8, rfl⟩, trivial⟩) (JA.val ⟨by kernel_rfl, by kernel_rfl⟩ (calm_only _) (i := 4) rfl ⟨by kernel_rfl, by kernel_rfl, rfl⟩ trivial (stab_of hleu_54 ⟨⟨1, rfl⟩, ⟨2, rfl⟩, ⟨3, rfl⟩, ⟨4, rfl⟩, ⟨5, rfl⟩, ⟨6, rfl⟩, ⟨8, rfl⟩, trivial⟩) (R.move rfl) rfl (JA.val ⟨by kernel_rfl, by kernel_rfl⟩ (calm_only _) (i := 5) rfl ⟨by kernel_rfl, by kernel_rfl, rfl⟩ trivial (stab_of hleu_54 ⟨⟨1, rfl⟩, ⟨2, rfl⟩, ⟨3, rfl⟩, ⟨4, rfl⟩, ⟨5, rfl⟩, ⟨6, rfl⟩, ⟨8, rfl⟩, trivial⟩) (R.extract rfl rfl) rfl (JA.val ⟨by kernel_rfl, by kernel_rfl⟩ (calm_only _) (i := 6) rfl ⟨by kernel_rfl, by kernel_rfl, rfl⟩ trivial (stab_of hleu_54 ⟨⟨1, rfl⟩, ⟨2, rfl⟩, ⟨3, rfl⟩, ⟨4, rfl⟩, ⟨5, rfl⟩, ⟨6, rfl⟩, ⟨8, rfl⟩, trivial⟩) (R.extract rfl rfl) rfl (JA.one (i := 7) (by kernel_rfl) (JO.step rfl trivial rfl (fun K hK => JL.store 0 S60 rfl rfl rfl rfl rfl (Nat.le_of_ble_eq_true rfl) (JL.nil (hK _ _ _ (stab_of hleu_54 ⟨⟨1, rfl⟩, ⟨2, rfl⟩, ⟨3, rfl⟩, ⟨4, rfl⟩, ⟨5, rfl⟩, ⟨6, rfl⟩, ⟨8, rfl⟩, trivial⟩) (JA.val ⟨by kernel_rfl, by kernel_rfl⟩ (calm_only _) (i := 8) rfl ⟨by kernel_rfl, by kernel_rfl, rfl⟩ trivial (stab_of hleu_54 ⟨⟨1, rfl⟩, ⟨2, rfl⟩, ⟨3, rfl⟩, ⟨4, rfl⟩, ⟨5, rfl⟩, ⟨6, rfl⟩, ⟨8, rfl⟩, trivial⟩) (R.nilCheck rfl) rfl (JA.one (i := 9) (by kernel_rfl) ?_)))))))))))
        refine JO.step rfl trivial rfl (fun K hK => JL.store 7 S33 rfl rfl rfl rfl rfl (Nat.le_of_ble_eq_true rfl) (JL.nil (hK _ _ _ (stab_of hleu_54 ⟨⟨1, rfl⟩, ⟨2, rfl⟩, ⟨3, rfl⟩, ⟨4, rfl⟩, ⟨5, rfl⟩, ⟨6, rfl⟩, ⟨8, rfl⟩, trivial⟩) (JA.doneN (by kernel_rfl) (JN.next (JC.seq (JC.region (JL.val rfl rfl (R.ldo 6 S98 rfl rfl rfl) (JL.val rfl rfl (R.nilCheck rfl) (JL.val rfl rfl (R.ldo 7 S33 rfl rfl rfl) (JL.val rfl rfl (R.neq_i rfl rfl) ?_)))))))))))
        refine JL.val rfl rfl (R.move rfl) (JL.gSplit (t := 56) rfl (fun c_56 => ?_) (fun c_56 => ?_))
        ·
         replace hx := cond_t c_56 hx
         refine JL.gNo rfl rfl rfl rfl rfl (JL.gNo rfl rfl rfl rfl rfl (JL.gNo rfl rfl rfl rfl rfl (JL.gNo rfl rfl rfl rfl rfl (JL.val rfl rfl (R.pickT rfl rfl) (JL.nil (JN.next (JC.condT rfl (JC.ret (JN.passR (JN.blkR (JN.passR ?_)))))))))))
         obtain rfl := run_done hd_37 hx
         refine JN.passR (JN.blkR ?_)
         clear hx; have hx := hxo_29
         simp only [Sum.elim_inl, Sum.elim_inr] at hx
         refine JN.passR (JN.outP (vs := []) (K := [_, _, _, _, _, _]) (rst := [_, _, _]) (.inl rfl) rfl rfl rfl (picks 3 rfl (picks 3 rfl (picks 3 rfl (picks 3 rfl (picks 3 rfl (picks 2 rfl picks0)))))) ?_)
         obtain rfl := Option.some.inj hx
         exact ⟨O_35, rfl, rfl, (hI_36.mono hleu_54), trivial⟩
        ·
         replace hx := cond_f c_56 hx
         refine JL.gYes rfl rfl rfl (JL.val rfl rfl (R.move rfl) (JL.gYes rfl rfl rfl (JL.val rfl rfl (R.ldoN 1 (vs := [.int .i64 y_38.At, .int .u32 (y_38.Birth.toNat : Int), .int .u32 (y_38.Iv.toNat : Int), .int .u32 (y_38.Tag.toNat : Int), .int .u32 (y_38.Sum.toNat : Int)]) S28 rfl rfl rfl rfl) (JL.gYes rfl rfl rfl ?_))))
         obtain ⟨out_57, hb_58, hx⟩ := bnd_some hx
         refine JL.yieldG 2 y_38 hb_58 hY_ rfl rfl rfl (hI_36.mono hleu_54) rfl rfl (fun s_59 O_61 H_62 hleH_62 hIH_62 he_63 => ?_) (fun t_60 O_61 H_62 hleH_62 hIH_62 he_63 => ?_)
         ·
          subst he_63
          simp only [Sum.elim_inl] at hx
          refine JL.gYes rfl rfl rfl (JL.val rfl rfl (R.not rfl) (JL.val rfl rfl (R.pickF rfl rfl) (JL.nil (JN.next (JC.condF rfl (JC.skip (JN.next (JC.seq (JC.region (JL.val rfl rfl (R.fa F60_3 rfl) (JL.val rfl rfl (R.ldo 0 S53 rfl rfl rfl) ?_)))))))))))
          refine JL.val rfl rfl (R.lenL U53 rfl (IsSlice.long hz_55)) (JL.val rfl rfl (R.move rfl) (JL.nil (JN.next ?_)))
          obtain ⟨t_64, ht_66, hx⟩ := bnd_some hx
          refine JC.cut (fun l o g => ∃ t_64a : σ, ∃ H_73 : Heaplet, ∃ O_74 : Own, l = [(0, .func (.yield lr_) #[] #[]), (1, .pointer (some ⟨b_3, 0, none⟩)), (2, .pointer (some ⟨b_5, 0, none⟩)), (3, .pointer (some ⟨b_7, 0, none⟩)), (4, .pointer (some ⟨b_12, 0, none⟩)), (34, .slice aor_19 nr_19 capr_19), (35, .int .i64 (x_16.1.length : Int)), (36, .int .i64 ((s_31.2.2 : Nat) : Int))] ∧ o = [O_74, [(b_3, .cells #[.int .i64 p_4.At, .int .u32 (p_4.Birth.toNat : Int), .int .u32 (p_4.Iv.toNat : Int), .int .u32 (p_4.Tag.toNat : Int), .int .u32 (p_4.Sum.toNat : Int)] 28 (0, 0))], [(b_5, .cells #[.int .u32 (p_6.toNat : Int)] 26 (0, 0))], [(b_7, .cells #[.slice aoa_9 na_9 capa_9, .slice aoa_10 na_10 capa_10, .slice aoa_11 na_11 capa_11, .int .u32 (p_8.Epoch.toNat : Int), .int .u32 (p_8.Count.toNat : Int)] 50 (0, 0))], [(b_12, .cells #[.pointer (some ⟨b_13, 0, none⟩)] 98 (0, 0))], [(b_13, .cells #[.int .i64 x_52.2] 33 (0, 0))], [(b_40, .cells cur_47 28 (0, 0))]] ∧ H_73 = g ∧ t_64 = .inl t_64a ∧ Hle H_62 H_73 ∧ IX I_ X_ (.inl (t_64a)) O_74 H_73) ?_ ?_
          ·
           rintro _ _ _ ⟨t_64a, H_73, O_74, rfl, rfl, rfl, rfl, hleH_73, hI_75⟩
           simp only [Sum.elim_inl] at hx
           refine JN.blkN (JN.next (JC.region (JL.val rfl rfl (R.inc rfl rfl (of_decide_eq_true c_37) (RowOf.lenI hr_19)) (JL.val rfl rfl (R.move rfl) (JL.nil ?_)))))
           replace hx := run_next hd_37 hx
           refine JN.front 6 rfl (JN.front 6 rfl (JN.front 6 rfl (JN.front 6 rfl (JN.front 6 rfl (JN.front 6 rfl (JN.front 6 rfl ?_))))))
           exact JN.cut ⟨((t_64a), x_52.2, s_31.2.2 + 1), H_73, O_74, rfl, rfl, rfl, hx, ((hleH_34.trans (hleu_54.trans (hleH_62.trans hleH_73)))), hI_75⟩ ⟨rfl, rfl, rfl, rfl, rfl, rfl, rfl, rfl, trivial⟩ rfl rfl
          ·
           have hxo_65 := hx; clear hx; have hx := ht_66; clear ht_66
           refine JC.block (JC.forget 1 (JC.forget 0 (JC.front 6 rfl (JC.front 6 rfl (JC.front 6 rfl (JC.front 6 rfl (JC.front 6 rfl (JC.front 6 rfl (JC.front 6 rfl (JC.loopI (fun n l o g => ∃ s_67 : σ × Nat, ∃ H_70 : Heaplet, ∃ O_71 : Own, l = [(0, .func (.yield lr_) #[] #[]), (1, .pointer (some ⟨b_3, 0, none⟩)), (2, .pointer (some ⟨b_5, 0, none⟩)), (3, .pointer (some ⟨b_7, 0, none⟩)), (4, .pointer (some ⟨b_12, 0, none⟩)), (34, .slice aor_19 nr_19 capr_19), (35, .int .i64 (x_16.1.length : Int)), (36, .int .i64 ((s_31.2.2 : Nat) : Int)), (63, .slice aoz_55 nz_55 nz_55), (64, .int .i64 (x_52.1.Data.length : Int)), (65, .int .i64 ((s_67.2 : Nat) : Int))] ∧ o = [O_71, [(b_3, .cells #[.int .i64 p_4.At, .int .u32 (p_4.Birth.toNat : Int), .int .u32 (p_4.Iv.toNat : Int), .int .u32 (p_4.Tag.toNat : Int), .int .u32 (p_4.Sum.toNat : Int)] 28 (0, 0))], [(b_5, .cells #[.int .u32 (p_6.toNat : Int)] 26 (0, 0))], [(b_7, .cells #[.slice aoa_9 na_9 capa_9, .slice aoa_10 na_10 capa_10, .slice aoa_11 na_11 capa_11, .int .u32 (p_8.Epoch.toNat : Int), .int .u32 (p_8.Count.toNat : Int)] 50 (0, 0))], [(b_12, .cells #[.pointer (some ⟨b_13, 0, none⟩)] 98 (0, 0))], [(b_13, .cells #[.int .i64 x_52.2] 33 (0, 0))], [(b_40, .cells cur_47 28 (0, 0))]] ∧ H_70 = g ∧ run (set_young_1_l1 p_1 p_6 x_52) n s_67 = some t_64 ∧ Hle H_62 H_70 ∧ IX I_ X_ (.inl (s_67.1)) O_71 H_70) FUEL ?_ ⟨(s_59, 0), H_62, O_61, rfl, rfl, rfl, hx, (Hle.refl _), hIH_62⟩ ⟨rfl, rfl, rfl, rfl, rfl, rfl, rfl, rfl, rfl, rfl, rfl, trivial⟩ ?_))))))))))
           ·
            rintro _ _ _ ⟨s_67, H_70, O_71, rfl, rfl, rfl, hn_68, hleH_70, hI_72⟩
            exact run_zero hn_68
           ·
            rintro n_69 _ _ _ ⟨s_67, H_70, O_71, rfl, rfl, rfl, hn_68, hleH_70, hI_72⟩
            clear hx; obtain ⟨oo_74, hx, hd_73⟩ := run_some hn_68
            unfold set_young_1_l1 at hx
            refine JC.seq (JC.region (JL.val rfl rfl (R.lss_i rfl rfl) (JL.nil (JN.next (JC.seq (JC.condB rfl (fun c_73 => ?_) (fun c_73 => ?_)))))))
            ·
             replace hx := cond_t c_73 hx
             refine JC.skip (JN.next (JC.seq (JC.block (JC.seq (JC.region ?_)))))
             obtain ⟨y_74, hN_75, hx⟩ := idx_some hx
             obtain ⟨b_76, o_77, cs_78, hE_79, hR_80, hl_81, hc_82⟩ := IsSlice.elem (hz_55.mono R_Ptr.mono (New.mono (hleH_62.trans hleH_70))) hN_75
             obtain rfl := hR_80
             refine JL.val rfl rfl (R.ix U53 S28 rfl rfl hE_79) (JL.val rfl rfl (R.ldHE (cs := [.int .i64 y_74.At, .int .u32 (y_74.Birth.toNat : Int), .int .u32 (y_74.Iv.toNat : Int), .int .u32 (y_74.Tag.toNat : Int), .int .u32 (y_74.Sum.toNat : Int)]) (k := 0) (vs := [.int .i64 y_74.At, .int .u32 (y_74.Birth.toNat : Int), .int .u32 (y_74.Iv.toNat : Int), .int .u32 (y_74.Tag.toNat : Int), .int .u32 (y_74.Sum.toNat : Int)]) S28 rfl (fun j u e => New.le _ _ _ _ _ (hc_82 j u e)) rfl rfl) (JL.alloc Z28 rfl (fun b_83 hb_83 => JL.store 0 S28 rfl rfl rfl rfl rfl (Nat.le_of_ble_eq_true rfl) (JL.nil (JN.next (JC.seq (JC.region (JL.val rfl rfl (R.fa F28_1 rfl) (JL.val rfl rfl (R.ldo 0 S26 rfl rfl rfl) (JL.val rfl rfl (R.ldo 3 S26 rfl rfl rfl) (JL.val rfl rfl (R.gtr32 (a := y_74.Birth) (b := p_6) rfl rfl) ?_)))))))))))
             refine JL.val rfl rfl (R.move rfl) (JL.gSplit (t := 73) rfl (fun c_84 => ?_) (fun c_84 => ?_))
             ·
              replace hx := cond_t c_84 hx
              refine JL.gYes rfl rfl rfl (JL.val rfl rfl (R.move rfl) (JL.gYes rfl rfl rfl (JL.val rfl rfl (R.ldoN 0 (vs := [.int .i64 y_74.At, .int .u32 (y_74.Birth.toNat : Int), .int .u32 (y_74.Iv.toNat : Int), .int .u32 (y_74.Tag.toNat : Int), .int .u32 (y_74.Sum.toNat : Int)]) S28 rfl rfl rfl rfl) (JL.gYes rfl rfl rfl ?_))))
              obtain ⟨out_85, hb_86, hx⟩ := bnd_some hx
              refine JL.yieldG 1 y_74 hb_86 hY_ rfl rfl rfl hI_72 rfl rfl (fun s_87 O_89 H_90 hleH_90 hIH_90 he_91 => ?_) (fun t_88 O_89 H_90 hleH_90 hIH_90 he_91 => ?_)
              ·
               subst he_91
               simp only [Sum.elim_inl] at hx
               refine JL.gYes rfl rfl rfl (JL.val rfl rfl (R.not rfl) (JL.val rfl rfl (R.pickT rfl rfl) (JL.nil (JN.next (JC.condF rfl (JC.skip (JN.blkN (JN.next (JC.region (JL.val rfl rfl (R.inc rfl rfl (of_decide_eq_true c_73) (IsSlice.lenI hz_55)) (JL.val rfl rfl (R.move rfl) ?_)))))))))))
               refine JL.nil ?_
               replace hx := run_next hd_73 hx
               refine JN.forget 0 (JN.front 6 rfl (JN.front 6 rfl (JN.front 6 rfl (JN.front 6 rfl (JN.front 6 rfl (JN.front 6 rfl (JN.front 6 rfl ?_)))))))
               exact JN.cut ⟨(s_87, s_67.2 + 1), H_90, O_89, rfl, rfl, rfl, hx, ((hleH_70.trans hleH_90)), hIH_90⟩ ⟨rfl, rfl, rfl, rfl, rfl, rfl, rfl, rfl, rfl, rfl, rfl, trivial⟩ rfl rfl
              ·
               subst he_91
               simp only [Sum.elim_inr] at hx
               refine JL.gYes rfl rfl rfl (JL.val rfl rfl (R.not rfl) (JL.val rfl rfl (R.pickT rfl rfl) (JL.nil (JN.next (JC.condT rfl (JC.ret (JN.blkR (JN.passR ?_))))))))
               obtain rfl := run_done hd_73 hx
               refine JN.passR (JN.blkR ?_)
               clear hx; have hx := hxo_65
               simp only [Sum.elim_inl, Sum.elim_inr] at hx
               refine JN.passR (JN.blkR (JN.passR ?_))
               obtain rfl := run_done hd_37 hx
               refine JN.passR (JN.blkR ?_)
               clear hx; have hx := hxo_29
               simp only [Sum.elim_inl, Sum.elim_inr] at hx
               refine JN.passR (JN.outP (vs := []) (K := [_, _, _, _, _, _]) (rst := [_, _]) (.inl rfl) rfl rfl rfl (picks 2 rfl (picks 2 rfl (picks 2 rfl (picks 2 rfl (picks 2 rfl (picks 1 rfl picks0)))))) ?_)
               obtain rfl := Option.some.inj hx
               exact ⟨O_89, rfl, rfl, hIH_90, trivial⟩
             ·
              replace hx := cond_f c_84 hx
              refine JL.gNo rfl rfl rfl rfl rfl (JL.gNo rfl rfl rfl rfl rfl (JL.gNo rfl rfl rfl rfl rfl (JL.gNo rfl rfl rfl rfl rfl (JL.val rfl rfl (R.pickF rfl rfl) (JL.nil (JN.next (JC.condF rfl (JC.skip (JN.blkN (JN.next (JC.region ?_)))))))))))
              refine JL.val rfl rfl (R.inc rfl rfl (of_decide_eq_true c_73) (IsSlice.lenI hz_55)) (JL.val rfl rfl (R.move rfl) (JL.nil ?_))
              replace hx := run_next hd_73 hx
              refine JN.forget 0 (JN.front 6 rfl (JN.front 6 rfl (JN.front 6 rfl (JN.front 6 rfl (JN.front 6 rfl (JN.front 6 rfl (JN.front 6 rfl ?_)))))))
              exact JN.cut ⟨((s_67.1), s_67.2 + 1), H_70, O_71, rfl, rfl, rfl, hx, (hleH_70), hI_72⟩ ⟨rfl, rfl, rfl, rfl, rfl, rfl, rfl, rfl, rfl, rfl, rfl, trivial⟩ rfl rfl
            ·
             replace hx := cond_f c_73 hx
             refine JC.exit (JN.passX ?_)
             obtain rfl := run_done hd_73 hx
             refine JN.passX (JN.exitSame (JN.front 6 rfl (JN.front 6 rfl (JN.front 6 rfl (JN.front 6 rfl (JN.front 6 rfl (JN.front 6 rfl (JN.front 6 rfl ?_))))))))
             exact JN.cut ⟨(s_67.1), H_70, O_71, rfl, rfl, rfl, rfl, (hleH_70), hI_72⟩ ⟨rfl, rfl, rfl, rfl, rfl, rfl, rfl, rfl, trivial⟩ rfl rfl
         ·
          subst he_63
          simp only [Sum.elim_inr] at hx
          refine JL.gYes rfl rfl rfl (JL.val rfl rfl (R.not rfl) (JL.val rfl rfl (R.pickF rfl rfl) (JL.nil (JN.next (JC.condT rfl (JC.ret (JN.passR (JN.blkR (JN.passR ?_)))))))))
          obtain rfl := run_done hd_37 hx
          refine JN.passR (JN.blkR ?_)
          clear hx; have hx := hxo_29
          simp only [Sum.elim_inl, Sum.elim_inr] at hx
          refine JN.passR (JN.outP (vs := []) (K := [_, _, _, _, _, _]) (rst := [_, _, _]) (.inl rfl) rfl rfl rfl (picks 3 rfl (picks 3 rfl (picks 3 rfl (picks 3 rfl (picks 3 rfl (picks 2 rfl picks0)))))) ?_)
          obtain rfl := Option.some.inj hx
          exact ⟨O_61, rfl, rfl, hIH_62, trivial⟩
      ·
       replace hx := cond_f c_37 hx
       refine JC.exit (JN.passX ?_)
       obtain rfl := run_done hd_37 hx
       refine JN.passX (JN.exitSame (JN.forget 6 (JN.front 5 rfl (JN.front 5 rfl (JN.front 5 rfl (JN.front 5 rfl (JN.front 5 rfl (JN.front 5 rfl ?_))))))))
       exact JN.cut ⟨((s_31.1), s_31.2.1), H_34, O_35, rfl, rfl, rfl, rfl, (hleH_34), hI_36⟩ ⟨rfl, rfl, rfl, rfl, trivial⟩ rfl rfl
   ·
    subst he_27
    simp only [Sum.elim_inr] at hx
    refine JL.gYes rfl rfl rfl (JL.val rfl rfl (R.not rfl) (JL.val rfl rfl (R.pickF rfl rfl) (JL.nil (JN.next (JC.condT rfl (JC.ret (JN.passR (JN.outP (vs := []) (K := [_, _, _, _, _, _]) (rst := [_]) (.inl rfl) rfl rfl rfl (picks 1 rfl (picks 1 rfl (picks 1 rfl (picks 1 rfl (picks 1 rfl (picks 1 rfl picks0)))))) ?_))))))))
    obtain rfl := Option.some.inj hx
    exact ⟨O_25, rfl, rfl, hIH_26, trivial⟩

set_option maxHeartbeats 8000000 in
theorem slices_AppendSeq_Ptr_ok (p_1 : List Ptr) (p_4 : Ptr) (p_6 : UInt32) (p_8 : Store) (p_14 : Int) (H : Heaplet) {aor_2 : Option Addr} {nr_2 : Nat} {capr_2 : Nat} {Kr_2 : Own} {b_3 : Nat} {b_5 : Nat} {b_7 : Nat} {aoa_9 : Option Addr} {na_9 : Nat} {capa_9 : Nat} {aoa_10 : Option Addr} {na_10 : Nat} {capa_10 : Nat} {aoa_11 : Option Addr} {na_11 : Nat} {capa_11 : Nat} {b_12 : Nat} {b_13 : Nat} (hr_2 : RowOf H R_Ptr 0 28 5 (.slice aor_2 nr_2 capr_2) p_1 Kr_2) (ha_9 : IsSlice H (RSl RU8 1) 1 (.slice aoa_9 na_9 capa_9) p_8.Disk.Blocks) (ha_10 : IsSlice H R_Write 2 (.slice aoa_10 na_10 capa_10) p_8.Disk.Waits) (ha_11 : IsSlice H RU8 1 (.slice aoa_11 na_11 capa_11) p_8.Space) (r : List Ptr × Ptr × UInt32 × Store × Int) (hx : slices_AppendSeq_Ptr p_1 p_4 p_6 p_8 p_14 = some r) :
  Does Try.prog 91 #[.slice aor_2 nr_2 capr_2, .func (.func 92) #[] #[.pointer (some ⟨b_3, 0, none⟩), .pointer (some ⟨b_5, 0, none⟩), .pointer (some ⟨b_7, 0, none⟩), .pointer (some ⟨b_12, 0, none⟩)]] [Kr_2, [(b_3, .cells #[.int .i64 p_4.At, .int .u32 (p_4.Birth.toNat : Int), .int .u32 (p_4.Iv.toNat : Int), .int .u32 (p_4.Tag.toNat : Int), .int .u32 (p_4.Sum.toNat : Int)] 28 (0, 0))], [(b_5, .cells #[.int .u32 (p_6.toNat : Int)] 26 (0, 0))], [(b_7, .cells #[.slice aoa_9 na_9 capa_9, .slice aoa_10 na_10 capa_10, .slice aoa_11 na_11 capa_11, .int .u32 (p_8.Epoch.toNat : Int), .int .u32 (p_8.Count.toNat : Int)] 50 (0, 0))], [(b_12, .cells #[.pointer (some ⟨b_13, 0, none⟩)] 98 (0, 0))], [(b_13, .cells #[.int .i64 p_14] 33 (0, 0))]] H (fun u K' H' => ∃ ao0 : Option Addr, ∃ n0 : Nat, ∃ cap0 : Nat, ∃ ao1 : Option Addr, ∃ n1 : Nat, ∃ cap1 : Nat, ∃ ao2 : Option Addr, ∃ n2 : Nat, ∃ cap2 : Nat, ∃ ao3 : Option Addr, ∃ n3 : Nat, ∃ cap3 : Nat, ∃ K3 : Own, u = .slice ao3 n3 cap3 ∧ K' = [[(b_3, .cells #[.int .i64 r.2.1.At, .int .u32 (r.2.1.Birth.toNat : Int), .int .u32 (r.2.1.Iv.toNat : Int), .int .u32 (r.2.1.Tag.toNat : Int), .int .u32 (r.2.1.Sum.toNat : Int)] 28 (0, 0))], [(b_5, .cells #[.int .u32 (r.2.2.1.toNat : Int)] 26 (0, 0))], [(b_7, .cells #[.slice ao0 n0 cap0, .slice ao1 n1 cap1, .slice ao2 n2 cap2, .int .u32 (r.2.2.2.1.Epoch.toNat : Int), .int .u32 (r.2.2.2.1.Count.toNat : Int)] 50 (0, 0))], [(b_12, .cells #[.pointer (some ⟨b_13, 0, none⟩)] 98 (0, 0))], [(b_13, .cells #[.int .i64 r.2.2.2.2] 33 (0, 0))], K3] ∧ IsSlice H' (RSl RU8 1) 1 (.slice ao0 n0 cap0) r.2.2.2.1.Disk.Blocks ∧ IsSlice H' R_Write 2 (.slice ao1 n1 cap1) r.2.2.2.1.Disk.Waits ∧ IsSlice H' RU8 1 (.slice ao2 n2 cap2) r.2.2.2.1.Space ∧ RowOf (New H H') R_Ptr 0 28 5 (.slice ao3 n3 cap3) r.1 K3 ∧ True) := by
 refine Does.enterML (vs := [.slice aor_2 nr_2 capr_2, .func (.func 92) #[] #[.pointer (some ⟨b_3, 0, none⟩), .pointer (some ⟨b_5, 0, none⟩), .pointer (some ⟨b_7, 0, none⟩), .pointer (some ⟨b_12, 0, none⟩)]]) (l := [(0, .slice aor_2 nr_2 capr_2), (1, .func (.func 92) #[] #[.pointer (some ⟨b_3, 0, none⟩), .pointer (some ⟨b_5, 0, none⟩), .pointer (some ⟨b_7, 0, none⟩), .pointer (some ⟨b_12, 0, none⟩)])]) Try.func91 rfl rfl ⟨rfl, rfl, trivial⟩ (fun w hlt => ?_)
 replace hr_2 := RowOf.const (H2 := New H H) R_Ptr.const hr_2
 unfold slices_AppendSeq_Ptr at hx
 refine JC.seq (JC.region (JL.box rfl rfl (fun b_15 hb_15 => JL.val rfl rfl (R.assign rfl) (JL.nil (JN.next (JC.seq (JC.seq (JC.region (JL.val rfl rfl (R.move rfl) (JL.nil (JN.next ?_)))))))))))
 refine JC.block (JC.front 1 rfl (JC.front 1 rfl (JC.front 6 rfl (JC.front 6 rfl (JC.front 6 rfl (JC.front 6 rfl (JC.front 6 rfl ?_)))))))
 obtain ⟨t_16, ht_18, hx⟩ := bnd_some hx
 refine JC.rangeG2 (RA := (fun (H : Heaplet) (args : Array Value) (y : Ptr) => args = #[.agg #[.int .i64 y.At, .int .u32 (y.Birth.toNat : Int), .int .u32 (y.Iv.toNat : Int), .int .u32 (y.Tag.toNat : Int), .int .u32 (y.Sum.toNat : Int)]])) rfl slices_AppendSeq_Ptr_r1 p_1 t_16.1 (fun s_19 o g => ∃ H_29 : Heaplet, ∃ aor_30 : Option Addr, ∃ nr_30 : Nat, ∃ capr_30 : Nat, ∃ Kr_30 : Own, o = [[(b_15, .cells #[.slice aor_30 nr_30 capr_30] 53 (0, 0))], Kr_30] ∧ H_29 = g ∧ Hle H H_29 ∧ RowOf (New H H_29) R_Ptr 0 28 5 (.slice aor_30 nr_30 capr_30) s_19 Kr_30) (fun e c o g => False) (fun mm g => mm = [[(b_3, .cells #[.int .i64 p_4.At, .int .u32 (p_4.Birth.toNat : Int), .int .u32 (p_4.Iv.toNat : Int), .int .u32 (p_4.Tag.toNat : Int), .int .u32 (p_4.Sum.toNat : Int)] 28 (0, 0))], [(b_5, .cells #[.int .u32 (p_6.toNat : Int)] 26 (0, 0))], [(b_7, .cells #[.slice aoa_9 na_9 capa_9, .slice aoa_10 na_10 capa_10, .slice aoa_11 na_11 capa_11, .int .u32 (p_8.Epoch.toNat : Int), .int .u32 (p_8.Count.toNat : Int)] 50 (0, 0))], [(b_12, .cells #[.pointer (some ⟨b_13, 0, none⟩)] 98 (0, 0))], [(b_13, .cells #[.int .i64 t_16.2] 33 (0, 0))]]) [_, _, _, _, _] [_, _] rfl E92 rfl (fun lr' I' X' O' hY' hI' => Does.mono (set_young_1_ok slices_AppendSeq_Ptr_r1 p_1 p_4 p_6 p_8 p_14 _ hY' hI' ha_9 ha_10 ha_11 _ ht_18) (fun u K' H' h => by obtain ⟨Oo, -, hK, hIX, -⟩ := h; exact ⟨_, _, hK, rfl, hIX⟩)) (fun _ _ _ h => by first | rfl | (subst h; rfl)) rfl ⟨H, aor_2, nr_2, capr_2, Kr_2, rfl, rfl, (Hle.refl _), hr_2⟩ ?_ ?_ ?_
 ·
  rintro lr_21 y_20 s_19 args o g H_25 out_23 hleH_25 ⟨H_29, aor_30, nr_30, capr_30, Kr_30, rfl, rfl, hleH_29, hr_30⟩ hA hx2
  clear hx; have hx := hx2; clear hx2; unfold slices_AppendSeq_Ptr_r1 at hx
  obtain rfl := hA
  refine ⟨fun L' o' => ∃ b_31 : Nat, L' = [(2, .pointer (some ⟨b_15, 0, none⟩)), (5, .pointer (some ⟨b_31, 0, none⟩))] ∧ o' = [[(b_31, .cells #[.int .i64 y_20.At, .int .u32 (y_20.Birth.toNat : Int), .int .u32 (y_20.Iv.toNat : Int), .int .u32 (y_20.Tag.toNat : Int), .int .u32 (y_20.Sum.toNat : Int)] 28 (0, 0))], [(b_15, .cells #[.slice aor_30 nr_30 capr_30] 53 (0, 0))], Kr_30], fun wb_22 hwb_22 => ?_, fun wb_22 L' o' hJ hwb_22 => ?_⟩
  ·
   refine JC.region (JL.alloc Z28 rfl (fun b_31 hb_31 => JL.store 0 S28 rfl rfl rfl rfl rfl (Nat.le_of_ble_eq_true rfl) (JL.nil ?_)))
   exact JN.assigned2 ⟨_, rfl, rfl⟩ ⟨rfl, rfl, trivial⟩ rfl
  ·
   obtain ⟨b_31, rfl, rfl⟩ := hJ
   refine JC.block (JC.region (JL.val rfl rfl (R.ldo 1 S53 rfl rfl rfl) (JL.val rfl rfl (R.ldoN 0 (vs := [.int .i64 y_20.At, .int .u32 (y_20.Birth.toNat : Int), .int .u32 (y_20.Iv.toNat : Int), .int .u32 (y_20.Tag.toNat : Int), .int .u32 (y_20.Sum.toNat : Int)]) S28 rfl rfl rfl rfl) (JL.bslF (HF := (New H H_25)) (R := R_Ptr) (ls := [y_20]) (vs := [.agg #[.int .i64 y_20.At, .int .u32 (y_20.Birth.toNat : Int), .int .u32 (y_20.Iv.toNat : Int), .int .u32 (y_20.Tag.toNat : Int), .int .u32 (y_20.Sum.toNat : Int)]]) U53 I28 rfl rfl (⟨_, _, rfl, rfl, rfl, rfl⟩) R_Ptr.one rfl rfl rfl (by simp [maxLen]) rfl (fun vr_32 Kr_32 hr_32 => ?_)))))
   obtain ⟨aor_32, capr_32, rfl⟩ := RowOf.val hr_32
   obtain ⟨q_33, hm_34, hl_35, hx⟩ := app_some hx
   refine JL.appF (HF := (New H H_25)) 3 U53 I28 rfl rfl (hr_30.mono R_Ptr.mono (New.mono hleH_25)) rfl (SrcF.row 0 U53 rfl hr_32) hm_34 hl_35 rfl (Nat.zero_le _) rfl (fun vr_36 Kr_36 hr_36 => ?_)
   obtain ⟨aor_36, capr_36, rfl⟩ := RowOf.val hr_36
   refine JL.store 2 S53 rfl rfl rfl rfl rfl (Nat.le_of_ble_eq_true rfl) (JL.nil (JN.blkN ?_))
   obtain rfl := Option.some.inj hx
   refine JN.forget 1 (JN.forget 0 (JN.front 1 rfl (JN.front 1 rfl ?_)))
   exact JN.rN ⟨H_25, aor_36, q_33.length, capr_36, Kr_36, rfl, rfl, ((hleH_29.trans hleH_25)), hr_36⟩
 ·
  rintro D_24 s_19 m_26 o g H_25 hD_24 htt_27 hM_28 hleH_25 ⟨H_29, aor_30, nr_30, capr_30, Kr_30, rfl, rfl, hleH_29, hr_30⟩ hle2
  obtain rfl := hM_28
  rw [htt_27] at hx; simp only [Sum.elim_inl] at hx
  refine JN.blkN (JN.next (JC.seq (JC.region (JL.val rfl rfl (R.ldo 6 S53 rfl rfl rfl) (JL.val rfl rfl (R.assign rfl) (JL.nil (JN.next (JC.ret (JN.outMP (vs := [.slice aor_30 nr_30 capr_30]) (K := [_, _, _, _, _, _]) (rst := [_]) (own2 := [_, _, _, _, _, _, _]) [D_24] (.inl rfl) ⟨rfl, rfl, rfl, rfl⟩ rfl rfl (picks 0 rfl picks0) (Res.tmp rfl rfl) (picks 0 rfl (picks 0 rfl (picks 0 rfl (picks 0 rfl (picks 0 rfl (picks 1 rfl picks0)))))) ?_)))))))))
  obtain rfl := Option.some.inj hx
  exact ⟨aoa_9, na_9, capa_9, aoa_10, na_10, capa_10, aoa_11, na_11, capa_11, aor_30, nr_30, capr_30, Kr_30, rfl, rfl, (ha_9.mono (RSl.mono RU8.mono) (hleH_29.trans hleH_25)), (ha_10.mono R_Write.mono (hleH_29.trans hleH_25)), (ha_11.mono RU8.mono (hleH_29.trans hleH_25)), (RowOf.weak (Nat.zero_le _) (hr_30.mono R_Ptr.mono (New.mono hleH_25))), trivial⟩
 ·
  rintro D c e m o g H9 hD htt hM h9 hX; exact hX.elim

set_option maxHeartbeats 8000000 in
theorem slices_Collect_Ptr_ok (p_2 : Ptr) (p_4 : UInt32) (p_6 : Store) (p_12 : Int) (H : Heaplet) {b_1 : Nat} {b_3 : Nat} {b_5 : Nat} {aoa_7 : Option Addr} {na_7 : Nat} {capa_7 : Nat} {aoa_8 : Option Addr} {na_8 : Nat} {capa_8 : Nat} {aoa_9 : Option Addr} {na_9 : Nat} {capa_9 : Nat} {b_10 : Nat} {b_11 : Nat} (ha_7 : IsSlice H (RSl RU8 1) 1 (.slice aoa_7 na_7 capa_7) p_6.Disk.Blocks) (ha_8 : IsSlice H R_Write 2 (.slice aoa_8 na_8 capa_8) p_6.Disk.Waits) (ha_9 : IsSlice H RU8 1 (.slice aoa_9 na_9 capa_9) p_6.Space) (r : List Ptr × Ptr × UInt32 × Store × Int) (hx : slices_Collect_Ptr p_2 p_4 p_6 p_12 = some r) :
  Does Try.prog 50 #[.func (.func 92) #[] #[.pointer (some ⟨b_1, 0, none⟩), .pointer (some ⟨b_3, 0, none⟩), .pointer (some ⟨b_5, 0, none⟩), .pointer (some ⟨b_10, 0, none⟩)]] [[(b_1, .cells #[.int .i64 p_2.At, .int .u32 (p_2.Birth.toNat : Int), .int .u32 (p_2.Iv.toNat : Int), .int .u32 (p_2.Tag.toNat : Int), .int .u32 (p_2.Sum.toNat : Int)] 28 (0, 0))], [(b_3, .cells #[.int .u32 (p_4.toNat : Int)] 26 (0, 0))], [(b_5, .cells #[.slice aoa_7 na_7 capa_7, .slice aoa_8 na_8 capa_8, .slice aoa_9 na_9 capa_9, .int .u32 (p_6.Epoch.toNat : Int), .int .u32 (p_6.Count.toNat : Int)] 50 (0, 0))], [(b_10, .cells #[.pointer (some ⟨b_11, 0, none⟩)] 98 (0, 0))], [(b_11, .cells #[.int .i64 p_12] 33 (0, 0))]] H (fun u K' H' => ∃ ao0 : Option Addr, ∃ n0 : Nat, ∃ cap0 : Nat, ∃ ao1 : Option Addr, ∃ n1 : Nat, ∃ cap1 : Nat, ∃ ao2 : Option Addr, ∃ n2 : Nat, ∃ cap2 : Nat, ∃ ao3 : Option Addr, ∃ n3 : Nat, ∃ cap3 : Nat, ∃ K3 : Own, u = .slice ao3 n3 cap3 ∧ K' = [[(b_1, .cells #[.int .i64 r.2.1.At, .int .u32 (r.2.1.Birth.toNat : Int), .int .u32 (r.2.1.Iv.toNat : Int), .int .u32 (r.2.1.Tag.toNat : Int), .int .u32 (r.2.1.Sum.toNat : Int)] 28 (0, 0))], [(b_3, .cells #[.int .u32 (r.2.2.1.toNat : Int)] 26 (0, 0))], [(b_5, .cells #[.slice ao0 n0 cap0, .slice ao1 n1 cap1, .slice ao2 n2 cap2, .int .u32 (r.2.2.2.1.Epoch.toNat : Int), .int .u32 (r.2.2.2.1.Count.toNat : Int)] 50 (0, 0))], [(b_10, .cells #[.pointer (some ⟨b_11, 0, none⟩)] 98 (0, 0))], [(b_11, .cells #[.int .i64 r.2.2.2.2] 33 (0, 0))], K3] ∧ IsSlice H' (RSl RU8 1) 1 (.slice ao0 n0 cap0) r.2.2.2.1.Disk.Blocks ∧ IsSlice H' R_Write 2 (.slice ao1 n1 cap1) r.2.2.2.1.Disk.Waits ∧ IsSlice H' RU8 1 (.slice ao2 n2 cap2) r.2.2.2.1.Space ∧ RowOf (New H H') R_Ptr 0 28 5 (.slice ao3 n3 cap3) r.1 K3 ∧ True) := by
 refine Does.enterL (vs := [.func (.func 92) #[] #[.pointer (some ⟨b_1, 0, none⟩), .pointer (some ⟨b_3, 0, none⟩), .pointer (some ⟨b_5, 0, none⟩), .pointer (some ⟨b_10, 0, none⟩)]]) (l := [(0, .func (.func 92) #[] #[.pointer (some ⟨b_1, 0, none⟩), .pointer (some ⟨b_3, 0, none⟩), .pointer (some ⟨b_5, 0, none⟩), .pointer (some ⟨b_10, 0, none⟩)])]) Try.func50 rfl rfl ⟨rfl, trivial⟩ (fun w hlt => ?_)
 unfold slices_Collect_Ptr at hx
 refine JC.seq (JC.region (JL.val rfl rfl (R.assign rfl) (JL.nil (JN.next (JC.seq (JC.region (JL.val rfl rfl (R.move rfl) (JL.seg0 ?_))))))))
 obtain ⟨x_14, hr_15, hx⟩ := bnd_some hx
 refine JL.callC (vs := [_, _]) (args := [_, _]) (K := [_, _, _, _, _, _]) (rst := []) E91 rfl rfl rfl (picks 0 rfl (picks 0 rfl (picks 0 rfl (picks 0 rfl (picks 0 rfl (picks 0 rfl picks0)))))) (slices_AppendSeq_Ptr_ok ([] : List Ptr) p_2 p_4 p_6 p_12 _ (RowOf.nil _ R_Ptr _ _ _) ha_7 ha_8 ha_9 _ hr_15) rfl (fun u_16 Ku_16 Hu_16 hRu_16 hleu_16 hfu_16 => ?_)
 obtain ⟨aoz_17, nz_17, capz_17, aoz_18, nz_18, capz_18, aoz_19, nz_19, capz_19, aor_20, nr_20, capr_20, Kr_20, rfl, rfl, hz_17, hz_18, hz_19, hr_20, -⟩ := hRu_16
 replace hr_20 := (RowOf.const (H2 := New H Hu_16) R_Ptr.const hr_20)
 refine JL.val rfl rfl (R.assign rfl) (JL.nil (JN.next (JC.ret (JN.outP (vs := [.slice aor_20 nr_20 capr_20]) (K := [_, _, _, _, _, _]) (rst := []) (.inl rfl) rfl rfl (Res.tmp rfl rfl) (picks 0 rfl (picks 0 rfl (picks 0 rfl (picks 0 rfl (picks 0 rfl (picks 0 rfl picks0)))))) ?_))))
 obtain rfl := Option.some.inj hx
 exact ⟨aoz_17, nz_17, capz_17, aoz_18, nz_18, capz_18, aoz_19, nz_19, capz_19, aor_20, nr_20, capr_20, Kr_20, rfl, rfl, hz_17, hz_18, hz_19, (RowOf.weak (Nat.zero_le _) hr_20), trivial⟩

set_option maxHeartbeats 8000000 in
theorem set_Walk_ok (p_1 : Store) (p_5 : Ptr) (p_6 : UInt32) (H : Heaplet) {aoa_2 : Option Addr} {na_2 : Nat} {capa_2 : Nat} {aoa_3 : Option Addr} {na_3 : Nat} {capa_3 : Nat} {aoa_4 : Option Addr} {na_4 : Nat} {capa_4 : Nat} (ha_2 : IsSlice H (RSl RU8 1) 1 (.slice aoa_2 na_2 capa_2) p_1.Disk.Blocks) (ha_3 : IsSlice H R_Write 2 (.slice aoa_3 na_3 capa_3) p_1.Disk.Waits) (ha_4 : IsSlice H RU8 1 (.slice aoa_4 na_4 capa_4) p_1.Space) (r : List Ptr × Int) (hx : set_Walk p_1 p_5 p_6 = some r) :
  Does Try.prog 21 #[.agg #[.slice aoa_2 na_2 capa_2, .slice aoa_3 na_3 capa_3, .slice aoa_4 na_4 capa_4, .int .u32 (p_1.Epoch.toNat : Int), .int .u32 (p_1.Count.toNat : Int)], .agg #[.int .i64 p_5.At, .int .u32 (p_5.Birth.toNat : Int), .int .u32 (p_5.Iv.toNat : Int), .int .u32 (p_5.Tag.toNat : Int), .int .u32 (p_5.Sum.toNat : Int)], .int .u32 (p_6.toNat : Int)] [] H (fun u K' H' => ∃ ao0 : Option Addr, ∃ n0 : Nat, ∃ cap0 : Nat, ∃ K0 : Own, u = .tuple #[.slice ao0 n0 cap0, .int .i64 r.2] ∧ K' = [K0] ∧ RowOf (New H H') R_Ptr 0 28 5 (.slice ao0 n0 cap0) r.1 K0 ∧ (∀ p ∈ K0, p.1 ∉ ids (List.flatten [])) ∧ True) := by
 refine Does.enterL (vs := [.agg #[.slice aoa_2 na_2 capa_2, .slice aoa_3 na_3 capa_3, .slice aoa_4 na_4 capa_4, .int .u32 (p_1.Epoch.toNat : Int), .int .u32 (p_1.Count.toNat : Int)], .agg #[.int .i64 p_5.At, .int .u32 (p_5.Birth.toNat : Int), .int .u32 (p_5.Iv.toNat : Int), .int .u32 (p_5.Tag.toNat : Int), .int .u32 (p_5.Sum.toNat : Int)], .int .u32 (p_6.toNat : Int)]) (l := [(0, .agg #[.slice aoa_2 na_2 capa_2, .slice aoa_3 na_3 capa_3, .slice aoa_4 na_4 capa_4, .int .u32 (p_1.Epoch.toNat : Int), .int .u32 (p_1.Count.toNat : Int)]), (1, .agg #[.int .i64 p_5.At, .int .u32 (p_5.Birth.toNat : Int), .int .u32 (p_5.Iv.toNat : Int), .int .u32 (p_5.Tag.toNat : Int), .int .u32 (p_5.Sum.toNat : Int)]), (2, .int .u32 (p_6.toNat : Int))]) Try.func21 rfl rfl ⟨rfl, rfl, rfl, trivial⟩ (fun w hlt => ?_)
 unfold set_Walk at hx
 refine JC.seq (JC.region (JL.box rfl rfl (fun b_7 hb_7 => JL.box rfl rfl (fun b_8 hb_8 => JL.val rfl rfl (R.assign rfl) (JL.val rfl rfl (R.assign rfl) (JL.nil (JN.next (JC.seq (JC.seq (JC.region (JL.val rfl rfl (R.ldoN 1 (vs := [.slice aoa_2 na_2 capa_2, .slice aoa_3 na_3 capa_3, .slice aoa_4 na_4 capa_4, .int .u32 (p_1.Epoch.toNat : Int), .int .u32 (p_1.Count.toNat : Int)]) S50 rfl rfl rfl rfl) ?_)))))))))))
 obtain ⟨x_9, hr_10, hx⟩ := bnd_some hx
 refine JL.callC (vs := [_]) (args := [_]) (K := []) (rst := [_, _]) E26 rfl rfl rfl picks0 (store_Check_ok p_1 _ ha_2 ha_3 ha_4 _ hr_10) rfl (fun u_11 Ku_11 Hu_11 hRu_11 hleu_11 hfu_11 => ?_)
 obtain ⟨rfl, rfl, rfl, -⟩ := hRu_11
 refine JL.val rfl rfl (R.neq_i rfl rfl) (JL.val rfl rfl (R.move rfl) (JL.gSplit (t := 13) rfl (fun c_12 => ?_) (fun c_12 => ?_)))
 ·
  replace hx := cond_t c_12 hx
  refine JL.gNo rfl rfl rfl rfl rfl (JL.gNo rfl rfl rfl rfl rfl (JL.gNo rfl rfl rfl rfl rfl (JL.val rfl rfl (R.pickT rfl rfl) (JL.nil (JN.next (JC.condT rfl (JC.seq (JC.region (JL.val rfl rfl (R.assign rfl) (JL.val rfl rfl (R.assign rfl) (JL.nil ?_)))))))))))
  refine JN.next (JC.ret (JN.passR (JN.seg0 (JN.outP (vs := [.slice none 0 0, .int .i64 8]) (K := [_]) (rst := [_, _]) (.inl rfl) rfl rfl (Res.tmp rfl (Res.tmp rfl rfl)) (picks 0 rfl picks0) ?_))))
  obtain rfl := Option.some.inj hx
  exact ⟨none, 0, 0, [], rfl, rfl, (RowOf.nil _ _ _ _ _), (fun p hp => by cases hp), trivial⟩
 ·
  replace hx := cond_f c_12 hx
  refine JL.gYes rfl rfl rfl (JL.val rfl rfl (R.ldoN 0 (vs := [.int .i64 p_5.At, .int .u32 (p_5.Birth.toNat : Int), .int .u32 (p_5.Iv.toNat : Int), .int .u32 (p_5.Tag.toNat : Int), .int .u32 (p_5.Sum.toNat : Int)]) S28 rfl rfl rfl rfl) (JL.gYes rfl rfl rfl ?_))
  obtain ⟨x_13, hr_14, hx⟩ := bnd_some hx
  refine JL.callC (vs := [_]) (args := [_]) (K := []) (rst := [_, _]) E49 rfl rfl rfl picks0 (ptr_Check_ok p_5 _ _ hr_14) rfl (fun u_15 Ku_15 Hu_15 hRu_15 hleu_15 hfu_15 => ?_)
  obtain ⟨rfl, rfl, rfl, -⟩ := hRu_15
  refine JL.gYes rfl rfl rfl (JL.val rfl rfl (R.neq_i rfl rfl) (JL.val rfl rfl (R.pickF rfl rfl) (JL.nil (JN.next (JC.condB rfl (fun c_16 => ?_) (fun c_16 => ?_))))))
  ·
   replace hx := cond_t c_16 hx
   refine JC.seq (JC.region (JL.val rfl rfl (R.assign rfl) (JL.val rfl rfl (R.assign rfl) (JL.nil (JN.next (JC.ret (JN.passR (JN.seg0 (JN.outP (vs := [.slice none 0 0, .int .i64 8]) (K := [_]) (rst := [_, _]) (.inl rfl) rfl rfl (Res.tmp rfl (Res.tmp rfl rfl)) (picks 0 rfl picks0) ?_)))))))))
   obtain rfl := Option.some.inj hx
   exact ⟨none, 0, 0, [], rfl, rfl, (RowOf.nil _ _ _ _ _), (fun p hp => by cases hp), trivial⟩
  ·
   replace hx := cond_f c_16 hx
   refine JC.skip (JN.next (JC.seq (JC.region (JL.alloc Z33 rfl (fun b_17 hb_17 => JL.store 0 S33 rfl rfl rfl rfl rfl (Nat.le_of_ble_eq_true rfl) (JL.nil (JN.next (JC.seq (JC.region (JL.val rfl rfl (R.ldoN 2 (vs := [.slice aoa_2 na_2 capa_2, .slice aoa_3 na_3 capa_3, .slice aoa_4 na_4 capa_4, .int .u32 (p_1.Epoch.toNat : Int), .int .u32 (p_1.Count.toNat : Int)]) S50 rfl rfl rfl rfl) (JL.val rfl rfl (R.ldoN 1 (vs := [.int .i64 p_5.At, .int .u32 (p_5.Birth.toNat : Int), .int .u32 (p_5.Iv.toNat : Int), .int .u32 (p_5.Tag.toNat : Int), .int .u32 (p_5.Sum.toNat : Int)]) S28 rfl rfl rfl rfl) ?_)))))))))))
   refine JL.val rfl rfl (R.move rfl) ?_
   obtain ⟨x_18, hr_19, hx⟩ := bnd_some hx
   refine JL.callC (vs := [_, _, _, _]) (args := [_, _, _, _]) (K := [_]) (rst := [_, _]) E51 rfl rfl rfl (picks 0 rfl picks0) (set_young_ok p_1 p_5 p_6 0 _ ha_2 ha_3 ha_4 _ hr_19) rfl (fun u_20 Ku_20 Hu_20 hRu_20 hleu_20 hfu_20 => ?_)
   obtain ⟨b_21, b_22, b_23, aoz_24, nz_24, capz_24, aoz_25, nz_25, capz_25, aoz_26, nz_26, capz_26, b_27, rfl, rfl, rfl, hnb_21, hnb_22, hz_24, hz_25, hz_26, hnb_23, hnb_27, -⟩ := hRu_20
   have hb_21 := (hfu_20 _ (mem_seg 1 rfl (List.mem_singleton.2 rfl))).resolve_left hnb_21
   have hb_22 := (hfu_20 _ (mem_seg 2 rfl (List.mem_singleton.2 rfl))).resolve_left hnb_22
   have hb_23 := (hfu_20 _ (mem_seg 3 rfl (List.mem_singleton.2 rfl))).resolve_left hnb_23
   have hb_27 := (hfu_20 _ (mem_seg 4 rfl (List.mem_singleton.2 rfl))).resolve_left hnb_27
   obtain ⟨x_28, hr_29, hx⟩ := bnd_some hx
   refine JL.callC (vs := [_]) (args := [_]) (K := [_, _, _, _, _]) (rst := [_, _]) E50 rfl rfl rfl (picks 1 rfl (picks 1 rfl (picks 1 rfl (picks 1 rfl (picks 0 rfl picks0))))) (slices_Collect_Ptr_ok (Ptr.mk x_18.1.1 x_18.1.2.1 x_18.1.2.2.1 x_18.1.2.2.2.1 x_18.1.2.2.2.2.1) x_18.1.2.2.2.2.2.1 (Store.mk (Disk.mk x_18.1.2.2.2.2.2.2.1 x_18.1.2.2.2.2.2.2.2.1) x_18.1.2.2.2.2.2.2.2.2.1 x_18.1.2.2.2.2.2.2.2.2.2.1 x_18.1.2.2.2.2.2.2.2.2.2.2) x_18.2 _ hz_24 hz_25 hz_26 _ hr_29) rfl (fun u_30 Ku_30 Hu_30 hRu_30 hleu_30 hfu_30 => ?_)
   obtain ⟨aoz_31, nz_31, capz_31, aoz_32, nz_32, capz_32, aoz_33, nz_33, capz_33, aor_34, nr_34, capr_34, Kr_34, rfl, rfl, hz_31, hz_32, hz_33, hr_34, -⟩ := hRu_30
   replace hr_34 := (RowOf.up (RowOf.const (H2 := New H Hu_30) R_Ptr.const hr_34) (fun p hp => hfu_30 p (mem_seg 5 rfl hp)) (ids_cons (ids_one hb_21) (ids_cons (ids_one hb_22) (ids_cons (ids_one hb_23) (ids_cons (ids_one hb_27) (ids_cons (ids_one hb_17) ids_nil))))))
   refine JL.val rfl rfl (R.assign rfl) (JL.nil (JN.next (JC.seq (JC.seq (JC.region (JL.val rfl rfl (R.ldo 4 S33 rfl rfl rfl) (JL.val rfl rfl (R.neq_i rfl rfl) (JL.nil (JN.next (JC.condB rfl (fun c_35 => ?_) (fun c_35 => ?_)))))))))))
   ·
    replace hx := cond_t c_35 hx
    refine JC.seq (JC.draw (so := [_, _, _, _, _, _, _, _]) 3 rfl Mixed ⟨⟨0, rfl⟩, ⟨1, rfl⟩, ⟨2, rfl⟩, ⟨3, rfl⟩, ⟨4, rfl⟩, ⟨5, rfl⟩, ⟨6, rfl⟩, ⟨7, rfl⟩, trivial⟩ (JA.val ⟨by kernel_rfl, by kernel_rfl⟩ (calm_only _) (i := 0) rfl ⟨by kernel_rfl, by kernel_rfl, rfl⟩ trivial (stab_of (Hle.refl _) ⟨⟨0, rfl⟩, ⟨1, rfl⟩, ⟨2, rfl⟩, ⟨3, rfl⟩, ⟨4, rfl⟩, ⟨5, rfl⟩, ⟨6, rfl⟩, ⟨7, rfl⟩, trivial⟩) (R.ldo 4 S33 rfl rfl rfl) rfl (JA.val ⟨by kernel_rfl, by kernel_rfl⟩ (calm_only _) (i := 1) rfl ⟨by kernel_rfl, by kernel_rfl, rfl⟩ trivial (stab_of (Hle.refl _) ⟨⟨0, rfl⟩, ⟨1, rfl⟩, ⟨2, rfl⟩, ⟨3, rfl⟩, ⟨4, rfl⟩, ⟨5, rfl⟩, ⟨6, rfl⟩, ⟨7, rfl⟩, trivial⟩) (R.assign rfl) rfl (JA.val ⟨by kernel_rfl, by kernel_rfl⟩ (calm_only _) (i := 2) rfl ⟨by kernel_rfl, by kernel_rfl, rfl⟩ trivial (stab_of (Hle.refl _) ⟨⟨0, rfl⟩, ⟨1, rfl⟩, ⟨2, rfl⟩, ⟨3, rfl⟩, ⟨4, rfl⟩, ⟨5, rfl⟩, ⟨6, rfl⟩, ⟨7, rfl⟩, trivial⟩) (R.assign rfl) rfl (JA.doneN (by kernel_rfl) (JN.next (JC.ret (JN.passR (JN.seg0 (JN.outP (vs := [.slice none 0 0, .int .i64 x_28.2.2.2.2]) (K := [_]) (rst := [_, _, _, _, _, _, _, _]) (.inl rfl) rfl rfl (Res.tmp rfl (Res.tmp rfl rfl)) (picks 0 rfl picks0) ?_))))))))))
    obtain rfl := Option.some.inj hx
    exact ⟨none, 0, 0, [], rfl, rfl, (RowOf.nil _ _ _ _ _), (fun p hp => by cases hp), trivial⟩
   ·
    replace hx := cond_f c_35 hx
    refine JC.skip (JN.next (JC.seq (JC.region (JL.val rfl rfl (R.move rfl) (JL.val rfl rfl (R.assign rfl) (JL.val rfl rfl (R.assign rfl) (JL.nil (JN.next (JC.ret (JN.outP (vs := [.slice aor_34 nr_34 capr_34, .int .i64 0]) (K := [_]) (rst := [_, _, _, _, _, _, _]) (.inl rfl) rfl rfl (Res.tmp rfl (Res.tmp rfl rfl)) (picks 5 rfl picks0) ?_))))))))))
    obtain rfl := Option.some.inj hx
    exact ⟨aor_34, nr_34, capr_34, Kr_34, rfl, rfl, (RowOf.weak (Nat.zero_le _) hr_34), (new_ids hr_34 hlt), trivial⟩

set_option maxHeartbeats 8000000 in
theorem law15_alive_ok (H : Heaplet) (r : Bool) (hx : law15_alive = some r) :
  Does Try.prog 19 #[] [] H (fun u K' H' => u = .bool r ∧ K' = [] ∧ True) := by
 refine Does.enterL (vs := []) (l := []) Try.func19 rfl rfl trivial (fun w hlt => ?_)
 unfold law15_alive at hx
 refine JC.seq (JC.region (JL.val rfl rfl (R.assign rfl) (JL.nil (JN.next (JC.seq (JC.region ?_))))))
 obtain ⟨x_1, hr_2, hx⟩ := bnd_some hx
 refine JL.callC (vs := []) (args := []) (K := []) (rst := []) E22 rfl rfl rfl picks0 (law15_made_ok _ _ hr_2) rfl (fun u_3 Ku_3 Hu_3 hRu_3 hleu_3 hfu_3 => ?_)
 obtain ⟨aoz_4, nz_4, capz_4, aor_5, nr_5, capr_5, Kr_5, aor_6, nr_6, capr_6, Kr_6, rfl, rfl, hz_4, hr_5, hnewr_5, hr_6, hnewr_6, -⟩ := hRu_3
 replace hr_5 := (RowOf.base (RowOf.mono R_Write.mono (New.call (Hle.refl _)) hr_5) (fun p hp => (hfu_3 p (mem_seg 0 rfl hp)).resolve_left (hnewr_5 p hp)))
 replace hr_6 := (RowOf.base (RowOf.const (H2 := New H Hu_3) RU8.const hr_6) (fun p hp => (hfu_3 p (mem_seg 1 rfl hp)).resolve_left (hnewr_6 p hp)))
 replace hz_4 := IsSlice.mono (RSl.mono RU8.mono) (New.call (Hle.refl _)) hz_4
 refine JL.val rfl rfl (R.move rfl) (JL.val rfl rfl (R.extract rfl rfl) (JL.val rfl rfl (R.extract rfl rfl) (JL.val rfl rfl (R.extract rfl rfl) (JL.alloc Z50 rfl (fun b_7 hb_7 => JL.alloc Z28 rfl (fun b_8 hb_8 => JL.store 1 S50 rfl rfl rfl rfl rfl (Nat.le_of_ble_eq_true rfl) (JL.store 0 S28 rfl rfl rfl rfl rfl (Nat.le_of_ble_eq_true rfl) (JL.val rfl rfl (R.assign rfl) (JL.nil (JN.next (JC.seq ?_)))))))))))
 refine JC.region (JL.val rfl rfl (R.ldoN 1 (vs := [.slice aoz_4 nz_4 capz_4, .slice aor_5 nr_5 capr_5, .slice aor_6 nr_6 capr_6, .int .u32 (x_1.1.Epoch.toNat : Int), .int .u32 (x_1.1.Count.toNat : Int)]) S50 rfl rfl rfl rfl) (JL.val rfl rfl (R.ldoN 0 (vs := [.int .i64 x_1.2.1.At, .int .u32 (x_1.2.1.Birth.toNat : Int), .int .u32 (x_1.2.1.Iv.toNat : Int), .int .u32 (x_1.2.1.Tag.toNat : Int), .int .u32 (x_1.2.1.Sum.toNat : Int)]) S28 rfl rfl rfl rfl) ?_))
 obtain ⟨x_12, hr_13, hx⟩ := bnd_some hx
 refine JL.callL3 (vs := [_, _, _]) E21 rfl rfl (fun H_11 hle_10 hl_9 => set_Walk_ok x_1.1 x_1.2.1 (0 : UInt32) _ (IsSlice.mono (RSl.mono RU8.mono) hle_10 (hz_4.old (RSl.mono RU8.mono))) (Lent.row' 2 hl_9 R_Write.mono hle_10 rfl (hr_5.old R_Write.mono)) (Lent.row' 3 hl_9 RU8.mono hle_10 rfl (hr_6.old RU8.mono)) _ hr_13) rfl (fun _ _ _ _ hR_15 hf_16 => ?_)
 obtain ⟨aor_14, nr_14, capr_14, Kr_14, rfl, rfl, hr_14, -, -⟩ := hR_15
 replace hr_14 := RowOf.base (RowOf.const (H2 := New H Hu_3) R_Ptr.const hr_14) (fun p hp => hf_16 p (mem_seg 0 rfl hp))
 refine JL.val rfl rfl (R.move rfl) (JL.val rfl rfl (R.extract rfl rfl) (JL.val rfl rfl (R.extract rfl rfl) (JL.val rfl rfl (R.assign rfl) (JL.val rfl rfl (R.assign rfl) (JL.nil (JN.next (JC.seq ?_)))))))
 obtain ⟨t_17, ht_19, hx⟩ := bnd_some hx
 refine JC.cut (fun l o g => l = [(0, .bool t_17)] ∧ o = [] ∧ Hu_3 = g) ?_ ?_
 ·
  rintro _ _ _ ⟨rfl, rfl, rfl⟩
  refine JN.next (JC.ret (JN.outP (vs := [.bool t_17]) (K := []) (rst := []) (.inl rfl) rfl rfl (Res.tmp rfl rfl) picks0 ?_))
  obtain rfl := Option.some.inj hx
  exact ⟨rfl, rfl, trivial⟩
 ·
  have hxo_18 := hx; clear hx; have hx := ht_19; clear ht_19
  refine JC.draw (so := [_, _, _, _, _]) 25 rfl Mixed ⟨⟨0, rfl⟩, ⟨1, rfl⟩, ⟨2, rfl⟩, ⟨3, rfl⟩, ⟨4, rfl⟩, trivial⟩ (JA.val ⟨by kernel_rfl, by kernel_rfl⟩ (calm_only _) (i := 0) rfl ⟨by kernel_rfl, by kernel_rfl, rfl⟩ trivial (stab_of (Hle.refl _) ⟨⟨0, rfl⟩, ⟨1, rfl⟩, ⟨2, rfl⟩, ⟨3, rfl⟩, ⟨4, rfl⟩, trivial⟩) (R.move rfl) rfl (JA.val ⟨by kernel_rfl, by kernel_rfl⟩ (calm_only _) (i := 1) rfl ⟨by kernel_rfl, by kernel_rfl, rfl⟩ trivial (stab_of (Hle.refl _) ⟨⟨0, rfl⟩, ⟨1, rfl⟩, ⟨2, rfl⟩, ⟨3, rfl⟩, ⟨4, rfl⟩, trivial⟩) (R.move rfl) rfl (JA.gSplit (t := 18) rfl (fun c_20 => ?_) (fun c_20 => ?_))))
  ·
   replace hx := cond_t c_20 hx
   refine JA.val ⟨by kernel_rfl, by kernel_rfl⟩ (calm_only _) (i := 2) rfl ⟨by kernel_rfl, by kernel_rfl, rfl⟩ ⟨_, _, rfl, rfl, rfl⟩ (stab_of (Hle.refl _) ⟨⟨0, rfl⟩, ⟨1, rfl⟩, ⟨2, rfl⟩, ⟨3, rfl⟩, ⟨4, rfl⟩, trivial⟩) (R.move rfl) rfl (JA.val ⟨by kernel_rfl, by kernel_rfl⟩ (calm_only _) (i := 3) rfl ⟨by kernel_rfl, by kernel_rfl, rfl⟩ ⟨_, _, rfl, rfl, rfl⟩ (stab_of (Hle.refl _) ⟨⟨0, rfl⟩, ⟨1, rfl⟩, ⟨2, rfl⟩, ⟨3, rfl⟩, ⟨4, rfl⟩, trivial⟩) (R.eql_i rfl rfl) rfl (JA.val ⟨by kernel_rfl, by kernel_rfl⟩ (calm_only _) (i := 4) rfl ⟨by kernel_rfl, by kernel_rfl, rfl⟩ trivial (stab_of (Hle.refl _) ⟨⟨0, rfl⟩, ⟨1, rfl⟩, ⟨2, rfl⟩, ⟨3, rfl⟩, ⟨4, rfl⟩, trivial⟩) (R.pickT rfl rfl) rfl (JA.val ⟨by kernel_rfl, by kernel_rfl⟩ (calm_only _) (i := 5) rfl ⟨by kernel_rfl, by kernel_rfl, rfl⟩ trivial (stab_of (Hle.refl _) ⟨⟨0, rfl⟩, ⟨1, rfl⟩, ⟨2, rfl⟩, ⟨3, rfl⟩, ⟨4, rfl⟩, trivial⟩) (R.move rfl) rfl (JA.gSplit (t := 22) rfl (fun c_21 => ?_) (fun c_21 => ?_)))))
   ·
    replace hx := cond_t c_21 hx
    refine JA.val ⟨by kernel_rfl, by kernel_rfl⟩ (calm_only _) (i := 6) rfl ⟨by kernel_rfl, by kernel_rfl, rfl⟩ ⟨_, _, rfl, rfl, rfl⟩ (stab_of (Hle.refl _) ⟨⟨0, rfl⟩, ⟨1, rfl⟩, ⟨2, rfl⟩, ⟨3, rfl⟩, ⟨4, rfl⟩, trivial⟩) (R.move rfl) rfl (JA.val ⟨by kernel_rfl, by kernel_rfl⟩ (calm_only _) (i := 7) rfl ⟨by kernel_rfl, by kernel_rfl, rfl⟩ ⟨_, _, rfl, rfl, rfl⟩ (stab_of (Hle.refl _) ⟨⟨0, rfl⟩, ⟨1, rfl⟩, ⟨2, rfl⟩, ⟨3, rfl⟩, ⟨4, rfl⟩, trivial⟩) (R.lenL U53 rfl (RowOf.long hr_14)) rfl (JA.val ⟨by kernel_rfl, by kernel_rfl⟩ (calm_only _) (i := 8) rfl ⟨by kernel_rfl, by kernel_rfl, rfl⟩ ⟨_, _, rfl, rfl, rfl⟩ (stab_of (Hle.refl _) ⟨⟨0, rfl⟩, ⟨1, rfl⟩, ⟨2, rfl⟩, ⟨3, rfl⟩, ⟨4, rfl⟩, trivial⟩) (R.eql_i rfl rfl) rfl (JA.val ⟨by kernel_rfl, by kernel_rfl⟩ (calm_only _) (i := 9) rfl ⟨by kernel_rfl, by kernel_rfl, rfl⟩ trivial (stab_of (Hle.refl _) ⟨⟨0, rfl⟩, ⟨1, rfl⟩, ⟨2, rfl⟩, ⟨3, rfl⟩, ⟨4, rfl⟩, trivial⟩) (R.pickT rfl rfl) rfl (JA.val ⟨by kernel_rfl, by kernel_rfl⟩ (calm_only _) (i := 10) rfl ⟨by kernel_rfl, by kernel_rfl, rfl⟩ trivial (stab_of (Hle.refl _) ⟨⟨0, rfl⟩, ⟨1, rfl⟩, ⟨2, rfl⟩, ⟨3, rfl⟩, ⟨4, rfl⟩, trivial⟩) (R.move rfl) rfl (JA.gSplit (t := 27) rfl (fun c_22 => ?_) (fun c_22 => ?_))))))
    ·
     replace hx := cond_t c_22 hx
     refine JA.val ⟨by kernel_rfl, by kernel_rfl⟩ (calm_only _) (i := 11) rfl ⟨by kernel_rfl, by kernel_rfl, rfl⟩ ⟨_, _, rfl, rfl, rfl⟩ (stab_of (Hle.refl _) ⟨⟨0, rfl⟩, ⟨1, rfl⟩, ⟨2, rfl⟩, ⟨3, rfl⟩, ⟨4, rfl⟩, trivial⟩) (R.move rfl) rfl ?_
     obtain ⟨y_23, hN_24, hx⟩ := idx_some hx
     obtain ⟨b_25, o_26, cs_27, cur_32, hK_33, hE_28, hR_29, hl_30, hc_31⟩ := RowOf.elem hr_14 hN_24
     subst hK_33
     obtain rfl := hR_29
     refine JA.val ⟨by kernel_rfl, by kernel_rfl⟩ (calm_only _) (i := 12) rfl ⟨by kernel_rfl, by kernel_rfl, rfl⟩ ⟨_, _, rfl, rfl, rfl⟩ (stab_of (Hle.refl _) ⟨⟨0, rfl⟩, ⟨1, rfl⟩, ⟨2, rfl⟩, ⟨3, rfl⟩, ⟨4, rfl⟩, trivial⟩) (R.ix U53 S28 rfl rfl hE_28) rfl (JA.val ⟨by kernel_rfl, by kernel_rfl⟩ (calm_only _) (i := 13) rfl ⟨by kernel_rfl, by kernel_rfl, rfl⟩ ⟨_, _, rfl, rfl, rfl⟩ (stab_of (Hle.refl _) ⟨⟨0, rfl⟩, ⟨1, rfl⟩, ⟨2, rfl⟩, ⟨3, rfl⟩, ⟨4, rfl⟩, trivial⟩) (R.ldoE 0 (cs := [.int .i64 y_23.At, .int .u32 (y_23.Birth.toNat : Int), .int .u32 (y_23.Iv.toNat : Int), .int .u32 (y_23.Tag.toNat : Int), .int .u32 (y_23.Sum.toNat : Int)]) (k := 0) (vs := [.int .i64 y_23.At, .int .u32 (y_23.Birth.toNat : Int), .int .u32 (y_23.Iv.toNat : Int), .int .u32 (y_23.Tag.toNat : Int), .int .u32 (y_23.Sum.toNat : Int)]) S28 rfl rfl hc_31 rfl rfl) rfl (JA.val ⟨by kernel_rfl, by kernel_rfl⟩ (calm_only _) (i := 14) rfl ⟨by kernel_rfl, by kernel_rfl, rfl⟩ ⟨_, _, rfl, rfl, rfl⟩ (stab_of (Hle.refl _) ⟨⟨0, rfl⟩, ⟨1, rfl⟩, ⟨2, rfl⟩, ⟨3, rfl⟩, ⟨4, rfl⟩, trivial⟩) (R.ldoN 1 (vs := [.int .i64 x_1.2.1.At, .int .u32 (x_1.2.1.Birth.toNat : Int), .int .u32 (x_1.2.1.Iv.toNat : Int), .int .u32 (x_1.2.1.Tag.toNat : Int), .int .u32 (x_1.2.1.Sum.toNat : Int)]) S28 rfl rfl rfl rfl) rfl (JA.val ⟨by kernel_rfl, by kernel_rfl⟩ (calm_only _) (i := 15) rfl ⟨by kernel_rfl, by kernel_rfl, rfl⟩ ⟨_, _, rfl, rfl, rfl⟩ (stab_of (Hle.refl _) ⟨⟨0, rfl⟩, ⟨1, rfl⟩, ⟨2, rfl⟩, ⟨3, rfl⟩, ⟨4, rfl⟩, trivial⟩) (R.eqlAgg QU28 QP28 QG28 QF28 rfl rfl (EqF.i (by decide) S3 U3 rfl rfl (EqF.u32 (a := y_23.Birth) (b := x_1.2.1.Birth) (by decide) S26 U26 rfl rfl (EqF.u32 (a := y_23.Iv) (b := x_1.2.1.Iv) (by decide) S26 U26 rfl rfl (EqF.u32 (a := y_23.Tag) (b := x_1.2.1.Tag) (by decide) S26 U26 rfl rfl (EqF.u32 (a := y_23.Sum) (b := x_1.2.1.Sum) (by decide) S26 U26 rfl rfl EqF.nil)))))) rfl (JA.val ⟨by kernel_rfl, by kernel_rfl⟩ (calm_only _) (i := 16) rfl ⟨by kernel_rfl, by kernel_rfl, rfl⟩ trivial (stab_of (Hle.refl _) ⟨⟨0, rfl⟩, ⟨1, rfl⟩, ⟨2, rfl⟩, ⟨3, rfl⟩, ⟨4, rfl⟩, trivial⟩) (R.pickT rfl rfl) rfl (JA.val ⟨by kernel_rfl, by kernel_rfl⟩ (calm_only _) (i := 17) rfl ⟨by kernel_rfl, by kernel_rfl, rfl⟩ trivial (stab_of (Hle.refl _) ⟨⟨0, rfl⟩, ⟨1, rfl⟩, ⟨2, rfl⟩, ⟨3, rfl⟩, ⟨4, rfl⟩, trivial⟩) (R.move rfl) rfl (JA.gSplit (t := 34) rfl (fun c_34 => ?_) (fun c_34 => ?_)))))))
     ·
      replace hx := cond_t c_34 hx
      refine JA.val ⟨by kernel_rfl, by kernel_rfl⟩ (calm_only _) (i := 18) rfl ⟨by kernel_rfl, by kernel_rfl, rfl⟩ ⟨_, _, rfl, rfl, rfl⟩ (stab_of (Hle.refl _) ⟨⟨0, rfl⟩, ⟨1, rfl⟩, ⟨2, rfl⟩, ⟨3, rfl⟩, ⟨4, rfl⟩, trivial⟩) (R.move rfl) rfl ?_
      obtain ⟨y_35, hN_36, hx⟩ := idx_some hx
      obtain ⟨b_37, o_38, cs_39, cur_44, hK_45, hE_40, hR_41, hl_42, hc_43⟩ := RowOf.elem hr_14 hN_36
      obtain ⟨rfl, rfl⟩ : b_25 = b_37 ∧ cur_32 = cur_44 := by simpa using hK_45
      obtain rfl := hR_41
      refine JA.val ⟨by kernel_rfl, by kernel_rfl⟩ (calm_only _) (i := 19) rfl ⟨by kernel_rfl, by kernel_rfl, rfl⟩ ⟨_, _, rfl, rfl, rfl⟩ (stab_of (Hle.refl _) ⟨⟨0, rfl⟩, ⟨1, rfl⟩, ⟨2, rfl⟩, ⟨3, rfl⟩, ⟨4, rfl⟩, trivial⟩) (R.ix U53 S28 rfl rfl hE_40) rfl (JA.val ⟨by kernel_rfl, by kernel_rfl⟩ (calm_only _) (i := 20) rfl ⟨by kernel_rfl, by kernel_rfl, rfl⟩ ⟨_, _, rfl, rfl, rfl⟩ (stab_of (Hle.refl _) ⟨⟨0, rfl⟩, ⟨1, rfl⟩, ⟨2, rfl⟩, ⟨3, rfl⟩, ⟨4, rfl⟩, trivial⟩) (R.fa F28_1 rfl) rfl (JA.val ⟨by kernel_rfl, by kernel_rfl⟩ (calm_only _) (i := 21) rfl ⟨by kernel_rfl, by kernel_rfl, rfl⟩ ⟨_, _, rfl, rfl, rfl⟩ (stab_of (Hle.refl _) ⟨⟨0, rfl⟩, ⟨1, rfl⟩, ⟨2, rfl⟩, ⟨3, rfl⟩, ⟨4, rfl⟩, trivial⟩) (R.ldo 0 S26 rfl rfl (hc_43 1 _ rfl)) rfl (JA.val ⟨by kernel_rfl, by kernel_rfl⟩ (calm_only _) (i := 22) rfl ⟨by kernel_rfl, by kernel_rfl, rfl⟩ ⟨_, _, rfl, rfl, rfl⟩ (stab_of (Hle.refl _) ⟨⟨0, rfl⟩, ⟨1, rfl⟩, ⟨2, rfl⟩, ⟨3, rfl⟩, ⟨4, rfl⟩, trivial⟩) (R.eql32 (a := y_35.Birth) (b := (3 : UInt32)) rfl rfl) rfl (JA.val ⟨by kernel_rfl, by kernel_rfl⟩ (calm_only _) (i := 23) rfl ⟨by kernel_rfl, by kernel_rfl, rfl⟩ trivial (stab_of (Hle.refl _) ⟨⟨0, rfl⟩, ⟨1, rfl⟩, ⟨2, rfl⟩, ⟨3, rfl⟩, ⟨4, rfl⟩, trivial⟩) (R.pickT rfl rfl) rfl (JA.val ⟨by kernel_rfl, by kernel_rfl⟩ (calm_only _) (i := 24) rfl ⟨by kernel_rfl, by kernel_rfl, rfl⟩ trivial (stab_of (Hle.refl _) ⟨⟨0, rfl⟩, ⟨1, rfl⟩, ⟨2, rfl⟩, ⟨3, rfl⟩, ⟨4, rfl⟩, trivial⟩) (R.assign rfl) rfl (JA.doneN (by kernel_rfl) ?_))))))
      obtain rfl := Option.some.inj hx
      refine JN.forget 4 (JN.forget 3 (JN.forget 2 (JN.forget 1 (JN.forget 0 ?_))))
      exact JN.cut ⟨rfl, rfl, rfl⟩ ⟨rfl, trivial⟩ rfl rfl
     ·
      replace hx := cond_f c_34 hx
      refine JA.no ⟨by kernel_rfl, by kernel_rfl⟩ (calm_only _) (i := 18) rfl ⟨by kernel_rfl, by kernel_rfl, rfl⟩ rfl rfl rfl rfl (stab_of (Hle.refl _) ⟨⟨0, rfl⟩, ⟨1, rfl⟩, ⟨2, rfl⟩, ⟨3, rfl⟩, ⟨4, rfl⟩, trivial⟩) rfl (JA.no ⟨by kernel_rfl, by kernel_rfl⟩ (calm_only _) (i := 19) rfl ⟨by kernel_rfl, by kernel_rfl, rfl⟩ rfl rfl rfl rfl (stab_of (Hle.refl _) ⟨⟨0, rfl⟩, ⟨1, rfl⟩, ⟨2, rfl⟩, ⟨3, rfl⟩, ⟨4, rfl⟩, trivial⟩) rfl (JA.no ⟨by kernel_rfl, by kernel_rfl⟩ (calm_only _) (i := 20) rfl ⟨by kernel_rfl, by kernel_rfl, rfl⟩ rfl rfl rfl rfl (stab_of (Hle.refl _) ⟨⟨0, rfl⟩, ⟨1, rfl⟩, ⟨2, rfl⟩, ⟨3, rfl⟩, ⟨4, rfl⟩, trivial⟩) rfl (JA.no ⟨by kernel_rfl, by kernel_rfl⟩ (calm_only _) (i := 21) rfl ⟨by kernel_rfl, by kernel_rfl, rfl⟩ rfl rfl rfl rfl (stab_of (Hle.refl _) ⟨⟨0, rfl⟩, ⟨1, rfl⟩, ⟨2, rfl⟩, ⟨3, rfl⟩, ⟨4, rfl⟩, trivial⟩) rfl (JA.no ⟨by kernel_rfl, by kernel_rfl⟩ (calm_only _) (i := 22) rfl ⟨by kernel_rfl, by kernel_rfl, rfl⟩ rfl rfl rfl rfl (stab_of (Hle.refl _) ⟨⟨0, rfl⟩, ⟨1, rfl⟩, ⟨2, rfl⟩, ⟨3, rfl⟩, ⟨4, rfl⟩, trivial⟩) rfl (JA.val ⟨by kernel_rfl, by kernel_rfl⟩ (calm_only _) (i := 23) rfl ⟨by kernel_rfl, by kernel_rfl, rfl⟩ trivial (stab_of (Hle.refl _) ⟨⟨0, rfl⟩, ⟨1, rfl⟩, ⟨2, rfl⟩, ⟨3, rfl⟩, ⟨4, rfl⟩, trivial⟩) (R.pickF rfl rfl) rfl (JA.val ⟨by kernel_rfl, by kernel_rfl⟩ (calm_only _) (i := 24) rfl ⟨by kernel_rfl, by kernel_rfl, rfl⟩ trivial (stab_of (Hle.refl _) ⟨⟨0, rfl⟩, ⟨1, rfl⟩, ⟨2, rfl⟩, ⟨3, rfl⟩, ⟨4, rfl⟩, trivial⟩) (R.assign rfl) rfl (JA.doneN (by kernel_rfl) ?_)))))))
      obtain rfl := Option.some.inj hx
      refine JN.forget 4 (JN.forget 3 (JN.forget 2 (JN.forget 1 (JN.forget 0 ?_))))
      exact JN.cut ⟨rfl, rfl, rfl⟩ ⟨rfl, trivial⟩ rfl rfl
    ·
     replace hx := cond_f c_22 hx
     refine JA.no ⟨by kernel_rfl, by kernel_rfl⟩ (calm_only _) (i := 11) rfl ⟨by kernel_rfl, by kernel_rfl, rfl⟩ rfl rfl rfl rfl (stab_of (Hle.refl _) ⟨⟨0, rfl⟩, ⟨1, rfl⟩, ⟨2, rfl⟩, ⟨3, rfl⟩, ⟨4, rfl⟩, trivial⟩) rfl (JA.no ⟨by kernel_rfl, by kernel_rfl⟩ (calm_only _) (i := 12) rfl ⟨by kernel_rfl, by kernel_rfl, rfl⟩ rfl rfl rfl rfl (stab_of (Hle.refl _) ⟨⟨0, rfl⟩, ⟨1, rfl⟩, ⟨2, rfl⟩, ⟨3, rfl⟩, ⟨4, rfl⟩, trivial⟩) rfl (JA.no ⟨by kernel_rfl, by kernel_rfl⟩ (calm_only _) (i := 13) rfl ⟨by kernel_rfl, by kernel_rfl, rfl⟩ rfl rfl rfl rfl (stab_of (Hle.refl _) ⟨⟨0, rfl⟩, ⟨1, rfl⟩, ⟨2, rfl⟩, ⟨3, rfl⟩, ⟨4, rfl⟩, trivial⟩) rfl (JA.no ⟨by kernel_rfl, by kernel_rfl⟩ (calm_only _) (i := 14) rfl ⟨by kernel_rfl, by kernel_rfl, rfl⟩ rfl rfl rfl rfl (stab_of (Hle.refl _) ⟨⟨0, rfl⟩, ⟨1, rfl⟩, ⟨2, rfl⟩, ⟨3, rfl⟩, ⟨4, rfl⟩, trivial⟩) rfl (JA.no ⟨by kernel_rfl, by kernel_rfl⟩ (calm_only _) (i := 15) rfl ⟨by kernel_rfl, by kernel_rfl, rfl⟩ rfl rfl rfl rfl (stab_of (Hle.refl _) ⟨⟨0, rfl⟩, ⟨1, rfl⟩, ⟨2, rfl⟩, ⟨3, rfl⟩, ⟨4, rfl⟩, trivial⟩) rfl (JA.val ⟨by kernel_rfl, by kernel_rfl⟩ (calm_only _) (i := 16) rfl ⟨by kernel_rfl, by kernel_rfl, rfl⟩ trivial (stab_of (Hle.refl _) ⟨⟨0, rfl⟩, ⟨1, rfl⟩, ⟨2, rfl⟩, ⟨3, rfl⟩, ⟨4, rfl⟩, trivial⟩) (R.pickF rfl rfl) rfl (JA.val ⟨by kernel_rfl, by kernel_rfl⟩ (calm_only _) (i := 17) rfl ⟨by kernel_rfl, by kernel_rfl, rfl⟩ trivial (stab_of (Hle.refl _) ⟨⟨0, rfl⟩, ⟨1, rfl⟩, ⟨2, rfl⟩, ⟨3, rfl⟩, ⟨4, rfl⟩, trivial⟩) (R.move rfl) rfl (JA.no ⟨by kernel_rfl, by kernel_rfl⟩ (calm_only _) (i := 18) rfl ⟨by kernel_rfl, by kernel_rfl, rfl⟩ rfl rfl rfl rfl (stab_of (Hle.refl _) ⟨⟨0, rfl⟩, ⟨1, rfl⟩, ⟨2, rfl⟩, ⟨3, rfl⟩, ⟨4, rfl⟩, trivial⟩) rfl (JA.no ⟨by kernel_rfl, by kernel_rfl⟩ (calm_only _) (i := 19) rfl ⟨by kernel_rfl, by kernel_rfl, rfl⟩ rfl rfl rfl rfl (stab_of (Hle.refl _) ⟨⟨0, rfl⟩, ⟨1, rfl⟩, ⟨2, rfl⟩, ⟨3, rfl⟩, ⟨4, rfl⟩, trivial⟩) rfl (JA.no ⟨by kernel_rfl, by kernel_rfl⟩ (calm_only _) (i := 20) rfl ⟨by kernel_rfl, by kernel_rfl, rfl⟩ rfl rfl rfl rfl (stab_of (Hle.refl _) ⟨⟨0, rfl⟩, ⟨1, rfl⟩, ⟨2, rfl⟩, ⟨3, rfl⟩, ⟨4, rfl⟩, trivial⟩) rfl (JA.no ⟨by kernel_rfl, by kernel_rfl⟩ (calm_only _) (i := 21) rfl ⟨by kernel_rfl, by kernel_rfl, rfl⟩ rfl rfl rfl rfl (stab_of (Hle.refl _) ⟨⟨0, rfl⟩, ⟨1, rfl⟩, ⟨2, rfl⟩, ⟨3, rfl⟩, ⟨4, rfl⟩, trivial⟩) rfl (JA.no ⟨by kernel_rfl, by kernel_rfl⟩ (calm_only _) (i := 22) rfl ⟨by kernel_rfl, by kernel_rfl, rfl⟩ rfl rfl rfl rfl (stab_of (Hle.refl _) ⟨⟨0, rfl⟩, ⟨1, rfl⟩, ⟨2, rfl⟩, ⟨3, rfl⟩, ⟨4, rfl⟩, trivial⟩) rfl ?_)))))))))))
     refine JA.val ⟨by kernel_rfl, by kernel_rfl⟩ (calm_only _) (i := 23) rfl ⟨by kernel_rfl, by kernel_rfl, rfl⟩ trivial (stab_of (Hle.refl _) ⟨⟨0, rfl⟩, ⟨1, rfl⟩, ⟨2, rfl⟩, ⟨3, rfl⟩, ⟨4, rfl⟩, trivial⟩) (R.pickF rfl rfl) rfl (JA.val ⟨by kernel_rfl, by kernel_rfl⟩ (calm_only _) (i := 24) rfl ⟨by kernel_rfl, by kernel_rfl, rfl⟩ trivial (stab_of (Hle.refl _) ⟨⟨0, rfl⟩, ⟨1, rfl⟩, ⟨2, rfl⟩, ⟨3, rfl⟩, ⟨4, rfl⟩, trivial⟩) (R.assign rfl) rfl (JA.doneN (by kernel_rfl) ?_))
     obtain rfl := Option.some.inj hx
     refine JN.forget 4 (JN.forget 3 (JN.forget 2 (JN.forget 1 (JN.forget 0 ?_))))
     exact JN.cut ⟨rfl, rfl, rfl⟩ ⟨rfl, trivial⟩ rfl rfl
   ·
    replace hx := cond_f c_21 hx
    refine JA.no ⟨by kernel_rfl, by kernel_rfl⟩ (calm_only _) (i := 6) rfl ⟨by kernel_rfl, by kernel_rfl, rfl⟩ rfl rfl rfl rfl (stab_of (Hle.refl _) ⟨⟨0, rfl⟩, ⟨1, rfl⟩, ⟨2, rfl⟩, ⟨3, rfl⟩, ⟨4, rfl⟩, trivial⟩) rfl (JA.no ⟨by kernel_rfl, by kernel_rfl⟩ (calm_only _) (i := 7) rfl ⟨by kernel_rfl, by kernel_rfl, rfl⟩ rfl rfl rfl rfl (stab_of (Hle.refl _) ⟨⟨0, rfl⟩, ⟨1, rfl⟩, ⟨2, rfl⟩, ⟨3, rfl⟩, ⟨4, rfl⟩, trivial⟩) rfl (JA.no ⟨by kernel_rfl, by kernel_rfl⟩ (calm_only _) (i := 8) rfl ⟨by kernel_rfl, by kernel_rfl, rfl⟩ rfl rfl rfl rfl (stab_of (Hle.refl _) ⟨⟨0, rfl⟩, ⟨1, rfl⟩, ⟨2, rfl⟩, ⟨3, rfl⟩, ⟨4, rfl⟩, trivial⟩) rfl (JA.val ⟨by kernel_rfl, by kernel_rfl⟩ (calm_only _) (i := 9) rfl ⟨by kernel_rfl, by kernel_rfl, rfl⟩ trivial (stab_of (Hle.refl _) ⟨⟨0, rfl⟩, ⟨1, rfl⟩, ⟨2, rfl⟩, ⟨3, rfl⟩, ⟨4, rfl⟩, trivial⟩) (R.pickF rfl rfl) rfl (JA.val ⟨by kernel_rfl, by kernel_rfl⟩ (calm_only _) (i := 10) rfl ⟨by kernel_rfl, by kernel_rfl, rfl⟩ trivial (stab_of (Hle.refl _) ⟨⟨0, rfl⟩, ⟨1, rfl⟩, ⟨2, rfl⟩, ⟨3, rfl⟩, ⟨4, rfl⟩, trivial⟩) (R.move rfl) rfl (JA.no ⟨by kernel_rfl, by kernel_rfl⟩ (calm_only _) (i := 11) rfl ⟨by kernel_rfl, by kernel_rfl, rfl⟩ rfl rfl rfl rfl (stab_of (Hle.refl _) ⟨⟨0, rfl⟩, ⟨1, rfl⟩, ⟨2, rfl⟩, ⟨3, rfl⟩, ⟨4, rfl⟩, trivial⟩) rfl (JA.no ⟨by kernel_rfl, by kernel_rfl⟩ (calm_only _) (i := 12) rfl ⟨by kernel_rfl, by kernel_rfl, rfl⟩ rfl rfl rfl rfl (stab_of (Hle.refl _) ⟨⟨0, rfl⟩, ⟨1, rfl⟩, ⟨2, rfl⟩, ⟨3, rfl⟩, ⟨4, rfl⟩, trivial⟩) rfl (JA.no ⟨by kernel_rfl, by kernel_rfl⟩ (calm_only _) (i := 13) rfl ⟨by kernel_rfl, by kernel_rfl, rfl⟩ rfl rfl rfl rfl (stab_of (Hle.refl _) ⟨⟨0, rfl⟩, ⟨1, rfl⟩, ⟨2, rfl⟩, ⟨3, rfl⟩, ⟨4, rfl⟩, trivial⟩) rfl (JA.no ⟨by kernel_rfl, by kernel_rfl⟩ (calm_only _) (i := 14) rfl ⟨by kernel_rfl, by kernel_rfl, rfl⟩ rfl rfl rfl rfl (stab_of (Hle.refl _) ⟨⟨0, rfl⟩, ⟨1, rfl⟩, ⟨2, rfl⟩, ⟨3, rfl⟩, ⟨4, rfl⟩, trivial⟩) rfl (JA.no ⟨by kernel_rfl, by kernel_rfl⟩ (calm_only _) (i := 15) rfl ⟨by kernel_rfl, by kernel_rfl, rfl⟩ rfl rfl rfl rfl (stab_of (Hle.refl _) ⟨⟨0, rfl⟩, ⟨1, rfl⟩, ⟨2, rfl⟩, ⟨3, rfl⟩, ⟨4, rfl⟩, trivial⟩) rfl (JA.val ⟨by kernel_rfl, by kernel_rfl⟩ (calm_only _) (i := 16) rfl ⟨by kernel_rfl, by kernel_rfl, rfl⟩ trivial (stab_of (Hle.refl _) ⟨⟨0, rfl⟩, ⟨1, rfl⟩, ⟨2, rfl⟩, ⟨3, rfl⟩, ⟨4, rfl⟩, trivial⟩) (R.pickF rfl rfl) rfl (JA.val ⟨by kernel_rfl, by kernel_rfl⟩ (calm_only _) (i := 17) rfl ⟨by kernel_rfl, by kernel_rfl, rfl⟩ trivial (stab_of (Hle.refl _) ⟨⟨0, rfl⟩, ⟨1, rfl⟩, ⟨2, rfl⟩, ⟨3, rfl⟩, ⟨4, rfl⟩, trivial⟩) (R.move rfl) rfl ?_)))))))))))
    refine JA.no ⟨by kernel_rfl, by kernel_rfl⟩ (calm_only _) (i := 18) rfl ⟨by kernel_rfl, by kernel_rfl, rfl⟩ rfl rfl rfl rfl (stab_of (Hle.refl _) ⟨⟨0, rfl⟩, ⟨1, rfl⟩, ⟨2, rfl⟩, ⟨3, rfl⟩, ⟨4, rfl⟩, trivial⟩) rfl (JA.no ⟨by kernel_rfl, by kernel_rfl⟩ (calm_only _) (i := 19) rfl ⟨by kernel_rfl, by kernel_rfl, rfl⟩ rfl rfl rfl rfl (stab_of (Hle.refl _) ⟨⟨0, rfl⟩, ⟨1, rfl⟩, ⟨2, rfl⟩, ⟨3, rfl⟩, ⟨4, rfl⟩, trivial⟩) rfl (JA.no ⟨by kernel_rfl, by kernel_rfl⟩ (calm_only _) (i := 20) rfl ⟨by kernel_rfl, by kernel_rfl, rfl⟩ rfl rfl rfl rfl (stab_of (Hle.refl _) ⟨⟨0, rfl⟩, ⟨1, rfl⟩, ⟨2, rfl⟩, ⟨3, rfl⟩, ⟨4, rfl⟩, trivial⟩) rfl (JA.no ⟨by kernel_rfl, by kernel_rfl⟩ (calm_only _) (i := 21) rfl ⟨by kernel_rfl, by kernel_rfl, rfl⟩ rfl rfl rfl rfl (stab_of (Hle.refl _) ⟨⟨0, rfl⟩, ⟨1, rfl⟩, ⟨2, rfl⟩, ⟨3, rfl⟩, ⟨4, rfl⟩, trivial⟩) rfl (JA.no ⟨by kernel_rfl, by kernel_rfl⟩ (calm_only _) (i := 22) rfl ⟨by kernel_rfl, by kernel_rfl, rfl⟩ rfl rfl rfl rfl (stab_of (Hle.refl _) ⟨⟨0, rfl⟩, ⟨1, rfl⟩, ⟨2, rfl⟩, ⟨3, rfl⟩, ⟨4, rfl⟩, trivial⟩) rfl (JA.val ⟨by kernel_rfl, by kernel_rfl⟩ (calm_only _) (i := 23) rfl ⟨by kernel_rfl, by kernel_rfl, rfl⟩ trivial (stab_of (Hle.refl _) ⟨⟨0, rfl⟩, ⟨1, rfl⟩, ⟨2, rfl⟩, ⟨3, rfl⟩, ⟨4, rfl⟩, trivial⟩) (R.pickF rfl rfl) rfl (JA.val ⟨by kernel_rfl, by kernel_rfl⟩ (calm_only _) (i := 24) rfl ⟨by kernel_rfl, by kernel_rfl, rfl⟩ trivial (stab_of (Hle.refl _) ⟨⟨0, rfl⟩, ⟨1, rfl⟩, ⟨2, rfl⟩, ⟨3, rfl⟩, ⟨4, rfl⟩, trivial⟩) (R.assign rfl) rfl (JA.doneN (by kernel_rfl) ?_)))))))
    obtain rfl := Option.some.inj hx
    refine JN.forget 4 (JN.forget 3 (JN.forget 2 (JN.forget 1 (JN.forget 0 ?_))))
    exact JN.cut ⟨rfl, rfl, rfl⟩ ⟨rfl, trivial⟩ rfl rfl
  ·
   replace hx := cond_f c_20 hx
   refine JA.no ⟨by kernel_rfl, by kernel_rfl⟩ (calm_only _) (i := 2) rfl ⟨by kernel_rfl, by kernel_rfl, rfl⟩ rfl rfl rfl rfl (stab_of (Hle.refl _) ⟨⟨0, rfl⟩, ⟨1, rfl⟩, ⟨2, rfl⟩, ⟨3, rfl⟩, ⟨4, rfl⟩, trivial⟩) rfl (JA.no ⟨by kernel_rfl, by kernel_rfl⟩ (calm_only _) (i := 3) rfl ⟨by kernel_rfl, by kernel_rfl, rfl⟩ rfl rfl rfl rfl (stab_of (Hle.refl _) ⟨⟨0, rfl⟩, ⟨1, rfl⟩, ⟨2, rfl⟩, ⟨3, rfl⟩, ⟨4, rfl⟩, trivial⟩) rfl (JA.val ⟨by kernel_rfl, by kernel_rfl⟩ (calm_only _) (i := 4) rfl ⟨by kernel_rfl, by kernel_rfl, rfl⟩ trivial (stab_of (Hle.refl _) ⟨⟨0, rfl⟩, ⟨1, rfl⟩, ⟨2, rfl⟩, ⟨3, rfl⟩, ⟨4, rfl⟩, trivial⟩) (R.pickF rfl rfl) rfl (JA.val ⟨by kernel_rfl, by kernel_rfl⟩ (calm_only _) (i := 5) rfl ⟨by kernel_rfl, by kernel_rfl, rfl⟩ trivial (stab_of (Hle.refl _) ⟨⟨0, rfl⟩, ⟨1, rfl⟩, ⟨2, rfl⟩, ⟨3, rfl⟩, ⟨4, rfl⟩, trivial⟩) (R.move rfl) rfl (JA.no ⟨by kernel_rfl, by kernel_rfl⟩ (calm_only _) (i := 6) rfl ⟨by kernel_rfl, by kernel_rfl, rfl⟩ rfl rfl rfl rfl (stab_of (Hle.refl _) ⟨⟨0, rfl⟩, ⟨1, rfl⟩, ⟨2, rfl⟩, ⟨3, rfl⟩, ⟨4, rfl⟩, trivial⟩) rfl (JA.no ⟨by kernel_rfl, by kernel_rfl⟩ (calm_only _) (i := 7) rfl ⟨by kernel_rfl, by kernel_rfl, rfl⟩ rfl rfl rfl rfl (stab_of (Hle.refl _) ⟨⟨0, rfl⟩, ⟨1, rfl⟩, ⟨2, rfl⟩, ⟨3, rfl⟩, ⟨4, rfl⟩, trivial⟩) rfl (JA.no ⟨by kernel_rfl, by kernel_rfl⟩ (calm_only _) (i := 8) rfl ⟨by kernel_rfl, by kernel_rfl, rfl⟩ rfl rfl rfl rfl (stab_of (Hle.refl _) ⟨⟨0, rfl⟩, ⟨1, rfl⟩, ⟨2, rfl⟩, ⟨3, rfl⟩, ⟨4, rfl⟩, trivial⟩) rfl (JA.val ⟨by kernel_rfl, by kernel_rfl⟩ (calm_only _) (i := 9) rfl ⟨by kernel_rfl, by kernel_rfl, rfl⟩ trivial (stab_of (Hle.refl _) ⟨⟨0, rfl⟩, ⟨1, rfl⟩, ⟨2, rfl⟩, ⟨3, rfl⟩, ⟨4, rfl⟩, trivial⟩) (R.pickF rfl rfl) rfl (JA.val ⟨by kernel_rfl, by kernel_rfl⟩ (calm_only _) (i := 10) rfl ⟨by kernel_rfl, by kernel_rfl, rfl⟩ trivial (stab_of (Hle.refl _) ⟨⟨0, rfl⟩, ⟨1, rfl⟩, ⟨2, rfl⟩, ⟨3, rfl⟩, ⟨4, rfl⟩, trivial⟩) (R.move rfl) rfl (JA.no ⟨by kernel_rfl, by kernel_rfl⟩ (calm_only _) (i := 11) rfl ⟨by kernel_rfl, by kernel_rfl, rfl⟩ rfl rfl rfl rfl (stab_of (Hle.refl _) ⟨⟨0, rfl⟩, ⟨1, rfl⟩, ⟨2, rfl⟩, ⟨3, rfl⟩, ⟨4, rfl⟩, trivial⟩) rfl (JA.no ⟨by kernel_rfl, by kernel_rfl⟩ (calm_only _) (i := 12) rfl ⟨by kernel_rfl, by kernel_rfl, rfl⟩ rfl rfl rfl rfl (stab_of (Hle.refl _) ⟨⟨0, rfl⟩, ⟨1, rfl⟩, ⟨2, rfl⟩, ⟨3, rfl⟩, ⟨4, rfl⟩, trivial⟩) rfl (JA.no ⟨by kernel_rfl, by kernel_rfl⟩ (calm_only _) (i := 13) rfl ⟨by kernel_rfl, by kernel_rfl, rfl⟩ rfl rfl rfl rfl (stab_of (Hle.refl _) ⟨⟨0, rfl⟩, ⟨1, rfl⟩, ⟨2, rfl⟩, ⟨3, rfl⟩, ⟨4, rfl⟩, trivial⟩) rfl ?_)))))))))))
   refine JA.no ⟨by kernel_rfl, by kernel_rfl⟩ (calm_only _) (i := 14) rfl ⟨by kernel_rfl, by kernel_rfl, rfl⟩ rfl rfl rfl rfl (stab_of (Hle.refl _) ⟨⟨0, rfl⟩, ⟨1, rfl⟩, ⟨2, rfl⟩, ⟨3, rfl⟩, ⟨4, rfl⟩, trivial⟩) rfl (JA.no ⟨by kernel_rfl, by kernel_rfl⟩ (calm_only _) (i := 15) rfl ⟨by kernel_rfl, by kernel_rfl, rfl⟩ rfl rfl rfl rfl (stab_of (Hle.refl _) ⟨⟨0, rfl⟩, ⟨1, rfl⟩, ⟨2, rfl⟩, ⟨3, rfl⟩, ⟨4, rfl⟩, trivial⟩) rfl (JA.val ⟨by kernel_rfl, by kernel_rfl⟩ (calm_only _) (i := 16) rfl ⟨by kernel_rfl, by kernel_rfl, rfl⟩ trivial (stab_of (Hle.refl _) ⟨⟨0, rfl⟩, ⟨1, rfl⟩, ⟨2, rfl⟩, ⟨3, rfl⟩, ⟨4, rfl⟩, trivial⟩) (R.pickF rfl rfl) rfl (JA.val ⟨by kernel_rfl, by kernel_rfl⟩ (calm_only _) (i := 17) rfl ⟨by kernel_rfl, by kernel_rfl, rfl⟩ trivial (stab_of (Hle.refl _) ⟨⟨0, rfl⟩, ⟨1, rfl⟩, ⟨2, rfl⟩, ⟨3, rfl⟩, ⟨4, rfl⟩, trivial⟩) (R.move rfl) rfl (JA.no ⟨by kernel_rfl, by kernel_rfl⟩ (calm_only _) (i := 18) rfl ⟨by kernel_rfl, by kernel_rfl, rfl⟩ rfl rfl rfl rfl (stab_of (Hle.refl _) ⟨⟨0, rfl⟩, ⟨1, rfl⟩, ⟨2, rfl⟩, ⟨3, rfl⟩, ⟨4, rfl⟩, trivial⟩) rfl (JA.no ⟨by kernel_rfl, by kernel_rfl⟩ (calm_only _) (i := 19) rfl ⟨by kernel_rfl, by kernel_rfl, rfl⟩ rfl rfl rfl rfl (stab_of (Hle.refl _) ⟨⟨0, rfl⟩, ⟨1, rfl⟩, ⟨2, rfl⟩, ⟨3, rfl⟩, ⟨4, rfl⟩, trivial⟩) rfl (JA.no ⟨by kernel_rfl, by kernel_rfl⟩ (calm_only _) (i := 20) rfl ⟨by kernel_rfl, by kernel_rfl, rfl⟩ rfl rfl rfl rfl (stab_of (Hle.refl _) ⟨⟨0, rfl⟩, ⟨1, rfl⟩, ⟨2, rfl⟩, ⟨3, rfl⟩, ⟨4, rfl⟩, trivial⟩) rfl (JA.no ⟨by kernel_rfl, by kernel_rfl⟩ (calm_only _) (i := 21) rfl ⟨by kernel_rfl, by kernel_rfl, rfl⟩ rfl rfl rfl rfl (stab_of (Hle.refl _) ⟨⟨0, rfl⟩, ⟨1, rfl⟩, ⟨2, rfl⟩, ⟨3, rfl⟩, ⟨4, rfl⟩, trivial⟩) rfl (JA.no ⟨by kernel_rfl, by kernel_rfl⟩ (calm_only _) (i := 22) rfl ⟨by kernel_rfl, by kernel_rfl, rfl⟩ rfl rfl rfl rfl (stab_of (Hle.refl _) ⟨⟨0, rfl⟩, ⟨1, rfl⟩, ⟨2, rfl⟩, ⟨3, rfl⟩, ⟨4, rfl⟩, trivial⟩) rfl (JA.val ⟨by kernel_rfl, by kernel_rfl⟩ (calm_only _) (i := 23) rfl ⟨by kernel_rfl, by kernel_rfl, rfl⟩ trivial (stab_of (Hle.refl _) ⟨⟨0, rfl⟩, ⟨1, rfl⟩, ⟨2, rfl⟩, ⟨3, rfl⟩, ⟨4, rfl⟩, trivial⟩) (R.pickF rfl rfl) rfl (JA.val ⟨by kernel_rfl, by kernel_rfl⟩ (calm_only _) (i := 24) rfl ⟨by kernel_rfl, by kernel_rfl, rfl⟩ trivial (stab_of (Hle.refl _) ⟨⟨0, rfl⟩, ⟨1, rfl⟩, ⟨2, rfl⟩, ⟨3, rfl⟩, ⟨4, rfl⟩, trivial⟩) (R.assign rfl) rfl (JA.doneN (by kernel_rfl) ?_)))))))))))
   obtain rfl := Option.some.inj hx
   refine JN.forget 4 (JN.forget 3 (JN.forget 2 (JN.forget 1 (JN.forget 0 ?_))))
   exact JN.cut ⟨rfl, rfl, rfl⟩ ⟨rfl, trivial⟩ rfl rfl

set_option maxHeartbeats 8000000 in
theorem ref09_Great_ok (p_1 : Disk) (H : Heaplet) {aoa_2 : Option Addr} {na_2 : Nat} {capa_2 : Nat} {aoa_3 : Option Addr} {na_3 : Nat} {capa_3 : Nat} (ha_2 : IsSlice H (RSl RU8 1) 1 (.slice aoa_2 na_2 capa_2) p_1.Blocks) (ha_3 : IsSlice H R_Write 2 (.slice aoa_3 na_3 capa_3) p_1.Waits) (r : Bool) (hx : ref09_Great p_1 = some r) :
  Does Try.prog 10 #[.agg #[.slice aoa_2 na_2 capa_2, .slice aoa_3 na_3 capa_3]] [] H (fun u K' H' => u = .bool r ∧ K' = [] ∧ H = H' ∧ True) := by
 refine Does.enterL (vs := [.agg #[.slice aoa_2 na_2 capa_2, .slice aoa_3 na_3 capa_3]]) (l := [(0, .agg #[.slice aoa_2 na_2 capa_2, .slice aoa_3 na_3 capa_3])]) Try.func10 rfl rfl ⟨rfl, trivial⟩ (fun w hlt => ?_)
 unfold ref09_Great at hx
 refine JC.seq (JC.region (JL.box rfl rfl (fun b_4 hb_4 => JL.val rfl rfl (R.assign rfl) (JL.nil (JN.next (JC.seq ?_))))))
 obtain ⟨t_5, ht_7, hx⟩ := bnd_some hx
 refine JC.cut (fun l o g => ∃ t_5a : Unit, l = [(1, .pointer (some ⟨b_4, 0, none⟩))] ∧ o = [[(b_4, .cells #[.slice aoa_2 na_2 capa_2, .slice aoa_3 na_3 capa_3] 25 (0, 0))]] ∧ H = g ∧ t_5 = .inl t_5a) ?_ ?_
 ·
  rintro _ _ _ ⟨t_5a, rfl, rfl, rfl, rfl⟩
  simp only [Sum.elim_inl] at hx
  refine JN.next (JC.seq (JC.region (JL.val rfl rfl (R.assign rfl) (JL.nil (JN.next (JC.seq (JC.seq (JC.region (JL.val rfl rfl (R.assign rfl) (JL.nil (JN.next ?_)))))))))))
  obtain ⟨t_13, ht_15, hx⟩ := bnd_some hx
  refine JC.cut (fun l o g => l = [(1, .pointer (some ⟨b_4, 0, none⟩)), (3, .int .i64 t_13)] ∧ o = [[(b_4, .cells #[.slice aoa_2 na_2 capa_2, .slice aoa_3 na_3 capa_3] 25 (0, 0))]] ∧ H = g) ?_ ?_
  ·
   rintro _ _ _ ⟨rfl, rfl, rfl⟩
   refine JN.next (JC.seq (JC.seq (JC.region (JL.val rfl rfl (R.assign rfl) (JL.nil (JN.next ?_))))))
   obtain ⟨t_19, ht_21, hx⟩ := bnd_some hx
   refine JC.cut (fun l o g => l = [(3, .int .i64 t_19)] ∧ o = [] ∧ H = g) ?_ ?_
   ·
    rintro _ _ _ ⟨rfl, rfl, rfl⟩
    refine JN.next (JC.seq (JC.region (JL.val rfl rfl (R.move rfl) (JL.val rfl rfl (R.geq_i rfl rfl) (JL.val rfl rfl (R.assign rfl) (JL.nil (JN.next (JC.ret (JN.outP (vs := [.bool (decide (2000000 ≤ t_19))]) (K := []) (rst := []) (.inl rfl) rfl rfl (Res.tmp rfl rfl) picks0 ?_)))))))))
    obtain rfl := Option.some.inj hx
    exact ⟨rfl, rfl, rfl, trivial⟩
   ·
    have hxo_20 := hx; clear hx; have hx := ht_21; clear ht_21
    refine JC.block (JC.loopI (fun n l o g => ∃ s_22 : Int × Nat, l = [(1, .pointer (some ⟨b_4, 0, none⟩)), (3, .int .i64 s_22.1), (5, .int .i64 ((s_22.2 : Nat) : Int))] ∧ o = [[(b_4, .cells #[.slice aoa_2 na_2 capa_2, .slice aoa_3 na_3 capa_3] 25 (0, 0))]] ∧ H = g ∧ run (ref09_Great_l2 p_1) n s_22 = some t_19) FUEL ?_ ⟨(t_13, 0), rfl, rfl, rfl, hx⟩ ⟨rfl, rfl, rfl, trivial⟩ ?_)
    ·
     rintro _ _ _ ⟨s_22, rfl, rfl, rfl, hn_23⟩
     exact run_zero hn_23
    ·
     rintro n_24 _ _ _ ⟨s_22, rfl, rfl, rfl, hn_23⟩
     clear hx; obtain ⟨oo_26, hx, hd_25⟩ := run_some hn_23
     unfold ref09_Great_l2 at hx
     refine JC.seq (JC.seq (JC.region (JL.val rfl rfl (R.move rfl) (JL.val rfl rfl (R.fa F25_1 rfl) (JL.val rfl rfl (R.ldo 0 S23 rfl rfl rfl) (JL.val rfl rfl (R.lenL U23 rfl (IsSlice.long ha_3)) (JL.val rfl rfl (R.lss_i rfl rfl) (JL.val rfl rfl (R.move rfl) (JL.gSplit (t := 52) rfl (fun c_25 => ?_) (fun c_25 => ?_))))))))))
     ·
      replace hx := cond_t c_25 hx
      refine JL.gYes rfl rfl rfl (JL.val rfl rfl (R.move rfl) (JL.gYes rfl rfl rfl (JL.val rfl rfl (R.lss_i rfl rfl) (JL.val rfl rfl (R.pickT rfl rfl) (JL.nil (JN.next (JC.condB rfl (fun c_26 => ?_) (fun c_26 => ?_))))))))
      ·
       replace hx := cond_t c_26 hx
       refine JC.skip (JN.next (JC.seq (JC.block (JC.region (JL.val rfl rfl (R.move rfl) (JL.val rfl rfl (R.fa F25_1 rfl) (JL.val rfl rfl (R.ldo 0 S23 rfl rfl rfl) (JL.val rfl rfl (R.move rfl) ?_))))))))
       obtain ⟨y_27, hN_28, hx⟩ := idx_some hx
       obtain ⟨b_29, o_30, cs_31, hE_32, hR_33, hl_34, hc_35⟩ := IsSlice.elem ha_3 hN_28
       obtain ⟨v_36, rfl, hs_37⟩ := hR_33
       obtain ⟨aov_36, capv_36, rfl⟩ := IsSlice.val hs_37
       refine JL.val rfl rfl (R.ix U23 S47 rfl rfl hE_32) (JL.val rfl rfl (R.fa F47_1 rfl) (JL.val rfl rfl (R.ldH S45 rfl (hc_35 1 _ rfl)) (JL.val rfl rfl (R.lenL U45 rfl (IsSlice.long hs_37)) (JL.val rfl rfl (R.add_i rfl rfl) (JL.val rfl rfl (R.assign rfl) (JL.nil (JN.blkN (JN.next (JC.region (JL.val rfl rfl (R.move rfl) (JL.val rfl rfl (R.inc rfl rfl (of_decide_eq_true c_25) (IsSlice.lenI ha_3)) ?_)))))))))))
       refine JL.val rfl rfl (R.assign rfl) (JL.nil ?_)
       replace hx := run_next hd_25 hx
       exact JN.cut ⟨(w64 (s_22.1 + (y_27.Data.length : Int)), s_22.2 + 1), rfl, rfl, rfl, hx⟩ ⟨rfl, rfl, rfl, trivial⟩ rfl rfl
      ·
       replace hx := cond_f c_26 hx
       refine JC.exit (JN.passX ?_)
       obtain rfl := run_done hd_25 hx
       refine JN.passX (JN.exitSame (JN.forget 0 ?_))
       exact JN.cut ⟨rfl, rfl, rfl⟩ ⟨rfl, trivial⟩ rfl rfl
     ·
      replace hx := cond_f c_25 hx
      refine JL.gNo rfl rfl rfl rfl rfl (JL.gNo rfl rfl rfl rfl rfl (JL.val rfl rfl (R.pickF rfl rfl) (JL.nil (JN.next (JC.condF rfl (JC.exit (JN.passX ?_)))))))
      obtain rfl := run_done hd_25 hx
      refine JN.passX (JN.exitSame (JN.forget 0 ?_))
      exact JN.cut ⟨rfl, rfl, rfl⟩ ⟨rfl, trivial⟩ rfl rfl
  ·
   have hxo_14 := hx; clear hx; have hx := ht_15; clear ht_15
   refine JC.block (JC.loopI (fun n l o g => ∃ s_16 : Int × Nat, l = [(1, .pointer (some ⟨b_4, 0, none⟩)), (3, .int .i64 s_16.1), (4, .int .i64 ((s_16.2 : Nat) : Int))] ∧ o = [[(b_4, .cells #[.slice aoa_2 na_2 capa_2, .slice aoa_3 na_3 capa_3] 25 (0, 0))]] ∧ H = g ∧ run (ref09_Great_l1 p_1) n s_16 = some t_13) FUEL ?_ ⟨(0, 0), rfl, rfl, rfl, hx⟩ ⟨rfl, rfl, rfl, trivial⟩ ?_)
   ·
    rintro _ _ _ ⟨s_16, rfl, rfl, rfl, hn_17⟩
    exact run_zero hn_17
   ·
    rintro n_18 _ _ _ ⟨s_16, rfl, rfl, rfl, hn_17⟩
    clear hx; obtain ⟨oo_20, hx, hd_19⟩ := run_some hn_17
    unfold ref09_Great_l1 at hx
    refine JC.seq (JC.seq (JC.region (JL.val rfl rfl (R.move rfl) (JL.val rfl rfl (R.fa F25_0 rfl) (JL.val rfl rfl (R.ldo 0 S22 rfl rfl rfl) (JL.val rfl rfl (R.lenL U22 rfl (IsSlice.long ha_2)) (JL.val rfl rfl (R.lss_i rfl rfl) (JL.val rfl rfl (R.move rfl) (JL.gSplit (t := 33) rfl (fun c_19 => ?_) (fun c_19 => ?_))))))))))
    ·
     replace hx := cond_t c_19 hx
     refine JL.gYes rfl rfl rfl (JL.val rfl rfl (R.move rfl) (JL.gYes rfl rfl rfl (JL.val rfl rfl (R.lss_i rfl rfl) (JL.val rfl rfl (R.pickT rfl rfl) (JL.nil (JN.next (JC.condB rfl (fun c_20 => ?_) (fun c_20 => ?_))))))))
     ·
      replace hx := cond_t c_20 hx
      refine JC.skip (JN.next (JC.seq (JC.block (JC.region (JL.val rfl rfl (R.move rfl) (JL.val rfl rfl (R.fa F25_0 rfl) (JL.val rfl rfl (R.ldo 0 S22 rfl rfl rfl) (JL.val rfl rfl (R.move rfl) ?_))))))))
      obtain ⟨y_21, hN_22, hx⟩ := idx_some hx
      obtain ⟨b_23, o_24, cs_25, hE_26, hR_27, hl_28, hc_29⟩ := IsSlice.elem ha_2 hN_22
      obtain ⟨v_30, rfl, hs_31⟩ := hR_27
      obtain ⟨aov_30, capv_30, rfl⟩ := IsSlice.val hs_31
      refine JL.val rfl rfl (R.ix U22 S45 rfl rfl hE_26) (JL.val rfl rfl (R.ldH S45 rfl (hc_29 0 _ rfl)) (JL.val rfl rfl (R.lenL U45 rfl (IsSlice.long hs_31)) (JL.val rfl rfl (R.add_i rfl rfl) (JL.val rfl rfl (R.assign rfl) (JL.nil (JN.blkN (JN.next (JC.region (JL.val rfl rfl (R.move rfl) (JL.val rfl rfl (R.inc rfl rfl (of_decide_eq_true c_19) (IsSlice.lenI ha_2)) (JL.val rfl rfl (R.assign rfl) ?_)))))))))))
      refine JL.nil ?_
      replace hx := run_next hd_19 hx
      exact JN.cut ⟨(w64 (s_16.1 + (y_21.length : Int)), s_16.2 + 1), rfl, rfl, rfl, hx⟩ ⟨rfl, rfl, rfl, trivial⟩ rfl rfl
     ·
      replace hx := cond_f c_20 hx
      refine JC.exit (JN.passX ?_)
      obtain rfl := run_done hd_19 hx
      refine JN.passX (JN.exitSame ?_)
      exact JN.cut ⟨rfl, rfl, rfl⟩ ⟨rfl, rfl, trivial⟩ rfl rfl
    ·
     replace hx := cond_f c_19 hx
     refine JL.gNo rfl rfl rfl rfl rfl (JL.gNo rfl rfl rfl rfl rfl (JL.val rfl rfl (R.pickF rfl rfl) (JL.nil (JN.next (JC.condF rfl (JC.exit (JN.passX ?_)))))))
     obtain rfl := run_done hd_19 hx
     refine JN.passX (JN.exitSame ?_)
     exact JN.cut ⟨rfl, rfl, rfl⟩ ⟨rfl, rfl, trivial⟩ rfl rfl
 ·
  have hxo_6 := hx; clear hx; have hx := ht_7; clear ht_7
  refine JC.seq (JC.region (JL.val rfl rfl (R.fa F25_0 rfl) (JL.val rfl rfl (R.ldo 0 S22 rfl rfl rfl) (JL.val rfl rfl (R.lenL U22 rfl (IsSlice.long ha_2)) (JL.val rfl rfl (R.gtr_i rfl rfl) (JL.val rfl rfl (R.move rfl) (JL.gSplit (t := 10) rfl (fun c_8 => ?_) (fun c_8 => ?_))))))))
  ·
   replace hx := cond_t c_8 hx
   refine JL.gNo rfl rfl rfl rfl rfl (JL.gNo rfl rfl rfl rfl rfl (JL.gNo rfl rfl rfl rfl rfl (JL.gNo rfl rfl rfl rfl rfl (JL.gNo rfl rfl rfl rfl rfl (JL.gNoU rfl rfl rfl rfl (JL.gNoU rfl rfl rfl rfl (JL.gNoU rfl rfl rfl rfl (JL.gNoU rfl rfl rfl rfl (JL.gNo rfl rfl rfl rfl rfl (JL.val rfl rfl (R.pickT rfl rfl) (JL.val rfl rfl (R.move rfl) ?_)))))))))))
   refine JL.gNo rfl rfl rfl rfl rfl (JL.gNo rfl rfl rfl rfl rfl (JL.gNo rfl rfl rfl rfl rfl (JL.gNo rfl rfl rfl rfl rfl (JL.val rfl rfl (R.pickT rfl rfl) (JL.nil (JN.next (JC.condT rfl (JC.seq (JC.region (JL.val rfl rfl (R.assign rfl) (JL.nil ?_)))))))))))
   refine JN.next (JC.ret ?_)
   obtain rfl := Option.some.inj hx
   clear hx; have hx := hxo_6
   simp only [Sum.elim_inl, Sum.elim_inr] at hx
   refine JN.passR (JN.passR (JN.outP (vs := [.bool true]) (K := []) (rst := [_]) (.inl rfl) rfl rfl (Res.tmp rfl rfl) picks0 ?_))
   obtain rfl := Option.some.inj hx
   exact ⟨rfl, rfl, rfl, trivial⟩
  ·
   replace hx := cond_f c_8 hx
   refine JL.gYes rfl rfl rfl (JL.val rfl rfl (R.fa F25_1 rfl) (JL.gYes rfl rfl rfl (JL.val rfl rfl (R.ldo 0 S23 rfl rfl rfl) (JL.gYes rfl rfl rfl (JL.val rfl rfl (R.lenL U23 rfl (IsSlice.long ha_3)) (JL.gYes rfl rfl rfl (JL.val rfl rfl (R.gtr_i rfl rfl) (JL.gYes rfl rfl rfl (JL.val rfl rfl (R.move rfl) (JL.gSplit (t := 15) rfl (fun c_9 => ?_) (fun c_9 => ?_)))))))))))
   ·
    replace hx := cond_t c_9 hx
    refine JL.gYes rfl rfl rfl (JL.val rfl rfl (R.fa F25_1 rfl) (JL.gYes rfl rfl rfl (JL.val rfl rfl (R.ldo 0 S23 rfl rfl rfl) (JL.gYes rfl rfl rfl (JL.val rfl rfl (R.lenL U23 rfl (IsSlice.long ha_3)) (JL.gYes rfl rfl rfl (JL.val rfl rfl (R.lss_i rfl rfl) (JL.gYes rfl rfl rfl (JL.val rfl rfl (R.pickT rfl rfl) (JL.val rfl rfl (R.pickF rfl rfl) (JL.val rfl rfl (R.move rfl) ?_)))))))))))
    refine JL.gSplit (t := 22) rfl (fun c_10 => ?_) (fun c_10 => ?_)
    ·
     replace hx := cond_t c_10 hx
     refine JL.gNo rfl rfl rfl rfl rfl (JL.gNo rfl rfl rfl rfl rfl (JL.gNo rfl rfl rfl rfl rfl (JL.gNo rfl rfl rfl rfl rfl (JL.val rfl rfl (R.pickT rfl rfl) (JL.nil (JN.next (JC.condT rfl (JC.seq (JC.region (JL.val rfl rfl (R.assign rfl) (JL.nil ?_)))))))))))
     refine JN.next (JC.ret ?_)
     obtain rfl := Option.some.inj hx
     clear hx; have hx := hxo_6
     simp only [Sum.elim_inl, Sum.elim_inr] at hx
     refine JN.passR (JN.passR (JN.outP (vs := [.bool true]) (K := []) (rst := [_]) (.inl rfl) rfl rfl (Res.tmp rfl rfl) picks0 ?_))
     obtain rfl := Option.some.inj hx
     exact ⟨rfl, rfl, rfl, trivial⟩
    ·
     replace hx := cond_f c_10 hx
     refine JL.gYes rfl rfl rfl (JL.val rfl rfl (R.fa F25_1 rfl) (JL.gYes rfl rfl rfl (JL.val rfl rfl (R.ldo 0 S23 rfl rfl rfl) (JL.gYes rfl rfl rfl (JL.val rfl rfl (R.lenL U23 rfl (IsSlice.long ha_3)) (JL.gYes rfl rfl rfl (JL.val rfl rfl (R.gtr_i rfl rfl) (JL.val rfl rfl (R.pickF rfl rfl) (JL.nil (JN.next (JC.condB rfl (fun c_11 => ?_) (fun c_11 => ?_))))))))))))
     ·
      replace hx := cond_t c_11 hx
      refine JC.seq (JC.region (JL.val rfl rfl (R.assign rfl) (JL.nil (JN.next (JC.ret ?_)))))
      obtain rfl := Option.some.inj hx
      clear hx; have hx := hxo_6
      simp only [Sum.elim_inl, Sum.elim_inr] at hx
      refine JN.passR (JN.passR (JN.outP (vs := [.bool true]) (K := []) (rst := [_]) (.inl rfl) rfl rfl (Res.tmp rfl rfl) picks0 ?_))
      obtain rfl := Option.some.inj hx
      exact ⟨rfl, rfl, rfl, trivial⟩
     ·
      replace hx := cond_f c_11 hx
      refine JC.skip ?_
      obtain rfl := Option.some.inj hx
      exact JN.cut ⟨(), rfl, rfl, rfl, rfl⟩ ⟨rfl, trivial⟩ rfl rfl
   ·
    replace hx := cond_f c_9 hx
    refine JL.gNo rfl rfl rfl rfl rfl (JL.gNo rfl rfl rfl rfl rfl (JL.gNo rfl rfl rfl rfl rfl (JL.gNo rfl rfl rfl rfl rfl (JL.gYes rfl rfl rfl (JL.val rfl rfl (R.pickF rfl rfl) (JL.val rfl rfl (R.pickF rfl rfl) (JL.val rfl rfl (R.move rfl) (JL.gYes rfl rfl rfl (JL.val rfl rfl (R.fa F25_1 rfl) (JL.gYes rfl rfl rfl (JL.val rfl rfl (R.ldo 0 S23 rfl rfl rfl) ?_)))))))))))
    refine JL.gYes rfl rfl rfl (JL.val rfl rfl (R.lenL U23 rfl (IsSlice.long ha_3)) (JL.gYes rfl rfl rfl (JL.val rfl rfl (R.gtr_i rfl rfl) (JL.val rfl rfl (R.pickF rfl rfl) (JL.nil (JN.next (JC.condB rfl (fun c_12 => ?_) (fun c_12 => ?_))))))))
    ·
     replace hx := cond_t c_12 hx
     refine JC.seq (JC.region (JL.val rfl rfl (R.assign rfl) (JL.nil (JN.next (JC.ret ?_)))))
     obtain rfl := Option.some.inj hx
     clear hx; have hx := hxo_6
     simp only [Sum.elim_inl, Sum.elim_inr] at hx
     refine JN.passR (JN.passR (JN.outP (vs := [.bool true]) (K := []) (rst := [_]) (.inl rfl) rfl rfl (Res.tmp rfl rfl) picks0 ?_))
     obtain rfl := Option.some.inj hx
     exact ⟨rfl, rfl, rfl, trivial⟩
    ·
     replace hx := cond_f c_12 hx
     refine JC.skip ?_
     obtain rfl := Option.some.inj hx
     exact JN.cut ⟨(), rfl, rfl, rfl, rfl⟩ ⟨rfl, trivial⟩ rfl rfl

set_option maxHeartbeats 8000000 in
theorem ref13_Great_ok (p_1 : Store) (H : Heaplet) {aoa_2 : Option Addr} {na_2 : Nat} {capa_2 : Nat} {aoa_3 : Option Addr} {na_3 : Nat} {capa_3 : Nat} {aoa_4 : Option Addr} {na_4 : Nat} {capa_4 : Nat} (ha_2 : IsSlice H (RSl RU8 1) 1 (.slice aoa_2 na_2 capa_2) p_1.Disk.Blocks) (ha_3 : IsSlice H R_Write 2 (.slice aoa_3 na_3 capa_3) p_1.Disk.Waits) (ha_4 : IsSlice H RU8 1 (.slice aoa_4 na_4 capa_4) p_1.Space) (r : Bool) (hx : ref13_Great p_1 = some r) :
  Does Try.prog 20 #[.agg #[.slice aoa_2 na_2 capa_2, .slice aoa_3 na_3 capa_3, .slice aoa_4 na_4 capa_4, .int .u32 (p_1.Epoch.toNat : Int), .int .u32 (p_1.Count.toNat : Int)]] [] H (fun u K' H' => u = .bool r ∧ K' = [] ∧ H = H' ∧ True) := by
 refine Does.enterL (vs := [.agg #[.slice aoa_2 na_2 capa_2, .slice aoa_3 na_3 capa_3, .slice aoa_4 na_4 capa_4, .int .u32 (p_1.Epoch.toNat : Int), .int .u32 (p_1.Count.toNat : Int)]]) (l := [(0, .agg #[.slice aoa_2 na_2 capa_2, .slice aoa_3 na_3 capa_3, .slice aoa_4 na_4 capa_4, .int .u32 (p_1.Epoch.toNat : Int), .int .u32 (p_1.Count.toNat : Int)])]) Try.func20 rfl rfl ⟨rfl, trivial⟩ (fun w hlt => ?_)
 unfold ref13_Great at hx
 refine JC.seq (JC.region (JL.box rfl rfl (fun b_5 hb_5 => JL.val rfl rfl (R.assign rfl) (JL.nil (JN.next (JC.seq ?_))))))
 obtain ⟨t_6, ht_8, hx⟩ := bnd_some hx
 refine JC.cut (fun l o g => l = [(2, .bool t_6)] ∧ o = [] ∧ H = g) ?_ ?_
 ·
  rintro _ _ _ ⟨rfl, rfl, rfl⟩
  refine JN.next (JC.ret (JN.outP (vs := [.bool t_6]) (K := []) (rst := []) (.inl rfl) rfl rfl (Res.tmp rfl rfl) picks0 ?_))
  obtain rfl := Option.some.inj hx
  exact ⟨rfl, rfl, rfl, trivial⟩
 ·
  have hxo_7 := hx; clear hx; have hx := ht_8; clear ht_8
  refine JC.region (JL.val rfl rfl (R.fa F50_0 rfl) (JL.val rfl rfl (R.ldoN 0 (vs := [.slice aoa_2 na_2 capa_2, .slice aoa_3 na_3 capa_3]) S25 rfl rfl rfl rfl) ?_))
  obtain ⟨x_9, hr_10, hx⟩ := bnd_some hx
  refine JL.callC (vs := [_]) (args := [_]) (K := []) (rst := [_]) E10 rfl rfl rfl picks0 (ref09_Great_ok (Disk.mk p_1.Disk.Blocks p_1.Disk.Waits) _ ha_2 ha_3 _ hr_10) rfl (fun u_11 Ku_11 Hu_11 hRu_11 hleu_11 hfu_11 => ?_)
  obtain ⟨rfl, rfl, rfl, -⟩ := hRu_11
  refine JL.val rfl rfl (R.move rfl) (JL.gSplit (t := 6) rfl (fun c_12 => ?_) (fun c_12 => ?_))
  ·
   replace hx := cond_t c_12 hx
   refine JL.gNo rfl rfl rfl rfl rfl (JL.gNo rfl rfl rfl rfl rfl (JL.gNo rfl rfl rfl rfl rfl (JL.gNo rfl rfl rfl rfl rfl (JL.val rfl rfl (R.pickT rfl rfl) (JL.val rfl rfl (R.assign rfl) (JL.nil ?_))))))
   obtain rfl := Option.some.inj hx
   refine JN.forget 0 ?_
   exact JN.cut ⟨rfl, rfl, rfl⟩ ⟨rfl, trivial⟩ rfl rfl
  ·
   replace hx := cond_f c_12 hx
   refine JL.gYes rfl rfl rfl (JL.val rfl rfl (R.fa F50_1 rfl) (JL.gYes rfl rfl rfl (JL.val rfl rfl (R.ldo 0 S45 rfl rfl rfl) (JL.gYes rfl rfl rfl (JL.val rfl rfl (R.lenL U45 rfl (IsSlice.long ha_4)) (JL.gYes rfl rfl rfl (JL.val rfl rfl (R.gtr_i rfl rfl) (JL.val rfl rfl (R.pickF rfl rfl) (JL.val rfl rfl (R.assign rfl) (JL.nil ?_))))))))))
   obtain rfl := Option.some.inj hx
   refine JN.forget 0 ?_
   exact JN.cut ⟨rfl, rfl, rfl⟩ ⟨rfl, trivial⟩ rfl rfl
end Go.Proofs.Ytdoebbgjjlicjaa
