/- walks: what the code computes, function by function. -/
import Derived.Test.YtabnbobdjckdmaaW2p0
namespace Go.Proofs.Ytabnbobdjckdmaa
open Go.Ow Go.RowKit Go.Proofs
set_option linter.unusedVariables false
set_option linter.unusedSimpArgs false
set_option maxHeartbeats 1000000 in
theorem dev_Write_ok (p_1 : Disk) (p_4 : Int) (p_5 : List UInt8) (H : Heaplet) {aoa_2 : Option Addr} {na_2 : Nat} {capa_2 : Nat} {aoa_3 : Option Addr} {na_3 : Nat} {capa_3 : Nat} {aoa_6 : Option Addr} {na_6 : Nat} {capa_6 : Nat} (ha_2 : IsSlice H (RSl RU8 1) 1 (.slice aoa_2 na_2 capa_2) p_1.Blocks) (ha_3 : IsSlice H R_Write 2 (.slice aoa_3 na_3 capa_3) p_1.Waits) (ha_6 : IsSlice H RU8 1 (.slice aoa_6 na_6 capa_6) p_5) (r : Disk × Int) (hx : dev_Write p_1 p_4 p_5 = some r) :
    Does Try.prog 22 #[.agg #[.slice aoa_2 na_2 capa_2, .slice aoa_3 na_3 capa_3], .int .i64 p_4, .slice aoa_6 na_6 capa_6] [] H (fun u K' H' => ∃ ao0 : Option Addr, ∃ n0 : Nat, ∃ cap0 : Nat, ∃ ao1 : Option Addr, ∃ n1 : Nat, ∃ cap1 : Nat, ∃ K1 : Own, u = .tuple #[.agg #[.slice ao0 n0 cap0, .slice ao1 n1 cap1], .int .i64 r.2] ∧ K' = [K1] ∧ IsSlice (New H H') (RSl RU8 1) 1 (.slice ao0 n0 cap0) r.1.Blocks ∧ RowOf (New H H') R_Write 0 47 2 (.slice ao1 n1 cap1) r.1.Waits K1 ∧ (∀ p ∈ K1, p.1 ∉ ids (List.flatten [])) ∧ True) := by
  refine Does.enterL (vs := [.agg #[.slice aoa_2 na_2 capa_2, .slice aoa_3 na_3 capa_3], .int .i64 p_4, .slice aoa_6 na_6 capa_6]) (l := [(0, .agg #[.slice aoa_2 na_2 capa_2, .slice aoa_3 na_3 capa_3]), (1, .int .i64 p_4), (2, .slice aoa_6 na_6 capa_6)]) Try.func22 rfl rfl ⟨rfl, rfl, rfl, trivial⟩ (fun w hlt => ?_)
  rw [dev_Write.eq_1] at hx
  refine JC.seq ?_
  refine JC.region ?_
  refine JL.box rfl rfl (fun b_7 hb_7 => ?_)
  refine JL.alloc Z25 rfl (fun b_8 hb_8 => ?_)
  refine JL.val rfl rfl (R.assign rfl) ?_
  refine JL.nil ?_
  refine JN.next ?_
  refine JC.seq ?_
  refine JC.seq ?_
  obtain ⟨t_9, ht_11, hx⟩ := bnd_some hx
  refine JC.cut (fun l o g => ∃ aoz_23 : Option Addr, ∃ nz_23 : Nat, ∃ capz_23 : Nat, ∃ aoz_24 : Option Addr, ∃ nz_24 : Nat, ∃ capz_24 : Nat, l = [(1, .int .i64 p_4), (2, .slice aoa_6 na_6 capa_6), (3, .pointer (some ⟨b_7, 0, none⟩)), (6, .pointer (some ⟨b_8, 0, none⟩)), (9, .int .i64 t_9.2.2)] ∧ o = [[(b_7, .cells #[.slice aoz_23 nz_23 capz_23, .slice aoz_24 nz_24 capz_24] 25 (0, 0))], [(b_8, .cells #[.slice none 0 0, .slice none 0 0] 25 (0, 0))]] ∧ H = g ∧ IsSlice H (RSl RU8 1) 1 (.slice aoz_23 nz_23 capz_23) t_9.1 ∧ IsSlice H R_Write 2 (.slice aoz_24 nz_24 capz_24) t_9.2.1) ?_ ?_
  · rintro _ _ _ ⟨aoz_23, nz_23, capz_23, aoz_24, nz_24, capz_24, rfl, rfl, rfl, hz_23, hz_24⟩
    refine JN.next ?_
    refine JC.seq ?_
    refine JC.region ?_
    refine JL.val rfl rfl (R.move rfl) ?_
    refine JL.val rfl rfl (R.neq_i rfl rfl) ?_
    refine JL.nil ?_
    refine JN.next ?_
    refine JC.condB rfl (fun c_25 => ?_) (fun c_25 => ?_)
    · replace hx := cond_t c_25 hx
      refine JC.seq ?_
      refine JC.region ?_
      refine JL.val rfl rfl (R.bldP (vs := []) (cs := [.slice none 0 0, .slice none 0 0]) Z25 B25 rfl rfl rfl) ?_
      refine JL.val rfl rfl (R.move rfl) ?_
      refine JL.store 1 S25 rfl rfl rfl rfl rfl (Nat.le_of_ble_eq_true rfl) ?_
      refine JL.val rfl rfl (R.assign rfl) ?_
      refine JL.nil ?_
      refine JN.next ?_
      refine JC.ret ?_
      refine JN.passR ?_
      refine JN.seg0 ?_
      refine JN.outP (vs := [.agg #[.slice none 0 0, .slice none 0 0], .int .i64 t_9.2.2]) (K := [_]) (rst := [_, _]) (.inl rfl) rfl rfl (Res.cellN 2 rfl rfl S25 (Res.tmp rfl rfl)) (picks 0 rfl picks0) ?_
      obtain rfl := Option.some.inj hx
      exact ⟨none, 0, 0, none, 0, 0, [], rfl, rfl, (IsSlice.nil _ _ _), (RowOf.nil _ _ _ _ _), (fun p hp => by cases hp), trivial⟩
    · replace hx := cond_f c_25 hx
      refine JC.skip ?_
      refine JN.next ?_
      refine JC.seq ?_
      refine JC.block ?_
      refine JC.seq ?_
      refine JC.region ?_
      refine JL.val rfl rfl (R.move rfl) ?_
      refine JL.val rfl rfl (R.lenL U45 rfl (IsSlice.long ha_6)) ?_
      refine JL.val rfl rfl (R.neq_i rfl rfl) ?_
      refine JL.val rfl rfl (R.assign rfl) ?_
      refine JL.nil ?_
      refine JN.next ?_
      refine JC.condB rfl (fun c_26 => ?_) (fun c_26 => ?_)
      · replace hx := cond_t c_26 hx
        refine JC.seq ?_
        refine JC.region ?_
        refine JL.val rfl rfl (R.bldP (vs := []) (cs := [.slice none 0 0, .slice none 0 0]) Z25 B25 rfl rfl rfl) ?_
        refine JL.store 1 S25 rfl rfl rfl rfl rfl (Nat.le_of_ble_eq_true rfl) ?_
        refine JL.val rfl rfl (R.assign rfl) ?_
        refine JL.nil ?_
        refine JN.next ?_
        refine JC.ret ?_
        refine JN.blkR ?_
        refine JN.passR ?_
        refine JN.seg0 ?_
        refine JN.outP (vs := [.agg #[.slice none 0 0, .slice none 0 0], .int .i64 3]) (K := [_]) (rst := [_, _]) (.inl rfl) rfl rfl (Res.cellN 2 rfl rfl S25 (Res.tmp rfl rfl)) (picks 0 rfl picks0) ?_
        obtain rfl := Option.some.inj hx
        exact ⟨none, 0, 0, none, 0, 0, [], rfl, rfl, (IsSlice.nil _ _ _), (RowOf.nil _ _ _ _ _), (fun p hp => by cases hp), trivial⟩
      · replace hx := cond_f c_26 hx
        refine JC.seq ?_
        refine JC.region ?_
        refine JL.val rfl rfl (R.fa F25_1 rfl) ?_
        refine JL.val rfl rfl (R.ldo 0 S23 rfl rfl rfl) ?_
        refine JL.val rfl rfl (R.lenL U23 rfl (IsSlice.long hz_24)) ?_
        refine JL.val rfl rfl (R.eql_i rfl rfl) ?_
        refine JL.val rfl rfl (R.assign rfl) ?_
        refine JL.nil ?_
        refine JN.next ?_
        refine JC.condB rfl (fun c_27 => ?_) (fun c_27 => ?_)
        · replace hx := cond_t c_27 hx
          refine JC.seq ?_
          refine JC.region ?_
          refine JL.val rfl rfl (R.bldP (vs := []) (cs := [.slice none 0 0, .slice none 0 0]) Z25 B25 rfl rfl rfl) ?_
          refine JL.store 1 S25 rfl rfl rfl rfl rfl (Nat.le_of_ble_eq_true rfl) ?_
          refine JL.val rfl rfl (R.assign rfl) ?_
          refine JL.nil ?_
          refine JN.next ?_
          refine JC.ret ?_
          refine JN.blkR ?_
          refine JN.passR ?_
          refine JN.seg0 ?_
          refine JN.outP (vs := [.agg #[.slice none 0 0, .slice none 0 0], .int .i64 9]) (K := [_]) (rst := [_, _]) (.inl rfl) rfl rfl (Res.cellN 2 rfl rfl S25 (Res.tmp rfl rfl)) (picks 0 rfl picks0) ?_
          obtain rfl := Option.some.inj hx
          exact ⟨none, 0, 0, none, 0, 0, [], rfl, rfl, (IsSlice.nil _ _ _), (RowOf.nil _ _ _ _ _), (fun p hp => by cases hp), trivial⟩
        · replace hx := cond_f c_27 hx
          refine JC.skip ?_
          refine JN.blkN ?_
          refine JN.next ?_
          refine JC.seq ?_
          obtain ⟨t_28, ht_30, hx⟩ := bnd_some hx
          refine JC.cut (fun l o g => ∃ H_46 : Heaplet, ∃ aor_47 : Option Addr, ∃ nr_47 : Nat, ∃ capr_47 : Nat, ∃ Kr_47 : Own, ∃ aor_48 : Option Addr, ∃ nr_48 : Nat, ∃ capr_48 : Nat, ∃ Kr_48 : Own, l = [(6, .pointer (some ⟨b_8, 0, none⟩)), (7, .int .i64 0)] ∧ o = [[(b_8, .cells #[.slice aor_47 nr_47 capr_47, .slice aor_48 nr_48 capr_48] 25 (0, 0))], Kr_47, Kr_48] ∧ H_46 = g ∧ Hle H H_46 ∧ Pcs w.heap.size 5 45 (.slice aor_47 nr_47 capr_47) t_28.1 Kr_47 ∧ RowOf (New H H_46) R_Write w.heap.size 47 2 (.slice aor_48 nr_48 capr_48) t_28.2 Kr_48) ?_ ?_
          · rintro _ _ _ ⟨H_46, aor_47, nr_47, capr_47, Kr_47, aor_48, nr_48, capr_48, Kr_48, rfl, rfl, rfl, hleH_46, hr_47, hr_48⟩
            refine JN.next ?_
            refine JC.ret ?_
            refine JN.pubPcs 1  rfl hr_47 (Nat.le_refl _) (fun H_49 hleH_49 hsH_49 => ?_)
            refine JN.forget 1 ?_
            refine JN.outP (vs := [.agg #[.slice aor_47 nr_47 capr_47, .slice aor_48 nr_48 capr_48], .int .i64 0]) (K := [_]) (rst := [_]) (.inl rfl) rfl rfl (Res.cellN 0 rfl rfl S25 (Res.tmp rfl rfl)) (picks 1 rfl picks0) ?_
            obtain rfl := Option.some.inj hx
            exact ⟨aor_47, nr_47, capr_47, aor_48, nr_48, capr_48, Kr_48, rfl, rfl, hsH_49, (RowOf.weak (Nat.zero_le _) (hr_48.mono R_Write.mono (New.mono hleH_49))), (new_ids (hr_48.mono R_Write.mono (New.mono hleH_49)) hlt), trivial⟩
          · have hxo_29 := hx; clear hx; have hx := ht_30; clear ht_30
            refine JC.draw (so := [_]) 14 rfl Mixed ⟨⟨0, rfl⟩, trivial⟩ ?_
            refine JA.val ⟨by kernel_rfl, by kernel_rfl⟩ (calm_only _) (i := 0) rfl ⟨by kernel_rfl, by kernel_rfl, rfl⟩ trivial (stab_of (Hle.refl _) ⟨⟨0, rfl⟩, trivial⟩) (R.fa F25_0 rfl) rfl ?_
            refine JA.val ⟨by kernel_rfl, by kernel_rfl⟩ (calm_only _) (i := 1) rfl ⟨by kernel_rfl, by kernel_rfl, rfl⟩ trivial (stab_of (Hle.refl _) ⟨⟨0, rfl⟩, trivial⟩) (R.ldo 0 S22 rfl rfl rfl) rfl ?_
            refine JA.val ⟨by kernel_rfl, by kernel_rfl⟩ (calm_only _) (i := 2) rfl ⟨by kernel_rfl, by kernel_rfl, rfl⟩ trivial (stab_of (Hle.refl _) ⟨⟨0, rfl⟩, trivial⟩) (R.fa F25_1 rfl) rfl ?_
            refine JA.val ⟨by kernel_rfl, by kernel_rfl⟩ (calm_only _) (i := 3) rfl ⟨by kernel_rfl, by kernel_rfl, rfl⟩ trivial (stab_of (Hle.refl _) ⟨⟨0, rfl⟩, trivial⟩) (R.ldo 0 S23 rfl rfl rfl) rfl ?_
            refine JA.val ⟨by kernel_rfl, by kernel_rfl⟩ (calm_only _) (i := 5) rfl ⟨by kernel_rfl, by kernel_rfl, rfl⟩ trivial (stab_of (Hle.refl _) ⟨⟨0, rfl⟩, trivial⟩) (R.move rfl) rfl ?_
            refine JA.val ⟨by kernel_rfl, by kernel_rfl⟩ (calm_only _) (i := 6) rfl ⟨by kernel_rfl, by kernel_rfl, rfl⟩ trivial (stab_of (Hle.refl _) ⟨⟨0, rfl⟩, trivial⟩) (R.move rfl) rfl ?_
            obtain ⟨x_31, hr_32, hx⟩ := bnd_some hx
            obtain ⟨q_36, hm_37, hl_38, hx⟩ := app_some hx
            obtain ⟨x_41, hr_42, hx⟩ := bnd_some hx
            refine JA.two (i := 4) (j := 7) (by kernel_rfl) ?_ ?_
            · refine JO.step rfl trivial rfl (fun K hK => ?_)
              refine JL.callC (vs := [_]) (args := [_]) (K := []) (rst := [_, _]) E42 rfl rfl rfl picks0 (slices_Clip_Write_ok t_9.2.1 _ hz_24 _ hr_32) rfl (fun u_33 Ku_33 Hu_33 hRu_33 hleu_33 hfu_33 => ?_)
              obtain ⟨aoz_34, nz_34, rfl, rfl, rfl, hz_34, -⟩ := hRu_33
              refine JL.nil ?_
              refine hK _ _ _ (stab_of (Hle.refl _) ⟨⟨0, rfl⟩, trivial⟩) ?_
              refine JA.one (i := 7) (by kernel_rfl) ?_
              refine JO.step rfl trivial rfl (fun K hK => ?_)
              refine JL.val rfl rfl (R.bldP (vs := [(0, .int .i64 p_4), (1, .slice aoa_6 na_6 capa_6)]) (cs := [.int .i64 p_4, .slice aoa_6 na_6 capa_6]) Z47 B47 rfl rfl rfl) ?_
              refine JL.nil ?_
              refine hK _ _ _ (stab_of (Hle.refl _) ⟨⟨0, rfl⟩, trivial⟩) ?_
              refine JA.one (i := 8) (by kernel_rfl) ?_
              refine JO.step rfl trivial rfl (fun K hK => ?_)
              refine JL.bslF (HF := H) (R := R_Write) (ls := [Write.mk p_4 p_5]) (vs := [.agg #[.int .i64 p_4, .slice aoa_6 na_6 capa_6]]) U23 I47 rfl rfl (⟨_, _, rfl, rfl, ⟨_, rfl, ha_6⟩, rfl⟩) R_Write.one rfl rfl rfl (by simp [maxLen]) rfl (fun vr_35 Kr_35 hr_35 => ?_)
              obtain ⟨aor_35, capr_35, rfl⟩ := RowOf.val hr_35
              refine JL.nil ?_
              refine hK _ _ _ (stab_of (Hle.refl _) ⟨⟨1, rfl⟩, trivial⟩) ?_
              refine JA.one (i := 9) (by kernel_rfl) ?_
              refine JO.step rfl trivial rfl (fun K hK => ?_)
              refine JL.appC (HF := H) U23 I47 rfl R_Write.one (Hle.refl _) hz_34 (fun _ _ h => h) rfl (SrcF.row 0 U23 rfl hr_35) (List.cons_ne_nil _ _) hm_37 hl_38 rfl rfl (fun vr_39 Kr_39 hr_39 => ?_)
              obtain ⟨aor_39, capr_39, rfl⟩ := RowOf.val hr_39
              refine JL.nil ?_
              refine hK _ _ _ (stab_of (Hle.refl _) ⟨⟨2, rfl⟩, trivial⟩) ?_
              refine JA.one (i := 10) (by kernel_rfl) ?_
              refine JO.step rfl trivial rfl (fun K hK => ?_)
              refine JL.val rfl rfl (R.bldP (vs := [(0, .slice aoz_23 nz_23 capz_23), (1, .slice aor_39 q_36.length capr_39)]) (cs := [.slice aoz_23 nz_23 capz_23, .slice aor_39 q_36.length capr_39]) Z25 B25 rfl rfl rfl) ?_
              refine JL.nil ?_
              refine hK _ _ _ (stab_of (Hle.refl _) ⟨⟨2, rfl⟩, trivial⟩) ?_
              refine JA.one (i := 11) (by kernel_rfl) ?_
              refine JO.step rfl trivial rfl (fun K hK => ?_)
              refine JL.pub 0 R_Write.mono rfl hr_39 (Nat.le_refl _) (fun H_40 hleH_40 hsH_40 => ?_)
              refine JL.forget 0 ?_
              refine JL.callC (vs := [_]) (args := [_]) (K := []) (rst := [_, _, _]) E41 rfl rfl rfl picks0 (dev_Twin_ok (Disk.mk t_9.1 q_36) _ (hz_23.mono (RSl.mono RU8.mono) hleH_40) hsH_40 _ hr_42) rfl (fun u_43 Ku_43 Hu_43 hRu_43 hleu_43 hfu_43 => ?_)
              obtain ⟨aor_44, nr_44, capr_44, Kr_44, aor_45, nr_45, capr_45, Kr_45, rfl, rfl, hr_44, hnewr_44, hr_45, hnewr_45, -⟩ := hRu_43
              replace hr_44 := (Pcs.base hr_44 (fun p hp => (hfu_43 p (mem_seg 0 rfl hp)).resolve_left (hnewr_44 p hp)))
              replace hr_45 := (RowOf.base (RowOf.mono R_Write.mono (New.call hleH_40) hr_45) (fun p hp => (hfu_43 p (mem_seg 1 rfl hp)).resolve_left (hnewr_45 p hp)))
              refine JL.nil ?_
              refine hK _ _ _ (stab_of (hleH_40.trans hleu_43) ⟨⟨3, rfl⟩, trivial⟩) ?_
              refine JA.one (i := 12) (by kernel_rfl) ?_
              refine JO.step rfl trivial rfl (fun K hK => ?_)
              refine JL.store 4 S25 rfl rfl rfl rfl rfl (Nat.le_of_ble_eq_true rfl) ?_
              refine JL.nil ?_
              refine hK _ _ _ (stab_of (hleH_40.trans hleu_43) ⟨⟨3, rfl⟩, trivial⟩) ?_
              refine JA.val ⟨by kernel_rfl, by kernel_rfl⟩ (calm_only _) (i := 13) rfl ⟨by kernel_rfl, by kernel_rfl, rfl⟩ trivial (stab_of (hleH_40.trans hleu_43) ⟨⟨3, rfl⟩, trivial⟩) (R.assign rfl) rfl ?_
              refine JA.doneN (by kernel_rfl) ?_
              obtain rfl := Option.some.inj hx
              refine JN.forget 3 ?_
              refine JN.forget 2 ?_
              refine JN.front 1 rfl ?_
              refine JN.front 1 rfl ?_
              refine JN.front 2 rfl ?_
              exact JN.cut ⟨Hu_43, aor_44, nr_44, capr_44, Kr_44, aor_45, nr_45, capr_45, Kr_45, rfl, rfl, rfl, ((hleH_40.trans hleu_43)), hr_44, hr_45⟩ ⟨rfl, rfl, trivial⟩ rfl rfl
            · refine JO.step rfl trivial rfl (fun K hK => ?_)
              refine JL.val rfl rfl (R.bldP (vs := [(0, .int .i64 p_4), (1, .slice aoa_6 na_6 capa_6)]) (cs := [.int .i64 p_4, .slice aoa_6 na_6 capa_6]) Z47 B47 rfl rfl rfl) ?_
              refine JL.nil ?_
              refine hK _ _ _ (stab_of (Hle.refl _) ⟨⟨0, rfl⟩, trivial⟩) ?_
              refine JA.two (i := 4) (j := 8) (by kernel_rfl) ?_ ?_
              · refine JO.step rfl trivial rfl (fun K hK => ?_)
                refine JL.callC (vs := [_]) (args := [_]) (K := []) (rst := [_, _]) E42 rfl rfl rfl picks0 (slices_Clip_Write_ok t_9.2.1 _ hz_24 _ hr_32) rfl (fun u_33 Ku_33 Hu_33 hRu_33 hleu_33 hfu_33 => ?_)
                obtain ⟨aoz_34, nz_34, rfl, rfl, rfl, hz_34, -⟩ := hRu_33
                refine JL.nil ?_
                refine hK _ _ _ (stab_of (Hle.refl _) ⟨⟨0, rfl⟩, trivial⟩) ?_
                refine JA.one (i := 8) (by kernel_rfl) ?_
                refine JO.step rfl trivial rfl (fun K hK => ?_)
                refine JL.bslF (HF := H) (R := R_Write) (ls := [Write.mk p_4 p_5]) (vs := [.agg #[.int .i64 p_4, .slice aoa_6 na_6 capa_6]]) U23 I47 rfl rfl (⟨_, _, rfl, rfl, ⟨_, rfl, ha_6⟩, rfl⟩) R_Write.one rfl rfl rfl (by simp [maxLen]) rfl (fun vr_35 Kr_35 hr_35 => ?_)
                obtain ⟨aor_35, capr_35, rfl⟩ := RowOf.val hr_35
                refine JL.nil ?_
                refine hK _ _ _ (stab_of (Hle.refl _) ⟨⟨1, rfl⟩, trivial⟩) ?_
                refine JA.one (i := 9) (by kernel_rfl) ?_
                refine JO.step rfl trivial rfl (fun K hK => ?_)
                refine JL.appC (HF := H) U23 I47 rfl R_Write.one (Hle.refl _) hz_34 (fun _ _ h => h) rfl (SrcF.row 0 U23 rfl hr_35) (List.cons_ne_nil _ _) hm_37 hl_38 rfl rfl (fun vr_39 Kr_39 hr_39 => ?_)
                obtain ⟨aor_39, capr_39, rfl⟩ := RowOf.val hr_39
                refine JL.nil ?_
                refine hK _ _ _ (stab_of (Hle.refl _) ⟨⟨2, rfl⟩, trivial⟩) ?_
                refine JA.one (i := 10) (by kernel_rfl) ?_
                refine JO.step rfl trivial rfl (fun K hK => ?_)
                refine JL.val rfl rfl (R.bldP (vs := [(0, .slice aoz_23 nz_23 capz_23), (1, .slice aor_39 q_36.length capr_39)]) (cs := [.slice aoz_23 nz_23 capz_23, .slice aor_39 q_36.length capr_39]) Z25 B25 rfl rfl rfl) ?_
                refine JL.nil ?_
                refine hK _ _ _ (stab_of (Hle.refl _) ⟨⟨2, rfl⟩, trivial⟩) ?_
                refine JA.one (i := 11) (by kernel_rfl) ?_
                refine JO.step rfl trivial rfl (fun K hK => ?_)
                refine JL.pub 0 R_Write.mono rfl hr_39 (Nat.le_refl _) (fun H_40 hleH_40 hsH_40 => ?_)
                refine JL.forget 0 ?_
                refine JL.callC (vs := [_]) (args := [_]) (K := []) (rst := [_, _, _]) E41 rfl rfl rfl picks0 (dev_Twin_ok (Disk.mk t_9.1 q_36) _ (hz_23.mono (RSl.mono RU8.mono) hleH_40) hsH_40 _ hr_42) rfl (fun u_43 Ku_43 Hu_43 hRu_43 hleu_43 hfu_43 => ?_)
                obtain ⟨aor_44, nr_44, capr_44, Kr_44, aor_45, nr_45, capr_45, Kr_45, rfl, rfl, hr_44, hnewr_44, hr_45, hnewr_45, -⟩ := hRu_43
                replace hr_44 := (Pcs.base hr_44 (fun p hp => (hfu_43 p (mem_seg 0 rfl hp)).resolve_left (hnewr_44 p hp)))
                replace hr_45 := (RowOf.base (RowOf.mono R_Write.mono (New.call hleH_40) hr_45) (fun p hp => (hfu_43 p (mem_seg 1 rfl hp)).resolve_left (hnewr_45 p hp)))
                refine JL.nil ?_
                refine hK _ _ _ (stab_of (hleH_40.trans hleu_43) ⟨⟨3, rfl⟩, trivial⟩) ?_
                refine JA.one (i := 12) (by kernel_rfl) ?_
                refine JO.step rfl trivial rfl (fun K hK => ?_)
                refine JL.store 4 S25 rfl rfl rfl rfl rfl (Nat.le_of_ble_eq_true rfl) ?_
                refine JL.nil ?_
                refine hK _ _ _ (stab_of (hleH_40.trans hleu_43) ⟨⟨3, rfl⟩, trivial⟩) ?_
                refine JA.val ⟨by kernel_rfl, by kernel_rfl⟩ (calm_only _) (i := 13) rfl ⟨by kernel_rfl, by kernel_rfl, rfl⟩ trivial (stab_of (hleH_40.trans hleu_43) ⟨⟨3, rfl⟩, trivial⟩) (R.assign rfl) rfl ?_
                refine JA.doneN (by kernel_rfl) ?_
                obtain rfl := Option.some.inj hx
                refine JN.forget 3 ?_
                refine JN.forget 2 ?_
                refine JN.front 1 rfl ?_
                refine JN.front 1 rfl ?_
                refine JN.front 2 rfl ?_
                exact JN.cut ⟨Hu_43, aor_44, nr_44, capr_44, Kr_44, aor_45, nr_45, capr_45, Kr_45, rfl, rfl, rfl, ((hleH_40.trans hleu_43)), hr_44, hr_45⟩ ⟨rfl, rfl, trivial⟩ rfl rfl
              · refine JO.step rfl trivial rfl (fun K hK => ?_)
                refine JL.bslF (HF := H) (R := R_Write) (ls := [Write.mk p_4 p_5]) (vs := [.agg #[.int .i64 p_4, .slice aoa_6 na_6 capa_6]]) U23 I47 rfl rfl (⟨_, _, rfl, rfl, ⟨_, rfl, ha_6⟩, rfl⟩) R_Write.one rfl rfl rfl (by simp [maxLen]) rfl (fun vr_35 Kr_35 hr_35 => ?_)
                obtain ⟨aor_35, capr_35, rfl⟩ := RowOf.val hr_35
                refine JL.nil ?_
                refine hK _ _ _ (stab_of (Hle.refl _) ⟨⟨1, rfl⟩, trivial⟩) ?_
                refine JA.one (i := 4) (by kernel_rfl) ?_
                refine JO.step rfl trivial rfl (fun K hK => ?_)
                refine JL.callC (vs := [_]) (args := [_]) (K := []) (rst := [_, _, _]) E42 rfl rfl rfl picks0 (slices_Clip_Write_ok t_9.2.1 _ hz_24 _ hr_32) rfl (fun u_33 Ku_33 Hu_33 hRu_33 hleu_33 hfu_33 => ?_)
                obtain ⟨aoz_34, nz_34, rfl, rfl, rfl, hz_34, -⟩ := hRu_33
                refine JL.nil ?_
                refine hK _ _ _ (stab_of (Hle.refl _) ⟨⟨1, rfl⟩, trivial⟩) ?_
                refine JA.one (i := 9) (by kernel_rfl) ?_
                refine JO.step rfl trivial rfl (fun K hK => ?_)
                refine JL.appC (HF := H) U23 I47 rfl R_Write.one (Hle.refl _) hz_34 (fun _ _ h => h) rfl (SrcF.row 0 U23 rfl hr_35) (List.cons_ne_nil _ _) hm_37 hl_38 rfl rfl (fun vr_39 Kr_39 hr_39 => ?_)
                obtain ⟨aor_39, capr_39, rfl⟩ := RowOf.val hr_39
                refine JL.nil ?_
                refine hK _ _ _ (stab_of (Hle.refl _) ⟨⟨2, rfl⟩, trivial⟩) ?_
                refine JA.one (i := 10) (by kernel_rfl) ?_
                refine JO.step rfl trivial rfl (fun K hK => ?_)
                refine JL.val rfl rfl (R.bldP (vs := [(0, .slice aoz_23 nz_23 capz_23), (1, .slice aor_39 q_36.length capr_39)]) (cs := [.slice aoz_23 nz_23 capz_23, .slice aor_39 q_36.length capr_39]) Z25 B25 rfl rfl rfl) ?_
                refine JL.nil ?_
                refine hK _ _ _ (stab_of (Hle.refl _) ⟨⟨2, rfl⟩, trivial⟩) ?_
                refine JA.one (i := 11) (by kernel_rfl) ?_
                refine JO.step rfl trivial rfl (fun K hK => ?_)
                refine JL.pub 0 R_Write.mono rfl hr_39 (Nat.le_refl _) (fun H_40 hleH_40 hsH_40 => ?_)
                refine JL.forget 0 ?_
                refine JL.callC (vs := [_]) (args := [_]) (K := []) (rst := [_, _, _]) E41 rfl rfl rfl picks0 (dev_Twin_ok (Disk.mk t_9.1 q_36) _ (hz_23.mono (RSl.mono RU8.mono) hleH_40) hsH_40 _ hr_42) rfl (fun u_43 Ku_43 Hu_43 hRu_43 hleu_43 hfu_43 => ?_)
                obtain ⟨aor_44, nr_44, capr_44, Kr_44, aor_45, nr_45, capr_45, Kr_45, rfl, rfl, hr_44, hnewr_44, hr_45, hnewr_45, -⟩ := hRu_43
                replace hr_44 := (Pcs.base hr_44 (fun p hp => (hfu_43 p (mem_seg 0 rfl hp)).resolve_left (hnewr_44 p hp)))
                replace hr_45 := (RowOf.base (RowOf.mono R_Write.mono (New.call hleH_40) hr_45) (fun p hp => (hfu_43 p (mem_seg 1 rfl hp)).resolve_left (hnewr_45 p hp)))
                refine JL.nil ?_
                refine hK _ _ _ (stab_of (hleH_40.trans hleu_43) ⟨⟨3, rfl⟩, trivial⟩) ?_
                refine JA.one (i := 12) (by kernel_rfl) ?_
                refine JO.step rfl trivial rfl (fun K hK => ?_)
                refine JL.store 4 S25 rfl rfl rfl rfl rfl (Nat.le_of_ble_eq_true rfl) ?_
                refine JL.nil ?_
                refine hK _ _ _ (stab_of (hleH_40.trans hleu_43) ⟨⟨3, rfl⟩, trivial⟩) ?_
                refine JA.val ⟨by kernel_rfl, by kernel_rfl⟩ (calm_only _) (i := 13) rfl ⟨by kernel_rfl, by kernel_rfl, rfl⟩ trivial (stab_of (hleH_40.trans hleu_43) ⟨⟨3, rfl⟩, trivial⟩) (R.assign rfl) rfl ?_
                refine JA.doneN (by kernel_rfl) ?_
                obtain rfl := Option.some.inj hx
                refine JN.forget 3 ?_
                refine JN.forget 2 ?_
                refine JN.front 1 rfl ?_
                refine JN.front 1 rfl ?_
                refine JN.front 2 rfl ?_
                exact JN.cut ⟨Hu_43, aor_44, nr_44, capr_44, Kr_44, aor_45, nr_45, capr_45, Kr_45, rfl, rfl, rfl, ((hleH_40.trans hleu_43)), hr_44, hr_45⟩ ⟨rfl, rfl, trivial⟩ rfl rfl
  · have hxo_10 := hx; clear hx; have hx := ht_11; clear ht_11
    refine JC.draw (so := [_]) 11 rfl Mixed ⟨⟨0, rfl⟩, trivial⟩ ?_
    refine JA.val ⟨by kernel_rfl, by kernel_rfl⟩ (calm_only _) (i := 1) rfl ⟨by kernel_rfl, by kernel_rfl, rfl⟩ trivial (stab_of (Hle.refl _) ⟨⟨0, rfl⟩, trivial⟩) (R.move rfl) rfl ?_
    refine JA.val ⟨by kernel_rfl, by kernel_rfl⟩ (calm_only _) (i := 3) rfl ⟨by kernel_rfl, by kernel_rfl, rfl⟩ trivial (stab_of (Hle.refl _) ⟨⟨0, rfl⟩, trivial⟩) (R.func (vf := []) (vc := [_]) rfl rfl) rfl ?_
    obtain ⟨x_12, hr_13, hx⟩ := bnd_some hx
    obtain ⟨x_15, hr_16, hx⟩ := bnd_some hx
    refine JA.three (i := 0) (j := 2) (m := 8) (by kernel_rfl) ?_ ?_ ?_
    · refine JO.step rfl trivial rfl (fun K hK => ?_)
      refine JL.val rfl rfl (R.ldoN 1 (vs := [.slice aoa_2 na_2 capa_2, .slice aoa_3 na_3 capa_3]) S25 rfl rfl rfl rfl) ?_
      refine JL.nil ?_
      refine hK _ _ _ (stab_of (Hle.refl _) ⟨⟨0, rfl⟩, trivial⟩) ?_
      refine JA.two (i := 2) (j := 8) (by kernel_rfl) ?_ ?_
      · refine JO.step rfl trivial rfl (fun K hK => ?_)
        refine JL.callC (vs := [_]) (args := [_]) (K := []) (rst := [_, _]) E39 rfl rfl rfl picks0 (dev_place_ok p_4 _ _ hr_13) rfl (fun u_14 Ku_14 Hu_14 hRu_14 hleu_14 hfu_14 => ?_)
        obtain ⟨rfl, rfl, rfl, -⟩ := hRu_14
        refine JL.nil ?_
        refine hK _ _ _ (stab_of (Hle.refl _) ⟨⟨0, rfl⟩, trivial⟩) ?_
        refine JA.two (i := 4) (j := 8) (by kernel_rfl) ?_ ?_
        · refine JO.step rfl trivial rfl (fun K hK => ?_)
          refine JL.callC (vs := [_, _, _]) (args := [_, _, _]) (K := [_]) (rst := [_]) E38 rfl rfl rfl (picks 1 rfl picks0) (dev_guarded_ok p_1 x_12 p_1 _ ha_2 ha_3 ha_2 ha_3 _ hr_16) rfl (fun u_17 Ku_17 Hu_17 hRu_17 hleu_17 hfu_17 => ?_)
          obtain ⟨aoz_18, nz_18, capz_18, aoz_19, nz_19, capz_19, aoz_20, nz_20, capz_20, aoz_21, nz_21, capz_21, rfl, rfl, rfl, hz_18, hz_19, hz_20, hz_21, -⟩ := hRu_17
          refine JL.nil ?_
          refine hK _ _ _ (stab_of (Hle.refl _) ⟨⟨1, rfl⟩, trivial⟩) ?_
          refine JA.val ⟨by kernel_rfl, by kernel_rfl⟩ (calm_only _) (i := 5) rfl ⟨by kernel_rfl, by kernel_rfl, rfl⟩ trivial (stab_of (Hle.refl _) ⟨⟨1, rfl⟩, trivial⟩) (R.move rfl) rfl ?_
          refine JA.val ⟨by kernel_rfl, by kernel_rfl⟩ (calm_only _) (i := 6) rfl ⟨by kernel_rfl, by kernel_rfl, rfl⟩ trivial (stab_of (Hle.refl _) ⟨⟨1, rfl⟩, trivial⟩) (R.extract rfl rfl) rfl ?_
          refine JA.val ⟨by kernel_rfl, by kernel_rfl⟩ (calm_only _) (i := 7) rfl ⟨by kernel_rfl, by kernel_rfl, rfl⟩ trivial (stab_of (Hle.refl _) ⟨⟨1, rfl⟩, trivial⟩) (R.extract rfl rfl) rfl ?_
          refine JA.one (i := 8) (by kernel_rfl) ?_
          refine JO.step rfl trivial rfl (fun K hK => ?_)
          refine JL.alloc Z25 rfl (fun b_22 hb_22 => ?_)
          refine JL.nil ?_
          refine hK _ _ _ (stab_of (Hle.refl _) ⟨⟨2, rfl⟩, trivial⟩) ?_
          refine JA.one (i := 9) (by kernel_rfl) ?_
          refine JO.step rfl trivial rfl (fun K hK => ?_)
          refine JL.store 0 S25 rfl rfl rfl rfl rfl (Nat.le_of_ble_eq_true rfl) ?_
          refine JL.nil ?_
          refine hK _ _ _ (stab_of (Hle.refl _) ⟨⟨2, rfl⟩, trivial⟩) ?_
          refine JA.val ⟨by kernel_rfl, by kernel_rfl⟩ (calm_only _) (i := 10) rfl ⟨by kernel_rfl, by kernel_rfl, rfl⟩ trivial (stab_of (Hle.refl _) ⟨⟨2, rfl⟩, trivial⟩) (R.assign rfl) rfl ?_
          refine JA.doneN (by kernel_rfl) ?_
          obtain rfl := Option.some.inj hx
          refine JN.forget 0 ?_
          refine JN.front 1 rfl ?_
          refine JN.front 1 rfl ?_
          exact JN.cut ⟨aoz_18, nz_18, capz_18, aoz_19, nz_19, capz_19, rfl, rfl, rfl, hz_18, hz_19⟩ ⟨rfl, rfl, rfl, rfl, rfl, trivial⟩ rfl rfl
        · refine JO.step rfl trivial rfl (fun K hK => ?_)
          refine JL.alloc Z25 rfl (fun b_22 hb_22 => ?_)
          refine JL.nil ?_
          refine hK _ _ _ (stab_of (Hle.refl _) ⟨⟨1, rfl⟩, trivial⟩) ?_
          refine JA.one (i := 4) (by kernel_rfl) ?_
          refine JO.step rfl trivial rfl (fun K hK => ?_)
          refine JL.callC (vs := [_, _, _]) (args := [_, _, _]) (K := [_]) (rst := [_, _]) E38 rfl rfl rfl (picks 2 rfl picks0) (dev_guarded_ok p_1 x_12 p_1 _ ha_2 ha_3 ha_2 ha_3 _ hr_16) rfl (fun u_17 Ku_17 Hu_17 hRu_17 hleu_17 hfu_17 => ?_)
          obtain ⟨aoz_18, nz_18, capz_18, aoz_19, nz_19, capz_19, aoz_20, nz_20, capz_20, aoz_21, nz_21, capz_21, rfl, rfl, rfl, hz_18, hz_19, hz_20, hz_21, -⟩ := hRu_17
          refine JL.nil ?_
          refine hK _ _ _ (stab_of (Hle.refl _) ⟨⟨2, rfl⟩, trivial⟩) ?_
          refine JA.val ⟨by kernel_rfl, by kernel_rfl⟩ (calm_only _) (i := 5) rfl ⟨by kernel_rfl, by kernel_rfl, rfl⟩ trivial (stab_of (Hle.refl _) ⟨⟨2, rfl⟩, trivial⟩) (R.move rfl) rfl ?_
          refine JA.val ⟨by kernel_rfl, by kernel_rfl⟩ (calm_only _) (i := 6) rfl ⟨by kernel_rfl, by kernel_rfl, rfl⟩ trivial (stab_of (Hle.refl _) ⟨⟨2, rfl⟩, trivial⟩) (R.extract rfl rfl) rfl ?_
          refine JA.val ⟨by kernel_rfl, by kernel_rfl⟩ (calm_only _) (i := 7) rfl ⟨by kernel_rfl, by kernel_rfl, rfl⟩ trivial (stab_of (Hle.refl _) ⟨⟨2, rfl⟩, trivial⟩) (R.extract rfl rfl) rfl ?_
          refine JA.one (i := 9) (by kernel_rfl) ?_
          refine JO.step rfl trivial rfl (fun K hK => ?_)
          refine JL.store 1 S25 rfl rfl rfl rfl rfl (Nat.le_of_ble_eq_true rfl) ?_
          refine JL.nil ?_
          refine hK _ _ _ (stab_of (Hle.refl _) ⟨⟨2, rfl⟩, trivial⟩) ?_
          refine JA.val ⟨by kernel_rfl, by kernel_rfl⟩ (calm_only _) (i := 10) rfl ⟨by kernel_rfl, by kernel_rfl, rfl⟩ trivial (stab_of (Hle.refl _) ⟨⟨2, rfl⟩, trivial⟩) (R.assign rfl) rfl ?_
          refine JA.doneN (by kernel_rfl) ?_
          obtain rfl := Option.some.inj hx
          refine JN.forget 1 ?_
          refine JN.front 1 rfl ?_
          refine JN.front 1 rfl ?_
          exact JN.cut ⟨aoz_18, nz_18, capz_18, aoz_19, nz_19, capz_19, rfl, rfl, rfl, hz_18, hz_19⟩ ⟨rfl, rfl, rfl, rfl, rfl, trivial⟩ rfl rfl
      · refine JO.step rfl trivial rfl (fun K hK => ?_)
        refine JL.alloc Z25 rfl (fun b_22 hb_22 => ?_)
        refine JL.nil ?_
        refine hK _ _ _ (stab_of (Hle.refl _) ⟨⟨1, rfl⟩, trivial⟩) ?_
        refine JA.one (i := 2) (by kernel_rfl) ?_
        refine JO.step rfl trivial rfl (fun K hK => ?_)
        refine JL.callC (vs := [_]) (args := [_]) (K := []) (rst := [_, _, _]) E39 rfl rfl rfl picks0 (dev_place_ok p_4 _ _ hr_13) rfl (fun u_14 Ku_14 Hu_14 hRu_14 hleu_14 hfu_14 => ?_)
        obtain ⟨rfl, rfl, rfl, -⟩ := hRu_14
        refine JL.nil ?_
        refine hK _ _ _ (stab_of (Hle.refl _) ⟨⟨1, rfl⟩, trivial⟩) ?_
        refine JA.one (i := 4) (by kernel_rfl) ?_
        refine JO.step rfl trivial rfl (fun K hK => ?_)
        refine JL.callC (vs := [_, _, _]) (args := [_, _, _]) (K := [_]) (rst := [_, _]) E38 rfl rfl rfl (picks 2 rfl picks0) (dev_guarded_ok p_1 x_12 p_1 _ ha_2 ha_3 ha_2 ha_3 _ hr_16) rfl (fun u_17 Ku_17 Hu_17 hRu_17 hleu_17 hfu_17 => ?_)
        obtain ⟨aoz_18, nz_18, capz_18, aoz_19, nz_19, capz_19, aoz_20, nz_20, capz_20, aoz_21, nz_21, capz_21, rfl, rfl, rfl, hz_18, hz_19, hz_20, hz_21, -⟩ := hRu_17
        refine JL.nil ?_
        refine hK _ _ _ (stab_of (Hle.refl _) ⟨⟨2, rfl⟩, trivial⟩) ?_
        refine JA.val ⟨by kernel_rfl, by kernel_rfl⟩ (calm_only _) (i := 5) rfl ⟨by kernel_rfl, by kernel_rfl, rfl⟩ trivial (stab_of (Hle.refl _) ⟨⟨2, rfl⟩, trivial⟩) (R.move rfl) rfl ?_
        refine JA.val ⟨by kernel_rfl, by kernel_rfl⟩ (calm_only _) (i := 6) rfl ⟨by kernel_rfl, by kernel_rfl, rfl⟩ trivial (stab_of (Hle.refl _) ⟨⟨2, rfl⟩, trivial⟩) (R.extract rfl rfl) rfl ?_
        refine JA.val ⟨by kernel_rfl, by kernel_rfl⟩ (calm_only _) (i := 7) rfl ⟨by kernel_rfl, by kernel_rfl, rfl⟩ trivial (stab_of (Hle.refl _) ⟨⟨2, rfl⟩, trivial⟩) (R.extract rfl rfl) rfl ?_
        refine JA.one (i := 9) (by kernel_rfl) ?_
        refine JO.step rfl trivial rfl (fun K hK => ?_)
        refine JL.store 1 S25 rfl rfl rfl rfl rfl (Nat.le_of_ble_eq_true rfl) ?_
        refine JL.nil ?_
        refine hK _ _ _ (stab_of (Hle.refl _) ⟨⟨2, rfl⟩, trivial⟩) ?_
        refine JA.val ⟨by kernel_rfl, by kernel_rfl⟩ (calm_only _) (i := 10) rfl ⟨by kernel_rfl, by kernel_rfl, rfl⟩ trivial (stab_of (Hle.refl _) ⟨⟨2, rfl⟩, trivial⟩) (R.assign rfl) rfl ?_
        refine JA.doneN (by kernel_rfl) ?_
        obtain rfl := Option.some.inj hx
        refine JN.forget 1 ?_
        refine JN.front 1 rfl ?_
        refine JN.front 1 rfl ?_
        exact JN.cut ⟨aoz_18, nz_18, capz_18, aoz_19, nz_19, capz_19, rfl, rfl, rfl, hz_18, hz_19⟩ ⟨rfl, rfl, rfl, rfl, rfl, trivial⟩ rfl rfl
    · refine JO.step rfl trivial rfl (fun K hK => ?_)
      refine JL.callC (vs := [_]) (args := [_]) (K := []) (rst := [_, _]) E39 rfl rfl rfl picks0 (dev_place_ok p_4 _ _ hr_13) rfl (fun u_14 Ku_14 Hu_14 hRu_14 hleu_14 hfu_14 => ?_)
      obtain ⟨rfl, rfl, rfl, -⟩ := hRu_14
      refine JL.nil ?_
      refine hK _ _ _ (stab_of (Hle.refl _) ⟨⟨0, rfl⟩, trivial⟩) ?_
      refine JA.two (i := 0) (j := 8) (by kernel_rfl) ?_ ?_
      · refine JO.step rfl trivial rfl (fun K hK => ?_)
        refine JL.val rfl rfl (R.ldoN 1 (vs := [.slice aoa_2 na_2 capa_2, .slice aoa_3 na_3 capa_3]) S25 rfl rfl rfl rfl) ?_
        refine JL.nil ?_
        refine hK _ _ _ (stab_of (Hle.refl _) ⟨⟨0, rfl⟩, trivial⟩) ?_
        refine JA.two (i := 4) (j := 8) (by kernel_rfl) ?_ ?_
        · refine JO.step rfl trivial rfl (fun K hK => ?_)
          refine JL.callC (vs := [_, _, _]) (args := [_, _, _]) (K := [_]) (rst := [_]) E38 rfl rfl rfl (picks 1 rfl picks0) (dev_guarded_ok p_1 x_12 p_1 _ ha_2 ha_3 ha_2 ha_3 _ hr_16) rfl (fun u_17 Ku_17 Hu_17 hRu_17 hleu_17 hfu_17 => ?_)
          obtain ⟨aoz_18, nz_18, capz_18, aoz_19, nz_19, capz_19, aoz_20, nz_20, capz_20, aoz_21, nz_21, capz_21, rfl, rfl, rfl, hz_18, hz_19, hz_20, hz_21, -⟩ := hRu_17
          refine JL.nil ?_
          refine hK _ _ _ (stab_of (Hle.refl _) ⟨⟨1, rfl⟩, trivial⟩) ?_
          refine JA.val ⟨by kernel_rfl, by kernel_rfl⟩ (calm_only _) (i := 5) rfl ⟨by kernel_rfl, by kernel_rfl, rfl⟩ trivial (stab_of (Hle.refl _) ⟨⟨1, rfl⟩, trivial⟩) (R.move rfl) rfl ?_
          refine JA.val ⟨by kernel_rfl, by kernel_rfl⟩ (calm_only _) (i := 6) rfl ⟨by kernel_rfl, by kernel_rfl, rfl⟩ trivial (stab_of (Hle.refl _) ⟨⟨1, rfl⟩, trivial⟩) (R.extract rfl rfl) rfl ?_
          refine JA.val ⟨by kernel_rfl, by kernel_rfl⟩ (calm_only _) (i := 7) rfl ⟨by kernel_rfl, by kernel_rfl, rfl⟩ trivial (stab_of (Hle.refl _) ⟨⟨1, rfl⟩, trivial⟩) (R.extract rfl rfl) rfl ?_
          refine JA.one (i := 8) (by kernel_rfl) ?_
          refine JO.step rfl trivial rfl (fun K hK => ?_)
          refine JL.alloc Z25 rfl (fun b_22 hb_22 => ?_)
          refine JL.nil ?_
          refine hK _ _ _ (stab_of (Hle.refl _) ⟨⟨2, rfl⟩, trivial⟩) ?_
          refine JA.one (i := 9) (by kernel_rfl) ?_
          refine JO.step rfl trivial rfl (fun K hK => ?_)
          refine JL.store 0 S25 rfl rfl rfl rfl rfl (Nat.le_of_ble_eq_true rfl) ?_
          refine JL.nil ?_
          refine hK _ _ _ (stab_of (Hle.refl _) ⟨⟨2, rfl⟩, trivial⟩) ?_
          refine JA.val ⟨by kernel_rfl, by kernel_rfl⟩ (calm_only _) (i := 10) rfl ⟨by kernel_rfl, by kernel_rfl, rfl⟩ trivial (stab_of (Hle.refl _) ⟨⟨2, rfl⟩, trivial⟩) (R.assign rfl) rfl ?_
          refine JA.doneN (by kernel_rfl) ?_
          obtain rfl := Option.some.inj hx
          refine JN.forget 0 ?_
          refine JN.front 1 rfl ?_
          refine JN.front 1 rfl ?_
          exact JN.cut ⟨aoz_18, nz_18, capz_18, aoz_19, nz_19, capz_19, rfl, rfl, rfl, hz_18, hz_19⟩ ⟨rfl, rfl, rfl, rfl, rfl, trivial⟩ rfl rfl
        · refine JO.step rfl trivial rfl (fun K hK => ?_)
          refine JL.alloc Z25 rfl (fun b_22 hb_22 => ?_)
          refine JL.nil ?_
          refine hK _ _ _ (stab_of (Hle.refl _) ⟨⟨1, rfl⟩, trivial⟩) ?_
          refine JA.one (i := 4) (by kernel_rfl) ?_
          refine JO.step rfl trivial rfl (fun K hK => ?_)
          refine JL.callC (vs := [_, _, _]) (args := [_, _, _]) (K := [_]) (rst := [_, _]) E38 rfl rfl rfl (picks 2 rfl picks0) (dev_guarded_ok p_1 x_12 p_1 _ ha_2 ha_3 ha_2 ha_3 _ hr_16) rfl (fun u_17 Ku_17 Hu_17 hRu_17 hleu_17 hfu_17 => ?_)
          obtain ⟨aoz_18, nz_18, capz_18, aoz_19, nz_19, capz_19, aoz_20, nz_20, capz_20, aoz_21, nz_21, capz_21, rfl, rfl, rfl, hz_18, hz_19, hz_20, hz_21, -⟩ := hRu_17
          refine JL.nil ?_
          refine hK _ _ _ (stab_of (Hle.refl _) ⟨⟨2, rfl⟩, trivial⟩) ?_
          refine JA.val ⟨by kernel_rfl, by kernel_rfl⟩ (calm_only _) (i := 5) rfl ⟨by kernel_rfl, by kernel_rfl, rfl⟩ trivial (stab_of (Hle.refl _) ⟨⟨2, rfl⟩, trivial⟩) (R.move rfl) rfl ?_
          refine JA.val ⟨by kernel_rfl, by kernel_rfl⟩ (calm_only _) (i := 6) rfl ⟨by kernel_rfl, by kernel_rfl, rfl⟩ trivial (stab_of (Hle.refl _) ⟨⟨2, rfl⟩, trivial⟩) (R.extract rfl rfl) rfl ?_
          refine JA.val ⟨by kernel_rfl, by kernel_rfl⟩ (calm_only _) (i := 7) rfl ⟨by kernel_rfl, by kernel_rfl, rfl⟩ trivial (stab_of (Hle.refl _) ⟨⟨2, rfl⟩, trivial⟩) (R.extract rfl rfl) rfl ?_
          refine JA.one (i := 9) (by kernel_rfl) ?_
          refine JO.step rfl trivial rfl (fun K hK => ?_)
          refine JL.store 1 S25 rfl rfl rfl rfl rfl (Nat.le_of_ble_eq_true rfl) ?_
          refine JL.nil ?_
          refine hK _ _ _ (stab_of (Hle.refl _) ⟨⟨2, rfl⟩, trivial⟩) ?_
          refine JA.val ⟨by kernel_rfl, by kernel_rfl⟩ (calm_only _) (i := 10) rfl ⟨by kernel_rfl, by kernel_rfl, rfl⟩ trivial (stab_of (Hle.refl _) ⟨⟨2, rfl⟩, trivial⟩) (R.assign rfl) rfl ?_
          refine JA.doneN (by kernel_rfl) ?_
          obtain rfl := Option.some.inj hx
          refine JN.forget 1 ?_
          refine JN.front 1 rfl ?_
          refine JN.front 1 rfl ?_
          exact JN.cut ⟨aoz_18, nz_18, capz_18, aoz_19, nz_19, capz_19, rfl, rfl, rfl, hz_18, hz_19⟩ ⟨rfl, rfl, rfl, rfl, rfl, trivial⟩ rfl rfl
      · refine JO.step rfl trivial rfl (fun K hK => ?_)
        refine JL.alloc Z25 rfl (fun b_22 hb_22 => ?_)
        refine JL.nil ?_
        refine hK _ _ _ (stab_of (Hle.refl _) ⟨⟨1, rfl⟩, trivial⟩) ?_
        refine JA.one (i := 0) (by kernel_rfl) ?_
        refine JO.step rfl trivial rfl (fun K hK => ?_)
        refine JL.val rfl rfl (R.ldoN 2 (vs := [.slice aoa_2 na_2 capa_2, .slice aoa_3 na_3 capa_3]) S25 rfl rfl rfl rfl) ?_
        refine JL.nil ?_
        refine hK _ _ _ (stab_of (Hle.refl _) ⟨⟨1, rfl⟩, trivial⟩) ?_
        refine JA.one (i := 4) (by kernel_rfl) ?_
        refine JO.step rfl trivial rfl (fun K hK => ?_)
        refine JL.callC (vs := [_, _, _]) (args := [_, _, _]) (K := [_]) (rst := [_, _]) E38 rfl rfl rfl (picks 2 rfl picks0) (dev_guarded_ok p_1 x_12 p_1 _ ha_2 ha_3 ha_2 ha_3 _ hr_16) rfl (fun u_17 Ku_17 Hu_17 hRu_17 hleu_17 hfu_17 => ?_)
        obtain ⟨aoz_18, nz_18, capz_18, aoz_19, nz_19, capz_19, aoz_20, nz_20, capz_20, aoz_21, nz_21, capz_21, rfl, rfl, rfl, hz_18, hz_19, hz_20, hz_21, -⟩ := hRu_17
        refine JL.nil ?_
        refine hK _ _ _ (stab_of (Hle.refl _) ⟨⟨2, rfl⟩, trivial⟩) ?_
        refine JA.val ⟨by kernel_rfl, by kernel_rfl⟩ (calm_only _) (i := 5) rfl ⟨by kernel_rfl, by kernel_rfl, rfl⟩ trivial (stab_of (Hle.refl _) ⟨⟨2, rfl⟩, trivial⟩) (R.move rfl) rfl ?_
        refine JA.val ⟨by kernel_rfl, by kernel_rfl⟩ (calm_only _) (i := 6) rfl ⟨by kernel_rfl, by kernel_rfl, rfl⟩ trivial (stab_of (Hle.refl _) ⟨⟨2, rfl⟩, trivial⟩) (R.extract rfl rfl) rfl ?_
        refine JA.val ⟨by kernel_rfl, by kernel_rfl⟩ (calm_only _) (i := 7) rfl ⟨by kernel_rfl, by kernel_rfl, rfl⟩ trivial (stab_of (Hle.refl _) ⟨⟨2, rfl⟩, trivial⟩) (R.extract rfl rfl) rfl ?_
        refine JA.one (i := 9) (by kernel_rfl) ?_
        refine JO.step rfl trivial rfl (fun K hK => ?_)
        refine JL.store 1 S25 rfl rfl rfl rfl rfl (Nat.le_of_ble_eq_true rfl) ?_
        refine JL.nil ?_
        refine hK _ _ _ (stab_of (Hle.refl _) ⟨⟨2, rfl⟩, trivial⟩) ?_
        refine JA.val ⟨by kernel_rfl, by kernel_rfl⟩ (calm_only _) (i := 10) rfl ⟨by kernel_rfl, by kernel_rfl, rfl⟩ trivial (stab_of (Hle.refl _) ⟨⟨2, rfl⟩, trivial⟩) (R.assign rfl) rfl ?_
        refine JA.doneN (by kernel_rfl) ?_
        obtain rfl := Option.some.inj hx
        refine JN.forget 1 ?_
        refine JN.front 1 rfl ?_
        refine JN.front 1 rfl ?_
        exact JN.cut ⟨aoz_18, nz_18, capz_18, aoz_19, nz_19, capz_19, rfl, rfl, rfl, hz_18, hz_19⟩ ⟨rfl, rfl, rfl, rfl, rfl, trivial⟩ rfl rfl
    · refine JO.step rfl trivial rfl (fun K hK => ?_)
      refine JL.alloc Z25 rfl (fun b_22 hb_22 => ?_)
      refine JL.nil ?_
      refine hK _ _ _ (stab_of (Hle.refl _) ⟨⟨1, rfl⟩, trivial⟩) ?_
      refine JA.two (i := 0) (j := 2) (by kernel_rfl) ?_ ?_
      · refine JO.step rfl trivial rfl (fun K hK => ?_)
        refine JL.val rfl rfl (R.ldoN 2 (vs := [.slice aoa_2 na_2 capa_2, .slice aoa_3 na_3 capa_3]) S25 rfl rfl rfl rfl) ?_
        refine JL.nil ?_
        refine hK _ _ _ (stab_of (Hle.refl _) ⟨⟨1, rfl⟩, trivial⟩) ?_
        refine JA.one (i := 2) (by kernel_rfl) ?_
        refine JO.step rfl trivial rfl (fun K hK => ?_)
        refine JL.callC (vs := [_]) (args := [_]) (K := []) (rst := [_, _, _]) E39 rfl rfl rfl picks0 (dev_place_ok p_4 _ _ hr_13) rfl (fun u_14 Ku_14 Hu_14 hRu_14 hleu_14 hfu_14 => ?_)
        obtain ⟨rfl, rfl, rfl, -⟩ := hRu_14
        refine JL.nil ?_
        refine hK _ _ _ (stab_of (Hle.refl _) ⟨⟨1, rfl⟩, trivial⟩) ?_
        refine JA.one (i := 4) (by kernel_rfl) ?_
        refine JO.step rfl trivial rfl (fun K hK => ?_)
        refine JL.callC (vs := [_, _, _]) (args := [_, _, _]) (K := [_]) (rst := [_, _]) E38 rfl rfl rfl (picks 2 rfl picks0) (dev_guarded_ok p_1 x_12 p_1 _ ha_2 ha_3 ha_2 ha_3 _ hr_16) rfl (fun u_17 Ku_17 Hu_17 hRu_17 hleu_17 hfu_17 => ?_)
        obtain ⟨aoz_18, nz_18, capz_18, aoz_19, nz_19, capz_19, aoz_20, nz_20, capz_20, aoz_21, nz_21, capz_21, rfl, rfl, rfl, hz_18, hz_19, hz_20, hz_21, -⟩ := hRu_17
        refine JL.nil ?_
        refine hK _ _ _ (stab_of (Hle.refl _) ⟨⟨2, rfl⟩, trivial⟩) ?_
        refine JA.val ⟨by kernel_rfl, by kernel_rfl⟩ (calm_only _) (i := 5) rfl ⟨by kernel_rfl, by kernel_rfl, rfl⟩ trivial (stab_of (Hle.refl _) ⟨⟨2, rfl⟩, trivial⟩) (R.move rfl) rfl ?_
        refine JA.val ⟨by kernel_rfl, by kernel_rfl⟩ (calm_only _) (i := 6) rfl ⟨by kernel_rfl, by kernel_rfl, rfl⟩ trivial (stab_of (Hle.refl _) ⟨⟨2, rfl⟩, trivial⟩) (R.extract rfl rfl) rfl ?_
        refine JA.val ⟨by kernel_rfl, by kernel_rfl⟩ (calm_only _) (i := 7) rfl ⟨by kernel_rfl, by kernel_rfl, rfl⟩ trivial (stab_of (Hle.refl _) ⟨⟨2, rfl⟩, trivial⟩) (R.extract rfl rfl) rfl ?_
        refine JA.one (i := 9) (by kernel_rfl) ?_
        refine JO.step rfl trivial rfl (fun K hK => ?_)
        refine JL.store 1 S25 rfl rfl rfl rfl rfl (Nat.le_of_ble_eq_true rfl) ?_
        refine JL.nil ?_
        refine hK _ _ _ (stab_of (Hle.refl _) ⟨⟨2, rfl⟩, trivial⟩) ?_
        refine JA.val ⟨by kernel_rfl, by kernel_rfl⟩ (calm_only _) (i := 10) rfl ⟨by kernel_rfl, by kernel_rfl, rfl⟩ trivial (stab_of (Hle.refl _) ⟨⟨2, rfl⟩, trivial⟩) (R.assign rfl) rfl ?_
        refine JA.doneN (by kernel_rfl) ?_
        obtain rfl := Option.some.inj hx
        refine JN.forget 1 ?_
        refine JN.front 1 rfl ?_
        refine JN.front 1 rfl ?_
        exact JN.cut ⟨aoz_18, nz_18, capz_18, aoz_19, nz_19, capz_19, rfl, rfl, rfl, hz_18, hz_19⟩ ⟨rfl, rfl, rfl, rfl, rfl, trivial⟩ rfl rfl
      · refine JO.step rfl trivial rfl (fun K hK => ?_)
        refine JL.callC (vs := [_]) (args := [_]) (K := []) (rst := [_, _, _]) E39 rfl rfl rfl picks0 (dev_place_ok p_4 _ _ hr_13) rfl (fun u_14 Ku_14 Hu_14 hRu_14 hleu_14 hfu_14 => ?_)
        obtain ⟨rfl, rfl, rfl, -⟩ := hRu_14
        refine JL.nil ?_
        refine hK _ _ _ (stab_of (Hle.refl _) ⟨⟨1, rfl⟩, trivial⟩) ?_
        refine JA.one (i := 0) (by kernel_rfl) ?_
        refine JO.step rfl trivial rfl (fun K hK => ?_)
        refine JL.val rfl rfl (R.ldoN 2 (vs := [.slice aoa_2 na_2 capa_2, .slice aoa_3 na_3 capa_3]) S25 rfl rfl rfl rfl) ?_
        refine JL.nil ?_
        refine hK _ _ _ (stab_of (Hle.refl _) ⟨⟨1, rfl⟩, trivial⟩) ?_
        refine JA.one (i := 4) (by kernel_rfl) ?_
        refine JO.step rfl trivial rfl (fun K hK => ?_)
        refine JL.callC (vs := [_, _, _]) (args := [_, _, _]) (K := [_]) (rst := [_, _]) E38 rfl rfl rfl (picks 2 rfl picks0) (dev_guarded_ok p_1 x_12 p_1 _ ha_2 ha_3 ha_2 ha_3 _ hr_16) rfl (fun u_17 Ku_17 Hu_17 hRu_17 hleu_17 hfu_17 => ?_)
        obtain ⟨aoz_18, nz_18, capz_18, aoz_19, nz_19, capz_19, aoz_20, nz_20, capz_20, aoz_21, nz_21, capz_21, rfl, rfl, rfl, hz_18, hz_19, hz_20, hz_21, -⟩ := hRu_17
        refine JL.nil ?_
        refine hK _ _ _ (stab_of (Hle.refl _) ⟨⟨2, rfl⟩, trivial⟩) ?_
        refine JA.val ⟨by kernel_rfl, by kernel_rfl⟩ (calm_only _) (i := 5) rfl ⟨by kernel_rfl, by kernel_rfl, rfl⟩ trivial (stab_of (Hle.refl _) ⟨⟨2, rfl⟩, trivial⟩) (R.move rfl) rfl ?_
        refine JA.val ⟨by kernel_rfl, by kernel_rfl⟩ (calm_only _) (i := 6) rfl ⟨by kernel_rfl, by kernel_rfl, rfl⟩ trivial (stab_of (Hle.refl _) ⟨⟨2, rfl⟩, trivial⟩) (R.extract rfl rfl) rfl ?_
        refine JA.val ⟨by kernel_rfl, by kernel_rfl⟩ (calm_only _) (i := 7) rfl ⟨by kernel_rfl, by kernel_rfl, rfl⟩ trivial (stab_of (Hle.refl _) ⟨⟨2, rfl⟩, trivial⟩) (R.extract rfl rfl) rfl ?_
        refine JA.one (i := 9) (by kernel_rfl) ?_
        refine JO.step rfl trivial rfl (fun K hK => ?_)
        refine JL.store 1 S25 rfl rfl rfl rfl rfl (Nat.le_of_ble_eq_true rfl) ?_
        refine JL.nil ?_
        refine hK _ _ _ (stab_of (Hle.refl _) ⟨⟨2, rfl⟩, trivial⟩) ?_
        refine JA.val ⟨by kernel_rfl, by kernel_rfl⟩ (calm_only _) (i := 10) rfl ⟨by kernel_rfl, by kernel_rfl, rfl⟩ trivial (stab_of (Hle.refl _) ⟨⟨2, rfl⟩, trivial⟩) (R.assign rfl) rfl ?_
        refine JA.doneN (by kernel_rfl) ?_
        obtain rfl := Option.some.inj hx
        refine JN.forget 1 ?_
        refine JN.front 1 rfl ?_
        refine JN.front 1 rfl ?_
        exact JN.cut ⟨aoz_18, nz_18, capz_18, aoz_19, nz_19, capz_19, rfl, rfl, rfl, hz_18, hz_19⟩ ⟨rfl, rfl, rfl, rfl, rfl, trivial⟩ rfl rfl

set_option maxHeartbeats 1000000 in
theorem label_Put_ok (p_1 : Disk) (p_4 : Label) (H : Heaplet) {aoa_2 : Option Addr} {na_2 : Nat} {capa_2 : Nat} {aoa_3 : Option Addr} {na_3 : Nat} {capa_3 : Nat} (ha_2 : IsSlice H (RSl RU8 1) 1 (.slice aoa_2 na_2 capa_2) p_1.Blocks) (ha_3 : IsSlice H R_Write 2 (.slice aoa_3 na_3 capa_3) p_1.Waits) (r : Disk × Int) (hx : label_Put p_1 p_4 = some r) :
    Does Try.prog 10 #[.agg #[.slice aoa_2 na_2 capa_2, .slice aoa_3 na_3 capa_3], .agg #[.int .u32 (p_4.Gen.toNat : Int), .int .u32 (p_4.Epoch.toNat : Int), .int .i64 p_4.Root.At, .int .u32 (p_4.Root.Birth.toNat : Int), .int .u32 (p_4.Root.Iv.toNat : Int), .int .u32 (p_4.Root.Tag.toNat : Int), .int .u32 (p_4.Root.Sum.toNat : Int)]] [] H (fun u K' H' => ∃ ao0 : Option Addr, ∃ n0 : Nat, ∃ cap0 : Nat, ∃ ao1 : Option Addr, ∃ n1 : Nat, ∃ cap1 : Nat, ∃ K1 : Own, u = .tuple #[.agg #[.slice ao0 n0 cap0, .slice ao1 n1 cap1], .int .i64 r.2] ∧ K' = [K1] ∧ IsSlice (New H H') (RSl RU8 1) 1 (.slice ao0 n0 cap0) r.1.Blocks ∧ RowOf (New H H') R_Write 0 47 2 (.slice ao1 n1 cap1) r.1.Waits K1 ∧ (∀ p ∈ K1, p.1 ∉ ids (List.flatten [])) ∧ True) := by
  refine Does.enterL (vs := [.agg #[.slice aoa_2 na_2 capa_2, .slice aoa_3 na_3 capa_3], .agg #[.int .u32 (p_4.Gen.toNat : Int), .int .u32 (p_4.Epoch.toNat : Int), .int .i64 p_4.Root.At, .int .u32 (p_4.Root.Birth.toNat : Int), .int .u32 (p_4.Root.Iv.toNat : Int), .int .u32 (p_4.Root.Tag.toNat : Int), .int .u32 (p_4.Root.Sum.toNat : Int)]]) (l := [(0, .agg #[.slice aoa_2 na_2 capa_2, .slice aoa_3 na_3 capa_3]), (1, .agg #[.int .u32 (p_4.Gen.toNat : Int), .int .u32 (p_4.Epoch.toNat : Int), .int .i64 p_4.Root.At, .int .u32 (p_4.Root.Birth.toNat : Int), .int .u32 (p_4.Root.Iv.toNat : Int), .int .u32 (p_4.Root.Tag.toNat : Int), .int .u32 (p_4.Root.Sum.toNat : Int)])]) Try.func10 rfl rfl ⟨rfl, rfl, trivial⟩ (fun w hlt => ?_)
  rw [label_Put.eq_1] at hx
  refine JC.seq ?_
  refine JC.region ?_
  refine JL.box rfl rfl (fun b_5 hb_5 => ?_)
  refine JL.box rfl rfl (fun b_6 hb_6 => ?_)
  refine JL.alloc Z25 rfl (fun b_7 hb_7 => ?_)
  refine JL.val rfl rfl (R.assign rfl) ?_
  refine JL.nil ?_
  refine JN.next ?_
  refine JC.seq ?_
  refine JC.seq ?_
  refine JC.region ?_
  refine JL.val rfl rfl (R.ldoN 2 (vs := [.slice aoa_2 na_2 capa_2, .slice aoa_3 na_3 capa_3]) S25 rfl rfl rfl rfl) ?_
  obtain ⟨x_8, hr_9, hx⟩ := bnd_some hx
  refine JL.callC (vs := [_]) (args := [_]) (K := []) (rst := [_, _, _]) E24 rfl rfl rfl picks0 (dev_Check_ok p_1 _ ha_2 ha_3 _ hr_9) rfl (fun u_10 Ku_10 Hu_10 hRu_10 hleu_10 hfu_10 => ?_)
  obtain ⟨rfl, rfl, rfl, -⟩ := hRu_10
  refine JL.val rfl rfl (R.assign rfl) ?_
  refine JL.nil ?_
  refine JN.next ?_
  refine JC.seq ?_
  refine JC.region ?_
  refine JL.val rfl rfl (R.move rfl) ?_
  refine JL.val rfl rfl (R.neq_i rfl rfl) ?_
  refine JL.nil ?_
  refine JN.next ?_
  refine JC.condB rfl (fun c_11 => ?_) (fun c_11 => ?_)
  · replace hx := cond_t c_11 hx
    refine JC.seq ?_
    refine JC.region ?_
    refine JL.val rfl rfl (R.bldP (vs := []) (cs := [.slice none 0 0, .slice none 0 0]) Z25 B25 rfl rfl rfl) ?_
    refine JL.val rfl rfl (R.move rfl) ?_
    refine JL.store 0 S25 rfl rfl rfl rfl rfl (Nat.le_of_ble_eq_true rfl) ?_
    refine JL.val rfl rfl (R.assign rfl) ?_
    refine JL.nil ?_
    refine JN.next ?_
    refine JC.ret ?_
    refine JN.passR ?_
    refine JN.seg0 ?_
    refine JN.outP (vs := [.agg #[.slice none 0 0, .slice none 0 0], .int .i64 x_8]) (K := [_]) (rst := [_, _, _]) (.inl rfl) rfl rfl (Res.cellN 1 rfl rfl S25 (Res.tmp rfl rfl)) (picks 0 rfl picks0) ?_
    obtain rfl := Option.some.inj hx
    exact ⟨none, 0, 0, none, 0, 0, [], rfl, rfl, (IsSlice.nil _ _ _), (RowOf.nil _ _ _ _ _), (fun p hp => by cases hp), trivial⟩
  · replace hx := cond_f c_11 hx
    refine JC.skip ?_
    refine JN.next ?_
    refine JC.seq ?_
    refine JC.seq ?_
    refine JC.region ?_
    refine JL.val rfl rfl (R.ldoN 1 (vs := [.int .u32 (p_4.Gen.toNat : Int), .int .u32 (p_4.Epoch.toNat : Int), .int .i64 p_4.Root.At, .int .u32 (p_4.Root.Birth.toNat : Int), .int .u32 (p_4.Root.Iv.toNat : Int), .int .u32 (p_4.Root.Tag.toNat : Int), .int .u32 (p_4.Root.Sum.toNat : Int)]) S30 rfl rfl rfl rfl) ?_
    obtain ⟨x_12, hr_13, hx⟩ := bnd_some hx
    refine JL.callC (vs := [_]) (args := [_]) (K := []) (rst := [_, _, _]) E25 rfl rfl rfl picks0 (label_may_ok p_4 _ _ hr_13) rfl (fun u_14 Ku_14 Hu_14 hRu_14 hleu_14 hfu_14 => ?_)
    obtain ⟨rfl, rfl, rfl, -⟩ := hRu_14
    refine JL.val rfl rfl (R.not rfl) ?_
    refine JL.nil ?_
    refine JN.next ?_
    refine JC.condB rfl (fun c_15 => ?_) (fun c_15 => ?_)
    · replace hx := cond_t c_15 hx
      refine JC.seq ?_
      refine JC.region ?_
      refine JL.val rfl rfl (R.bldP (vs := []) (cs := [.slice none 0 0, .slice none 0 0]) Z25 B25 rfl rfl rfl) ?_
      refine JL.store 0 S25 rfl rfl rfl rfl rfl (Nat.le_of_ble_eq_true rfl) ?_
      refine JL.val rfl rfl (R.assign rfl) ?_
      refine JL.nil ?_
      refine JN.next ?_
      refine JC.ret ?_
      refine JN.passR ?_
      refine JN.seg0 ?_
      refine JN.outP (vs := [.agg #[.slice none 0 0, .slice none 0 0], .int .i64 8]) (K := [_]) (rst := [_, _, _]) (.inl rfl) rfl rfl (Res.cellN 1 rfl rfl S25 (Res.tmp rfl rfl)) (picks 0 rfl picks0) ?_
      obtain rfl := Option.some.inj hx
      exact ⟨none, 0, 0, none, 0, 0, [], rfl, rfl, (IsSlice.nil _ _ _), (RowOf.nil _ _ _ _ _), (fun p hp => by cases hp), trivial⟩
    · replace hx := cond_f c_15 hx
      refine JC.skip ?_
      refine JN.next ?_
      refine JC.seq ?_
      refine JC.draw (so := [_, _]) 11 rfl Mixed ⟨⟨1, rfl⟩, ⟨2, rfl⟩, trivial⟩ ?_
      refine JA.val ⟨by kernel_rfl, by kernel_rfl⟩ (calm_only _) (i := 0) rfl ⟨by kernel_rfl, by kernel_rfl, rfl⟩ trivial (stab_of (Hle.refl _) ⟨⟨1, rfl⟩, ⟨2, rfl⟩, trivial⟩) (R.ldoN 1 (vs := [.slice aoa_2 na_2 capa_2, .slice aoa_3 na_3 capa_3]) S25 rfl rfl rfl rfl) rfl ?_
      refine JA.val ⟨by kernel_rfl, by kernel_rfl⟩ (calm_only _) (i := 1) rfl ⟨by kernel_rfl, by kernel_rfl, rfl⟩ trivial (stab_of (Hle.refl _) ⟨⟨1, rfl⟩, ⟨2, rfl⟩, trivial⟩) (R.fa F30_0 rfl) rfl ?_
      refine JA.val ⟨by kernel_rfl, by kernel_rfl⟩ (calm_only _) (i := 2) rfl ⟨by kernel_rfl, by kernel_rfl, rfl⟩ trivial (stab_of (Hle.refl _) ⟨⟨1, rfl⟩, ⟨2, rfl⟩, trivial⟩) (R.ldo 0 S26 rfl rfl rfl) rfl ?_
      refine JA.val ⟨by kernel_rfl, by kernel_rfl⟩ (calm_only _) (i := 4) rfl ⟨by kernel_rfl, by kernel_rfl, rfl⟩ trivial (stab_of (Hle.refl _) ⟨⟨1, rfl⟩, ⟨2, rfl⟩, trivial⟩) (R.ldoN 0 (vs := [.int .u32 (p_4.Gen.toNat : Int), .int .u32 (p_4.Epoch.toNat : Int), .int .i64 p_4.Root.At, .int .u32 (p_4.Root.Birth.toNat : Int), .int .u32 (p_4.Root.Iv.toNat : Int), .int .u32 (p_4.Root.Tag.toNat : Int), .int .u32 (p_4.Root.Sum.toNat : Int)]) S30 rfl rfl rfl rfl) rfl ?_
      refine JA.one (i := 3) (by kernel_rfl) ?_
      refine JO.step rfl trivial rfl (fun K hK => ?_)
      obtain ⟨x_16, hr_17, hx⟩ := bnd_some hx
      refine JL.callC (vs := [_]) (args := [_]) (K := []) (rst := [_, _, _]) E15 rfl rfl rfl picks0 (label_Slot_ok p_4.Gen _ _ hr_17) rfl (fun u_18 Ku_18 Hu_18 hRu_18 hleu_18 hfu_18 => ?_)
      obtain ⟨rfl, rfl, rfl, -⟩ := hRu_18
      refine JL.nil ?_
      refine hK _ _ _ (stab_of (Hle.refl _) ⟨⟨1, rfl⟩, ⟨2, rfl⟩, trivial⟩) ?_
      refine JA.one (i := 5) (by kernel_rfl) ?_
      refine JO.step rfl trivial rfl (fun K hK => ?_)
      obtain ⟨x_19, hr_20, hx⟩ := bnd_some hx
      refine JL.callC (vs := [_]) (args := [_]) (K := []) (rst := [_, _, _]) E26 rfl rfl rfl picks0 (label_block_ok p_4 _ _ hr_20) rfl (fun u_21 Ku_21 Hu_21 hRu_21 hleu_21 hfu_21 => ?_)
      obtain ⟨aor_22, nr_22, capr_22, Kr_22, rfl, rfl, rfl, hr_22, hnewr_22, -⟩ := hRu_21
      replace hr_22 := (RowOf.base (RowOf.const (H2 := New H H) RU8.const hr_22) (fun p hp => (hfu_21 p (mem_seg 0 rfl hp)).resolve_left (hnewr_22 p hp)))
      refine JL.nil ?_
      refine hK _ _ _ (stab_of (Hle.refl _) ⟨⟨2, rfl⟩, ⟨3, rfl⟩, trivial⟩) ?_
      refine JA.one (i := 6) (by kernel_rfl) ?_
      refine JO.step rfl trivial rfl (fun K hK => ?_)
      refine JL.pubN 0 RU8.mono rfl hr_22 (Nat.le_refl _) (fun H_23 hleH_23 hsH_23 => ?_)
      refine JL.forget 0 ?_
      obtain ⟨x_24, hr_25, hx⟩ := bnd_some hx
      refine JL.callC (vs := [_, _, _]) (args := [_, _, _]) (K := []) (rst := [_, _, _]) E22 rfl rfl rfl picks0 (dev_Write_ok p_1 x_16 x_19 _ (ha_2.mono (RSl.mono RU8.mono) hleH_23) (ha_3.mono R_Write.mono hleH_23) (hsH_23.old RU8.mono) _ hr_25) rfl (fun u_26 Ku_26 Hu_26 hRu_26 hleu_26 hfu_26 => ?_)
      obtain ⟨aoz_27, nz_27, capz_27, aor_28, nr_28, capr_28, Kr_28, rfl, rfl, hz_27, hr_28, hnewr_28, -⟩ := hRu_26
      replace hr_28 := (RowOf.base (RowOf.mono R_Write.mono (New.call hleH_23) hr_28) (fun p hp => (hfu_26 p (mem_seg 0 rfl hp)).resolve_left (hnewr_28 p hp)))
      replace hz_27 := IsSlice.mono (RSl.mono RU8.mono) (New.call hleH_23) hz_27
      refine JL.nil ?_
      refine hK _ _ _ (stab_of (hleH_23.trans hleu_26) ⟨⟨2, rfl⟩, ⟨3, rfl⟩, trivial⟩) ?_
      refine JA.val ⟨by kernel_rfl, by kernel_rfl⟩ (calm_only _) (i := 7) rfl ⟨by kernel_rfl, by kernel_rfl, rfl⟩ trivial (stab_of (hleH_23.trans hleu_26) ⟨⟨2, rfl⟩, ⟨3, rfl⟩, trivial⟩) (R.extract rfl rfl) rfl ?_
      refine JA.val ⟨by kernel_rfl, by kernel_rfl⟩ (calm_only _) (i := 8) rfl ⟨by kernel_rfl, by kernel_rfl, rfl⟩ trivial (stab_of (hleH_23.trans hleu_26) ⟨⟨2, rfl⟩, ⟨3, rfl⟩, trivial⟩) (R.extract rfl rfl) rfl ?_
      refine JA.one (i := 9) (by kernel_rfl) ?_
      refine JO.step rfl trivial rfl (fun K hK => ?_)
      refine JL.store 1 S25 rfl rfl rfl rfl rfl (Nat.le_of_ble_eq_true rfl) ?_
      refine JL.nil ?_
      refine hK _ _ _ (stab_of (hleH_23.trans hleu_26) ⟨⟨2, rfl⟩, ⟨3, rfl⟩, trivial⟩) ?_
      refine JA.val ⟨by kernel_rfl, by kernel_rfl⟩ (calm_only _) (i := 10) rfl ⟨by kernel_rfl, by kernel_rfl, rfl⟩ trivial (stab_of (hleH_23.trans hleu_26) ⟨⟨2, rfl⟩, ⟨3, rfl⟩, trivial⟩) (R.assign rfl) rfl ?_
      refine JA.doneN (by kernel_rfl) ?_
      refine JN.next ?_
      refine JC.ret ?_
      refine JN.outP (vs := [.agg #[.slice aoz_27 nz_27 capz_27, .slice aor_28 nr_28 capr_28], .int .i64 x_24.2]) (K := [_]) (rst := [_, _, _]) (.inl rfl) rfl rfl (Res.cellN 1 rfl rfl S25 (Res.tmp rfl rfl)) (picks 0 rfl picks0) ?_
      obtain rfl := Option.some.inj hx
      exact ⟨aoz_27, nz_27, capz_27, aor_28, nr_28, capr_28, Kr_28, rfl, rfl, hz_27, (RowOf.weak (Nat.zero_le _) hr_28), (new_ids hr_28 hlt), trivial⟩

theorem slices_Clone_byte_45_ok (p_1 : List (List UInt8)) (H : Heaplet) {ao : Option Addr} {n cap : Nat} (hs : IsSlice H (RSl RU8 1) 1 (.slice ao n cap) p_1) (r : List (List UInt8)) (hx : slices_Clone_byte_45 p_1 = some r) :
    Does Try.prog 66 #[.slice ao n cap] [] H (fun u K' H' => ∃ ao0 : Option Addr, ∃ n0 : Nat, ∃ cap0 : Nat, ∃ K0 : Own, u = .slice ao0 n0 cap0 ∧ K' = [K0] ∧ H = H' ∧ RowOf H' (RSl RU8 1) 0 45 1 (.slice ao0 n0 cap0) r K0 ∧ (∀ p ∈ K0, p.1 ∉ ids (List.flatten [])) ∧ True) := by
  rw [slices_Clone_byte_45.eq_1] at hx
  obtain ⟨q, hq, hl, hx⟩ := app_some hx
  obtain rfl := Option.some.inj hx
  refine Does.enter (vs := [.slice ao n cap]) (l := [(0, .slice ao n cap)]) Try.func66 rfl rfl ⟨rfl, trivial⟩ (fun w => ?_)
  refine JC.seq ?_
  refine JC.region ?_
  refine JL.val rfl rfl (R.assign rfl) ?_
  refine JL.nil ?_
  refine JN.next ?_
  refine JC.seq ?_
  refine JC.seq ?_
  refine JC.region ?_
  refine JL.val rfl rfl (R.move rfl) ?_
  refine JL.val rfl rfl (R.eqlNil U22 rfl rfl) ?_
  refine JL.nil ?_
  refine JN.next ?_
  cases ao with
  | none =>
    have hp := hs.none_nil
    subst hp
    simp only [List.append_nil] at hq
    subst hq
    refine JC.condT rfl ?_
    refine JC.seq ?_
    refine JC.region ?_
    refine JL.val rfl rfl (R.assign rfl) ?_
    refine JL.nil ?_
    refine JN.next ?_
    refine JC.ret ?_
    refine JN.passR ?_
    refine JN.seg0 ?_
    refine JN.outP (vs := [.slice none 0 0]) (K := [_]) (rst := []) (.inl rfl) rfl rfl (Res.tmp rfl rfl) (picks 0 rfl picks0) ?_
    exact ⟨none, 0, 0, [], rfl, rfl, rfl, RowOf.nil _ _ _ _ _, (fun p hp => by cases hp), trivial⟩
  | some a =>
    refine JC.condF rfl ?_
    refine JC.skip ?_
    refine JN.next ?_
    refine JC.seq ?_
    refine JC.region ?_
    refine JL.bslF (HF := H) (R := (RSl RU8 1)) (ls := []) (vs := []) U22 I45 rfl rfl rfl RSl.one rfl rfl rfl (by simp [maxLen]) rfl (fun v1 K1 h1 => ?_)
    obtain ⟨ao1, cap1, rfl⟩ := RowOf.val h1
    refine JL.val rfl rfl (R.move rfl) ?_
    refine JL.appF (HF := H) 0 U22 I45 rfl rfl h1 rfl (SrcF.slice RSl.one U22 (Hle.refl _) hs) hq hl rfl (Nat.le_refl _) rfl (fun v2 K2 h2 => ?_)
    obtain ⟨ao2, cap2, rfl⟩ := RowOf.val h2
    refine JL.val rfl rfl (R.assign rfl) ?_
    refine JL.nil ?_
    refine JN.next ?_
    refine JC.ret ?_
    refine JN.outP (vs := [.slice ao2 _ cap2]) (K := [_]) (rst := []) (.inl rfl) rfl rfl (Res.tmp rfl rfl) (picks 0 rfl picks0) ?_
    exact ⟨_, _, _, _, rfl, rfl, rfl, RowOf.weak (Nat.zero_le _) h2, (fun p hp hm => by cases hm), trivial⟩

set_option maxHeartbeats 1000000 in
theorem dev_all_ok (p_1 : Int) (H : Heaplet) (r : Bool) (hx : dev_all p_1 = some r) :
    Does Try.prog 55 #[.int .i64 p_1] [] H (fun u K' H' => u = .bool r ∧ K' = [] ∧ H = H' ∧ True) := by
  refine Does.enterL (vs := [.int .i64 p_1]) (l := [(0, .int .i64 p_1)]) Try.func55 rfl rfl ⟨rfl, trivial⟩ (fun w hlt => ?_)
  rw [dev_all.eq_1] at hx
  refine JC.seq ?_
  refine JC.region ?_
  refine JL.val rfl rfl (R.assign rfl) ?_
  refine JL.nil ?_
  refine JN.next ?_
  refine JC.seq ?_
  refine JC.region ?_
  refine JL.val rfl rfl (R.assign rfl) ?_
  refine JL.nil ?_
  refine JN.next ?_
  refine JC.ret ?_
  refine JN.outP (vs := [.bool true]) (K := []) (rst := []) (.inl rfl) rfl rfl (Res.tmp rfl rfl) picks0 ?_
  obtain rfl := Option.some.inj hx
  exact ⟨rfl, rfl, rfl, trivial⟩

set_option maxHeartbeats 1000000 in
theorem dev_lasts_ok (p_1 : Disk) (H : Heaplet) {va_2 : Value} {aoa_3 : Option Addr} {na_3 : Nat} {capa_3 : Nat} (ha_3 : IsSlice H R_Write 2 (.slice aoa_3 na_3 capa_3) p_1.Waits) (r : (List (Int × Write))) (hx : dev_lasts p_1 = some r) :
    Does Try.prog 67 #[.agg #[va_2, .slice aoa_3 na_3 capa_3], .func (.func 55) #[] #[]] [] H (fun u K' H' => ∃ ao0 : Option Addr, ∃ n0 : Nat, ∃ cap0 : Nat, ∃ K0 : Own, u = .map (some n0) ∧ K' = [K0] ∧ H = H' ∧ MapOf H R_Write 0 n0 r K0 ∧ (∀ p ∈ K0, p.1 ∉ ids (List.flatten [])) ∧ True) := by
  refine Does.enterL (vs := [.agg #[va_2, .slice aoa_3 na_3 capa_3], .func (.func 55) #[] #[]]) (l := [(0, .agg #[va_2, .slice aoa_3 na_3 capa_3]), (1, .func (.func 55) #[] #[])]) Try.func67 rfl rfl ⟨rfl, rfl, trivial⟩ (fun w hlt => ?_)
  rw [dev_lasts.eq_1] at hx
  refine JC.seq ?_
  refine JC.region ?_
  refine JL.box rfl rfl (fun b_4 hb_4 => ?_)
  refine JL.val rfl rfl (R.assign rfl) ?_
  refine JL.nil ?_
  refine JN.next ?_
  refine JC.seq ?_
  refine JC.region ?_
  refine JL.mkMapF (New H H) R_Write rfl (fun nr_5 Kr_5 hr_5 => ?_)
  refine JL.val rfl rfl (R.assign rfl) ?_
  refine JL.nil ?_
  refine JN.next ?_
  refine JC.seq ?_
  refine JC.seq ?_
  refine JC.region ?_
  refine JL.val rfl rfl (R.fa F25_1 rfl) ?_
  refine JL.val rfl rfl (R.ldo 1 S23 rfl rfl rfl) ?_
  refine JL.val rfl rfl (R.lenL U23 rfl (IsSlice.long ha_3)) ?_
  refine JL.val rfl rfl (R.move rfl) ?_
  refine JL.nil ?_
  refine JN.next ?_
  obtain ⟨t_6, ht_8, hx⟩ := bnd_some hx
  refine JC.cut (fun l o g => ∃ Kr_13 : Own, l = [(5, .map (some nr_5))] ∧ o = [Kr_13] ∧ H = g ∧ MapOf H R_Write w.heap.size nr_5 t_6 Kr_13) ?_ ?_
  · rintro _ _ _ ⟨Kr_13, rfl, rfl, rfl, hr_13⟩
    refine JN.next ?_
    refine JC.seq ?_
    refine JC.region ?_
    refine JL.val rfl rfl (R.move rfl) ?_
    refine JL.val rfl rfl (R.assign rfl) ?_
    refine JL.nil ?_
    refine JN.next ?_
    refine JC.ret ?_
    refine JN.outP (vs := [.map (some nr_5)]) (K := [_]) (rst := []) (.inl rfl) rfl rfl (Res.tmp rfl rfl) (picks 0 rfl picks0) ?_
    obtain rfl := Option.some.inj hx
    exact ⟨none, nr_5, 0, Kr_13, rfl, rfl, rfl, (MapOf.weak (Nat.zero_le _) hr_13), (newM_ids hr_13 hlt), trivial⟩
  · have hxo_7 := hx; clear hx; have hx := ht_8; clear ht_8
    refine JC.block ?_
    refine JC.forget 1 ?_
    refine JC.loopI (fun n l o g => ∃ s_9 : (List (Int × Write)) × Nat, ∃ Kr_12 : Own, l = [(1, .func (.func 55) #[] #[]), (5, .map (some nr_5)), (10, .slice aoa_3 na_3 capa_3), (11, .int .i64 (p_1.Waits.length : Int)), (12, .int .i64 ((s_9.2 : Nat) : Int))] ∧ o = [Kr_12] ∧ H = g ∧ run (dev_lasts_l1 p_1) n s_9 = some t_6 ∧ MapOf H R_Write w.heap.size nr_5 s_9.1 Kr_12) FUEL ?_ ⟨(([] : List (Int × Write)), 0), Kr_5, rfl, rfl, rfl, hx, (hr_5.old R_Write.mono)⟩ ⟨rfl, rfl, rfl, rfl, rfl, trivial⟩ ?_
    · rintro _ _ _ ⟨s_9, Kr_12, rfl, rfl, rfl, hn_10, hr_12⟩
      exact run_zero hn_10
    · rintro n_11 _ _ _ ⟨s_9, Kr_12, rfl, rfl, rfl, hn_10, hr_12⟩
      clear hx; obtain ⟨oo_14, hx, hd_13⟩ := run_some hn_10
      rw [dev_lasts_l1.eq_1] at hx
      refine JC.seq ?_
      refine JC.region ?_
      refine JL.val rfl rfl (R.lss_i rfl rfl) ?_
      refine JL.nil ?_
      refine JN.next ?_
      refine JC.seq ?_
      refine JC.condB rfl (fun c_13 => ?_) (fun c_13 => ?_)
      · replace hx := cond_t c_13 hx
        refine JC.skip ?_
        refine JN.next ?_
        refine JC.seq ?_
        refine JC.block ?_
        refine JC.seq ?_
        refine JC.region ?_
        refine JL.val rfl rfl (R.move rfl) ?_
        obtain ⟨y_14, hN_15, hx⟩ := idx_some hx
        obtain ⟨b_16, o_17, cs_18, hE_19, hR_20, hl_21, hc_22⟩ := IsSlice.elem ha_3 hN_15
        obtain ⟨v_23, rfl, hs_24⟩ := hR_20
        obtain ⟨aov_23, capv_23, rfl⟩ := IsSlice.val hs_24
        refine JL.val rfl rfl (R.ix U23 S47 rfl rfl hE_19) ?_
        refine JL.val rfl rfl (R.ldHE (cs := [.int .i64 y_14.At, .slice aov_23 y_14.Data.length capv_23]) (k := 0) (vs := [.int .i64 y_14.At, .slice aov_23 y_14.Data.length capv_23]) S47 rfl hc_22 rfl rfl) ?_
        refine JL.alloc Z47 rfl (fun b_25 hb_25 => ?_)
        refine JL.val rfl rfl (R.assign rfl) ?_
        refine JL.store 0 S47 rfl rfl rfl rfl rfl (Nat.le_of_ble_eq_true rfl) ?_
        refine JL.nil ?_
        refine JN.next ?_
        refine JC.seq ?_
        refine JC.region ?_
        refine JL.val rfl rfl (R.move rfl) ?_
        refine JL.val rfl rfl (R.move rfl) ?_
        obtain ⟨x_26, hr_27, hx⟩ := bnd_some hx
        refine JL.callC (vs := [_]) (args := [_]) (K := []) (rst := [_, _]) E55 rfl rfl rfl picks0 (dev_all_ok ((s_9.2 : Nat) : Int) _ _ hr_27) rfl (fun u_28 Ku_28 Hu_28 hRu_28 hleu_28 hfu_28 => ?_)
        obtain ⟨rfl, rfl, rfl, -⟩ := hRu_28
        refine JL.nil ?_
        refine JN.next ?_
        refine JC.condB rfl (fun c_29 => ?_) (fun c_29 => ?_)
        · replace hx := cond_t c_29 hx
          refine JC.region ?_
          refine JL.val rfl rfl (R.move rfl) ?_
          refine JL.val rfl rfl (R.fa F47_0 rfl) ?_
          refine JL.val rfl rfl (R.ldo 0 S3 rfl rfl rfl) ?_
          refine JL.val rfl rfl (R.ldoN 0 (vs := [.int .i64 y_14.At, .slice aov_23 y_14.Data.length capv_23]) S47 rfl rfl rfl rfl) ?_
          refine JL.mapUpdF 1 (cs := [.int .i64 y_14.At, .slice aov_23 y_14.Data.length capv_23]) U97 U3 rfl rfl rfl rfl hr_12 ⟨_, rfl, hs_24⟩ (fun Kr_30 hr_30 => ?_)
          refine JL.nil ?_
          refine JN.blkN ?_
          refine JN.next ?_
          refine JC.region ?_
          refine JL.val rfl rfl (R.inc rfl rfl (of_decide_eq_true c_13) (IsSlice.lenI ha_3)) ?_
          refine JL.val rfl rfl (R.move rfl) ?_
          refine JL.nil ?_
          replace hx := run_next hd_13 hx
          refine JN.forget 0 ?_
          exact JN.cut ⟨((putM s_9.1 y_14.At y_14), s_9.2 + 1), Kr_30, rfl, rfl, rfl, hx, hr_30⟩ ⟨rfl, rfl, rfl, rfl, rfl, trivial⟩ rfl rfl
        · replace hx := cond_f c_29 hx
          refine JC.skip ?_
          refine JN.blkN ?_
          refine JN.next ?_
          refine JC.region ?_
          refine JL.val rfl rfl (R.inc rfl rfl (of_decide_eq_true c_13) (IsSlice.lenI ha_3)) ?_
          refine JL.val rfl rfl (R.move rfl) ?_
          refine JL.nil ?_
          replace hx := run_next hd_13 hx
          refine JN.forget 0 ?_
          exact JN.cut ⟨(s_9.1, s_9.2 + 1), Kr_12, rfl, rfl, rfl, hx, hr_12⟩ ⟨rfl, rfl, rfl, rfl, rfl, trivial⟩ rfl rfl
      · replace hx := cond_f c_13 hx
        refine JC.exit ?_
        refine JN.passX ?_
        obtain rfl := run_done hd_13 hx
        refine JN.passX ?_
        refine JN.exitSame ?_
        exact JN.cut ⟨Kr_12, rfl, rfl, rfl, hr_12⟩ ⟨rfl, trivial⟩ rfl rfl

set_option maxHeartbeats 1000000 in
theorem dev_left_ok (p_1 : Disk) (H : Heaplet) {aoa_2 : Option Addr} {na_2 : Nat} {capa_2 : Nat} {aoa_3 : Option Addr} {na_3 : Nat} {capa_3 : Nat} (ha_2 : IsSlice H (RSl RU8 1) 1 (.slice aoa_2 na_2 capa_2) p_1.Blocks) (ha_3 : IsSlice H R_Write 2 (.slice aoa_3 na_3 capa_3) p_1.Waits) (r : Disk) (hx : dev_left p_1 = some r) :
    Does Try.prog 44 #[.agg #[.slice aoa_2 na_2 capa_2, .slice aoa_3 na_3 capa_3], .func (.func 55) #[] #[]] [] H (fun u K' H' => ∃ ao0 : Option Addr, ∃ n0 : Nat, ∃ cap0 : Nat, ∃ K0 : Own, ∃ ao1 : Option Addr, ∃ n1 : Nat, ∃ cap1 : Nat, ∃ K1 : Own, u = .agg #[.slice ao0 n0 cap0, .slice ao1 n1 cap1] ∧ K' = [K0, K1] ∧ Pcs 0 5 45 (.slice ao0 n0 cap0) r.Blocks K0 ∧ (∀ p ∈ K0, p.1 ∉ ids (List.flatten [])) ∧ RowOf (New H H') R_Write 0 47 2 (.slice ao1 n1 cap1) r.Waits K1 ∧ (∀ p ∈ K1, p.1 ∉ ids (List.flatten [])) ∧ True) := by
  refine Does.enterL (vs := [.agg #[.slice aoa_2 na_2 capa_2, .slice aoa_3 na_3 capa_3], .func (.func 55) #[] #[]]) (l := [(0, .agg #[.slice aoa_2 na_2 capa_2, .slice aoa_3 na_3 capa_3]), (1, .func (.func 55) #[] #[])]) Try.func44 rfl rfl ⟨rfl, rfl, trivial⟩ (fun w hlt => ?_)
  rw [dev_left.eq_1] at hx
  refine JC.seq ?_
  refine JC.region ?_
  refine JL.box rfl rfl (fun b_4 hb_4 => ?_)
  refine JL.alloc Z25 rfl (fun b_5 hb_5 => ?_)
  refine JL.nil ?_
  refine JN.next ?_
  refine JC.seq ?_
  obtain ⟨t_6, ht_8, hx⟩ := bnd_some hx
  refine JC.cut (fun l o g => ∃ aor_21 : Option Addr, ∃ nr_21 : Nat, ∃ capr_21 : Nat, ∃ Kr_21 : Own, l = [(1, .func (.func 55) #[] #[]), (2, .pointer (some ⟨b_4, 0, none⟩)), (4, .pointer (some ⟨b_5, 0, none⟩))] ∧ o = [[(b_4, .cells #[.slice aor_21 nr_21 capr_21, .slice aoa_3 na_3 capa_3] 25 (0, 0))], Kr_21, [(b_5, .cells #[.slice none 0 0, .slice none 0 0] 25 (0, 0))]] ∧ H = g ∧ RowOf H (RSl RU8 1) w.heap.size 45 1 (.slice aor_21 nr_21 capr_21) t_6 Kr_21) ?_ ?_
  · rintro _ _ _ ⟨aor_21, nr_21, capr_21, Kr_21, rfl, rfl, rfl, hr_21⟩
    refine JN.next ?_
    refine JC.seq ?_
    refine JC.seq ?_
    refine JC.region ?_
    refine JL.val rfl rfl (R.ldoN 0 (vs := [.slice aor_21 nr_21 capr_21, .slice aoa_3 na_3 capa_3]) S25 rfl rfl rfl rfl) ?_
    refine JL.val rfl rfl (R.move rfl) ?_
    obtain ⟨x_22, hr_23, hx⟩ := bnd_some hx
    refine JL.callC (vs := [_, _]) (args := [_, _]) (K := []) (rst := [_, _, _]) E67 rfl rfl rfl picks0 (dev_lasts_ok (Disk.mk t_6 p_1.Waits) _ ha_3 _ hr_23) rfl (fun u_24 Ku_24 Hu_24 hRu_24 hleu_24 hfu_24 => ?_)
    obtain ⟨aor_25, nr_25, capr_25, Kr_25, rfl, rfl, rfl, hr_25, hnewr_25, -⟩ := hRu_24
    replace hr_25 := (MapOf.base hr_25 (fun p hp => (hfu_24 p (mem_seg 0 rfl hp)).resolve_left (hnewr_25 p hp)))
    refine JL.rangeMapF 0 U97 rfl rfl hr_25 rfl (fun b_26 es_27 hK_28 hM_29 => ?_)
    subst hK_28
    refine JL.nil ?_
    refine JN.next ?_
    obtain ⟨m_30, hm_31, hin_32, hx⟩ := layR_some hx
    refine JC.block ?_
    refine JC.loop (ι := Array Nat × (List (List UInt8)) × Own) (fun _ => [(2, .pointer (some ⟨b_4, 0, none⟩)), (4, .pointer (some ⟨b_5, 0, none⟩)), (16, .pointer (some ⟨b_26, 0, none⟩))]) (fun i => [[(b_26, .mapIter (some nr_25) (x_22).length i.1 (x_22).length)], [(nr_25, .map es_27 (x_22).length)], [(b_4, .cells #[.slice aor_21 nr_21 capr_21, .slice aoa_3 na_3 capa_3] 25 (0, 0))], i.2.2, [(b_5, .cells #[.slice none 0 0, .slice none 0 0] 25 (0, 0))]]) (fun _ => H) (fun i => i.1.toList.Nodup ∧ (∀ q ∈ i.1.toList, q < (x_22).length) ∧ Laid (fun y : Write => y.Data) t_6 x_22 i.1.toList i.2.1 ∧ RowOf H (RSl RU8 1) w.heap.size 45 1 (.slice aor_21 nr_21 capr_21) i.2.1 i.2.2) (fun i => (x_22).length - i.1.size) (#[], t_6, Kr_21) ⟨by simp, by simp, Laid.start _ _ _, hr_21⟩ ⟨rfl, rfl, rfl, trivial⟩ rfl rfl ?_
    rintro ⟨seen_33, B_34, K_35⟩ ⟨hn_36, hlt_37, hL_38, hr_39⟩
    dsimp only at hn_36 hlt_37 hL_38 hr_39 ⊢
    refine JC.seq ?_
    refine JC.region ?_
    refine JL.nextMap 0 1 rfl rfl rfl hM_29 (Nat.le_refl _) rfl (fun he_40 => ?_) (fun n_41 k_42 y_43 cs_44 hMn_45 hen_46 hns_47 hRy_48 => ?_)
    · refine JL.val rfl rfl (R.extract rfl rfl) ?_
      refine JL.nil ?_
      refine JN.next ?_
      refine JC.seq ?_
      refine JC.condF rfl ?_
      refine JC.exit ?_
      refine JN.passX ?_
      refine JN.passX ?_
      refine JN.exitSame ?_
      obtain rfl := hm_31.trans (hL_38.full hM_29.nodup hin_32 he_40).symm
      refine JN.forget 1 ?_
      refine JN.forget 0 ?_
      refine JN.next ?_
      refine JC.seq ?_
      refine JC.region ?_
      refine JL.val rfl rfl (R.fa F25_1 rfl) ?_
      refine JL.store 0 S23 rfl rfl rfl rfl rfl (Nat.le_of_ble_eq_true rfl) ?_
      refine JL.nil ?_
      refine JN.next ?_
      refine JC.seq ?_
      refine JC.region ?_
      refine JL.val rfl rfl (R.ldoN 0 (vs := [.slice aor_21 nr_21 capr_21, .slice none 0 0]) S25 rfl rfl rfl rfl) ?_
      refine JL.pub 1 (RSl.mono RU8.mono) rfl hr_39 (Nat.le_refl _) (fun H_49 hleH_49 hsH_49 => ?_)
      refine JL.forget 1 ?_
      obtain ⟨x_50, hr_51, hx⟩ := bnd_some hx
      refine JL.callC (vs := [_]) (args := [_]) (K := []) (rst := [_, _]) E41 rfl rfl rfl picks0 (dev_Twin_ok (Disk.mk m_30 ([] : List Write)) _ hsH_49 (IsSlice.nil _ _ _) _ hr_51) rfl (fun u_52 Ku_52 Hu_52 hRu_52 hleu_52 hfu_52 => ?_)
      obtain ⟨aor_53, nr_53, capr_53, Kr_53, aor_54, nr_54, capr_54, Kr_54, rfl, rfl, hr_53, hnewr_53, hr_54, hnewr_54, -⟩ := hRu_52
      replace hr_53 := (Pcs.base hr_53 (fun p hp => (hfu_52 p (mem_seg 0 rfl hp)).resolve_left (hnewr_53 p hp)))
      replace hr_54 := (RowOf.base (RowOf.mono R_Write.mono (New.call hleH_49) hr_54) (fun p hp => (hfu_52 p (mem_seg 1 rfl hp)).resolve_left (hnewr_54 p hp)))
      refine JL.store 3 S25 rfl rfl rfl rfl rfl (Nat.le_of_ble_eq_true rfl) ?_
      refine JL.nil ?_
      refine JN.next ?_
      refine JC.ret ?_
      refine JN.outP (vs := [.agg #[.slice aor_53 nr_53 capr_53, .slice aor_54 nr_54 capr_54]]) (K := [_, _]) (rst := [_, _]) (.inl rfl) rfl rfl (Res.cellN 3 rfl rfl S25 rfl) (picks 0 rfl (picks 0 rfl picks0)) ?_
      obtain rfl := Option.some.inj hx
      exact ⟨aor_53, nr_53, capr_53, Kr_53, aor_54, nr_54, capr_54, Kr_54, rfl, rfl, (Pcs.weak (Nat.zero_le _) hr_53), (newP_ids hr_53 hlt), (RowOf.weak (Nat.zero_le _) hr_54), (new_ids hr_54 hlt), trivial⟩
    · have hs_49 := seen_more hn_36 hlt_37 (List.getElem?_eq_some_iff.1 hMn_45).1 hns_47
      refine JL.val rfl rfl (R.extract rfl rfl) ?_
      refine JL.nil ?_
      refine JN.next ?_
      refine JC.seq ?_
      refine JC.condT rfl ?_
      refine JC.skip ?_
      refine JN.next ?_
      refine JC.block ?_
      refine JC.seq ?_
      refine JC.region ?_
      obtain ⟨v_50, rfl, hs_51⟩ := hRy_48
      obtain ⟨aov_50, capv_50, rfl⟩ := IsSlice.val hs_51
      refine JL.entryMap 0 1 rfl rfl rfl hM_29 hen_46 rfl ?_
      have hp_53 := hin_32 _ (List.mem_of_getElem? hMn_45)
      rw [← hL_38.len] at hp_53
      clear hx
      have hx : (chk (0 ≤ k_42 ∧ k_42.toNat < B_34.length) <| setI B_34 k_42 y_43.Data fun m_60 =>  some m_60) = some (B_34.set k_42.toNat y_43.Data) := lay_step hp_53
      refine JL.val rfl rfl (R.extract rfl rfl) ?_
      refine JL.val rfl rfl (R.extract rfl rfl) ?_
      refine JL.alloc Z47 rfl (fun b_55 hb_55 => ?_)
      refine JL.val rfl rfl (R.assign rfl) ?_
      refine JL.store 0 S47 rfl rfl rfl rfl rfl (Nat.le_of_ble_eq_true rfl) ?_
      refine JL.nil ?_
      refine JN.next ?_
      refine JC.region ?_
      refine JL.val rfl rfl (R.fa F25_0 rfl) ?_
      refine JL.val rfl rfl (R.ldo 3 S22 rfl rfl rfl) ?_
      refine JL.val rfl rfl (R.move rfl) ?_
      refine JL.val rfl rfl (R.fa F47_1 rfl) ?_
      refine JL.val rfl rfl (R.ldo 0 S45 rfl rfl rfl) ?_
      obtain ⟨hp_56, hx⟩ := chk_some hx
      obtain ⟨b_57, o_58, hE_59⟩ := RowOf.place hr_39 hp_56
      refine JL.val rfl rfl (R.ix U22 S45 rfl rfl hE_59) ?_
      obtain ⟨m_60, hm_61, hi_62, hx⟩ := setI_some hx
      refine JL.stE 4 (k := k_42) (y := y_43.Data) S45 rfl hr_39 rfl hE_59 rfl rfl (⟨_, rfl, hs_51⟩) RSl.one hm_61 (fun Kr_63 hr_63 hlr_63 => ?_)
      refine JL.nil ?_
      refine JN.blkN ?_
      obtain rfl := Option.some.inj hx
      refine JN.forget 0 ?_
      refine JN.front 4 rfl ?_
      refine JN.front 4 rfl ?_
      refine JN.front 4 rfl ?_
      refine JN.front 4 rfl ?_
      refine JN.front 4 rfl ?_
      exact JN.again (i := (seen_33, B_34, K_35)) (seen_33.push n_41, B_34.set k_42.toNat y_43.Data, Kr_63) ⟨by simp only [Array.toList_push]; exact List.nodup_append.2 ⟨hn_36, by simp, fun a ha b hb e => by simp at hb; subst hb; subst e; exact hns_47 ha⟩, by simp only [Array.toList_push]; intro q hq; rcases List.mem_append.1 hq with h | h; exact hlt_37 q h; simp at h; subst h; exact (List.getElem?_eq_some_iff.1 hMn_45).1, hL_38.step (f := (fun y : Write => y.Data)) hM_29.nodup hin_32 hMn_45 _ (fun q => by simp), hr_63⟩ (by simp only [Array.size_push]; simp only [Array.length_toList] at hs_49; omega) ⟨rfl, rfl, rfl, trivial⟩ rfl rfl
  · have hxo_7 := hx; clear hx; have hx := ht_8; clear ht_8
    refine JC.draw (so := [_]) 7 rfl Mixed ⟨⟨0, rfl⟩, trivial⟩ ?_
    refine JA.val ⟨by kernel_rfl, by kernel_rfl⟩ (calm_only _) (i := 0) rfl ⟨by kernel_rfl, by kernel_rfl, rfl⟩ trivial (stab_of (Hle.refl _) ⟨⟨0, rfl⟩, trivial⟩) (R.fa F25_0 rfl) rfl ?_
    refine JA.val ⟨by kernel_rfl, by kernel_rfl⟩ (calm_only _) (i := 3) rfl ⟨by kernel_rfl, by kernel_rfl, rfl⟩ trivial (stab_of (Hle.refl _) ⟨⟨0, rfl⟩, trivial⟩) (R.fa F25_1 rfl) rfl ?_
    refine JA.two (i := 1) (j := 4) (by kernel_rfl) ?_ ?_
    · refine JO.step rfl trivial rfl (fun K hK => ?_)
      refine JL.val rfl rfl (R.ldo 1 S22 rfl rfl rfl) ?_
      refine JL.nil ?_
      refine hK _ _ _ (stab_of (Hle.refl _) ⟨⟨0, rfl⟩, trivial⟩) ?_
      refine JA.two (i := 2) (j := 4) (by kernel_rfl) ?_ ?_
      · refine JO.step rfl trivial rfl (fun K hK => ?_)
        obtain ⟨x_9, hr_10, hx⟩ := bnd_some hx
        refine JL.callC (vs := [_]) (args := [_]) (K := []) (rst := [_, _]) E66 rfl rfl rfl picks0 (slices_Clone_byte_45_ok p_1.Blocks _ ha_2 _ hr_10) rfl (fun u_11 Ku_11 Hu_11 hRu_11 hleu_11 hfu_11 => ?_)
        obtain ⟨aor_12, nr_12, capr_12, Kr_12, rfl, rfl, rfl, hr_12, hnewr_12, -⟩ := hRu_11
        replace hr_12 := (RowOf.base hr_12 (fun p hp => (hfu_11 p (mem_seg 0 rfl hp)).resolve_left (hnewr_12 p hp)))
        refine JL.nil ?_
        refine hK _ _ _ (stab_of (Hle.refl _) ⟨⟨1, rfl⟩, trivial⟩) ?_
        refine JA.one (i := 4) (by kernel_rfl) ?_
        refine JO.step rfl trivial rfl (fun K hK => ?_)
        refine JL.val rfl rfl (R.ldo 2 S23 rfl rfl rfl) ?_
        refine JL.nil ?_
        refine hK _ _ _ (stab_of (Hle.refl _) ⟨⟨1, rfl⟩, trivial⟩) ?_
        refine JA.one (i := 5) (by kernel_rfl) ?_
        refine JO.step rfl trivial rfl (fun K hK => ?_)
        refine JL.val rfl rfl (R.bldP (vs := [(0, .slice aor_12 nr_12 capr_12), (1, .slice aoa_3 na_3 capa_3)]) (cs := [.slice aor_12 nr_12 capr_12, .slice aoa_3 na_3 capa_3]) Z25 B25 rfl rfl rfl) ?_
        refine JL.nil ?_
        refine hK _ _ _ (stab_of (Hle.refl _) ⟨⟨1, rfl⟩, trivial⟩) ?_
        refine JA.one (i := 6) (by kernel_rfl) ?_
        refine JO.step rfl trivial rfl (fun K hK => ?_)
        refine JL.store 2 S25 rfl rfl rfl rfl rfl (Nat.le_of_ble_eq_true rfl) ?_
        refine JL.nil ?_
        refine hK _ _ _ (stab_of (Hle.refl _) ⟨⟨1, rfl⟩, trivial⟩) ?_
        refine JA.doneN (by kernel_rfl) ?_
        obtain rfl := Option.some.inj hx
        refine JN.front 1 rfl ?_
        refine JN.front 1 rfl ?_
        refine JN.front 2 rfl ?_
        exact JN.cut ⟨aor_12, nr_12, capr_12, Kr_12, rfl, rfl, rfl, hr_12⟩ ⟨rfl, rfl, rfl, trivial⟩ rfl rfl
      · refine JO.step rfl trivial rfl (fun K hK => ?_)
        refine JL.val rfl rfl (R.ldo 1 S23 rfl rfl rfl) ?_
        refine JL.nil ?_
        refine hK _ _ _ (stab_of (Hle.refl _) ⟨⟨0, rfl⟩, trivial⟩) ?_
        refine JA.one (i := 2) (by kernel_rfl) ?_
        refine JO.step rfl trivial rfl (fun K hK => ?_)
        obtain ⟨x_13, hr_14, hx⟩ := bnd_some hx
        refine JL.callC (vs := [_]) (args := [_]) (K := []) (rst := [_, _]) E66 rfl rfl rfl picks0 (slices_Clone_byte_45_ok p_1.Blocks _ ha_2 _ hr_14) rfl (fun u_15 Ku_15 Hu_15 hRu_15 hleu_15 hfu_15 => ?_)
        obtain ⟨aor_16, nr_16, capr_16, Kr_16, rfl, rfl, rfl, hr_16, hnewr_16, -⟩ := hRu_15
        replace hr_16 := (RowOf.base hr_16 (fun p hp => (hfu_15 p (mem_seg 0 rfl hp)).resolve_left (hnewr_16 p hp)))
        refine JL.nil ?_
        refine hK _ _ _ (stab_of (Hle.refl _) ⟨⟨1, rfl⟩, trivial⟩) ?_
        refine JA.one (i := 5) (by kernel_rfl) ?_
        refine JO.step rfl trivial rfl (fun K hK => ?_)
        refine JL.val rfl rfl (R.bldP (vs := [(0, .slice aor_16 nr_16 capr_16), (1, .slice aoa_3 na_3 capa_3)]) (cs := [.slice aor_16 nr_16 capr_16, .slice aoa_3 na_3 capa_3]) Z25 B25 rfl rfl rfl) ?_
        refine JL.nil ?_
        refine hK _ _ _ (stab_of (Hle.refl _) ⟨⟨1, rfl⟩, trivial⟩) ?_
        refine JA.one (i := 6) (by kernel_rfl) ?_
        refine JO.step rfl trivial rfl (fun K hK => ?_)
        refine JL.store 2 S25 rfl rfl rfl rfl rfl (Nat.le_of_ble_eq_true rfl) ?_
        refine JL.nil ?_
        refine hK _ _ _ (stab_of (Hle.refl _) ⟨⟨1, rfl⟩, trivial⟩) ?_
        refine JA.doneN (by kernel_rfl) ?_
        obtain rfl := Option.some.inj hx
        refine JN.front 1 rfl ?_
        refine JN.front 1 rfl ?_
        refine JN.front 2 rfl ?_
        exact JN.cut ⟨aor_16, nr_16, capr_16, Kr_16, rfl, rfl, rfl, hr_16⟩ ⟨rfl, rfl, rfl, trivial⟩ rfl rfl
    · refine JO.step rfl trivial rfl (fun K hK => ?_)
      refine JL.val rfl rfl (R.ldo 1 S23 rfl rfl rfl) ?_
      refine JL.nil ?_
      refine hK _ _ _ (stab_of (Hle.refl _) ⟨⟨0, rfl⟩, trivial⟩) ?_
      refine JA.one (i := 1) (by kernel_rfl) ?_
      refine JO.step rfl trivial rfl (fun K hK => ?_)
      refine JL.val rfl rfl (R.ldo 1 S22 rfl rfl rfl) ?_
      refine JL.nil ?_
      refine hK _ _ _ (stab_of (Hle.refl _) ⟨⟨0, rfl⟩, trivial⟩) ?_
      refine JA.one (i := 2) (by kernel_rfl) ?_
      refine JO.step rfl trivial rfl (fun K hK => ?_)
      obtain ⟨x_17, hr_18, hx⟩ := bnd_some hx
      refine JL.callC (vs := [_]) (args := [_]) (K := []) (rst := [_, _]) E66 rfl rfl rfl picks0 (slices_Clone_byte_45_ok p_1.Blocks _ ha_2 _ hr_18) rfl (fun u_19 Ku_19 Hu_19 hRu_19 hleu_19 hfu_19 => ?_)
      obtain ⟨aor_20, nr_20, capr_20, Kr_20, rfl, rfl, rfl, hr_20, hnewr_20, -⟩ := hRu_19
      replace hr_20 := (RowOf.base hr_20 (fun p hp => (hfu_19 p (mem_seg 0 rfl hp)).resolve_left (hnewr_20 p hp)))
      refine JL.nil ?_
      refine hK _ _ _ (stab_of (Hle.refl _) ⟨⟨1, rfl⟩, trivial⟩) ?_
      refine JA.one (i := 5) (by kernel_rfl) ?_
      refine JO.step rfl trivial rfl (fun K hK => ?_)
      refine JL.val rfl rfl (R.bldP (vs := [(0, .slice aor_20 nr_20 capr_20), (1, .slice aoa_3 na_3 capa_3)]) (cs := [.slice aor_20 nr_20 capr_20, .slice aoa_3 na_3 capa_3]) Z25 B25 rfl rfl rfl) ?_
      refine JL.nil ?_
      refine hK _ _ _ (stab_of (Hle.refl _) ⟨⟨1, rfl⟩, trivial⟩) ?_
      refine JA.one (i := 6) (by kernel_rfl) ?_
      refine JO.step rfl trivial rfl (fun K hK => ?_)
      refine JL.store 2 S25 rfl rfl rfl rfl rfl (Nat.le_of_ble_eq_true rfl) ?_
      refine JL.nil ?_
      refine hK _ _ _ (stab_of (Hle.refl _) ⟨⟨1, rfl⟩, trivial⟩) ?_
      refine JA.doneN (by kernel_rfl) ?_
      obtain rfl := Option.some.inj hx
      refine JN.front 1 rfl ?_
      refine JN.front 1 rfl ?_
      refine JN.front 2 rfl ?_
      exact JN.cut ⟨aor_20, nr_20, capr_20, Kr_20, rfl, rfl, rfl, hr_20⟩ ⟨rfl, rfl, rfl, trivial⟩ rfl rfl

set_option maxHeartbeats 1000000 in
theorem dev_Read_1_ok (p_2 : Disk) (H : Heaplet) {b_1 : Nat} {aoa_3 : Option Addr} {na_3 : Nat} {capa_3 : Nat} {aoa_4 : Option Addr} {na_4 : Nat} {capa_4 : Nat} (ha_3 : IsSlice H (RSl RU8 1) 1 (.slice aoa_3 na_3 capa_3) p_2.Blocks) (ha_4 : IsSlice H R_Write 2 (.slice aoa_4 na_4 capa_4) p_2.Waits) (r : Disk × Disk) (hx : dev_Read_1 p_2 = some r) :
    Does Try.prog 54 #[.pointer (some ⟨b_1, 0, none⟩)] [[(b_1, .cells #[.slice aoa_3 na_3 capa_3, .slice aoa_4 na_4 capa_4] 25 (0, 0))]] H (fun u K' H' => ∃ ao0 : Option Addr, ∃ n0 : Nat, ∃ cap0 : Nat, ∃ ao1 : Option Addr, ∃ n1 : Nat, ∃ cap1 : Nat, ∃ ao2 : Option Addr, ∃ n2 : Nat, ∃ cap2 : Nat, ∃ K2 : Own, ∃ ao3 : Option Addr, ∃ n3 : Nat, ∃ cap3 : Nat, ∃ K3 : Own, u = .agg #[.slice ao2 n2 cap2, .slice ao3 n3 cap3] ∧ K' = [[(b_1, .cells #[.slice ao0 n0 cap0, .slice ao1 n1 cap1] 25 (0, 0))], K2, K3] ∧ IsSlice H' (RSl RU8 1) 1 (.slice ao0 n0 cap0) r.2.Blocks ∧ IsSlice H' R_Write 2 (.slice ao1 n1 cap1) r.2.Waits ∧ Pcs 0 5 45 (.slice ao2 n2 cap2) r.1.Blocks K2 ∧ (∀ p ∈ K2, p.1 ∉ ids (List.flatten [[(b_1, .cells #[.slice aoa_3 na_3 capa_3, .slice aoa_4 na_4 capa_4] 25 (0, 0))]])) ∧ RowOf (New H H') R_Write 0 47 2 (.slice ao3 n3 cap3) r.1.Waits K3 ∧ (∀ p ∈ K3, p.1 ∉ ids (List.flatten [[(b_1, .cells #[.slice aoa_3 na_3 capa_3, .slice aoa_4 na_4 capa_4] 25 (0, 0))]])) ∧ True) := by
  refine Does.enterL (vs := [.pointer (some ⟨b_1, 0, none⟩)]) (l := [(0, .pointer (some ⟨b_1, 0, none⟩))]) Try.func54 rfl rfl ⟨rfl, trivial⟩ (fun w hlt => ?_)
  rw [dev_Read_1.eq_1] at hx
  refine JC.seq ?_
  refine JC.region ?_
  refine JL.alloc Z25 rfl (fun b_5 hb_5 => ?_)
  refine JL.nil ?_
  refine JN.next ?_
  refine JC.seq ?_
  refine JC.region ?_
  refine JL.val rfl rfl (R.ldoN 1 (vs := [.slice aoa_3 na_3 capa_3, .slice aoa_4 na_4 capa_4]) S25 rfl rfl rfl rfl) ?_
  obtain ⟨x_6, hr_7, hx⟩ := bnd_some hx
  refine JL.callC (vs := [_, _]) (args := [_, _]) (K := []) (rst := [_, _]) E44 rfl rfl rfl picks0 (dev_left_ok p_2 _ ha_3 ha_4 _ hr_7) rfl (fun u_8 Ku_8 Hu_8 hRu_8 hleu_8 hfu_8 => ?_)
  obtain ⟨aor_9, nr_9, capr_9, Kr_9, aor_10, nr_10, capr_10, Kr_10, rfl, rfl, hr_9, hnewr_9, hr_10, hnewr_10, -⟩ := hRu_8
  replace hr_9 := (Pcs.base hr_9 (fun p hp => (hfu_8 p (mem_seg 0 rfl hp)).resolve_left (hnewr_9 p hp)))
  replace hr_10 := (RowOf.base (RowOf.mono R_Write.mono (New.call (Hle.refl _)) hr_10) (fun p hp => (hfu_8 p (mem_seg 1 rfl hp)).resolve_left (hnewr_10 p hp)))
  refine JL.store 2 S25 rfl rfl rfl rfl rfl (Nat.le_of_ble_eq_true rfl) ?_
  refine JL.nil ?_
  refine JN.next ?_
  refine JC.ret ?_
  refine JN.outP (vs := [.agg #[.slice aor_9 nr_9 capr_9, .slice aor_10 nr_10 capr_10]]) (K := [_, _, _]) (rst := [_]) (.inl rfl) rfl rfl (Res.cellN 2 rfl rfl S25 rfl) (picks 3 rfl (picks 0 rfl (picks 0 rfl picks0))) ?_
  obtain rfl := Option.some.inj hx
  exact ⟨aoa_3, na_3, capa_3, aoa_4, na_4, capa_4, aor_9, nr_9, capr_9, Kr_9, aor_10, nr_10, capr_10, Kr_10, rfl, rfl, (ha_3.mono (RSl.mono RU8.mono) hleu_8), (ha_4.mono R_Write.mono hleu_8), (Pcs.weak (Nat.zero_le _) hr_9), (newP_ids hr_9 hlt), (RowOf.weak (Nat.zero_le _) hr_10), (new_ids hr_10 hlt), trivial⟩

set_option maxHeartbeats 1000000 in
theorem dev_guarded_v2_ok (p_1 : Disk) (p_4 : Bool) (p_6 : Disk) (H : Heaplet) {aoa_2 : Option Addr} {na_2 : Nat} {capa_2 : Nat} {aoa_3 : Option Addr} {na_3 : Nat} {capa_3 : Nat} {b_5 : Nat} {aoa_7 : Option Addr} {na_7 : Nat} {capa_7 : Nat} {aoa_8 : Option Addr} {na_8 : Nat} {capa_8 : Nat} (ha_2 : IsSlice H (RSl RU8 1) 1 (.slice aoa_2 na_2 capa_2) p_1.Blocks) (ha_3 : IsSlice H R_Write 2 (.slice aoa_3 na_3 capa_3) p_1.Waits) (ha_7 : IsSlice H (RSl RU8 1) 1 (.slice aoa_7 na_7 capa_7) p_6.Blocks) (ha_8 : IsSlice H R_Write 2 (.slice aoa_8 na_8 capa_8) p_6.Waits) (r : Disk × Int × Disk) (hx : dev_guarded_v2 p_1 p_4 p_6 = some r) :
    Does Try.prog 38 #[.agg #[.slice aoa_2 na_2 capa_2, .slice aoa_3 na_3 capa_3], .bool p_4, .func (.func 54) #[] #[.pointer (some ⟨b_5, 0, none⟩)]] [[(b_5, .cells #[.slice aoa_7 na_7 capa_7, .slice aoa_8 na_8 capa_8] 25 (0, 0))]] H (fun u K' H' => ∃ ao0 : Option Addr, ∃ n0 : Nat, ∃ cap0 : Nat, ∃ ao1 : Option Addr, ∃ n1 : Nat, ∃ cap1 : Nat, ∃ ao2 : Option Addr, ∃ n2 : Nat, ∃ cap2 : Nat, ∃ ao3 : Option Addr, ∃ n3 : Nat, ∃ cap3 : Nat, ∃ K3 : Own, u = .tuple #[.agg #[.slice ao2 n2 cap2, .slice ao3 n3 cap3], .int .i64 r.2.1] ∧ K' = [[(b_5, .cells #[.slice ao0 n0 cap0, .slice ao1 n1 cap1] 25 (0, 0))], K3] ∧ IsSlice H' (RSl RU8 1) 1 (.slice ao0 n0 cap0) r.2.2.Blocks ∧ IsSlice H' R_Write 2 (.slice ao1 n1 cap1) r.2.2.Waits ∧ IsSlice (New H H') (RSl RU8 1) 1 (.slice ao2 n2 cap2) r.1.Blocks ∧ RowOf (New H H') R_Write 0 47 2 (.slice ao3 n3 cap3) r.1.Waits K3 ∧ (∀ p ∈ K3, p.1 ∉ ids (List.flatten [[(b_5, .cells #[.slice aoa_7 na_7 capa_7, .slice aoa_8 na_8 capa_8] 25 (0, 0))]])) ∧ True) := by
  refine Does.enterL (vs := [.agg #[.slice aoa_2 na_2 capa_2, .slice aoa_3 na_3 capa_3], .bool p_4, .func (.func 54) #[] #[.pointer (some ⟨b_5, 0, none⟩)]]) (l := [(0, .agg #[.slice aoa_2 na_2 capa_2, .slice aoa_3 na_3 capa_3]), (1, .bool p_4), (2, .func (.func 54) #[] #[.pointer (some ⟨b_5, 0, none⟩)])]) Try.func38 rfl rfl ⟨rfl, rfl, rfl, trivial⟩ (fun w hlt => ?_)
  rw [dev_guarded_v2.eq_1] at hx
  refine JC.seq ?_
  refine JC.region ?_
  refine JL.box rfl rfl (fun b_9 hb_9 => ?_)
  refine JL.alloc Z25 rfl (fun b_10 hb_10 => ?_)
  refine JL.val rfl rfl (R.assign rfl) ?_
  refine JL.nil ?_
  refine JN.next ?_
  refine JC.seq ?_
  refine JC.region ?_
  refine JL.val rfl rfl (R.ldoN 1 (vs := [.slice aoa_2 na_2 capa_2, .slice aoa_3 na_3 capa_3]) S25 rfl rfl rfl rfl) ?_
  obtain ⟨x_11, hr_12, hx⟩ := bnd_some hx
  refine JL.callC (vs := [_]) (args := [_]) (K := []) (rst := [_, _, _]) E24 rfl rfl rfl picks0 (dev_Check_ok p_1 _ ha_2 ha_3 _ hr_12) rfl (fun u_13 Ku_13 Hu_13 hRu_13 hleu_13 hfu_13 => ?_)
  obtain ⟨rfl, rfl, rfl, -⟩ := hRu_13
  refine JL.val rfl rfl (R.assign rfl) ?_
  refine JL.nil ?_
  refine JN.next ?_
  refine JC.seq ?_
  refine JC.block ?_
  refine JC.seq ?_
  refine JC.region ?_
  refine JL.val rfl rfl (R.move rfl) ?_
  refine JL.val rfl rfl (R.neq_i rfl rfl) ?_
  refine JL.val rfl rfl (R.assign rfl) ?_
  refine JL.nil ?_
  refine JN.next ?_
  refine JC.condB rfl (fun c_14 => ?_) (fun c_14 => ?_)
  · replace hx := cond_t c_14 hx
    refine JC.seq ?_
    refine JC.region ?_
    refine JL.val rfl rfl (R.bldP (vs := []) (cs := [.slice none 0 0, .slice none 0 0]) Z25 B25 rfl rfl rfl) ?_
    refine JL.val rfl rfl (R.move rfl) ?_
    refine JL.store 0 S25 rfl rfl rfl rfl rfl (Nat.le_of_ble_eq_true rfl) ?_
    refine JL.val rfl rfl (R.assign rfl) ?_
    refine JL.nil ?_
    refine JN.next ?_
    refine JC.ret ?_
    refine JN.blkR ?_
    refine JN.passR ?_
    refine JN.seg0 ?_
    refine JN.outP (vs := [.agg #[.slice none 0 0, .slice none 0 0], .int .i64 x_11]) (K := [_, _]) (rst := [_, _]) (.inl rfl) rfl rfl (Res.cellN 1 rfl rfl S25 (Res.tmp rfl rfl)) (picks 3 rfl (picks 0 rfl picks0)) ?_
    obtain rfl := Option.some.inj hx
    exact ⟨aoa_7, na_7, capa_7, aoa_8, na_8, capa_8, none, 0, 0, none, 0, 0, [], rfl, rfl, ha_7, ha_8, (IsSlice.nil _ _ _), (RowOf.nil _ _ _ _ _), (fun p hp => by cases hp), trivial⟩
  · replace hx := cond_f c_14 hx
    refine JC.seq ?_
    refine JC.region ?_
    refine JL.val rfl rfl (R.move rfl) ?_
    refine JL.val rfl rfl (R.not rfl) ?_
    refine JL.val rfl rfl (R.assign rfl) ?_
    refine JL.nil ?_
    refine JN.next ?_
    refine JC.condB rfl (fun c_15 => ?_) (fun c_15 => ?_)
    · replace hx := cond_t c_15 hx
      refine JC.seq ?_
      refine JC.region ?_
      refine JL.val rfl rfl (R.bldP (vs := []) (cs := [.slice none 0 0, .slice none 0 0]) Z25 B25 rfl rfl rfl) ?_
      refine JL.store 0 S25 rfl rfl rfl rfl rfl (Nat.le_of_ble_eq_true rfl) ?_
      refine JL.val rfl rfl (R.assign rfl) ?_
      refine JL.nil ?_
      refine JN.next ?_
      refine JC.ret ?_
      refine JN.blkR ?_
      refine JN.passR ?_
      refine JN.seg0 ?_
      refine JN.outP (vs := [.agg #[.slice none 0 0, .slice none 0 0], .int .i64 2]) (K := [_, _]) (rst := [_, _]) (.inl rfl) rfl rfl (Res.cellN 1 rfl rfl S25 (Res.tmp rfl rfl)) (picks 3 rfl (picks 0 rfl picks0)) ?_
      obtain rfl := Option.some.inj hx
      exact ⟨aoa_7, na_7, capa_7, aoa_8, na_8, capa_8, none, 0, 0, none, 0, 0, [], rfl, rfl, ha_7, ha_8, (IsSlice.nil _ _ _), (RowOf.nil _ _ _ _ _), (fun p hp => by cases hp), trivial⟩
    · replace hx := cond_f c_15 hx
      refine JC.skip ?_
      refine JN.blkN ?_
      refine JN.next ?_
      refine JC.seq ?_
      refine JC.region ?_
      refine JL.val rfl rfl (R.move rfl) ?_
      obtain ⟨x_16, hr_17, hx⟩ := bnd_some hx
      refine JL.callC (vs := []) (args := [_]) (K := [_]) (rst := [_, _]) E54 rfl rfl rfl (picks 2 rfl picks0) (dev_Read_1_ok p_6 _ ha_7 ha_8 _ hr_17) rfl (fun u_18 Ku_18 Hu_18 hRu_18 hleu_18 hfu_18 => ?_)
      obtain ⟨aoz_19, nz_19, capz_19, aoz_20, nz_20, capz_20, aor_21, nr_21, capr_21, Kr_21, aor_22, nr_22, capr_22, Kr_22, rfl, rfl, hz_19, hz_20, hr_21, hnewr_21, hr_22, hnewr_22, -⟩ := hRu_18
      replace hr_21 := (Pcs.base hr_21 (fun p hp => (hfu_18 p (mem_seg 1 rfl hp)).resolve_left (hnewr_21 p hp)))
      replace hr_22 := (RowOf.base (RowOf.mono R_Write.mono (New.call (Hle.refl _)) hr_22) (fun p hp => (hfu_18 p (mem_seg 2 rfl hp)).resolve_left (hnewr_22 p hp)))
      refine JL.store 3 S25 rfl rfl rfl rfl rfl (Nat.le_of_ble_eq_true rfl) ?_
      refine JL.val rfl rfl (R.assign rfl) ?_
      refine JL.nil ?_
      refine JN.next ?_
      refine JC.ret ?_
      refine JN.pubPcs 1  rfl hr_21 (Nat.le_refl _) (fun H_23 hleH_23 hsH_23 => ?_)
      refine JN.forget 1 ?_
      refine JN.outP (vs := [.agg #[.slice aor_21 nr_21 capr_21, .slice aor_22 nr_22 capr_22], .int .i64 0]) (K := [_, _]) (rst := [_, _]) (.inl rfl) rfl rfl (Res.cellN 2 rfl rfl S25 (Res.tmp rfl rfl)) (picks 0 rfl (picks 0 rfl picks0)) ?_
      obtain rfl := Option.some.inj hx
      exact ⟨aoz_19, nz_19, capz_19, aoz_20, nz_20, capz_20, aor_21, nr_21, capr_21, aor_22, nr_22, capr_22, Kr_22, rfl, rfl, (hz_19.mono (RSl.mono RU8.mono) hleH_23), (hz_20.mono R_Write.mono hleH_23), hsH_23, (RowOf.weak (Nat.zero_le _) (hr_22.mono R_Write.mono (New.mono hleH_23))), (new_ids (hr_22.mono R_Write.mono (New.mono hleH_23)) hlt), trivial⟩

set_option maxHeartbeats 1000000 in
theorem dev_Read_ok (p_1 : Disk) (p_4 : Int) (H : Heaplet) {aoa_2 : Option Addr} {na_2 : Nat} {capa_2 : Nat} {aoa_3 : Option Addr} {na_3 : Nat} {capa_3 : Nat} (ha_2 : IsSlice H (RSl RU8 1) 1 (.slice aoa_2 na_2 capa_2) p_1.Blocks) (ha_3 : IsSlice H R_Write 2 (.slice aoa_3 na_3 capa_3) p_1.Waits) (r : List UInt8 × Int) (hx : dev_Read p_1 p_4 = some r) :
    Does Try.prog 30 #[.agg #[.slice aoa_2 na_2 capa_2, .slice aoa_3 na_3 capa_3], .int .i64 p_4] [] H (fun u K' H' => ∃ ao0 : Option Addr, ∃ n0 : Nat, ∃ cap0 : Nat, u = .tuple #[.slice ao0 n0 cap0, .int .i64 r.2] ∧ K' = [] ∧ IsSlice (New H H') RU8 1 (.slice ao0 n0 cap0) r.1 ∧ True) := by
  refine Does.enterL (vs := [.agg #[.slice aoa_2 na_2 capa_2, .slice aoa_3 na_3 capa_3], .int .i64 p_4]) (l := [(0, .agg #[.slice aoa_2 na_2 capa_2, .slice aoa_3 na_3 capa_3]), (1, .int .i64 p_4)]) Try.func30 rfl rfl ⟨rfl, rfl, trivial⟩ (fun w hlt => ?_)
  rw [dev_Read.eq_1] at hx
  refine JC.seq ?_
  refine JC.region ?_
  refine JL.box rfl rfl (fun b_5 hb_5 => ?_)
  refine JL.val rfl rfl (R.assign rfl) ?_
  refine JL.val rfl rfl (R.assign rfl) ?_
  refine JL.nil ?_
  refine JN.next ?_
  refine JC.seq ?_
  obtain ⟨t_6, ht_8, hx⟩ := bnd_some hx
  refine JC.cut (fun l o g => ∃ H_20 : Heaplet, ∃ b_21 : Nat, ∃ aoz_22 : Option Addr, ∃ nz_22 : Nat, ∃ capz_22 : Nat, ∃ aor_23 : Option Addr, ∃ nr_23 : Nat, ∃ capr_23 : Nat, ∃ Kr_23 : Own, l = [(1, .int .i64 p_4), (6, .pointer (some ⟨b_21, 0, none⟩)), (7, .int .i64 t_6.2.2)] ∧ o = [[(b_21, .cells #[.slice aoz_22 nz_22 capz_22, .slice aor_23 nr_23 capr_23] 25 (0, 0))], Kr_23] ∧ H_20 = g ∧ Hle H H_20 ∧ w.heap.size ≤ b_21 ∧ IsSlice (New H H_20) (RSl RU8 1) 1 (.slice aoz_22 nz_22 capz_22) t_6.1 ∧ RowOf (New H H_20) R_Write w.heap.size 47 2 (.slice aor_23 nr_23 capr_23) t_6.2.1 Kr_23) ?_ ?_
  · rintro _ _ _ ⟨H_20, b_21, aoz_22, nz_22, capz_22, aor_23, nr_23, capr_23, Kr_23, rfl, rfl, rfl, hleH_20, hb_21, hz_22, hr_23⟩
    refine JN.next ?_
    refine JC.seq ?_
    refine JC.seq ?_
    refine JC.region ?_
    refine JL.val rfl rfl (R.move rfl) ?_
    refine JL.val rfl rfl (R.neq_i rfl rfl) ?_
    refine JL.nil ?_
    refine JN.next ?_
    refine JC.condB rfl (fun c_24 => ?_) (fun c_24 => ?_)
    · replace hx := cond_t c_24 hx
      refine JC.seq ?_
      refine JC.region ?_
      refine JL.val rfl rfl (R.move rfl) ?_
      refine JL.val rfl rfl (R.assign rfl) ?_
      refine JL.val rfl rfl (R.assign rfl) ?_
      refine JL.nil ?_
      refine JN.next ?_
      refine JC.ret ?_
      refine JN.passR ?_
      refine JN.outP (vs := [.slice none 0 0, .int .i64 t_6.2.2]) (K := []) (rst := [_, _]) (.inl rfl) rfl rfl (Res.tmp rfl (Res.tmp rfl rfl)) picks0 ?_
      obtain rfl := Option.some.inj hx
      exact ⟨none, 0, 0, rfl, rfl, (IsSlice.nil _ _ _), trivial⟩
    · replace hx := cond_f c_24 hx
      refine JC.skip ?_
      refine JN.next ?_
      refine JC.seq ?_
      refine JC.region ?_
      refine JL.val rfl rfl (R.fa F25_0 rfl) ?_
      refine JL.val rfl rfl (R.ldo 0 S22 rfl rfl rfl) ?_
      refine JL.val rfl rfl (R.move rfl) ?_
      obtain ⟨y_25, hN_26, hx⟩ := idx_some hx
      obtain ⟨b_27, o_28, cs_29, hE_30, hR_31, hl_32, hc_33⟩ := IsSlice.elem hz_22 hN_26
      obtain ⟨v_34, rfl, hs_35⟩ := hR_31
      obtain ⟨aov_34, capv_34, rfl⟩ := IsSlice.val hs_35
      refine JL.val rfl rfl (R.ix U22 S45 rfl rfl hE_30) ?_
      refine JL.val rfl rfl (R.ldH S45 rfl ((fun j u e => New.le _ _ _ _ _ (hc_33 j u e)) 0 _ rfl)) ?_
      refine JL.val rfl rfl (R.assign rfl) ?_
      refine JL.val rfl rfl (R.assign rfl) ?_
      refine JL.nil ?_
      refine JN.next ?_
      refine JC.ret ?_
      refine JN.outP (vs := [.slice aov_34 y_25.length capv_34, .int .i64 0]) (K := []) (rst := [_, _]) (.inl rfl) rfl rfl (Res.tmp rfl (Res.tmp rfl rfl)) picks0 ?_
      obtain rfl := Option.some.inj hx
      exact ⟨aov_34, y_25.length, capv_34, rfl, rfl, hs_35, trivial⟩
  · have hxo_7 := hx; clear hx; have hx := ht_8; clear ht_8
    refine JC.draw (so := []) 11 rfl Mixed trivial ?_
    refine JA.val ⟨by kernel_rfl, by kernel_rfl⟩ (calm_only _) (i := 1) rfl ⟨by kernel_rfl, by kernel_rfl, rfl⟩ trivial (stab_of (Hle.refl _) trivial) (R.move rfl) rfl ?_
    refine JA.val ⟨by kernel_rfl, by kernel_rfl⟩ (calm_only _) (i := 3) rfl ⟨by kernel_rfl, by kernel_rfl, rfl⟩ trivial (stab_of (Hle.refl _) trivial) (R.func (vf := []) (vc := [_]) rfl rfl) rfl ?_
    obtain ⟨x_9, hr_10, hx⟩ := bnd_some hx
    obtain ⟨x_12, hr_13, hx⟩ := bnd_some hx
    refine JA.three (i := 0) (j := 2) (m := 8) (by kernel_rfl) ?_ ?_ ?_
    · refine JO.step rfl trivial rfl (fun K hK => ?_)
      refine JL.val rfl rfl (R.ldoN 0 (vs := [.slice aoa_2 na_2 capa_2, .slice aoa_3 na_3 capa_3]) S25 rfl rfl rfl rfl) ?_
      refine JL.nil ?_
      refine hK _ _ _ (stab_of (Hle.refl _) trivial) ?_
      refine JA.two (i := 2) (j := 8) (by kernel_rfl) ?_ ?_
      · refine JO.step rfl trivial rfl (fun K hK => ?_)
        refine JL.callC (vs := [_]) (args := [_]) (K := []) (rst := [_]) E39 rfl rfl rfl picks0 (dev_place_ok p_4 _ _ hr_10) rfl (fun u_11 Ku_11 Hu_11 hRu_11 hleu_11 hfu_11 => ?_)
        obtain ⟨rfl, rfl, rfl, -⟩ := hRu_11
        refine JL.nil ?_
        refine hK _ _ _ (stab_of (Hle.refl _) trivial) ?_
        refine JA.two (i := 4) (j := 8) (by kernel_rfl) ?_ ?_
        · refine JO.step rfl trivial rfl (fun K hK => ?_)
          refine JL.callC (vs := [_, _, _]) (args := [_, _, _]) (K := [_]) (rst := []) E38 rfl rfl rfl (picks 0 rfl picks0) (dev_guarded_v2_ok p_1 x_9 p_1 _ ha_2 ha_3 ha_2 ha_3 _ hr_13) rfl (fun u_14 Ku_14 Hu_14 hRu_14 hleu_14 hfu_14 => ?_)
          obtain ⟨aoz_15, nz_15, capz_15, aoz_16, nz_16, capz_16, aoz_17, nz_17, capz_17, aor_18, nr_18, capr_18, Kr_18, rfl, rfl, hz_15, hz_16, hz_17, hr_18, hnewr_18, -⟩ := hRu_14
          replace hr_18 := (RowOf.base (RowOf.mono R_Write.mono (New.call (Hle.refl _)) hr_18) (fun p hp => (hfu_14 p (mem_seg 1 rfl hp)).resolve_left (hnewr_18 p hp)))
          replace hz_17 := IsSlice.mono (RSl.mono RU8.mono) (New.call (Hle.refl _)) hz_17
          refine JL.nil ?_
          refine hK _ _ _ (stab_of hleu_14 trivial) ?_
          refine JA.val ⟨by kernel_rfl, by kernel_rfl⟩ (calm_only _) (i := 5) rfl ⟨by kernel_rfl, by kernel_rfl, rfl⟩ trivial (stab_of hleu_14 trivial) (R.move rfl) rfl ?_
          refine JA.val ⟨by kernel_rfl, by kernel_rfl⟩ (calm_only _) (i := 6) rfl ⟨by kernel_rfl, by kernel_rfl, rfl⟩ trivial (stab_of hleu_14 trivial) (R.extract rfl rfl) rfl ?_
          refine JA.val ⟨by kernel_rfl, by kernel_rfl⟩ (calm_only _) (i := 7) rfl ⟨by kernel_rfl, by kernel_rfl, rfl⟩ trivial (stab_of hleu_14 trivial) (R.extract rfl rfl) rfl ?_
          refine JA.one (i := 8) (by kernel_rfl) ?_
          refine JO.step rfl trivial rfl (fun K hK => ?_)
          refine JL.alloc Z25 rfl (fun b_19 hb_19 => ?_)
          refine JL.nil ?_
          refine hK _ _ _ (stab_of hleu_14 trivial) ?_
          refine JA.one (i := 9) (by kernel_rfl) ?_
          refine JO.step rfl trivial rfl (fun K hK => ?_)
          refine JL.store 0 S25 rfl rfl rfl rfl rfl (Nat.le_of_ble_eq_true rfl) ?_
          refine JL.nil ?_
          refine hK _ _ _ (stab_of hleu_14 trivial) ?_
          refine JA.val ⟨by kernel_rfl, by kernel_rfl⟩ (calm_only _) (i := 10) rfl ⟨by kernel_rfl, by kernel_rfl, rfl⟩ trivial (stab_of hleu_14 trivial) (R.assign rfl) rfl ?_
          refine JA.doneN (by kernel_rfl) ?_
          obtain rfl := Option.some.inj hx
          refine JN.forget 1 ?_
          refine JN.front 1 rfl ?_
          refine JN.front 1 rfl ?_
          exact JN.cut ⟨Hu_14, b_19, aoz_17, nz_17, capz_17, aor_18, nr_18, capr_18, Kr_18, rfl, rfl, rfl, (hleu_14), hb_19, hz_17, hr_18⟩ ⟨rfl, rfl, rfl, trivial⟩ rfl rfl
        · refine JO.step rfl trivial rfl (fun K hK => ?_)
          refine JL.alloc Z25 rfl (fun b_19 hb_19 => ?_)
          refine JL.nil ?_
          refine hK _ _ _ (stab_of (Hle.refl _) trivial) ?_
          refine JA.one (i := 4) (by kernel_rfl) ?_
          refine JO.step rfl trivial rfl (fun K hK => ?_)
          refine JL.callC (vs := [_, _, _]) (args := [_, _, _]) (K := [_]) (rst := [_]) E38 rfl rfl rfl (picks 1 rfl picks0) (dev_guarded_v2_ok p_1 x_9 p_1 _ ha_2 ha_3 ha_2 ha_3 _ hr_13) rfl (fun u_14 Ku_14 Hu_14 hRu_14 hleu_14 hfu_14 => ?_)
          obtain ⟨aoz_15, nz_15, capz_15, aoz_16, nz_16, capz_16, aoz_17, nz_17, capz_17, aor_18, nr_18, capr_18, Kr_18, rfl, rfl, hz_15, hz_16, hz_17, hr_18, hnewr_18, -⟩ := hRu_14
          replace hr_18 := (RowOf.base (RowOf.mono R_Write.mono (New.call (Hle.refl _)) hr_18) (fun p hp => (hfu_14 p (mem_seg 1 rfl hp)).resolve_left (hnewr_18 p hp)))
          replace hz_17 := IsSlice.mono (RSl.mono RU8.mono) (New.call (Hle.refl _)) hz_17
          refine JL.nil ?_
          refine hK _ _ _ (stab_of hleu_14 trivial) ?_
          refine JA.val ⟨by kernel_rfl, by kernel_rfl⟩ (calm_only _) (i := 5) rfl ⟨by kernel_rfl, by kernel_rfl, rfl⟩ trivial (stab_of hleu_14 trivial) (R.move rfl) rfl ?_
          refine JA.val ⟨by kernel_rfl, by kernel_rfl⟩ (calm_only _) (i := 6) rfl ⟨by kernel_rfl, by kernel_rfl, rfl⟩ trivial (stab_of hleu_14 trivial) (R.extract rfl rfl) rfl ?_
          refine JA.val ⟨by kernel_rfl, by kernel_rfl⟩ (calm_only _) (i := 7) rfl ⟨by kernel_rfl, by kernel_rfl, rfl⟩ trivial (stab_of hleu_14 trivial) (R.extract rfl rfl) rfl ?_
          refine JA.one (i := 9) (by kernel_rfl) ?_
          refine JO.step rfl trivial rfl (fun K hK => ?_)
          refine JL.store 2 S25 rfl rfl rfl rfl rfl (Nat.le_of_ble_eq_true rfl) ?_
          refine JL.nil ?_
          refine hK _ _ _ (stab_of hleu_14 trivial) ?_
          refine JA.val ⟨by kernel_rfl, by kernel_rfl⟩ (calm_only _) (i := 10) rfl ⟨by kernel_rfl, by kernel_rfl, rfl⟩ trivial (stab_of hleu_14 trivial) (R.assign rfl) rfl ?_
          refine JA.doneN (by kernel_rfl) ?_
          obtain rfl := Option.some.inj hx
          refine JN.forget 0 ?_
          refine JN.front 1 rfl ?_
          exact JN.cut ⟨Hu_14, b_19, aoz_17, nz_17, capz_17, aor_18, nr_18, capr_18, Kr_18, rfl, rfl, rfl, (hleu_14), hb_19, hz_17, hr_18⟩ ⟨rfl, rfl, rfl, trivial⟩ rfl rfl
      · refine JO.step rfl trivial rfl (fun K hK => ?_)
        refine JL.alloc Z25 rfl (fun b_19 hb_19 => ?_)
        refine JL.nil ?_
        refine hK _ _ _ (stab_of (Hle.refl _) trivial) ?_
        refine JA.one (i := 2) (by kernel_rfl) ?_
        refine JO.step rfl trivial rfl (fun K hK => ?_)
        refine JL.callC (vs := [_]) (args := [_]) (K := []) (rst := [_, _]) E39 rfl rfl rfl picks0 (dev_place_ok p_4 _ _ hr_10) rfl (fun u_11 Ku_11 Hu_11 hRu_11 hleu_11 hfu_11 => ?_)
        obtain ⟨rfl, rfl, rfl, -⟩ := hRu_11
        refine JL.nil ?_
        refine hK _ _ _ (stab_of (Hle.refl _) trivial) ?_
        refine JA.one (i := 4) (by kernel_rfl) ?_
        refine JO.step rfl trivial rfl (fun K hK => ?_)
        refine JL.callC (vs := [_, _, _]) (args := [_, _, _]) (K := [_]) (rst := [_]) E38 rfl rfl rfl (picks 1 rfl picks0) (dev_guarded_v2_ok p_1 x_9 p_1 _ ha_2 ha_3 ha_2 ha_3 _ hr_13) rfl (fun u_14 Ku_14 Hu_14 hRu_14 hleu_14 hfu_14 => ?_)
        obtain ⟨aoz_15, nz_15, capz_15, aoz_16, nz_16, capz_16, aoz_17, nz_17, capz_17, aor_18, nr_18, capr_18, Kr_18, rfl, rfl, hz_15, hz_16, hz_17, hr_18, hnewr_18, -⟩ := hRu_14
        replace hr_18 := (RowOf.base (RowOf.mono R_Write.mono (New.call (Hle.refl _)) hr_18) (fun p hp => (hfu_14 p (mem_seg 1 rfl hp)).resolve_left (hnewr_18 p hp)))
        replace hz_17 := IsSlice.mono (RSl.mono RU8.mono) (New.call (Hle.refl _)) hz_17
        refine JL.nil ?_
        refine hK _ _ _ (stab_of hleu_14 trivial) ?_
        refine JA.val ⟨by kernel_rfl, by kernel_rfl⟩ (calm_only _) (i := 5) rfl ⟨by kernel_rfl, by kernel_rfl, rfl⟩ trivial (stab_of hleu_14 trivial) (R.move rfl) rfl ?_
        refine JA.val ⟨by kernel_rfl, by kernel_rfl⟩ (calm_only _) (i := 6) rfl ⟨by kernel_rfl, by kernel_rfl, rfl⟩ trivial (stab_of hleu_14 trivial) (R.extract rfl rfl) rfl ?_
        refine JA.val ⟨by kernel_rfl, by kernel_rfl⟩ (calm_only _) (i := 7) rfl ⟨by kernel_rfl, by kernel_rfl, rfl⟩ trivial (stab_of hleu_14 trivial) (R.extract rfl rfl) rfl ?_
        refine JA.one (i := 9) (by kernel_rfl) ?_
        refine JO.step rfl trivial rfl (fun K hK => ?_)
        refine JL.store 2 S25 rfl rfl rfl rfl rfl (Nat.le_of_ble_eq_true rfl) ?_
        refine JL.nil ?_
        refine hK _ _ _ (stab_of hleu_14 trivial) ?_
        refine JA.val ⟨by kernel_rfl, by kernel_rfl⟩ (calm_only _) (i := 10) rfl ⟨by kernel_rfl, by kernel_rfl, rfl⟩ trivial (stab_of hleu_14 trivial) (R.assign rfl) rfl ?_
        refine JA.doneN (by kernel_rfl) ?_
        obtain rfl := Option.some.inj hx
        refine JN.forget 0 ?_
        refine JN.front 1 rfl ?_
        exact JN.cut ⟨Hu_14, b_19, aoz_17, nz_17, capz_17, aor_18, nr_18, capr_18, Kr_18, rfl, rfl, rfl, (hleu_14), hb_19, hz_17, hr_18⟩ ⟨rfl, rfl, rfl, trivial⟩ rfl rfl
    · refine JO.step rfl trivial rfl (fun K hK => ?_)
      refine JL.callC (vs := [_]) (args := [_]) (K := []) (rst := [_]) E39 rfl rfl rfl picks0 (dev_place_ok p_4 _ _ hr_10) rfl (fun u_11 Ku_11 Hu_11 hRu_11 hleu_11 hfu_11 => ?_)
      obtain ⟨rfl, rfl, rfl, -⟩ := hRu_11
      refine JL.nil ?_
      refine hK _ _ _ (stab_of (Hle.refl _) trivial) ?_
      refine JA.two (i := 0) (j := 8) (by kernel_rfl) ?_ ?_
      · refine JO.step rfl trivial rfl (fun K hK => ?_)
        refine JL.val rfl rfl (R.ldoN 0 (vs := [.slice aoa_2 na_2 capa_2, .slice aoa_3 na_3 capa_3]) S25 rfl rfl rfl rfl) ?_
        refine JL.nil ?_
        refine hK _ _ _ (stab_of (Hle.refl _) trivial) ?_
        refine JA.two (i := 4) (j := 8) (by kernel_rfl) ?_ ?_
        · refine JO.step rfl trivial rfl (fun K hK => ?_)
          refine JL.callC (vs := [_, _, _]) (args := [_, _, _]) (K := [_]) (rst := []) E38 rfl rfl rfl (picks 0 rfl picks0) (dev_guarded_v2_ok p_1 x_9 p_1 _ ha_2 ha_3 ha_2 ha_3 _ hr_13) rfl (fun u_14 Ku_14 Hu_14 hRu_14 hleu_14 hfu_14 => ?_)
          obtain ⟨aoz_15, nz_15, capz_15, aoz_16, nz_16, capz_16, aoz_17, nz_17, capz_17, aor_18, nr_18, capr_18, Kr_18, rfl, rfl, hz_15, hz_16, hz_17, hr_18, hnewr_18, -⟩ := hRu_14
          replace hr_18 := (RowOf.base (RowOf.mono R_Write.mono (New.call (Hle.refl _)) hr_18) (fun p hp => (hfu_14 p (mem_seg 1 rfl hp)).resolve_left (hnewr_18 p hp)))
          replace hz_17 := IsSlice.mono (RSl.mono RU8.mono) (New.call (Hle.refl _)) hz_17
          refine JL.nil ?_
          refine hK _ _ _ (stab_of hleu_14 trivial) ?_
          refine JA.val ⟨by kernel_rfl, by kernel_rfl⟩ (calm_only _) (i := 5) rfl ⟨by kernel_rfl, by kernel_rfl, rfl⟩ trivial (stab_of hleu_14 trivial) (R.move rfl) rfl ?_
          refine JA.val ⟨by kernel_rfl, by kernel_rfl⟩ (calm_only _) (i := 6) rfl ⟨by kernel_rfl, by kernel_rfl, rfl⟩ trivial (stab_of hleu_14 trivial) (R.extract rfl rfl) rfl ?_
          refine JA.val ⟨by kernel_rfl, by kernel_rfl⟩ (calm_only _) (i := 7) rfl ⟨by kernel_rfl, by kernel_rfl, rfl⟩ trivial (stab_of hleu_14 trivial) (R.extract rfl rfl) rfl ?_
          refine JA.one (i := 8) (by kernel_rfl) ?_
          refine JO.step rfl trivial rfl (fun K hK => ?_)
          refine JL.alloc Z25 rfl (fun b_19 hb_19 => ?_)
          refine JL.nil ?_
          refine hK _ _ _ (stab_of hleu_14 trivial) ?_
          refine JA.one (i := 9) (by kernel_rfl) ?_
          refine JO.step rfl trivial rfl (fun K hK => ?_)
          refine JL.store 0 S25 rfl rfl rfl rfl rfl (Nat.le_of_ble_eq_true rfl) ?_
          refine JL.nil ?_
          refine hK _ _ _ (stab_of hleu_14 trivial) ?_
          refine JA.val ⟨by kernel_rfl, by kernel_rfl⟩ (calm_only _) (i := 10) rfl ⟨by kernel_rfl, by kernel_rfl, rfl⟩ trivial (stab_of hleu_14 trivial) (R.assign rfl) rfl ?_
          refine JA.doneN (by kernel_rfl) ?_
          obtain rfl := Option.some.inj hx
          refine JN.forget 1 ?_
          refine JN.front 1 rfl ?_
          refine JN.front 1 rfl ?_
          exact JN.cut ⟨Hu_14, b_19, aoz_17, nz_17, capz_17, aor_18, nr_18, capr_18, Kr_18, rfl, rfl, rfl, (hleu_14), hb_19, hz_17, hr_18⟩ ⟨rfl, rfl, rfl, trivial⟩ rfl rfl
        · refine JO.step rfl trivial rfl (fun K hK => ?_)
          refine JL.alloc Z25 rfl (fun b_19 hb_19 => ?_)
          refine JL.nil ?_
          refine hK _ _ _ (stab_of (Hle.refl _) trivial) ?_
          refine JA.one (i := 4) (by kernel_rfl) ?_
          refine JO.step rfl trivial rfl (fun K hK => ?_)
          refine JL.callC (vs := [_, _, _]) (args := [_, _, _]) (K := [_]) (rst := [_]) E38 rfl rfl rfl (picks 1 rfl picks0) (dev_guarded_v2_ok p_1 x_9 p_1 _ ha_2 ha_3 ha_2 ha_3 _ hr_13) rfl (fun u_14 Ku_14 Hu_14 hRu_14 hleu_14 hfu_14 => ?_)
          obtain ⟨aoz_15, nz_15, capz_15, aoz_16, nz_16, capz_16, aoz_17, nz_17, capz_17, aor_18, nr_18, capr_18, Kr_18, rfl, rfl, hz_15, hz_16, hz_17, hr_18, hnewr_18, -⟩ := hRu_14
          replace hr_18 := (RowOf.base (RowOf.mono R_Write.mono (New.call (Hle.refl _)) hr_18) (fun p hp => (hfu_14 p (mem_seg 1 rfl hp)).resolve_left (hnewr_18 p hp)))
          replace hz_17 := IsSlice.mono (RSl.mono RU8.mono) (New.call (Hle.refl _)) hz_17
          refine JL.nil ?_
          refine hK _ _ _ (stab_of hleu_14 trivial) ?_
          refine JA.val ⟨by kernel_rfl, by kernel_rfl⟩ (calm_only _) (i := 5) rfl ⟨by kernel_rfl, by kernel_rfl, rfl⟩ trivial (stab_of hleu_14 trivial) (R.move rfl) rfl ?_
          refine JA.val ⟨by kernel_rfl, by kernel_rfl⟩ (calm_only _) (i := 6) rfl ⟨by kernel_rfl, by kernel_rfl, rfl⟩ trivial (stab_of hleu_14 trivial) (R.extract rfl rfl) rfl ?_
          refine JA.val ⟨by kernel_rfl, by kernel_rfl⟩ (calm_only _) (i := 7) rfl ⟨by kernel_rfl, by kernel_rfl, rfl⟩ trivial (stab_of hleu_14 trivial) (R.extract rfl rfl) rfl ?_
          refine JA.one (i := 9) (by kernel_rfl) ?_
          refine JO.step rfl trivial rfl (fun K hK => ?_)
          refine JL.store 2 S25 rfl rfl rfl rfl rfl (Nat.le_of_ble_eq_true rfl) ?_
          refine JL.nil ?_
          refine hK _ _ _ (stab_of hleu_14 trivial) ?_
          refine JA.val ⟨by kernel_rfl, by kernel_rfl⟩ (calm_only _) (i := 10) rfl ⟨by kernel_rfl, by kernel_rfl, rfl⟩ trivial (stab_of hleu_14 trivial) (R.assign rfl) rfl ?_
          refine JA.doneN (by kernel_rfl) ?_
          obtain rfl := Option.some.inj hx
          refine JN.forget 0 ?_
          refine JN.front 1 rfl ?_
          exact JN.cut ⟨Hu_14, b_19, aoz_17, nz_17, capz_17, aor_18, nr_18, capr_18, Kr_18, rfl, rfl, rfl, (hleu_14), hb_19, hz_17, hr_18⟩ ⟨rfl, rfl, rfl, trivial⟩ rfl rfl
      · refine JO.step rfl trivial rfl (fun K hK => ?_)
        refine JL.alloc Z25 rfl (fun b_19 hb_19 => ?_)
        refine JL.nil ?_
        refine hK _ _ _ (stab_of (Hle.refl _) trivial) ?_
        refine JA.one (i := 0) (by kernel_rfl) ?_
        refine JO.step rfl trivial rfl (fun K hK => ?_)
        refine JL.val rfl rfl (R.ldoN 1 (vs := [.slice aoa_2 na_2 capa_2, .slice aoa_3 na_3 capa_3]) S25 rfl rfl rfl rfl) ?_
        refine JL.nil ?_
        refine hK _ _ _ (stab_of (Hle.refl _) trivial) ?_
        refine JA.one (i := 4) (by kernel_rfl) ?_
        refine JO.step rfl trivial rfl (fun K hK => ?_)
        refine JL.callC (vs := [_, _, _]) (args := [_, _, _]) (K := [_]) (rst := [_]) E38 rfl rfl rfl (picks 1 rfl picks0) (dev_guarded_v2_ok p_1 x_9 p_1 _ ha_2 ha_3 ha_2 ha_3 _ hr_13) rfl (fun u_14 Ku_14 Hu_14 hRu_14 hleu_14 hfu_14 => ?_)
        obtain ⟨aoz_15, nz_15, capz_15, aoz_16, nz_16, capz_16, aoz_17, nz_17, capz_17, aor_18, nr_18, capr_18, Kr_18, rfl, rfl, hz_15, hz_16, hz_17, hr_18, hnewr_18, -⟩ := hRu_14
        replace hr_18 := (RowOf.base (RowOf.mono R_Write.mono (New.call (Hle.refl _)) hr_18) (fun p hp => (hfu_14 p (mem_seg 1 rfl hp)).resolve_left (hnewr_18 p hp)))
        replace hz_17 := IsSlice.mono (RSl.mono RU8.mono) (New.call (Hle.refl _)) hz_17
        refine JL.nil ?_
        refine hK _ _ _ (stab_of hleu_14 trivial) ?_
        refine JA.val ⟨by kernel_rfl, by kernel_rfl⟩ (calm_only _) (i := 5) rfl ⟨by kernel_rfl, by kernel_rfl, rfl⟩ trivial (stab_of hleu_14 trivial) (R.move rfl) rfl ?_
        refine JA.val ⟨by kernel_rfl, by kernel_rfl⟩ (calm_only _) (i := 6) rfl ⟨by kernel_rfl, by kernel_rfl, rfl⟩ trivial (stab_of hleu_14 trivial) (R.extract rfl rfl) rfl ?_
        refine JA.val ⟨by kernel_rfl, by kernel_rfl⟩ (calm_only _) (i := 7) rfl ⟨by kernel_rfl, by kernel_rfl, rfl⟩ trivial (stab_of hleu_14 trivial) (R.extract rfl rfl) rfl ?_
        refine JA.one (i := 9) (by kernel_rfl) ?_
        refine JO.step rfl trivial rfl (fun K hK => ?_)
        refine JL.store 2 S25 rfl rfl rfl rfl rfl (Nat.le_of_ble_eq_true rfl) ?_
        refine JL.nil ?_
        refine hK _ _ _ (stab_of hleu_14 trivial) ?_
        refine JA.val ⟨by kernel_rfl, by kernel_rfl⟩ (calm_only _) (i := 10) rfl ⟨by kernel_rfl, by kernel_rfl, rfl⟩ trivial (stab_of hleu_14 trivial) (R.assign rfl) rfl ?_
        refine JA.doneN (by kernel_rfl) ?_
        obtain rfl := Option.some.inj hx
        refine JN.forget 0 ?_
        refine JN.front 1 rfl ?_
        exact JN.cut ⟨Hu_14, b_19, aoz_17, nz_17, capz_17, aor_18, nr_18, capr_18, Kr_18, rfl, rfl, rfl, (hleu_14), hb_19, hz_17, hr_18⟩ ⟨rfl, rfl, rfl, trivial⟩ rfl rfl
    · refine JO.step rfl trivial rfl (fun K hK => ?_)
      refine JL.alloc Z25 rfl (fun b_19 hb_19 => ?_)
      refine JL.nil ?_
      refine hK _ _ _ (stab_of (Hle.refl _) trivial) ?_
      refine JA.two (i := 0) (j := 2) (by kernel_rfl) ?_ ?_
      · refine JO.step rfl trivial rfl (fun K hK => ?_)
        refine JL.val rfl rfl (R.ldoN 1 (vs := [.slice aoa_2 na_2 capa_2, .slice aoa_3 na_3 capa_3]) S25 rfl rfl rfl rfl) ?_
        refine JL.nil ?_
        refine hK _ _ _ (stab_of (Hle.refl _) trivial) ?_
        refine JA.one (i := 2) (by kernel_rfl) ?_
        refine JO.step rfl trivial rfl (fun K hK => ?_)
        refine JL.callC (vs := [_]) (args := [_]) (K := []) (rst := [_, _]) E39 rfl rfl rfl picks0 (dev_place_ok p_4 _ _ hr_10) rfl (fun u_11 Ku_11 Hu_11 hRu_11 hleu_11 hfu_11 => ?_)
        obtain ⟨rfl, rfl, rfl, -⟩ := hRu_11
        refine JL.nil ?_
        refine hK _ _ _ (stab_of (Hle.refl _) trivial) ?_
        refine JA.one (i := 4) (by kernel_rfl) ?_
        refine JO.step rfl trivial rfl (fun K hK => ?_)
        refine JL.callC (vs := [_, _, _]) (args := [_, _, _]) (K := [_]) (rst := [_]) E38 rfl rfl rfl (picks 1 rfl picks0) (dev_guarded_v2_ok p_1 x_9 p_1 _ ha_2 ha_3 ha_2 ha_3 _ hr_13) rfl (fun u_14 Ku_14 Hu_14 hRu_14 hleu_14 hfu_14 => ?_)
        obtain ⟨aoz_15, nz_15, capz_15, aoz_16, nz_16, capz_16, aoz_17, nz_17, capz_17, aor_18, nr_18, capr_18, Kr_18, rfl, rfl, hz_15, hz_16, hz_17, hr_18, hnewr_18, -⟩ := hRu_14
        replace hr_18 := (RowOf.base (RowOf.mono R_Write.mono (New.call (Hle.refl _)) hr_18) (fun p hp => (hfu_14 p (mem_seg 1 rfl hp)).resolve_left (hnewr_18 p hp)))
        replace hz_17 := IsSlice.mono (RSl.mono RU8.mono) (New.call (Hle.refl _)) hz_17
        refine JL.nil ?_
        refine hK _ _ _ (stab_of hleu_14 trivial) ?_
        refine JA.val ⟨by kernel_rfl, by kernel_rfl⟩ (calm_only _) (i := 5) rfl ⟨by kernel_rfl, by kernel_rfl, rfl⟩ trivial (stab_of hleu_14 trivial) (R.move rfl) rfl ?_
        refine JA.val ⟨by kernel_rfl, by kernel_rfl⟩ (calm_only _) (i := 6) rfl ⟨by kernel_rfl, by kernel_rfl, rfl⟩ trivial (stab_of hleu_14 trivial) (R.extract rfl rfl) rfl ?_
        refine JA.val ⟨by kernel_rfl, by kernel_rfl⟩ (calm_only _) (i := 7) rfl ⟨by kernel_rfl, by kernel_rfl, rfl⟩ trivial (stab_of hleu_14 trivial) (R.extract rfl rfl) rfl ?_
        refine JA.one (i := 9) (by kernel_rfl) ?_
        refine JO.step rfl trivial rfl (fun K hK => ?_)
        refine JL.store 2 S25 rfl rfl rfl rfl rfl (Nat.le_of_ble_eq_true rfl) ?_
        refine JL.nil ?_
        refine hK _ _ _ (stab_of hleu_14 trivial) ?_
        refine JA.val ⟨by kernel_rfl, by kernel_rfl⟩ (calm_only _) (i := 10) rfl ⟨by kernel_rfl, by kernel_rfl, rfl⟩ trivial (stab_of hleu_14 trivial) (R.assign rfl) rfl ?_
        refine JA.doneN (by kernel_rfl) ?_
        obtain rfl := Option.some.inj hx
        refine JN.forget 0 ?_
        refine JN.front 1 rfl ?_
        exact JN.cut ⟨Hu_14, b_19, aoz_17, nz_17, capz_17, aor_18, nr_18, capr_18, Kr_18, rfl, rfl, rfl, (hleu_14), hb_19, hz_17, hr_18⟩ ⟨rfl, rfl, rfl, trivial⟩ rfl rfl
      · refine JO.step rfl trivial rfl (fun K hK => ?_)
        refine JL.callC (vs := [_]) (args := [_]) (K := []) (rst := [_, _]) E39 rfl rfl rfl picks0 (dev_place_ok p_4 _ _ hr_10) rfl (fun u_11 Ku_11 Hu_11 hRu_11 hleu_11 hfu_11 => ?_)
        obtain ⟨rfl, rfl, rfl, -⟩ := hRu_11
        refine JL.nil ?_
        refine hK _ _ _ (stab_of (Hle.refl _) trivial) ?_
        refine JA.one (i := 0) (by kernel_rfl) ?_
        refine JO.step rfl trivial rfl (fun K hK => ?_)
        refine JL.val rfl rfl (R.ldoN 1 (vs := [.slice aoa_2 na_2 capa_2, .slice aoa_3 na_3 capa_3]) S25 rfl rfl rfl rfl) ?_
        refine JL.nil ?_
        refine hK _ _ _ (stab_of (Hle.refl _) trivial) ?_
        refine JA.one (i := 4) (by kernel_rfl) ?_
        refine JO.step rfl trivial rfl (fun K hK => ?_)
        refine JL.callC (vs := [_, _, _]) (args := [_, _, _]) (K := [_]) (rst := [_]) E38 rfl rfl rfl (picks 1 rfl picks0) (dev_guarded_v2_ok p_1 x_9 p_1 _ ha_2 ha_3 ha_2 ha_3 _ hr_13) rfl (fun u_14 Ku_14 Hu_14 hRu_14 hleu_14 hfu_14 => ?_)
        obtain ⟨aoz_15, nz_15, capz_15, aoz_16, nz_16, capz_16, aoz_17, nz_17, capz_17, aor_18, nr_18, capr_18, Kr_18, rfl, rfl, hz_15, hz_16, hz_17, hr_18, hnewr_18, -⟩ := hRu_14
        replace hr_18 := (RowOf.base (RowOf.mono R_Write.mono (New.call (Hle.refl _)) hr_18) (fun p hp => (hfu_14 p (mem_seg 1 rfl hp)).resolve_left (hnewr_18 p hp)))
        replace hz_17 := IsSlice.mono (RSl.mono RU8.mono) (New.call (Hle.refl _)) hz_17
        refine JL.nil ?_
        refine hK _ _ _ (stab_of hleu_14 trivial) ?_
        refine JA.val ⟨by kernel_rfl, by kernel_rfl⟩ (calm_only _) (i := 5) rfl ⟨by kernel_rfl, by kernel_rfl, rfl⟩ trivial (stab_of hleu_14 trivial) (R.move rfl) rfl ?_
        refine JA.val ⟨by kernel_rfl, by kernel_rfl⟩ (calm_only _) (i := 6) rfl ⟨by kernel_rfl, by kernel_rfl, rfl⟩ trivial (stab_of hleu_14 trivial) (R.extract rfl rfl) rfl ?_
        refine JA.val ⟨by kernel_rfl, by kernel_rfl⟩ (calm_only _) (i := 7) rfl ⟨by kernel_rfl, by kernel_rfl, rfl⟩ trivial (stab_of hleu_14 trivial) (R.extract rfl rfl) rfl ?_
        refine JA.one (i := 9) (by kernel_rfl) ?_
        refine JO.step rfl trivial rfl (fun K hK => ?_)
        refine JL.store 2 S25 rfl rfl rfl rfl rfl (Nat.le_of_ble_eq_true rfl) ?_
        refine JL.nil ?_
        refine hK _ _ _ (stab_of hleu_14 trivial) ?_
        refine JA.val ⟨by kernel_rfl, by kernel_rfl⟩ (calm_only _) (i := 10) rfl ⟨by kernel_rfl, by kernel_rfl, rfl⟩ trivial (stab_of hleu_14 trivial) (R.assign rfl) rfl ?_
        refine JA.doneN (by kernel_rfl) ?_
        obtain rfl := Option.some.inj hx
        refine JN.forget 0 ?_
        refine JN.front 1 rfl ?_
        exact JN.cut ⟨Hu_14, b_19, aoz_17, nz_17, capz_17, aor_18, nr_18, capr_18, Kr_18, rfl, rfl, rfl, (hleu_14), hb_19, hz_17, hr_18⟩ ⟨rfl, rfl, rfl, trivial⟩ rfl rfl

set_option maxHeartbeats 1000000 in
theorem ptr_Read_ok (p_1 : List UInt8) (H : Heaplet) {aoa_2 : Option Addr} {na_2 : Nat} {capa_2 : Nat} (ha_2 : IsSlice H RU8 1 (.slice aoa_2 na_2 capa_2) p_1) (r : Ptr × Int) (hx : ptr_Read p_1 = some r) :
    Does Try.prog 57 #[.slice aoa_2 na_2 capa_2] [] H (fun u K' H' => u = .tuple #[.agg #[.int .i64 r.1.At, .int .u32 (r.1.Birth.toNat : Int), .int .u32 (r.1.Iv.toNat : Int), .int .u32 (r.1.Tag.toNat : Int), .int .u32 (r.1.Sum.toNat : Int)], .int .i64 r.2] ∧ K' = [] ∧ True) := by
  refine Does.enterL (vs := [.slice aoa_2 na_2 capa_2]) (l := [(0, .slice aoa_2 na_2 capa_2)]) Try.func57 rfl rfl ⟨rfl, trivial⟩ (fun w hlt => ?_)
  rw [ptr_Read.eq_1] at hx
  refine JC.seq ?_
  refine JC.region ?_
  refine JL.alloc Z28 rfl (fun b_3 hb_3 => ?_)
  refine JL.val rfl rfl (R.assign rfl) ?_
  refine JL.nil ?_
  refine JN.next ?_
  refine JC.seq ?_
  refine JC.seq ?_
  refine JC.region ?_
  refine JL.val rfl rfl (R.move rfl) ?_
  refine JL.val rfl rfl (R.lenL U45 rfl (IsSlice.long ha_2)) ?_
  refine JL.val rfl rfl (R.neq_i rfl rfl) ?_
  refine JL.nil ?_
  refine JN.next ?_
  refine JC.condB rfl (fun c_4 => ?_) (fun c_4 => ?_)
  · replace hx := cond_t c_4 hx
    refine JC.seq ?_
    refine JC.region ?_
    refine JL.val rfl rfl (R.bldP (vs := []) (cs := [.int .i64 0, .int .u32 ((0 : UInt32).toNat : Int), .int .u32 ((0 : UInt32).toNat : Int), .int .u32 ((0 : UInt32).toNat : Int), .int .u32 ((0 : UInt32).toNat : Int)]) Z28 B28 rfl rfl rfl) ?_
    refine JL.store 0 S28 rfl rfl rfl rfl rfl (Nat.le_of_ble_eq_true rfl) ?_
    refine JL.val rfl rfl (R.assign rfl) ?_
    refine JL.nil ?_
    refine JN.next ?_
    refine JC.ret ?_
    refine JN.passR ?_
    refine JN.outP (vs := [.agg #[.int .i64 0, .int .u32 ((0 : UInt32).toNat : Int), .int .u32 ((0 : UInt32).toNat : Int), .int .u32 ((0 : UInt32).toNat : Int), .int .u32 ((0 : UInt32).toNat : Int)], .int .i64 3]) (K := []) (rst := [_]) (.inl rfl) rfl rfl (Res.cellN 0 rfl rfl S28 (Res.tmp rfl rfl)) picks0 ?_
    obtain rfl := Option.some.inj hx
    exact ⟨rfl, rfl, trivial⟩
  · replace hx := cond_f c_4 hx
    refine JC.skip ?_
    refine JN.next ?_
    refine JC.seq ?_
    refine JC.region ?_
    refine JL.alloc Z99 rfl (fun b_5 hb_5 => ?_)
    refine JL.nil ?_
    refine JN.next ?_
    refine JC.seq ?_
    refine JC.region ?_
    refine JL.val rfl rfl (R.assign rfl) ?_
    refine JL.nil ?_
    refine JN.next ?_
    refine JC.seq ?_
    refine JC.seq ?_
    refine JC.region ?_
    obtain ⟨x_6, hr_7, hx⟩ := bnd_some hx
    refine JL.callC (vs := []) (args := []) (K := []) (rst := [_, _]) E69 rfl rfl rfl picks0 (ptr_sizes_ok _ _ hr_7) rfl (fun u_8 Ku_8 Hu_8 hRu_8 hleu_8 hfu_8 => ?_)
    obtain ⟨rfl, rfl, rfl, -⟩ := hRu_8
    refine JL.val rfl rfl (R.move rfl) ?_
    refine JL.nil ?_
    refine JN.next ?_
    obtain ⟨t_9, ht_11, hx⟩ := bnd_some hx
    refine JC.cut (fun l o g => ∃ H_16 : Heaplet, l = [(2, .pointer (some ⟨b_3, 0, none⟩)), (4, .pointer (some ⟨b_5, 0, none⟩))] ∧ o = [[(b_3, .cells #[.int .i64 0, .int .u32 ((0 : UInt32).toNat : Int), .int .u32 ((0 : UInt32).toNat : Int), .int .u32 ((0 : UInt32).toNat : Int), .int .u32 ((0 : UInt32).toNat : Int)] 28 (0, 0))], [(b_5, .cells #[.int .i64 t_9.1, .int .i64 t_9.2.1, .int .i64 t_9.2.2.1, .int .i64 t_9.2.2.2.1, .int .i64 t_9.2.2.2.2] 99 (0, 0))]] ∧ H_16 = g ∧ Hle H H_16) ?_ ?_
    · rintro _ _ _ ⟨H_16, rfl, rfl, rfl, hleH_16⟩
      refine JN.next ?_
      refine JC.seq ?_
      refine JC.region ?_
      refine JL.val rfl rfl (R.ixA 0 U99 S3 rfl rfl rfl) ?_
      refine JL.val rfl rfl (R.ldo 1 S3 rfl rfl rfl) ?_
      refine JL.val rfl rfl (R.ixA 1 U99 S3 rfl rfl rfl) ?_
      refine JL.val rfl rfl (R.ldo 1 S3 rfl rfl rfl) ?_
      refine JL.val rfl rfl (R.cv_i64_u32 U3 U26 rfl) ?_
      refine JL.val rfl rfl (R.ixA 2 U99 S3 rfl rfl rfl) ?_
      refine JL.val rfl rfl (R.ldo 1 S3 rfl rfl rfl) ?_
      refine JL.val rfl rfl (R.cv_i64_u32 U3 U26 rfl) ?_
      refine JL.val rfl rfl (R.ixA 3 U99 S3 rfl rfl rfl) ?_
      refine JL.val rfl rfl (R.ldo 1 S3 rfl rfl rfl) ?_
      refine JL.val rfl rfl (R.cv_i64_u32 U3 U26 rfl) ?_
      refine JL.val rfl rfl (R.ixA 4 U99 S3 rfl rfl rfl) ?_
      refine JL.val rfl rfl (R.ldo 1 S3 rfl rfl rfl) ?_
      refine JL.val rfl rfl (R.cv_i64_u32 U3 U26 rfl) ?_
      refine JL.val rfl rfl (R.bldP (vs := [(0, .int .i64 t_9.1), (1, .int .u32 ((u32i t_9.2.1).toNat : Int)), (2, .int .u32 ((u32i t_9.2.2.1).toNat : Int)), (3, .int .u32 ((u32i t_9.2.2.2.1).toNat : Int)), (4, .int .u32 ((u32i t_9.2.2.2.2).toNat : Int))]) (cs := [.int .i64 t_9.1, .int .u32 ((u32i t_9.2.1).toNat : Int), .int .u32 ((u32i t_9.2.2.1).toNat : Int), .int .u32 ((u32i t_9.2.2.2.1).toNat : Int), .int .u32 ((u32i t_9.2.2.2.2).toNat : Int)]) Z28 B28 rfl rfl rfl) ?_
      refine JL.store 0 S28 rfl rfl rfl rfl rfl (Nat.le_of_ble_eq_true rfl) ?_
      refine JL.nil ?_
      refine JN.next ?_
      refine JC.seq ?_
      refine JC.seq ?_
      refine JC.region ?_
      refine JL.val rfl rfl (R.ldoN 0 (vs := [.int .i64 t_9.1, .int .u32 ((u32i t_9.2.1).toNat : Int), .int .u32 ((u32i t_9.2.2.1).toNat : Int), .int .u32 ((u32i t_9.2.2.2.1).toNat : Int), .int .u32 ((u32i t_9.2.2.2.2).toNat : Int)]) S28 rfl rfl rfl rfl) ?_
      obtain ⟨x_17, hr_18, hx⟩ := bnd_some hx
      refine JL.callC (vs := [_]) (args := [_]) (K := []) (rst := [_, _]) E20 rfl rfl rfl picks0 (ptr_Check_ok (Ptr.mk t_9.1 (u32i t_9.2.1) (u32i t_9.2.2.1) (u32i t_9.2.2.2.1) (u32i t_9.2.2.2.2)) _ _ hr_18) rfl (fun u_19 Ku_19 Hu_19 hRu_19 hleu_19 hfu_19 => ?_)
      obtain ⟨rfl, rfl, rfl, -⟩ := hRu_19
      refine JL.val rfl rfl (R.assign rfl) ?_
      refine JL.nil ?_
      refine JN.next ?_
      refine JC.seq ?_
      refine JC.region ?_
      refine JL.val rfl rfl (R.move rfl) ?_
      refine JL.val rfl rfl (R.neq_i rfl rfl) ?_
      refine JL.nil ?_
      refine JN.next ?_
      refine JC.condB rfl (fun c_20 => ?_) (fun c_20 => ?_)
      · replace hx := cond_t c_20 hx
        refine JC.seq ?_
        refine JC.region ?_
        refine JL.val rfl rfl (R.bldP (vs := []) (cs := [.int .i64 0, .int .u32 ((0 : UInt32).toNat : Int), .int .u32 ((0 : UInt32).toNat : Int), .int .u32 ((0 : UInt32).toNat : Int), .int .u32 ((0 : UInt32).toNat : Int)]) Z28 B28 rfl rfl rfl) ?_
        refine JL.val rfl rfl (R.move rfl) ?_
        refine JL.store 0 S28 rfl rfl rfl rfl rfl (Nat.le_of_ble_eq_true rfl) ?_
        refine JL.val rfl rfl (R.assign rfl) ?_
        refine JL.nil ?_
        refine JN.next ?_
        refine JC.ret ?_
        refine JN.passR ?_
        refine JN.outP (vs := [.agg #[.int .i64 0, .int .u32 ((0 : UInt32).toNat : Int), .int .u32 ((0 : UInt32).toNat : Int), .int .u32 ((0 : UInt32).toNat : Int), .int .u32 ((0 : UInt32).toNat : Int)], .int .i64 x_17]) (K := []) (rst := [_, _]) (.inl rfl) rfl rfl (Res.cellN 0 rfl rfl S28 (Res.tmp rfl rfl)) picks0 ?_
        obtain rfl := Option.some.inj hx
        exact ⟨rfl, rfl, trivial⟩
      · replace hx := cond_f c_20 hx
        refine JC.skip ?_
        refine JN.next ?_
        refine JC.seq ?_
        refine JC.region ?_
        refine JL.val rfl rfl (R.ldoN 0 (vs := [.int .i64 t_9.1, .int .u32 ((u32i t_9.2.1).toNat : Int), .int .u32 ((u32i t_9.2.2.1).toNat : Int), .int .u32 ((u32i t_9.2.2.2.1).toNat : Int), .int .u32 ((u32i t_9.2.2.2.2).toNat : Int)]) S28 rfl rfl rfl rfl) ?_
        refine JL.store 0 S28 rfl rfl rfl rfl rfl (Nat.le_of_ble_eq_true rfl) ?_
        refine JL.val rfl rfl (R.assign rfl) ?_
        refine JL.nil ?_
        refine JN.next ?_
        refine JC.ret ?_
        refine JN.outP (vs := [.agg #[.int .i64 t_9.1, .int .u32 ((u32i t_9.2.1).toNat : Int), .int .u32 ((u32i t_9.2.2.1).toNat : Int), .int .u32 ((u32i t_9.2.2.2.1).toNat : Int), .int .u32 ((u32i t_9.2.2.2.2).toNat : Int)], .int .i64 0]) (K := []) (rst := [_, _]) (.inl rfl) rfl rfl (Res.cellN 0 rfl rfl S28 (Res.tmp rfl rfl)) picks0 ?_
        obtain rfl := Option.some.inj hx
        exact ⟨rfl, rfl, trivial⟩
    · have hxo_10 := hx; clear hx; have hx := ht_11; clear ht_11
      refine JC.block ?_
      refine JC.front 1 rfl ?_
      refine JC.loopI (fun n l o g => ∃ s_12 : Int × Int × Int × Int × Int × Int × Nat, ∃ H_15 : Heaplet, l = [(0, .slice aoa_2 na_2 capa_2), (2, .pointer (some ⟨b_3, 0, none⟩)), (4, .pointer (some ⟨b_5, 0, none⟩)), (5, .int .i64 s_12.2.2.2.2.2.1), (13, .agg #[.int .i64 x_6.e0, .int .i64 x_6.e1, .int .i64 x_6.e2, .int .i64 x_6.e3, .int .i64 x_6.e4]), (14, .int .i64 ((s_12.2.2.2.2.2.2 : Nat) : Int))] ∧ o = [[(b_3, .cells #[.int .i64 0, .int .u32 ((0 : UInt32).toNat : Int), .int .u32 ((0 : UInt32).toNat : Int), .int .u32 ((0 : UInt32).toNat : Int), .int .u32 ((0 : UInt32).toNat : Int)] 28 (0, 0))], [(b_5, .cells #[.int .i64 s_12.1, .int .i64 s_12.2.1, .int .i64 s_12.2.2.1, .int .i64 s_12.2.2.2.1, .int .i64 s_12.2.2.2.2.1] 99 (0, 0))]] ∧ H_15 = g ∧ run (ptr_Read_l1 p_1 x_6) n s_12 = some t_9 ∧ Hle H H_15) FUEL ?_ ⟨(0, 0, 0, 0, 0, 0, 0), H, rfl, rfl, rfl, hx, (Hle.refl _)⟩ ⟨rfl, rfl, rfl, rfl, rfl, rfl, trivial⟩ ?_
      · rintro _ _ _ ⟨s_12, H_15, rfl, rfl, rfl, hn_13, hleH_15⟩
        exact run_zero hn_13
      · rintro n_14 _ _ _ ⟨s_12, H_15, rfl, rfl, rfl, hn_13, hleH_15⟩
        clear hx; obtain ⟨oo_17, hx, hd_16⟩ := run_some hn_13
        rw [ptr_Read_l1.eq_1] at hx
        refine JC.seq ?_
        refine JC.region ?_
        refine JL.val rfl rfl (R.lss_i rfl rfl) ?_
        refine JL.nil ?_
        refine JN.next ?_
        refine JC.seq ?_
        refine JC.condB rfl (fun c_16 => ?_) (fun c_16 => ?_)
        · replace hx := cond_t c_16 hx
          refine JC.skip ?_
          refine JN.next ?_
          refine JC.seq ?_
          refine JC.block ?_
          refine JC.seq ?_
          refine JC.region ?_
          refine JL.val rfl rfl (R.move rfl) ?_
          obtain ⟨y_17, hN_18, hx⟩ := idx_some hx
          refine JL.val rfl rfl (R.idxA (enc := (fun a : Int => Value.int .i64 a)) (L := x_6.l) U99 S3 rfl rfl rfl rfl rfl hN_18) ?_
          refine JL.val rfl rfl (R.assign rfl) ?_
          refine JL.val rfl rfl (R.assign rfl) ?_
          refine JL.nil ?_
          refine JN.next ?_
          refine JC.seq ?_
          refine JC.region ?_
          refine JL.val rfl rfl (R.move rfl) ?_
          refine JL.val rfl rfl (R.move rfl) ?_
          refine JL.val rfl rfl (R.move rfl) ?_
          refine JL.val rfl rfl (R.move rfl) ?_
          obtain ⟨x_19, hr_20, hx⟩ := bnd_some hx
          refine JL.callC (vs := [_, _, _]) (args := [_, _, _]) (K := []) (rst := [_, _]) E56 rfl rfl rfl picks0 (code_Get_ok p_1 s_12.2.2.2.2.2.1 y_17 _ (ha_2.mono RU8.mono hleH_15) _ hr_20) rfl (fun u_21 Ku_21 Hu_21 hRu_21 hleu_21 hfu_21 => ?_)
          obtain ⟨rfl, rfl, -⟩ := hRu_21
          refine JL.val rfl rfl (R.move rfl) ?_
          refine JL.val rfl rfl (R.extract rfl rfl) ?_
          refine JL.val rfl rfl (R.extract rfl rfl) ?_
          obtain ⟨hp_22, hx⟩ := chk_some hx
          refine JL.val rfl rfl (R.ixAs U99 S3 rfl rfl hp_22) ?_
          obtain ⟨m_23, hm_24, hb_25, hx⟩ := A5.setI_some hx
          refine JL.stA 1 (enc := (fun a : Int => Value.int .i64 a)) (L := (A5.mk s_12.1 s_12.2.1 s_12.2.2.1 s_12.2.2.2.1 s_12.2.2.2.2.1).l) (L' := m_23.l) (cur' := #[.int .i64 m_23.e0, .int .i64 m_23.e1, .int .i64 m_23.e2, .int .i64 m_23.e3, .int .i64 m_23.e4]) S3 rfl rfl rfl rfl rfl rfl rfl hm_24 hb_25.2 rfl ?_
          refine JL.nil ?_
          refine JN.next ?_
          refine JC.region ?_
          refine JL.val rfl rfl (R.move rfl) ?_
          refine JL.val rfl rfl (R.move rfl) ?_
          refine JL.val rfl rfl (R.add_i rfl rfl) ?_
          refine JL.val rfl rfl (R.assign rfl) ?_
          refine JL.nil ?_
          refine JN.blkN ?_
          refine JN.next ?_
          refine JC.region ?_
          refine JL.val rfl rfl (R.inc rfl rfl (of_decide_eq_true c_16) (by decide)) ?_
          refine JL.val rfl rfl (R.move rfl) ?_
          refine JL.nil ?_
          replace hx := run_next hd_16 hx
          refine JN.front 1 rfl ?_
          refine JN.front 1 rfl ?_
          exact JN.cut ⟨(m_23.e0, m_23.e1, m_23.e2, m_23.e3, m_23.e4, w64 (s_12.2.2.2.2.2.1 + y_17), s_12.2.2.2.2.2.2 + 1), Hu_21, rfl, rfl, rfl, hx, ((hleH_15.trans hleu_21))⟩ ⟨rfl, rfl, rfl, rfl, rfl, rfl, trivial⟩ rfl rfl
        · replace hx := cond_f c_16 hx
          refine JC.exit ?_
          refine JN.passX ?_
          obtain rfl := run_done hd_16 hx
          refine JN.passX ?_
          refine JN.exitSame ?_
          refine JN.front 1 rfl ?_
          refine JN.front 1 rfl ?_
          exact JN.cut ⟨H_15, rfl, rfl, rfl, (hleH_15)⟩ ⟨rfl, rfl, trivial⟩ rfl rfl

set_option maxHeartbeats 1000000 in
theorem bytes_Equal_ok (p_1 : List UInt8) (p_3 : List UInt8) (H : Heaplet) {aoa_2 : Option Addr} {na_2 : Nat} {capa_2 : Nat} {aoa_4 : Option Addr} {na_4 : Nat} {capa_4 : Nat} (ha_2 : IsSlice H RU8 1 (.slice aoa_2 na_2 capa_2) p_1) (ha_4 : IsSlice H RU8 1 (.slice aoa_4 na_4 capa_4) p_3) (r : Bool) (hx : bytes_Equal p_1 p_3 = some r) :
    Does Try.prog 58 #[.slice aoa_2 na_2 capa_2, .slice aoa_4 na_4 capa_4] [] H (fun u K' H' => u = .bool r ∧ K' = [] ∧ H = H' ∧ True) := by
  refine Does.enterL (vs := [.slice aoa_2 na_2 capa_2, .slice aoa_4 na_4 capa_4]) (l := [(0, .slice aoa_2 na_2 capa_2), (1, .slice aoa_4 na_4 capa_4)]) Try.func58 rfl rfl ⟨rfl, rfl, trivial⟩ (fun w hlt => ?_)
  rw [bytes_Equal.eq_1] at hx
  refine JC.seq ?_
  refine JC.region ?_
  refine JL.val rfl rfl (R.assign rfl) ?_
  refine JL.nil ?_
  refine JN.next ?_
  refine JC.seq ?_
  refine JC.region ?_
  refine JL.val rfl rfl (R.move rfl) ?_
  refine JL.val rfl rfl (R.toStr U45 U5 U9 rfl ha_2) ?_
  refine JL.val rfl rfl (R.move rfl) ?_
  refine JL.val rfl rfl (R.toStr U45 U5 U9 rfl ha_4) ?_
  refine JL.val rfl rfl (R.eqlStr (a := p_1) (b := p_3) rfl rfl) ?_
  refine JL.val rfl rfl (R.assign rfl) ?_
  refine JL.nil ?_
  refine JN.next ?_
  refine JC.ret ?_
  refine JN.outP (vs := [.bool (decide (p_1 = p_3))]) (K := []) (rst := []) (.inl rfl) rfl rfl (Res.tmp rfl rfl) picks0 ?_
  obtain rfl := Option.some.inj hx
  exact ⟨rfl, rfl, rfl, trivial⟩

set_option maxHeartbeats 1000000 in
theorem label_read_ok (p_1 : List UInt8) (H : Heaplet) {aoa_2 : Option Addr} {na_2 : Nat} {capa_2 : Nat} (ha_2 : IsSlice H RU8 1 (.slice aoa_2 na_2 capa_2) p_1) (r : Label × Bool) (hx : label_read p_1 = some r) :
    Does Try.prog 31 #[.slice aoa_2 na_2 capa_2] [] H (fun u K' H' => u = .tuple #[.agg #[.int .u32 (r.1.Gen.toNat : Int), .int .u32 (r.1.Epoch.toNat : Int), .int .i64 r.1.Root.At, .int .u32 (r.1.Root.Birth.toNat : Int), .int .u32 (r.1.Root.Iv.toNat : Int), .int .u32 (r.1.Root.Tag.toNat : Int), .int .u32 (r.1.Root.Sum.toNat : Int)], .bool r.2] ∧ K' = [] ∧ True) := by
  refine Does.enterL (vs := [.slice aoa_2 na_2 capa_2]) (l := [(0, .slice aoa_2 na_2 capa_2)]) Try.func31 rfl rfl ⟨rfl, trivial⟩ (fun w hlt => ?_)
  rw [label_read.eq_1] at hx
  refine JC.seq ?_
  refine JC.region ?_
  refine JL.alloc Z30 rfl (fun b_3 hb_3 => ?_)
  refine JL.val rfl rfl (R.assign rfl) ?_
  refine JL.nil ?_
  refine JN.next ?_
  refine JC.seq ?_
  refine JC.region ?_
  refine JL.val rfl rfl (R.move rfl) ?_
  obtain ⟨x_4, hr_5, hx⟩ := bnd_some hx
  refine JL.callC (vs := [_, _, _]) (args := [_, _, _]) (K := []) (rst := [_]) E56 rfl rfl rfl picks0 (code_Get_ok p_1 1 4 _ ha_2 _ hr_5) rfl (fun u_6 Ku_6 Hu_6 hRu_6 hleu_6 hfu_6 => ?_)
  obtain ⟨rfl, rfl, -⟩ := hRu_6
  refine JL.val rfl rfl (R.move rfl) ?_
  refine JL.val rfl rfl (R.extract rfl rfl) ?_
  refine JL.val rfl rfl (R.extract rfl rfl) ?_
  refine JL.val rfl rfl (R.assign rfl) ?_
  refine JL.val rfl rfl (R.assign rfl) ?_
  refine JL.nil ?_
  refine JN.next ?_
  refine JC.seq ?_
  refine JC.region ?_
  refine JL.val rfl rfl (R.move rfl) ?_
  obtain ⟨x_7, hr_8, hx⟩ := bnd_some hx
  refine JL.callC (vs := [_, _, _]) (args := [_, _, _]) (K := []) (rst := [_]) E56 rfl rfl rfl picks0 (code_Get_ok p_1 5 4 _ (ha_2.mono RU8.mono hleu_6) _ hr_8) rfl (fun u_9 Ku_9 Hu_9 hRu_9 hleu_9 hfu_9 => ?_)
  obtain ⟨rfl, rfl, -⟩ := hRu_9
  refine JL.val rfl rfl (R.move rfl) ?_
  refine JL.val rfl rfl (R.extract rfl rfl) ?_
  refine JL.val rfl rfl (R.extract rfl rfl) ?_
  refine JL.val rfl rfl (R.assign rfl) ?_
  refine JL.val rfl rfl (R.assign rfl) ?_
  refine JL.nil ?_
  refine JN.next ?_
  refine JC.seq ?_
  refine JC.region ?_
  refine JL.val rfl rfl (R.move rfl) ?_
  obtain ⟨m_10, hm_12, hb_11, hx⟩ := slc_some hx
  obtain ⟨vv_13, cv_13, h1v_13, h2v_13, h3v_13, hsv_13⟩ := IsSlice.cutv (ha_2.mono RU8.mono (hleu_6.trans hleu_9)) hm_12 hb_11
  refine JL.val rfl rfl (R.slc (cap := cv_13) (a := 9) (b := 25) (c := (cv_13 : Int)) (m := p_1) (R := RU8) U45 S5 rfl ⟨_, rfl⟩ ⟨_, rfl⟩ (by obtain ⟨ao, n, e, _⟩ := h1v_13; exact ⟨ao, n, e, rfl⟩) ⟨hb_11.1, hb_11.2.1, h2v_13⟩ h3v_13 (.inl rfl)) ?_
  obtain ⟨aov_13, capv_13, rfl⟩ := IsSlice.val hsv_13
  obtain ⟨x_14, hr_15, hx⟩ := bnd_some hx
  refine JL.callC (vs := [_]) (args := [_]) (K := []) (rst := [_]) E57 rfl rfl rfl picks0 (ptr_Read_ok m_10 _ hsv_13 _ hr_15) rfl (fun u_16 Ku_16 Hu_16 hRu_16 hleu_16 hfu_16 => ?_)
  obtain ⟨rfl, rfl, -⟩ := hRu_16
  refine JL.val rfl rfl (R.move rfl) ?_
  refine JL.val rfl rfl (R.extract rfl rfl) ?_
  refine JL.val rfl rfl (R.extract rfl rfl) ?_
  refine JL.alloc Z28 rfl (fun b_17 hb_17 => ?_)
  refine JL.store 0 S28 rfl rfl rfl rfl rfl (Nat.le_of_ble_eq_true rfl) ?_
  refine JL.val rfl rfl (R.assign rfl) ?_
  refine JL.nil ?_
  refine JN.next ?_
  refine JC.seq ?_
  refine JC.region ?_
  refine JL.val rfl rfl (R.move rfl) ?_
  refine JL.val rfl rfl (R.cv_i64_u32 U3 U26 rfl) ?_
  refine JL.val rfl rfl (R.move rfl) ?_
  refine JL.val rfl rfl (R.cv_i64_u32 U3 U26 rfl) ?_
  refine JL.val rfl rfl (R.ldoN 0 (vs := [.int .i64 x_14.1.At, .int .u32 (x_14.1.Birth.toNat : Int), .int .u32 (x_14.1.Iv.toNat : Int), .int .u32 (x_14.1.Tag.toNat : Int), .int .u32 (x_14.1.Sum.toNat : Int)]) S28 rfl rfl rfl rfl) ?_
  refine JL.val rfl rfl (R.bldP (vs := [(0, .int .u32 ((u32i x_4.1).toNat : Int)), (1, .int .u32 ((u32i x_7.1).toNat : Int)), (2, .agg #[.int .i64 x_14.1.At, .int .u32 (x_14.1.Birth.toNat : Int), .int .u32 (x_14.1.Iv.toNat : Int), .int .u32 (x_14.1.Tag.toNat : Int), .int .u32 (x_14.1.Sum.toNat : Int)])]) (cs := [.int .u32 ((u32i x_4.1).toNat : Int), .int .u32 ((u32i x_7.1).toNat : Int), .int .i64 x_14.1.At, .int .u32 (x_14.1.Birth.toNat : Int), .int .u32 (x_14.1.Iv.toNat : Int), .int .u32 (x_14.1.Tag.toNat : Int), .int .u32 (x_14.1.Sum.toNat : Int)]) Z30 B30 rfl rfl rfl) ?_
  refine JL.store 1 S30 rfl rfl rfl rfl rfl (Nat.le_of_ble_eq_true rfl) ?_
  refine JL.nil ?_
  refine JN.next ?_
  refine JC.seq ?_
  obtain ⟨t_18, ht_20, hx⟩ := bnd_some hx
  refine JC.cut (fun l o g => l = [(2, .pointer (some ⟨b_3, 0, none⟩)), (3, .bool t_18)] ∧ o = [[(b_3, .cells #[.int .u32 ((u32i x_4.1).toNat : Int), .int .u32 ((u32i x_7.1).toNat : Int), .int .i64 x_14.1.At, .int .u32 (x_14.1.Birth.toNat : Int), .int .u32 (x_14.1.Iv.toNat : Int), .int .u32 (x_14.1.Tag.toNat : Int), .int .u32 (x_14.1.Sum.toNat : Int)] 30 (0, 0))]] ∧ Hu_16 = g) ?_ ?_
  · rintro _ _ _ ⟨rfl, rfl, rfl⟩
    refine JN.next ?_
    refine JC.ret ?_
    refine JN.outP (vs := [.agg #[.int .u32 ((u32i x_4.1).toNat : Int), .int .u32 ((u32i x_7.1).toNat : Int), .int .i64 x_14.1.At, .int .u32 (x_14.1.Birth.toNat : Int), .int .u32 (x_14.1.Iv.toNat : Int), .int .u32 (x_14.1.Tag.toNat : Int), .int .u32 (x_14.1.Sum.toNat : Int)], .bool t_18]) (K := []) (rst := [_]) (.inl rfl) rfl rfl (Res.cellN 0 rfl rfl S30 (Res.tmp rfl rfl)) picks0 ?_
    obtain rfl := Option.some.inj hx
    exact ⟨rfl, rfl, trivial⟩
  · have hxo_19 := hx; clear hx; have hx := ht_20; clear ht_20
    refine JC.draw (so := [_]) 15 rfl Mixed ⟨⟨0, rfl⟩, trivial⟩ ?_
    refine JA.val ⟨by kernel_rfl, by kernel_rfl⟩ (calm_only _) (i := 1) rfl ⟨by kernel_rfl, by kernel_rfl, rfl⟩ trivial (stab_of (Hle.refl _) ⟨⟨0, rfl⟩, trivial⟩) (R.move rfl) rfl ?_
    refine JA.val ⟨by kernel_rfl, by kernel_rfl⟩ (calm_only _) (i := 2) rfl ⟨by kernel_rfl, by kernel_rfl, rfl⟩ trivial (stab_of (Hle.refl _) ⟨⟨0, rfl⟩, trivial⟩) (R.eql_i rfl rfl) rfl ?_
    refine JA.val ⟨by kernel_rfl, by kernel_rfl⟩ (calm_only _) (i := 3) rfl ⟨by kernel_rfl, by kernel_rfl, rfl⟩ trivial (stab_of (Hle.refl _) ⟨⟨0, rfl⟩, trivial⟩) (R.move rfl) rfl ?_
    refine JA.gSplit (t := 35) rfl (fun c_21 => ?_) (fun c_21 => ?_)
    · replace hx := cond_t c_21 hx
      refine JA.two (i := 0) (j := 4) (by kernel_rfl) ?_ ?_
      · refine JO.step rfl trivial rfl (fun K hK => ?_)
        refine JL.val rfl rfl (R.ldoN 1 (vs := [.int .u32 ((u32i x_4.1).toNat : Int), .int .u32 ((u32i x_7.1).toNat : Int), .int .i64 x_14.1.At, .int .u32 (x_14.1.Birth.toNat : Int), .int .u32 (x_14.1.Iv.toNat : Int), .int .u32 (x_14.1.Tag.toNat : Int), .int .u32 (x_14.1.Sum.toNat : Int)]) S30 rfl rfl rfl rfl) ?_
        refine JL.nil ?_
        refine hK _ _ _ (stab_of (Hle.refl _) ⟨⟨0, rfl⟩, trivial⟩) ?_
        refine JA.one (i := 4) (by kernel_rfl) ?_
        refine JO.step rfl ⟨_, _, rfl, rfl, rfl⟩ rfl (fun K hK => ?_)
        refine JL.val rfl rfl (R.ldoN 1 (vs := [.int .u32 ((u32i x_4.1).toNat : Int), .int .u32 ((u32i x_7.1).toNat : Int), .int .i64 x_14.1.At, .int .u32 (x_14.1.Birth.toNat : Int), .int .u32 (x_14.1.Iv.toNat : Int), .int .u32 (x_14.1.Tag.toNat : Int), .int .u32 (x_14.1.Sum.toNat : Int)]) S30 rfl rfl rfl rfl) ?_
        refine JL.nil ?_
        refine hK _ _ _ (stab_of (Hle.refl _) ⟨⟨0, rfl⟩, trivial⟩) ?_
        refine JA.one (i := 5) (by kernel_rfl) ?_
        refine JO.step rfl ⟨_, _, rfl, rfl, rfl⟩ rfl (fun K hK => ?_)
        obtain ⟨x_22, hr_23, hx⟩ := bnd_some hx
        refine JL.callC (vs := [_]) (args := [_]) (K := []) (rst := [_, _]) E25 rfl rfl rfl picks0 (label_may_ok (Label.mk (u32i x_4.1) (u32i x_7.1) (Ptr.mk x_14.1.At x_14.1.Birth x_14.1.Iv x_14.1.Tag x_14.1.Sum)) _ _ hr_23) rfl (fun u_24 Ku_24 Hu_24 hRu_24 hleu_24 hfu_24 => ?_)
        obtain ⟨rfl, rfl, rfl, -⟩ := hRu_24
        refine JL.nil ?_
        refine hK _ _ _ (stab_of (Hle.refl _) ⟨⟨0, rfl⟩, trivial⟩) ?_
        refine JA.val ⟨by kernel_rfl, by kernel_rfl⟩ (calm_only _) (i := 6) rfl ⟨by kernel_rfl, by kernel_rfl, rfl⟩ trivial (stab_of (Hle.refl _) ⟨⟨0, rfl⟩, trivial⟩) (R.pickT rfl rfl) rfl ?_
        refine JA.val ⟨by kernel_rfl, by kernel_rfl⟩ (calm_only _) (i := 7) rfl ⟨by kernel_rfl, by kernel_rfl, rfl⟩ trivial (stab_of (Hle.refl _) ⟨⟨0, rfl⟩, trivial⟩) (R.move rfl) rfl ?_
        refine JA.gSplit (t := 39) rfl (fun c_25 => ?_) (fun c_25 => ?_)
        · replace hx := cond_t c_25 hx
          refine JA.val ⟨by kernel_rfl, by kernel_rfl⟩ (calm_only _) (i := 10) rfl ⟨by kernel_rfl, by kernel_rfl, rfl⟩ ⟨_, _, rfl, rfl, rfl⟩ (stab_of (Hle.refl _) ⟨⟨0, rfl⟩, trivial⟩) (R.move rfl) rfl ?_
          refine JA.one (i := 8) (by kernel_rfl) ?_
          refine JO.step rfl ⟨_, _, rfl, rfl, rfl⟩ rfl (fun K hK => ?_)
          refine JL.val rfl rfl (R.ldoN 1 (vs := [.int .u32 ((u32i x_4.1).toNat : Int), .int .u32 ((u32i x_7.1).toNat : Int), .int .i64 x_14.1.At, .int .u32 (x_14.1.Birth.toNat : Int), .int .u32 (x_14.1.Iv.toNat : Int), .int .u32 (x_14.1.Tag.toNat : Int), .int .u32 (x_14.1.Sum.toNat : Int)]) S30 rfl rfl rfl rfl) ?_
          refine JL.nil ?_
          refine hK _ _ _ (stab_of (Hle.refl _) ⟨⟨0, rfl⟩, trivial⟩) ?_
          refine JA.one (i := 9) (by kernel_rfl) ?_
          refine JO.step rfl ⟨_, _, rfl, rfl, rfl⟩ rfl (fun K hK => ?_)
          obtain ⟨x_26, hr_27, hx⟩ := bnd_some hx
          refine JL.callC (vs := [_]) (args := [_]) (K := []) (rst := [_, _]) E26 rfl rfl rfl picks0 (label_block_ok (Label.mk (u32i x_4.1) (u32i x_7.1) (Ptr.mk x_14.1.At x_14.1.Birth x_14.1.Iv x_14.1.Tag x_14.1.Sum)) _ _ hr_27) rfl (fun u_28 Ku_28 Hu_28 hRu_28 hleu_28 hfu_28 => ?_)
          obtain ⟨aor_29, nr_29, capr_29, Kr_29, rfl, rfl, rfl, hr_29, hnewr_29, -⟩ := hRu_28
          replace hr_29 := (RowOf.base (RowOf.const (H2 := New H Hu_16) RU8.const hr_29) (fun p hp => (hfu_28 p (mem_seg 0 rfl hp)).resolve_left (hnewr_29 p hp)))
          refine JL.nil ?_
          refine hK _ _ _ (stab_of (Hle.refl _) ⟨⟨1, rfl⟩, trivial⟩) ?_
          refine JA.one (i := 11) (by kernel_rfl) ?_
          refine JO.step rfl ⟨_, _, rfl, rfl, rfl⟩ rfl (fun K hK => ?_)
          obtain ⟨x_33, hr_34, hx⟩ := bnd_some hx
          refine JL.callL2 (vs := [_, _]) (v := .bool x_33) E58 rfl rfl (fun H_32 hle_31 hl_30 => Does.mono (bytes_Equal_ok x_26 p_1 _ (Lent.row' 0 hl_30 RU8.mono hle_31 rfl (hr_29.old RU8.mono)) (IsSlice.mono RU8.mono hle_31 (ha_2.mono RU8.mono (hleu_6.trans (hleu_9.trans hleu_16)))) _ hr_34) (fun _ _ _ h => h.1)) rfl ?_
          refine JL.nil ?_
          refine hK _ _ _ (stab_of (Hle.refl _) ⟨⟨1, rfl⟩, trivial⟩) ?_
          refine JA.val ⟨by kernel_rfl, by kernel_rfl⟩ (calm_only _) (i := 12) rfl ⟨by kernel_rfl, by kernel_rfl, rfl⟩ trivial (stab_of (Hle.refl _) ⟨⟨1, rfl⟩, trivial⟩) (R.pickT rfl rfl) rfl ?_
          refine JA.one (i := 13) (by kernel_rfl) ?_
          refine JO.step rfl trivial rfl (fun K hK => ?_)
          refine JL.store 2 S30 rfl rfl rfl rfl rfl (Nat.le_of_ble_eq_true rfl) ?_
          refine JL.nil ?_
          refine hK _ _ _ (stab_of (Hle.refl _) ⟨⟨1, rfl⟩, trivial⟩) ?_
          refine JA.val ⟨by kernel_rfl, by kernel_rfl⟩ (calm_only _) (i := 14) rfl ⟨by kernel_rfl, by kernel_rfl, rfl⟩ trivial (stab_of (Hle.refl _) ⟨⟨1, rfl⟩, trivial⟩) (R.assign rfl) rfl ?_
          refine JA.doneN (by kernel_rfl) ?_
          obtain rfl := Option.some.inj hx
          refine JN.forget 1 ?_
          refine JN.forget 0 ?_
          exact JN.cut ⟨rfl, rfl, rfl⟩ ⟨rfl, rfl, trivial⟩ rfl rfl
        · replace hx := cond_f c_25 hx
          refine JA.no ⟨by kernel_rfl, by kernel_rfl⟩ (calm_only _) (i := 8) rfl ⟨by kernel_rfl, by kernel_rfl, rfl⟩ rfl rfl rfl rfl (stab_of (Hle.refl _) ⟨⟨0, rfl⟩, trivial⟩) rfl ?_
          refine JA.no ⟨by kernel_rfl, by kernel_rfl⟩ (calm_only _) (i := 9) rfl ⟨by kernel_rfl, by kernel_rfl, rfl⟩ rfl rfl rfl rfl (stab_of (Hle.refl _) ⟨⟨0, rfl⟩, trivial⟩) rfl ?_
          refine JA.no ⟨by kernel_rfl, by kernel_rfl⟩ (calm_only _) (i := 10) rfl ⟨by kernel_rfl, by kernel_rfl, rfl⟩ rfl rfl rfl rfl (stab_of (Hle.refl _) ⟨⟨0, rfl⟩, trivial⟩) rfl ?_
          refine JA.no ⟨by kernel_rfl, by kernel_rfl⟩ (calm_only _) (i := 11) rfl ⟨by kernel_rfl, by kernel_rfl, rfl⟩ rfl rfl rfl rfl (stab_of (Hle.refl _) ⟨⟨0, rfl⟩, trivial⟩) rfl ?_
          refine JA.val ⟨by kernel_rfl, by kernel_rfl⟩ (calm_only _) (i := 12) rfl ⟨by kernel_rfl, by kernel_rfl, rfl⟩ trivial (stab_of (Hle.refl _) ⟨⟨0, rfl⟩, trivial⟩) (R.pickF rfl rfl) rfl ?_
          refine JA.one (i := 13) (by kernel_rfl) ?_
          refine JO.step rfl trivial rfl (fun K hK => ?_)
          refine JL.store 1 S30 rfl rfl rfl rfl rfl (Nat.le_of_ble_eq_true rfl) ?_
          refine JL.nil ?_
          refine hK _ _ _ (stab_of (Hle.refl _) ⟨⟨0, rfl⟩, trivial⟩) ?_
          refine JA.val ⟨by kernel_rfl, by kernel_rfl⟩ (calm_only _) (i := 14) rfl ⟨by kernel_rfl, by kernel_rfl, rfl⟩ trivial (stab_of (Hle.refl _) ⟨⟨0, rfl⟩, trivial⟩) (R.assign rfl) rfl ?_
          refine JA.doneN (by kernel_rfl) ?_
          obtain rfl := Option.some.inj hx
          refine JN.forget 0 ?_
          exact JN.cut ⟨rfl, rfl, rfl⟩ ⟨rfl, rfl, trivial⟩ rfl rfl
      · refine JO.step rfl ⟨_, _, rfl, rfl, rfl⟩ rfl (fun K hK => ?_)
        refine JL.val rfl rfl (R.ldoN 1 (vs := [.int .u32 ((u32i x_4.1).toNat : Int), .int .u32 ((u32i x_7.1).toNat : Int), .int .i64 x_14.1.At, .int .u32 (x_14.1.Birth.toNat : Int), .int .u32 (x_14.1.Iv.toNat : Int), .int .u32 (x_14.1.Tag.toNat : Int), .int .u32 (x_14.1.Sum.toNat : Int)]) S30 rfl rfl rfl rfl) ?_
        refine JL.nil ?_
        refine hK _ _ _ (stab_of (Hle.refl _) ⟨⟨0, rfl⟩, trivial⟩) ?_
        refine JA.two (i := 0) (j := 5) (by kernel_rfl) ?_ ?_
        · refine JO.step rfl trivial rfl (fun K hK => ?_)
          refine JL.val rfl rfl (R.ldoN 1 (vs := [.int .u32 ((u32i x_4.1).toNat : Int), .int .u32 ((u32i x_7.1).toNat : Int), .int .i64 x_14.1.At, .int .u32 (x_14.1.Birth.toNat : Int), .int .u32 (x_14.1.Iv.toNat : Int), .int .u32 (x_14.1.Tag.toNat : Int), .int .u32 (x_14.1.Sum.toNat : Int)]) S30 rfl rfl rfl rfl) ?_
          refine JL.nil ?_
          refine hK _ _ _ (stab_of (Hle.refl _) ⟨⟨0, rfl⟩, trivial⟩) ?_
          refine JA.one (i := 5) (by kernel_rfl) ?_
          refine JO.step rfl ⟨_, _, rfl, rfl, rfl⟩ rfl (fun K hK => ?_)
          obtain ⟨x_35, hr_36, hx⟩ := bnd_some hx
          refine JL.callC (vs := [_]) (args := [_]) (K := []) (rst := [_, _]) E25 rfl rfl rfl picks0 (label_may_ok (Label.mk (u32i x_4.1) (u32i x_7.1) (Ptr.mk x_14.1.At x_14.1.Birth x_14.1.Iv x_14.1.Tag x_14.1.Sum)) _ _ hr_36) rfl (fun u_37 Ku_37 Hu_37 hRu_37 hleu_37 hfu_37 => ?_)
          obtain ⟨rfl, rfl, rfl, -⟩ := hRu_37
          refine JL.nil ?_
          refine hK _ _ _ (stab_of (Hle.refl _) ⟨⟨0, rfl⟩, trivial⟩) ?_
          refine JA.val ⟨by kernel_rfl, by kernel_rfl⟩ (calm_only _) (i := 6) rfl ⟨by kernel_rfl, by kernel_rfl, rfl⟩ trivial (stab_of (Hle.refl _) ⟨⟨0, rfl⟩, trivial⟩) (R.pickT rfl rfl) rfl ?_
          refine JA.val ⟨by kernel_rfl, by kernel_rfl⟩ (calm_only _) (i := 7) rfl ⟨by kernel_rfl, by kernel_rfl, rfl⟩ trivial (stab_of (Hle.refl _) ⟨⟨0, rfl⟩, trivial⟩) (R.move rfl) rfl ?_
          refine JA.gSplit (t := 39) rfl (fun c_38 => ?_) (fun c_38 => ?_)
          · replace hx := cond_t c_38 hx
            refine JA.val ⟨by kernel_rfl, by kernel_rfl⟩ (calm_only _) (i := 10) rfl ⟨by kernel_rfl, by kernel_rfl, rfl⟩ ⟨_, _, rfl, rfl, rfl⟩ (stab_of (Hle.refl _) ⟨⟨0, rfl⟩, trivial⟩) (R.move rfl) rfl ?_
            refine JA.one (i := 8) (by kernel_rfl) ?_
            refine JO.step rfl ⟨_, _, rfl, rfl, rfl⟩ rfl (fun K hK => ?_)
            refine JL.val rfl rfl (R.ldoN 1 (vs := [.int .u32 ((u32i x_4.1).toNat : Int), .int .u32 ((u32i x_7.1).toNat : Int), .int .i64 x_14.1.At, .int .u32 (x_14.1.Birth.toNat : Int), .int .u32 (x_14.1.Iv.toNat : Int), .int .u32 (x_14.1.Tag.toNat : Int), .int .u32 (x_14.1.Sum.toNat : Int)]) S30 rfl rfl rfl rfl) ?_
            refine JL.nil ?_
            refine hK _ _ _ (stab_of (Hle.refl _) ⟨⟨0, rfl⟩, trivial⟩) ?_
            refine JA.one (i := 9) (by kernel_rfl) ?_
            refine JO.step rfl ⟨_, _, rfl, rfl, rfl⟩ rfl (fun K hK => ?_)
            obtain ⟨x_39, hr_40, hx⟩ := bnd_some hx
            refine JL.callC (vs := [_]) (args := [_]) (K := []) (rst := [_, _]) E26 rfl rfl rfl picks0 (label_block_ok (Label.mk (u32i x_4.1) (u32i x_7.1) (Ptr.mk x_14.1.At x_14.1.Birth x_14.1.Iv x_14.1.Tag x_14.1.Sum)) _ _ hr_40) rfl (fun u_41 Ku_41 Hu_41 hRu_41 hleu_41 hfu_41 => ?_)
            obtain ⟨aor_42, nr_42, capr_42, Kr_42, rfl, rfl, rfl, hr_42, hnewr_42, -⟩ := hRu_41
            replace hr_42 := (RowOf.base (RowOf.const (H2 := New H Hu_16) RU8.const hr_42) (fun p hp => (hfu_41 p (mem_seg 0 rfl hp)).resolve_left (hnewr_42 p hp)))
            refine JL.nil ?_
            refine hK _ _ _ (stab_of (Hle.refl _) ⟨⟨1, rfl⟩, trivial⟩) ?_
            refine JA.one (i := 11) (by kernel_rfl) ?_
            refine JO.step rfl ⟨_, _, rfl, rfl, rfl⟩ rfl (fun K hK => ?_)
            obtain ⟨x_46, hr_47, hx⟩ := bnd_some hx
            refine JL.callL2 (vs := [_, _]) (v := .bool x_46) E58 rfl rfl (fun H_45 hle_44 hl_43 => Does.mono (bytes_Equal_ok x_39 p_1 _ (Lent.row' 0 hl_43 RU8.mono hle_44 rfl (hr_42.old RU8.mono)) (IsSlice.mono RU8.mono hle_44 (ha_2.mono RU8.mono (hleu_6.trans (hleu_9.trans hleu_16)))) _ hr_47) (fun _ _ _ h => h.1)) rfl ?_
            refine JL.nil ?_
            refine hK _ _ _ (stab_of (Hle.refl _) ⟨⟨1, rfl⟩, trivial⟩) ?_
            refine JA.val ⟨by kernel_rfl, by kernel_rfl⟩ (calm_only _) (i := 12) rfl ⟨by kernel_rfl, by kernel_rfl, rfl⟩ trivial (stab_of (Hle.refl _) ⟨⟨1, rfl⟩, trivial⟩) (R.pickT rfl rfl) rfl ?_
            refine JA.one (i := 13) (by kernel_rfl) ?_
            refine JO.step rfl trivial rfl (fun K hK => ?_)
            refine JL.store 2 S30 rfl rfl rfl rfl rfl (Nat.le_of_ble_eq_true rfl) ?_
            refine JL.nil ?_
            refine hK _ _ _ (stab_of (Hle.refl _) ⟨⟨1, rfl⟩, trivial⟩) ?_
            refine JA.val ⟨by kernel_rfl, by kernel_rfl⟩ (calm_only _) (i := 14) rfl ⟨by kernel_rfl, by kernel_rfl, rfl⟩ trivial (stab_of (Hle.refl _) ⟨⟨1, rfl⟩, trivial⟩) (R.assign rfl) rfl ?_
            refine JA.doneN (by kernel_rfl) ?_
            obtain rfl := Option.some.inj hx
            refine JN.forget 1 ?_
            refine JN.forget 0 ?_
            exact JN.cut ⟨rfl, rfl, rfl⟩ ⟨rfl, rfl, trivial⟩ rfl rfl
          · replace hx := cond_f c_38 hx
            refine JA.no ⟨by kernel_rfl, by kernel_rfl⟩ (calm_only _) (i := 8) rfl ⟨by kernel_rfl, by kernel_rfl, rfl⟩ rfl rfl rfl rfl (stab_of (Hle.refl _) ⟨⟨0, rfl⟩, trivial⟩) rfl ?_
            refine JA.no ⟨by kernel_rfl, by kernel_rfl⟩ (calm_only _) (i := 9) rfl ⟨by kernel_rfl, by kernel_rfl, rfl⟩ rfl rfl rfl rfl (stab_of (Hle.refl _) ⟨⟨0, rfl⟩, trivial⟩) rfl ?_
            refine JA.no ⟨by kernel_rfl, by kernel_rfl⟩ (calm_only _) (i := 10) rfl ⟨by kernel_rfl, by kernel_rfl, rfl⟩ rfl rfl rfl rfl (stab_of (Hle.refl _) ⟨⟨0, rfl⟩, trivial⟩) rfl ?_
            refine JA.no ⟨by kernel_rfl, by kernel_rfl⟩ (calm_only _) (i := 11) rfl ⟨by kernel_rfl, by kernel_rfl, rfl⟩ rfl rfl rfl rfl (stab_of (Hle.refl _) ⟨⟨0, rfl⟩, trivial⟩) rfl ?_
            refine JA.val ⟨by kernel_rfl, by kernel_rfl⟩ (calm_only _) (i := 12) rfl ⟨by kernel_rfl, by kernel_rfl, rfl⟩ trivial (stab_of (Hle.refl _) ⟨⟨0, rfl⟩, trivial⟩) (R.pickF rfl rfl) rfl ?_
            refine JA.one (i := 13) (by kernel_rfl) ?_
            refine JO.step rfl trivial rfl (fun K hK => ?_)
            refine JL.store 1 S30 rfl rfl rfl rfl rfl (Nat.le_of_ble_eq_true rfl) ?_
            refine JL.nil ?_
            refine hK _ _ _ (stab_of (Hle.refl _) ⟨⟨0, rfl⟩, trivial⟩) ?_
            refine JA.val ⟨by kernel_rfl, by kernel_rfl⟩ (calm_only _) (i := 14) rfl ⟨by kernel_rfl, by kernel_rfl, rfl⟩ trivial (stab_of (Hle.refl _) ⟨⟨0, rfl⟩, trivial⟩) (R.assign rfl) rfl ?_
            refine JA.doneN (by kernel_rfl) ?_
            obtain rfl := Option.some.inj hx
            refine JN.forget 0 ?_
            exact JN.cut ⟨rfl, rfl, rfl⟩ ⟨rfl, rfl, trivial⟩ rfl rfl
        · refine JO.step rfl ⟨_, _, rfl, rfl, rfl⟩ rfl (fun K hK => ?_)
          obtain ⟨x_48, hr_49, hx⟩ := bnd_some hx
          refine JL.callC (vs := [_]) (args := [_]) (K := []) (rst := [_, _]) E25 rfl rfl rfl picks0 (label_may_ok (Label.mk (u32i x_4.1) (u32i x_7.1) (Ptr.mk x_14.1.At x_14.1.Birth x_14.1.Iv x_14.1.Tag x_14.1.Sum)) _ _ hr_49) rfl (fun u_50 Ku_50 Hu_50 hRu_50 hleu_50 hfu_50 => ?_)
          obtain ⟨rfl, rfl, rfl, -⟩ := hRu_50
          refine JL.nil ?_
          refine hK _ _ _ (stab_of (Hle.refl _) ⟨⟨0, rfl⟩, trivial⟩) ?_
          refine JA.val ⟨by kernel_rfl, by kernel_rfl⟩ (calm_only _) (i := 6) rfl ⟨by kernel_rfl, by kernel_rfl, rfl⟩ trivial (stab_of (Hle.refl _) ⟨⟨0, rfl⟩, trivial⟩) (R.pickT rfl rfl) rfl ?_
          refine JA.val ⟨by kernel_rfl, by kernel_rfl⟩ (calm_only _) (i := 7) rfl ⟨by kernel_rfl, by kernel_rfl, rfl⟩ trivial (stab_of (Hle.refl _) ⟨⟨0, rfl⟩, trivial⟩) (R.move rfl) rfl ?_
          refine JA.gSplit (t := 39) rfl (fun c_51 => ?_) (fun c_51 => ?_)
          · replace hx := cond_t c_51 hx
            refine JA.val ⟨by kernel_rfl, by kernel_rfl⟩ (calm_only _) (i := 10) rfl ⟨by kernel_rfl, by kernel_rfl, rfl⟩ ⟨_, _, rfl, rfl, rfl⟩ (stab_of (Hle.refl _) ⟨⟨0, rfl⟩, trivial⟩) (R.move rfl) rfl ?_
            obtain ⟨x_52, hr_53, hx⟩ := bnd_some hx
            obtain ⟨x_59, hr_60, hx⟩ := bnd_some hx
            refine JA.two (i := 0) (j := 8) (by kernel_rfl) ?_ ?_
            · refine JO.step rfl trivial rfl (fun K hK => ?_)
              refine JL.val rfl rfl (R.ldoN 1 (vs := [.int .u32 ((u32i x_4.1).toNat : Int), .int .u32 ((u32i x_7.1).toNat : Int), .int .i64 x_14.1.At, .int .u32 (x_14.1.Birth.toNat : Int), .int .u32 (x_14.1.Iv.toNat : Int), .int .u32 (x_14.1.Tag.toNat : Int), .int .u32 (x_14.1.Sum.toNat : Int)]) S30 rfl rfl rfl rfl) ?_
              refine JL.nil ?_
              refine hK _ _ _ (stab_of (Hle.refl _) ⟨⟨0, rfl⟩, trivial⟩) ?_
              refine JA.one (i := 8) (by kernel_rfl) ?_
              refine JO.step rfl ⟨_, _, rfl, rfl, rfl⟩ rfl (fun K hK => ?_)
              refine JL.val rfl rfl (R.ldoN 1 (vs := [.int .u32 ((u32i x_4.1).toNat : Int), .int .u32 ((u32i x_7.1).toNat : Int), .int .i64 x_14.1.At, .int .u32 (x_14.1.Birth.toNat : Int), .int .u32 (x_14.1.Iv.toNat : Int), .int .u32 (x_14.1.Tag.toNat : Int), .int .u32 (x_14.1.Sum.toNat : Int)]) S30 rfl rfl rfl rfl) ?_
              refine JL.nil ?_
              refine hK _ _ _ (stab_of (Hle.refl _) ⟨⟨0, rfl⟩, trivial⟩) ?_
              refine JA.one (i := 9) (by kernel_rfl) ?_
              refine JO.step rfl ⟨_, _, rfl, rfl, rfl⟩ rfl (fun K hK => ?_)
              refine JL.callC (vs := [_]) (args := [_]) (K := []) (rst := [_, _]) E26 rfl rfl rfl picks0 (label_block_ok (Label.mk (u32i x_4.1) (u32i x_7.1) (Ptr.mk x_14.1.At x_14.1.Birth x_14.1.Iv x_14.1.Tag x_14.1.Sum)) _ _ hr_53) rfl (fun u_54 Ku_54 Hu_54 hRu_54 hleu_54 hfu_54 => ?_)
              obtain ⟨aor_55, nr_55, capr_55, Kr_55, rfl, rfl, rfl, hr_55, hnewr_55, -⟩ := hRu_54
              replace hr_55 := (RowOf.base (RowOf.const (H2 := New H Hu_16) RU8.const hr_55) (fun p hp => (hfu_54 p (mem_seg 0 rfl hp)).resolve_left (hnewr_55 p hp)))
              refine JL.nil ?_
              refine hK _ _ _ (stab_of (Hle.refl _) ⟨⟨1, rfl⟩, trivial⟩) ?_
              refine JA.one (i := 11) (by kernel_rfl) ?_
              refine JO.step rfl ⟨_, _, rfl, rfl, rfl⟩ rfl (fun K hK => ?_)
              refine JL.callL2 (vs := [_, _]) (v := .bool x_59) E58 rfl rfl (fun H_58 hle_57 hl_56 => Does.mono (bytes_Equal_ok x_52 p_1 _ (Lent.row' 0 hl_56 RU8.mono hle_57 rfl (hr_55.old RU8.mono)) (IsSlice.mono RU8.mono hle_57 (ha_2.mono RU8.mono (hleu_6.trans (hleu_9.trans hleu_16)))) _ hr_60) (fun _ _ _ h => h.1)) rfl ?_
              refine JL.nil ?_
              refine hK _ _ _ (stab_of (Hle.refl _) ⟨⟨1, rfl⟩, trivial⟩) ?_
              refine JA.val ⟨by kernel_rfl, by kernel_rfl⟩ (calm_only _) (i := 12) rfl ⟨by kernel_rfl, by kernel_rfl, rfl⟩ trivial (stab_of (Hle.refl _) ⟨⟨1, rfl⟩, trivial⟩) (R.pickT rfl rfl) rfl ?_
              refine JA.one (i := 13) (by kernel_rfl) ?_
              refine JO.step rfl trivial rfl (fun K hK => ?_)
              refine JL.store 2 S30 rfl rfl rfl rfl rfl (Nat.le_of_ble_eq_true rfl) ?_
              refine JL.nil ?_
              refine hK _ _ _ (stab_of (Hle.refl _) ⟨⟨1, rfl⟩, trivial⟩) ?_
              refine JA.val ⟨by kernel_rfl, by kernel_rfl⟩ (calm_only _) (i := 14) rfl ⟨by kernel_rfl, by kernel_rfl, rfl⟩ trivial (stab_of (Hle.refl _) ⟨⟨1, rfl⟩, trivial⟩) (R.assign rfl) rfl ?_
              refine JA.doneN (by kernel_rfl) ?_
              obtain rfl := Option.some.inj hx
              refine JN.forget 1 ?_
              refine JN.forget 0 ?_
              exact JN.cut ⟨rfl, rfl, rfl⟩ ⟨rfl, rfl, trivial⟩ rfl rfl
            · refine JO.step rfl ⟨_, _, rfl, rfl, rfl⟩ rfl (fun K hK => ?_)
              refine JL.val rfl rfl (R.ldoN 1 (vs := [.int .u32 ((u32i x_4.1).toNat : Int), .int .u32 ((u32i x_7.1).toNat : Int), .int .i64 x_14.1.At, .int .u32 (x_14.1.Birth.toNat : Int), .int .u32 (x_14.1.Iv.toNat : Int), .int .u32 (x_14.1.Tag.toNat : Int), .int .u32 (x_14.1.Sum.toNat : Int)]) S30 rfl rfl rfl rfl) ?_
              refine JL.nil ?_
              refine hK _ _ _ (stab_of (Hle.refl _) ⟨⟨0, rfl⟩, trivial⟩) ?_
              refine JA.two (i := 0) (j := 9) (by kernel_rfl) ?_ ?_
              · refine JO.step rfl trivial rfl (fun K hK => ?_)
                refine JL.val rfl rfl (R.ldoN 1 (vs := [.int .u32 ((u32i x_4.1).toNat : Int), .int .u32 ((u32i x_7.1).toNat : Int), .int .i64 x_14.1.At, .int .u32 (x_14.1.Birth.toNat : Int), .int .u32 (x_14.1.Iv.toNat : Int), .int .u32 (x_14.1.Tag.toNat : Int), .int .u32 (x_14.1.Sum.toNat : Int)]) S30 rfl rfl rfl rfl) ?_
                refine JL.nil ?_
                refine hK _ _ _ (stab_of (Hle.refl _) ⟨⟨0, rfl⟩, trivial⟩) ?_
                refine JA.one (i := 9) (by kernel_rfl) ?_
                refine JO.step rfl ⟨_, _, rfl, rfl, rfl⟩ rfl (fun K hK => ?_)
                refine JL.callC (vs := [_]) (args := [_]) (K := []) (rst := [_, _]) E26 rfl rfl rfl picks0 (label_block_ok (Label.mk (u32i x_4.1) (u32i x_7.1) (Ptr.mk x_14.1.At x_14.1.Birth x_14.1.Iv x_14.1.Tag x_14.1.Sum)) _ _ hr_53) rfl (fun u_54 Ku_54 Hu_54 hRu_54 hleu_54 hfu_54 => ?_)
                obtain ⟨aor_55, nr_55, capr_55, Kr_55, rfl, rfl, rfl, hr_55, hnewr_55, -⟩ := hRu_54
                replace hr_55 := (RowOf.base (RowOf.const (H2 := New H Hu_16) RU8.const hr_55) (fun p hp => (hfu_54 p (mem_seg 0 rfl hp)).resolve_left (hnewr_55 p hp)))
                refine JL.nil ?_
                refine hK _ _ _ (stab_of (Hle.refl _) ⟨⟨1, rfl⟩, trivial⟩) ?_
                refine JA.one (i := 11) (by kernel_rfl) ?_
                refine JO.step rfl ⟨_, _, rfl, rfl, rfl⟩ rfl (fun K hK => ?_)
                refine JL.callL2 (vs := [_, _]) (v := .bool x_59) E58 rfl rfl (fun H_58 hle_57 hl_56 => Does.mono (bytes_Equal_ok x_52 p_1 _ (Lent.row' 0 hl_56 RU8.mono hle_57 rfl (hr_55.old RU8.mono)) (IsSlice.mono RU8.mono hle_57 (ha_2.mono RU8.mono (hleu_6.trans (hleu_9.trans hleu_16)))) _ hr_60) (fun _ _ _ h => h.1)) rfl ?_
                refine JL.nil ?_
                refine hK _ _ _ (stab_of (Hle.refl _) ⟨⟨1, rfl⟩, trivial⟩) ?_
                refine JA.val ⟨by kernel_rfl, by kernel_rfl⟩ (calm_only _) (i := 12) rfl ⟨by kernel_rfl, by kernel_rfl, rfl⟩ trivial (stab_of (Hle.refl _) ⟨⟨1, rfl⟩, trivial⟩) (R.pickT rfl rfl) rfl ?_
                refine JA.one (i := 13) (by kernel_rfl) ?_
                refine JO.step rfl trivial rfl (fun K hK => ?_)
                refine JL.store 2 S30 rfl rfl rfl rfl rfl (Nat.le_of_ble_eq_true rfl) ?_
                refine JL.nil ?_
                refine hK _ _ _ (stab_of (Hle.refl _) ⟨⟨1, rfl⟩, trivial⟩) ?_
                refine JA.val ⟨by kernel_rfl, by kernel_rfl⟩ (calm_only _) (i := 14) rfl ⟨by kernel_rfl, by kernel_rfl, rfl⟩ trivial (stab_of (Hle.refl _) ⟨⟨1, rfl⟩, trivial⟩) (R.assign rfl) rfl ?_
                refine JA.doneN (by kernel_rfl) ?_
                obtain rfl := Option.some.inj hx
                refine JN.forget 1 ?_
                refine JN.forget 0 ?_
                exact JN.cut ⟨rfl, rfl, rfl⟩ ⟨rfl, rfl, trivial⟩ rfl rfl
              · refine JO.step rfl ⟨_, _, rfl, rfl, rfl⟩ rfl (fun K hK => ?_)
                refine JL.callC (vs := [_]) (args := [_]) (K := []) (rst := [_, _]) E26 rfl rfl rfl picks0 (label_block_ok (Label.mk (u32i x_4.1) (u32i x_7.1) (Ptr.mk x_14.1.At x_14.1.Birth x_14.1.Iv x_14.1.Tag x_14.1.Sum)) _ _ hr_53) rfl (fun u_54 Ku_54 Hu_54 hRu_54 hleu_54 hfu_54 => ?_)
                obtain ⟨aor_55, nr_55, capr_55, Kr_55, rfl, rfl, rfl, hr_55, hnewr_55, -⟩ := hRu_54
                replace hr_55 := (RowOf.base (RowOf.const (H2 := New H Hu_16) RU8.const hr_55) (fun p hp => (hfu_54 p (mem_seg 0 rfl hp)).resolve_left (hnewr_55 p hp)))
                refine JL.nil ?_
                refine hK _ _ _ (stab_of (Hle.refl _) ⟨⟨1, rfl⟩, trivial⟩) ?_
                refine JA.two (i := 0) (j := 11) (by kernel_rfl) ?_ ?_
                · refine JO.step rfl trivial rfl (fun K hK => ?_)
                  refine JL.val rfl rfl (R.ldoN 2 (vs := [.int .u32 ((u32i x_4.1).toNat : Int), .int .u32 ((u32i x_7.1).toNat : Int), .int .i64 x_14.1.At, .int .u32 (x_14.1.Birth.toNat : Int), .int .u32 (x_14.1.Iv.toNat : Int), .int .u32 (x_14.1.Tag.toNat : Int), .int .u32 (x_14.1.Sum.toNat : Int)]) S30 rfl rfl rfl rfl) ?_
                  refine JL.nil ?_
                  refine hK _ _ _ (stab_of (Hle.refl _) ⟨⟨1, rfl⟩, trivial⟩) ?_
                  refine JA.one (i := 11) (by kernel_rfl) ?_
                  refine JO.step rfl ⟨_, _, rfl, rfl, rfl⟩ rfl (fun K hK => ?_)
                  refine JL.callL2 (vs := [_, _]) (v := .bool x_59) E58 rfl rfl (fun H_58 hle_57 hl_56 => Does.mono (bytes_Equal_ok x_52 p_1 _ (Lent.row' 0 hl_56 RU8.mono hle_57 rfl (hr_55.old RU8.mono)) (IsSlice.mono RU8.mono hle_57 (ha_2.mono RU8.mono (hleu_6.trans (hleu_9.trans hleu_16)))) _ hr_60) (fun _ _ _ h => h.1)) rfl ?_
                  refine JL.nil ?_
                  refine hK _ _ _ (stab_of (Hle.refl _) ⟨⟨1, rfl⟩, trivial⟩) ?_
                  refine JA.val ⟨by kernel_rfl, by kernel_rfl⟩ (calm_only _) (i := 12) rfl ⟨by kernel_rfl, by kernel_rfl, rfl⟩ trivial (stab_of (Hle.refl _) ⟨⟨1, rfl⟩, trivial⟩) (R.pickT rfl rfl) rfl ?_
                  refine JA.one (i := 13) (by kernel_rfl) ?_
                  refine JO.step rfl trivial rfl (fun K hK => ?_)
                  refine JL.store 2 S30 rfl rfl rfl rfl rfl (Nat.le_of_ble_eq_true rfl) ?_
                  refine JL.nil ?_
                  refine hK _ _ _ (stab_of (Hle.refl _) ⟨⟨1, rfl⟩, trivial⟩) ?_
                  refine JA.val ⟨by kernel_rfl, by kernel_rfl⟩ (calm_only _) (i := 14) rfl ⟨by kernel_rfl, by kernel_rfl, rfl⟩ trivial (stab_of (Hle.refl _) ⟨⟨1, rfl⟩, trivial⟩) (R.assign rfl) rfl ?_
                  refine JA.doneN (by kernel_rfl) ?_
                  obtain rfl := Option.some.inj hx
                  refine JN.forget 1 ?_
                  refine JN.forget 0 ?_
                  exact JN.cut ⟨rfl, rfl, rfl⟩ ⟨rfl, rfl, trivial⟩ rfl rfl
                · refine JO.step rfl ⟨_, _, rfl, rfl, rfl⟩ rfl (fun K hK => ?_)
                  refine JL.callL2 (vs := [_, _]) (v := .bool x_59) E58 rfl rfl (fun H_58 hle_57 hl_56 => Does.mono (bytes_Equal_ok x_52 p_1 _ (Lent.row' 0 hl_56 RU8.mono hle_57 rfl (hr_55.old RU8.mono)) (IsSlice.mono RU8.mono hle_57 (ha_2.mono RU8.mono (hleu_6.trans (hleu_9.trans hleu_16)))) _ hr_60) (fun _ _ _ h => h.1)) rfl ?_
                  refine JL.nil ?_
                  refine hK _ _ _ (stab_of (Hle.refl _) ⟨⟨1, rfl⟩, trivial⟩) ?_
                  refine JA.val ⟨by kernel_rfl, by kernel_rfl⟩ (calm_only _) (i := 12) rfl ⟨by kernel_rfl, by kernel_rfl, rfl⟩ trivial (stab_of (Hle.refl _) ⟨⟨1, rfl⟩, trivial⟩) (R.pickT rfl rfl) rfl ?_
                  refine JA.one (i := 0) (by kernel_rfl) ?_
                  refine JO.step rfl trivial rfl (fun K hK => ?_)
                  refine JL.val rfl rfl (R.ldoN 2 (vs := [.int .u32 ((u32i x_4.1).toNat : Int), .int .u32 ((u32i x_7.1).toNat : Int), .int .i64 x_14.1.At, .int .u32 (x_14.1.Birth.toNat : Int), .int .u32 (x_14.1.Iv.toNat : Int), .int .u32 (x_14.1.Tag.toNat : Int), .int .u32 (x_14.1.Sum.toNat : Int)]) S30 rfl rfl rfl rfl) ?_
                  refine JL.nil ?_
                  refine hK _ _ _ (stab_of (Hle.refl _) ⟨⟨1, rfl⟩, trivial⟩) ?_
                  refine JA.one (i := 13) (by kernel_rfl) ?_
                  refine JO.step rfl trivial rfl (fun K hK => ?_)
                  refine JL.store 2 S30 rfl rfl rfl rfl rfl (Nat.le_of_ble_eq_true rfl) ?_
                  refine JL.nil ?_
                  refine hK _ _ _ (stab_of (Hle.refl _) ⟨⟨1, rfl⟩, trivial⟩) ?_
                  refine JA.val ⟨by kernel_rfl, by kernel_rfl⟩ (calm_only _) (i := 14) rfl ⟨by kernel_rfl, by kernel_rfl, rfl⟩ trivial (stab_of (Hle.refl _) ⟨⟨1, rfl⟩, trivial⟩) (R.assign rfl) rfl ?_
                  refine JA.doneN (by kernel_rfl) ?_
                  obtain rfl := Option.some.inj hx
                  refine JN.forget 1 ?_
                  refine JN.forget 0 ?_
                  exact JN.cut ⟨rfl, rfl, rfl⟩ ⟨rfl, rfl, trivial⟩ rfl rfl
          · replace hx := cond_f c_51 hx
            refine JA.no ⟨by kernel_rfl, by kernel_rfl⟩ (calm_only _) (i := 8) rfl ⟨by kernel_rfl, by kernel_rfl, rfl⟩ rfl rfl rfl rfl (stab_of (Hle.refl _) ⟨⟨0, rfl⟩, trivial⟩) rfl ?_
            refine JA.no ⟨by kernel_rfl, by kernel_rfl⟩ (calm_only _) (i := 9) rfl ⟨by kernel_rfl, by kernel_rfl, rfl⟩ rfl rfl rfl rfl (stab_of (Hle.refl _) ⟨⟨0, rfl⟩, trivial⟩) rfl ?_
            refine JA.no ⟨by kernel_rfl, by kernel_rfl⟩ (calm_only _) (i := 10) rfl ⟨by kernel_rfl, by kernel_rfl, rfl⟩ rfl rfl rfl rfl (stab_of (Hle.refl _) ⟨⟨0, rfl⟩, trivial⟩) rfl ?_
            refine JA.no ⟨by kernel_rfl, by kernel_rfl⟩ (calm_only _) (i := 11) rfl ⟨by kernel_rfl, by kernel_rfl, rfl⟩ rfl rfl rfl rfl (stab_of (Hle.refl _) ⟨⟨0, rfl⟩, trivial⟩) rfl ?_
            refine JA.val ⟨by kernel_rfl, by kernel_rfl⟩ (calm_only _) (i := 12) rfl ⟨by kernel_rfl, by kernel_rfl, rfl⟩ trivial (stab_of (Hle.refl _) ⟨⟨0, rfl⟩, trivial⟩) (R.pickF rfl rfl) rfl ?_
            refine JA.one (i := 0) (by kernel_rfl) ?_
            refine JO.step rfl trivial rfl (fun K hK => ?_)
            refine JL.val rfl rfl (R.ldoN 1 (vs := [.int .u32 ((u32i x_4.1).toNat : Int), .int .u32 ((u32i x_7.1).toNat : Int), .int .i64 x_14.1.At, .int .u32 (x_14.1.Birth.toNat : Int), .int .u32 (x_14.1.Iv.toNat : Int), .int .u32 (x_14.1.Tag.toNat : Int), .int .u32 (x_14.1.Sum.toNat : Int)]) S30 rfl rfl rfl rfl) ?_
            refine JL.nil ?_
            refine hK _ _ _ (stab_of (Hle.refl _) ⟨⟨0, rfl⟩, trivial⟩) ?_
            refine JA.one (i := 13) (by kernel_rfl) ?_
            refine JO.step rfl trivial rfl (fun K hK => ?_)
            refine JL.store 1 S30 rfl rfl rfl rfl rfl (Nat.le_of_ble_eq_true rfl) ?_
            refine JL.nil ?_
            refine hK _ _ _ (stab_of (Hle.refl _) ⟨⟨0, rfl⟩, trivial⟩) ?_
            refine JA.val ⟨by kernel_rfl, by kernel_rfl⟩ (calm_only _) (i := 14) rfl ⟨by kernel_rfl, by kernel_rfl, rfl⟩ trivial (stab_of (Hle.refl _) ⟨⟨0, rfl⟩, trivial⟩) (R.assign rfl) rfl ?_
            refine JA.doneN (by kernel_rfl) ?_
            obtain rfl := Option.some.inj hx
            refine JN.forget 0 ?_
            exact JN.cut ⟨rfl, rfl, rfl⟩ ⟨rfl, rfl, trivial⟩ rfl rfl
    · replace hx := cond_f c_21 hx
      refine JA.no ⟨by kernel_rfl, by kernel_rfl⟩ (calm_only _) (i := 4) rfl ⟨by kernel_rfl, by kernel_rfl, rfl⟩ rfl rfl rfl rfl (stab_of (Hle.refl _) ⟨⟨0, rfl⟩, trivial⟩) rfl ?_
      refine JA.no ⟨by kernel_rfl, by kernel_rfl⟩ (calm_only _) (i := 5) rfl ⟨by kernel_rfl, by kernel_rfl, rfl⟩ rfl rfl rfl rfl (stab_of (Hle.refl _) ⟨⟨0, rfl⟩, trivial⟩) rfl ?_
      refine JA.val ⟨by kernel_rfl, by kernel_rfl⟩ (calm_only _) (i := 6) rfl ⟨by kernel_rfl, by kernel_rfl, rfl⟩ trivial (stab_of (Hle.refl _) ⟨⟨0, rfl⟩, trivial⟩) (R.pickF rfl rfl) rfl ?_
      refine JA.val ⟨by kernel_rfl, by kernel_rfl⟩ (calm_only _) (i := 7) rfl ⟨by kernel_rfl, by kernel_rfl, rfl⟩ trivial (stab_of (Hle.refl _) ⟨⟨0, rfl⟩, trivial⟩) (R.move rfl) rfl ?_
      refine JA.no ⟨by kernel_rfl, by kernel_rfl⟩ (calm_only _) (i := 8) rfl ⟨by kernel_rfl, by kernel_rfl, rfl⟩ rfl rfl rfl rfl (stab_of (Hle.refl _) ⟨⟨0, rfl⟩, trivial⟩) rfl ?_
      refine JA.no ⟨by kernel_rfl, by kernel_rfl⟩ (calm_only _) (i := 9) rfl ⟨by kernel_rfl, by kernel_rfl, rfl⟩ rfl rfl rfl rfl (stab_of (Hle.refl _) ⟨⟨0, rfl⟩, trivial⟩) rfl ?_
      refine JA.no ⟨by kernel_rfl, by kernel_rfl⟩ (calm_only _) (i := 10) rfl ⟨by kernel_rfl, by kernel_rfl, rfl⟩ rfl rfl rfl rfl (stab_of (Hle.refl _) ⟨⟨0, rfl⟩, trivial⟩) rfl ?_
      refine JA.no ⟨by kernel_rfl, by kernel_rfl⟩ (calm_only _) (i := 11) rfl ⟨by kernel_rfl, by kernel_rfl, rfl⟩ rfl rfl rfl rfl (stab_of (Hle.refl _) ⟨⟨0, rfl⟩, trivial⟩) rfl ?_
      refine JA.val ⟨by kernel_rfl, by kernel_rfl⟩ (calm_only _) (i := 12) rfl ⟨by kernel_rfl, by kernel_rfl, rfl⟩ trivial (stab_of (Hle.refl _) ⟨⟨0, rfl⟩, trivial⟩) (R.pickF rfl rfl) rfl ?_
      refine JA.one (i := 0) (by kernel_rfl) ?_
      refine JO.step rfl trivial rfl (fun K hK => ?_)
      refine JL.val rfl rfl (R.ldoN 1 (vs := [.int .u32 ((u32i x_4.1).toNat : Int), .int .u32 ((u32i x_7.1).toNat : Int), .int .i64 x_14.1.At, .int .u32 (x_14.1.Birth.toNat : Int), .int .u32 (x_14.1.Iv.toNat : Int), .int .u32 (x_14.1.Tag.toNat : Int), .int .u32 (x_14.1.Sum.toNat : Int)]) S30 rfl rfl rfl rfl) ?_
      refine JL.nil ?_
      refine hK _ _ _ (stab_of (Hle.refl _) ⟨⟨0, rfl⟩, trivial⟩) ?_
      refine JA.one (i := 13) (by kernel_rfl) ?_
      refine JO.step rfl trivial rfl (fun K hK => ?_)
      refine JL.store 1 S30 rfl rfl rfl rfl rfl (Nat.le_of_ble_eq_true rfl) ?_
      refine JL.nil ?_
      refine hK _ _ _ (stab_of (Hle.refl _) ⟨⟨0, rfl⟩, trivial⟩) ?_
      refine JA.val ⟨by kernel_rfl, by kernel_rfl⟩ (calm_only _) (i := 14) rfl ⟨by kernel_rfl, by kernel_rfl, rfl⟩ trivial (stab_of (Hle.refl _) ⟨⟨0, rfl⟩, trivial⟩) (R.assign rfl) rfl ?_
      refine JA.doneN (by kernel_rfl) ?_
      obtain rfl := Option.some.inj hx
      refine JN.forget 0 ?_
      exact JN.cut ⟨rfl, rfl, rfl⟩ ⟨rfl, rfl, trivial⟩ rfl rfl

set_option maxHeartbeats 1000000 in
theorem cmp_isNaN_uint32_ok (p_1 : UInt32) (H : Heaplet) (r : Bool) (hx : cmp_isNaN_uint32 p_1 = some r) :
    Does Try.prog 61 #[.int .u32 (p_1.toNat : Int)] [] H (fun u K' H' => u = .bool r ∧ K' = [] ∧ H = H' ∧ True) := by
  refine Does.enterL (vs := [.int .u32 (p_1.toNat : Int)]) (l := [(0, .int .u32 (p_1.toNat : Int))]) Try.func61 rfl rfl ⟨rfl, trivial⟩ (fun w hlt => ?_)
  rw [cmp_isNaN_uint32.eq_1] at hx
  refine JC.seq ?_
  refine JC.region ?_
  refine JL.val rfl rfl (R.assign rfl) ?_
  refine JL.nil ?_
  refine JN.next ?_
  refine JC.seq ?_
  refine JC.region ?_
  refine JL.val rfl rfl (R.move rfl) ?_
  refine JL.val rfl rfl (R.move rfl) ?_
  refine JL.val rfl rfl (R.neq32 (a := p_1) (b := p_1) rfl rfl) ?_
  refine JL.val rfl rfl (R.assign rfl) ?_
  refine JL.nil ?_
  refine JN.next ?_
  refine JC.ret ?_
  refine JN.outP (vs := [.bool (!decide (p_1 = p_1))]) (K := []) (rst := []) (.inl rfl) rfl rfl (Res.tmp rfl rfl) picks0 ?_
  obtain rfl := Option.some.inj hx
  exact ⟨rfl, rfl, rfl, trivial⟩

set_option maxHeartbeats 1000000 in
theorem cmp_Compare_uint32_ok (p_1 : UInt32) (p_2 : UInt32) (H : Heaplet) (r : Int) (hx : cmp_Compare_uint32 p_1 p_2 = some r) :
    Does Try.prog 34 #[.int .u32 (p_1.toNat : Int), .int .u32 (p_2.toNat : Int)] [] H (fun u K' H' => u = .int .i64 r ∧ K' = [] ∧ H = H' ∧ True) := by
  refine Does.enterL (vs := [.int .u32 (p_1.toNat : Int), .int .u32 (p_2.toNat : Int)]) (l := [(0, .int .u32 (p_1.toNat : Int)), (1, .int .u32 (p_2.toNat : Int))]) Try.func34 rfl rfl ⟨rfl, rfl, trivial⟩ (fun w hlt => ?_)
  rw [cmp_Compare_uint32.eq_1] at hx
  refine JC.seq ?_
  refine JC.region ?_
  refine JL.val rfl rfl (R.assign rfl) ?_
  refine JL.nil ?_
  refine JN.next ?_
  refine JC.seq ?_
  refine JC.region ?_
  refine JL.val rfl rfl (R.move rfl) ?_
  obtain ⟨x_3, hr_4, hx⟩ := bnd_some hx
  refine JL.callC (vs := [_]) (args := [_]) (K := []) (rst := []) E61 rfl rfl rfl picks0 (cmp_isNaN_uint32_ok p_1 _ _ hr_4) rfl (fun u_5 Ku_5 Hu_5 hRu_5 hleu_5 hfu_5 => ?_)
  obtain ⟨rfl, rfl, rfl, -⟩ := hRu_5
  refine JL.val rfl rfl (R.assign rfl) ?_
  refine JL.nil ?_
  refine JN.next ?_
  refine JC.seq ?_
  refine JC.region ?_
  refine JL.val rfl rfl (R.move rfl) ?_
  obtain ⟨x_6, hr_7, hx⟩ := bnd_some hx
  refine JL.callC (vs := [_]) (args := [_]) (K := []) (rst := []) E61 rfl rfl rfl picks0 (cmp_isNaN_uint32_ok p_2 _ _ hr_7) rfl (fun u_8 Ku_8 Hu_8 hRu_8 hleu_8 hfu_8 => ?_)
  obtain ⟨rfl, rfl, rfl, -⟩ := hRu_8
  refine JL.val rfl rfl (R.assign rfl) ?_
  refine JL.nil ?_
  refine JN.next ?_
  refine JC.seq ?_
  refine JC.seq ?_
  refine JC.region ?_
  refine JL.val rfl rfl (R.move rfl) ?_
  refine JL.nil ?_
  refine JN.next ?_
  refine JC.condB rfl (fun c_9 => ?_) (fun c_9 => ?_)
  · replace hx := cond_t c_9 hx
    refine JC.seq ?_
    refine JC.seq ?_
    refine JC.region ?_
    refine JL.val rfl rfl (R.move rfl) ?_
    refine JL.nil ?_
    refine JN.next ?_
    refine JC.condB rfl (fun c_10 => ?_) (fun c_10 => ?_)
    · replace hx := cond_t c_10 hx
      refine JC.seq ?_
      refine JC.region ?_
      refine JL.val rfl rfl (R.assign rfl) ?_
      refine JL.nil ?_
      refine JN.next ?_
      refine JC.ret ?_
      refine JN.passR ?_
      refine JN.passR ?_
      refine JN.outP (vs := [.int .i64 0]) (K := []) (rst := []) (.inl rfl) rfl rfl (Res.tmp rfl rfl) picks0 ?_
      obtain rfl := Option.some.inj hx
      exact ⟨rfl, rfl, rfl, trivial⟩
    · replace hx := cond_f c_10 hx
      refine JC.skip ?_
      refine JN.next ?_
      refine JC.seq ?_
      refine JC.region ?_
      refine JL.val rfl rfl (R.assign rfl) ?_
      refine JL.nil ?_
      refine JN.next ?_
      refine JC.ret ?_
      refine JN.passR ?_
      refine JN.outP (vs := [.int .i64 (-1)]) (K := []) (rst := []) (.inl rfl) rfl rfl (Res.tmp rfl rfl) picks0 ?_
      obtain rfl := Option.some.inj hx
      exact ⟨rfl, rfl, rfl, trivial⟩
  · replace hx := cond_f c_9 hx
    refine JC.skip ?_
    refine JN.next ?_
    refine JC.seq ?_
    refine JC.seq ?_
    refine JC.region ?_
    refine JL.val rfl rfl (R.move rfl) ?_
    refine JL.nil ?_
    refine JN.next ?_
    refine JC.condB rfl (fun c_11 => ?_) (fun c_11 => ?_)
    · replace hx := cond_t c_11 hx
      refine JC.seq ?_
      refine JC.region ?_
      refine JL.val rfl rfl (R.assign rfl) ?_
      refine JL.nil ?_
      refine JN.next ?_
      refine JC.ret ?_
      refine JN.passR ?_
      refine JN.outP (vs := [.int .i64 1]) (K := []) (rst := []) (.inl rfl) rfl rfl (Res.tmp rfl rfl) picks0 ?_
      obtain rfl := Option.some.inj hx
      exact ⟨rfl, rfl, rfl, trivial⟩
    · replace hx := cond_f c_11 hx
      refine JC.skip ?_
      refine JN.next ?_
      refine JC.seq ?_
      refine JC.seq ?_
      refine JC.region ?_
      refine JL.val rfl rfl (R.move rfl) ?_
      refine JL.val rfl rfl (R.move rfl) ?_
      refine JL.val rfl rfl (R.lss32 (a := p_1) (b := p_2) rfl rfl) ?_
      refine JL.nil ?_
      refine JN.next ?_
      refine JC.condB rfl (fun c_12 => ?_) (fun c_12 => ?_)
      · replace hx := cond_t c_12 hx
        refine JC.seq ?_
        refine JC.region ?_
        refine JL.val rfl rfl (R.assign rfl) ?_
        refine JL.nil ?_
        refine JN.next ?_
        refine JC.ret ?_
        refine JN.passR ?_
        refine JN.outP (vs := [.int .i64 (-1)]) (K := []) (rst := []) (.inl rfl) rfl rfl (Res.tmp rfl rfl) picks0 ?_
        obtain rfl := Option.some.inj hx
        exact ⟨rfl, rfl, rfl, trivial⟩
      · replace hx := cond_f c_12 hx
        refine JC.skip ?_
        refine JN.next ?_
        refine JC.seq ?_
        refine JC.seq ?_
        refine JC.region ?_
        refine JL.val rfl rfl (R.move rfl) ?_
        refine JL.val rfl rfl (R.move rfl) ?_
        refine JL.val rfl rfl (R.gtr32 (a := p_1) (b := p_2) rfl rfl) ?_
        refine JL.nil ?_
        refine JN.next ?_
        refine JC.condB rfl (fun c_13 => ?_) (fun c_13 => ?_)
        · replace hx := cond_t c_13 hx
          refine JC.seq ?_
          refine JC.region ?_
          refine JL.val rfl rfl (R.assign rfl) ?_
          refine JL.nil ?_
          refine JN.next ?_
          refine JC.ret ?_
          refine JN.passR ?_
          refine JN.outP (vs := [.int .i64 1]) (K := []) (rst := []) (.inl rfl) rfl rfl (Res.tmp rfl rfl) picks0 ?_
          obtain rfl := Option.some.inj hx
          exact ⟨rfl, rfl, rfl, trivial⟩
        · replace hx := cond_f c_13 hx
          refine JC.skip ?_
          refine JN.next ?_
          refine JC.seq ?_
          refine JC.region ?_
          refine JL.val rfl rfl (R.assign rfl) ?_
          refine JL.nil ?_
          refine JN.next ?_
          refine JC.ret ?_
          refine JN.outP (vs := [.int .i64 0]) (K := []) (rst := []) (.inl rfl) rfl rfl (Res.tmp rfl rfl) picks0 ?_
          obtain rfl := Option.some.inj hx
          exact ⟨rfl, rfl, rfl, trivial⟩

set_option maxHeartbeats 1000000 in
theorem label_Find_1_ok (p_1 : Label) (p_2 : Label) (H : Heaplet) (r : Int) (hx : label_Find_1 p_1 p_2 = some r) :
    Does Try.prog 33 #[.agg #[.int .u32 (p_1.Gen.toNat : Int), .int .u32 (p_1.Epoch.toNat : Int), .int .i64 p_1.Root.At, .int .u32 (p_1.Root.Birth.toNat : Int), .int .u32 (p_1.Root.Iv.toNat : Int), .int .u32 (p_1.Root.Tag.toNat : Int), .int .u32 (p_1.Root.Sum.toNat : Int)], .agg #[.int .u32 (p_2.Gen.toNat : Int), .int .u32 (p_2.Epoch.toNat : Int), .int .i64 p_2.Root.At, .int .u32 (p_2.Root.Birth.toNat : Int), .int .u32 (p_2.Root.Iv.toNat : Int), .int .u32 (p_2.Root.Tag.toNat : Int), .int .u32 (p_2.Root.Sum.toNat : Int)]] [] H (fun u K' H' => u = .int .i64 r ∧ K' = [] ∧ H = H' ∧ True) := by
  refine Does.enterL (vs := [.agg #[.int .u32 (p_1.Gen.toNat : Int), .int .u32 (p_1.Epoch.toNat : Int), .int .i64 p_1.Root.At, .int .u32 (p_1.Root.Birth.toNat : Int), .int .u32 (p_1.Root.Iv.toNat : Int), .int .u32 (p_1.Root.Tag.toNat : Int), .int .u32 (p_1.Root.Sum.toNat : Int)], .agg #[.int .u32 (p_2.Gen.toNat : Int), .int .u32 (p_2.Epoch.toNat : Int), .int .i64 p_2.Root.At, .int .u32 (p_2.Root.Birth.toNat : Int), .int .u32 (p_2.Root.Iv.toNat : Int), .int .u32 (p_2.Root.Tag.toNat : Int), .int .u32 (p_2.Root.Sum.toNat : Int)]]) (l := [(0, .agg #[.int .u32 (p_1.Gen.toNat : Int), .int .u32 (p_1.Epoch.toNat : Int), .int .i64 p_1.Root.At, .int .u32 (p_1.Root.Birth.toNat : Int), .int .u32 (p_1.Root.Iv.toNat : Int), .int .u32 (p_1.Root.Tag.toNat : Int), .int .u32 (p_1.Root.Sum.toNat : Int)]), (1, .agg #[.int .u32 (p_2.Gen.toNat : Int), .int .u32 (p_2.Epoch.toNat : Int), .int .i64 p_2.Root.At, .int .u32 (p_2.Root.Birth.toNat : Int), .int .u32 (p_2.Root.Iv.toNat : Int), .int .u32 (p_2.Root.Tag.toNat : Int), .int .u32 (p_2.Root.Sum.toNat : Int)])]) Try.func33 rfl rfl ⟨rfl, rfl, trivial⟩ (fun w hlt => ?_)
  rw [label_Find_1.eq_1] at hx
  refine JC.seq ?_
  refine JC.region ?_
  refine JL.box rfl rfl (fun b_3 hb_3 => ?_)
  refine JL.box rfl rfl (fun b_4 hb_4 => ?_)
  refine JL.val rfl rfl (R.assign rfl) ?_
  refine JL.nil ?_
  refine JN.next ?_
  refine JC.seq ?_
  refine JC.region ?_
  refine JL.val rfl rfl (R.fa F30_0 rfl) ?_
  refine JL.val rfl rfl (R.ldo 0 S26 rfl rfl rfl) ?_
  refine JL.val rfl rfl (R.fa F30_0 rfl) ?_
  refine JL.val rfl rfl (R.ldo 1 S26 rfl rfl rfl) ?_
  obtain ⟨x_5, hr_6, hx⟩ := bnd_some hx
  refine JL.callC (vs := [_, _]) (args := [_, _]) (K := []) (rst := [_, _]) E34 rfl rfl rfl picks0 (cmp_Compare_uint32_ok p_2.Gen p_1.Gen _ _ hr_6) rfl (fun u_7 Ku_7 Hu_7 hRu_7 hleu_7 hfu_7 => ?_)
  obtain ⟨rfl, rfl, rfl, -⟩ := hRu_7
  refine JL.val rfl rfl (R.assign rfl) ?_
  refine JL.nil ?_
  refine JN.next ?_
  refine JC.ret ?_
  refine JN.outP (vs := [.int .i64 x_5]) (K := []) (rst := [_, _]) (.inl rfl) rfl rfl (Res.tmp rfl rfl) picks0 ?_
  obtain rfl := Option.some.inj hx
  exact ⟨rfl, rfl, rfl, trivial⟩

theorem slices_SortFunc_Label_label_Find_1_ok (p_1 : List Label) (H : Heaplet) {ao : Option Addr} {n cap : Nat} {K : Own} (hr : RowOf (New H H) R_Label 0 30 7 (.slice ao n cap) p_1 K) (r : List Label) (hx : slices_SortFunc_Label_label_Find_1 p_1 = some r) :
    Does Try.prog 32 #[.slice ao n cap, .func (.func 33) #[] #[]] [K] H (fun u K' H' => ∃ K0 : Own, u = .tuple #[] ∧ K' = [K0] ∧ H = H' ∧ RowOf (New H H') R_Label 0 30 7 (.slice ao n cap) r K0 ∧ True) := by
  rw [slices_SortFunc_Label_label_Find_1.eq_1] at hx
  split at hx
  case isFalse => cases hx
  rename_i hlen
  obtain rfl := Option.some.inj hx
  have h := sort_does (enc := enc_Label) (R := R_Label) Try.sort32 (by decide) Try.isAgg30 Try.sizeOf30 (fun _ _ _ => Iff.rfl) (fun _ => rfl) enc_Label_one (fun x y => (label_Find_1 x y).getD 0) label_Find_1_swo (g := 33)
    (enters_of Try.func33 (by kernel_rfl) rfl)
    (fun x y => by
      obtain ⟨z, hz⟩ := label_Find_1_tot x y
      refine Does.mono (label_Find_1_ok x y (fun _ _ => none) z hz) (fun v K' H' hR => ?_)
      obtain ⟨rfl, -⟩ := hR
      simp [hz]) (H := H) hr hlen
  refine Does.mono h (fun v K' H' hR => ?_)
  obtain ⟨K1, rfl, rfl, rfl, h1, -⟩ := hR
  exact ⟨K1, rfl, rfl, rfl, h1, trivial⟩

set_option maxHeartbeats 1000000 in
theorem label_Find_ok (p_1 : Disk) (H : Heaplet) {aoa_2 : Option Addr} {na_2 : Nat} {capa_2 : Nat} {aoa_3 : Option Addr} {na_3 : Nat} {capa_3 : Nat} (ha_2 : IsSlice H (RSl RU8 1) 1 (.slice aoa_2 na_2 capa_2) p_1.Blocks) (ha_3 : IsSlice H R_Write 2 (.slice aoa_3 na_3 capa_3) p_1.Waits) (r : List Label × Int) (hx : label_Find p_1 = some r) :
    Does Try.prog 12 #[.agg #[.slice aoa_2 na_2 capa_2, .slice aoa_3 na_3 capa_3]] [] H (fun u K' H' => ∃ ao0 : Option Addr, ∃ n0 : Nat, ∃ cap0 : Nat, ∃ K0 : Own, u = .tuple #[.slice ao0 n0 cap0, .int .i64 r.2] ∧ K' = [K0] ∧ RowOf (New H H') R_Label 0 30 7 (.slice ao0 n0 cap0) r.1 K0 ∧ (∀ p ∈ K0, p.1 ∉ ids (List.flatten [])) ∧ True) := by
  refine Does.enterL (vs := [.agg #[.slice aoa_2 na_2 capa_2, .slice aoa_3 na_3 capa_3]]) (l := [(0, .agg #[.slice aoa_2 na_2 capa_2, .slice aoa_3 na_3 capa_3])]) Try.func12 rfl rfl ⟨rfl, trivial⟩ (fun w hlt => ?_)
  rw [label_Find.eq_1] at hx
  refine JC.seq ?_
  refine JC.region ?_
  refine JL.box rfl rfl (fun b_4 hb_4 => ?_)
  refine JL.val rfl rfl (R.assign rfl) ?_
  refine JL.val rfl rfl (R.assign rfl) ?_
  refine JL.nil ?_
  refine JN.next ?_
  refine JC.seq ?_
  refine JC.seq ?_
  refine JC.region ?_
  refine JL.val rfl rfl (R.ldoN 0 (vs := [.slice aoa_2 na_2 capa_2, .slice aoa_3 na_3 capa_3]) S25 rfl rfl rfl rfl) ?_
  obtain ⟨x_5, hr_6, hx⟩ := bnd_some hx
  refine JL.callC (vs := [_]) (args := [_]) (K := []) (rst := [_]) E24 rfl rfl rfl picks0 (dev_Check_ok p_1 _ ha_2 ha_3 _ hr_6) rfl (fun u_7 Ku_7 Hu_7 hRu_7 hleu_7 hfu_7 => ?_)
  obtain ⟨rfl, rfl, rfl, -⟩ := hRu_7
  refine JL.val rfl rfl (R.assign rfl) ?_
  refine JL.nil ?_
  refine JN.next ?_
  refine JC.seq ?_
  refine JC.region ?_
  refine JL.val rfl rfl (R.move rfl) ?_
  refine JL.val rfl rfl (R.neq_i rfl rfl) ?_
  refine JL.nil ?_
  refine JN.next ?_
  refine JC.condB rfl (fun c_8 => ?_) (fun c_8 => ?_)
  · replace hx := cond_t c_8 hx
    refine JC.seq ?_
    refine JC.region ?_
    refine JL.val rfl rfl (R.move rfl) ?_
    refine JL.val rfl rfl (R.assign rfl) ?_
    refine JL.val rfl rfl (R.assign rfl) ?_
    refine JL.nil ?_
    refine JN.next ?_
    refine JC.ret ?_
    refine JN.passR ?_
    refine JN.seg0 ?_
    refine JN.outP (vs := [.slice none 0 0, .int .i64 x_5]) (K := [_]) (rst := [_]) (.inl rfl) rfl rfl (Res.tmp rfl (Res.tmp rfl rfl)) (picks 0 rfl picks0) ?_
    obtain rfl := Option.some.inj hx
    exact ⟨none, 0, 0, [], rfl, rfl, (RowOf.nil _ _ _ _ _), (fun p hp => by cases hp), trivial⟩
  · replace hx := cond_f c_8 hx
    refine JC.skip ?_
    refine JN.next ?_
    refine JC.seq ?_
    refine JC.seq ?_
    refine JC.region ?_
    refine JL.val rfl rfl (R.move rfl) ?_
    refine JL.nil ?_
    refine JN.next ?_
    obtain ⟨t_9, ht_11, hx⟩ := bnd_some hx
    refine JC.cut (fun l o g => ∃ H_17 : Heaplet, ∃ aor_18 : Option Addr, ∃ nr_18 : Nat, ∃ capr_18 : Nat, ∃ Kr_18 : Own, l = [(2, .slice aor_18 nr_18 capr_18)] ∧ o = [Kr_18] ∧ H_17 = g ∧ Hle H H_17 ∧ RowOf (New H H_17) R_Label w.heap.size 30 7 (.slice aor_18 nr_18 capr_18) t_9 Kr_18) ?_ ?_
    · rintro _ _ _ ⟨H_17, aor_18, nr_18, capr_18, Kr_18, rfl, rfl, rfl, hleH_17, hr_18⟩
      refine JN.next ?_
      refine JC.seq ?_
      refine JC.region ?_
      refine JL.val rfl rfl (R.move rfl) ?_
      obtain ⟨x_19, hr_20, hx⟩ := bnd_some hx
      refine JL.callC (vs := [_, _]) (args := [_, _]) (K := [_]) (rst := []) E32 rfl rfl rfl (picks 0 rfl picks0) (slices_SortFunc_Label_label_Find_1_ok t_9 _ (RowOf.weak (Nat.zero_le _) (RowOf.const R_Label.const hr_18)) _ hr_20) rfl (fun u_21 Ku_21 Hu_21 hRu_21 hleu_21 hfu_21 => ?_)
      obtain ⟨Kr_22, rfl, rfl, rfl, hr_22, -⟩ := hRu_21
      replace hr_22 := (RowOf.up (RowOf.const (H2 := New H H_17) R_Label.const hr_22) (fun p hp => hfu_21 p (mem_seg 0 rfl hp)) (ids_cons (RowOf.ge hr_18) ids_nil))
      refine JL.nil ?_
      refine JN.next ?_
      refine JC.seq ?_
      refine JC.region ?_
      refine JL.val rfl rfl (R.move rfl) ?_
      refine JL.val rfl rfl (R.assign rfl) ?_
      refine JL.val rfl rfl (R.assign rfl) ?_
      refine JL.nil ?_
      refine JN.next ?_
      refine JC.ret ?_
      refine JN.outP (vs := [.slice aor_18 nr_18 capr_18, .int .i64 0]) (K := [_]) (rst := []) (.inl rfl) rfl rfl (Res.tmp rfl (Res.tmp rfl rfl)) (picks 0 rfl picks0) ?_
      obtain rfl := Option.some.inj hx
      exact ⟨aor_18, nr_18, capr_18, Kr_22, rfl, rfl, (RowOf.weak (Nat.zero_le _) hr_22), (new_ids hr_22 hlt), trivial⟩
    · have hxo_10 := hx; clear hx; have hx := ht_11; clear ht_11
      refine JC.block ?_
      refine JC.seg0 ?_
      refine JC.front 1 rfl ?_
      refine JC.loopI (fun n l o g => ∃ s_12 : List Label × Nat, ∃ H_15 : Heaplet, ∃ aor_16 : Option Addr, ∃ nr_16 : Nat, ∃ capr_16 : Nat, ∃ Kr_16 : Own, l = [(1, .pointer (some ⟨b_4, 0, none⟩)), (2, .slice aor_16 nr_16 capr_16), (15, .int .i64 ((s_12.2 : Nat) : Int))] ∧ o = [[(b_4, .cells #[.slice aoa_2 na_2 capa_2, .slice aoa_3 na_3 capa_3] 25 (0, 0))], Kr_16] ∧ H_15 = g ∧ run (label_Find_l1 p_1) n s_12 = some t_9 ∧ Hle H H_15 ∧ RowOf (New H H_15) R_Label w.heap.size 30 7 (.slice aor_16 nr_16 capr_16) s_12.1 Kr_16) FUEL ?_ ⟨(([] : List Label), 0), H, none, 0, 0, [], rfl, rfl, rfl, hx, (Hle.refl _), (RowOf.nil _ _ _ _ _)⟩ ⟨rfl, rfl, rfl, trivial⟩ ?_
      · rintro _ _ _ ⟨s_12, H_15, aor_16, nr_16, capr_16, Kr_16, rfl, rfl, rfl, hn_13, hleH_15, hr_16⟩
        exact run_zero hn_13
      · rintro n_14 _ _ _ ⟨s_12, H_15, aor_16, nr_16, capr_16, Kr_16, rfl, rfl, rfl, hn_13, hleH_15, hr_16⟩
        clear hx; obtain ⟨oo_18, hx, hd_17⟩ := run_some hn_13
        rw [label_Find_l1.eq_1] at hx
        refine JC.seq ?_
        refine JC.region ?_
        refine JL.val rfl rfl (R.lss_i rfl rfl) ?_
        refine JL.nil ?_
        refine JN.next ?_
        refine JC.seq ?_
        refine JC.condB rfl (fun c_17 => ?_) (fun c_17 => ?_)
        · replace hx := cond_t c_17 hx
          refine JC.skip ?_
          refine JN.next ?_
          refine JC.seq ?_
          refine JC.block ?_
          refine JC.seq ?_
          refine JC.region ?_
          refine JL.val rfl rfl (R.move rfl) ?_
          refine JL.val rfl rfl (R.assign rfl) ?_
          refine JL.nil ?_
          refine JN.next ?_
          refine JC.seq ?_
          refine JC.region ?_
          refine JL.val rfl rfl (R.ldoN 0 (vs := [.slice aoa_2 na_2 capa_2, .slice aoa_3 na_3 capa_3]) S25 rfl rfl rfl rfl) ?_
          refine JL.val rfl rfl (R.move rfl) ?_
          obtain ⟨x_18, hr_19, hx⟩ := bnd_some hx
          refine JL.callC (vs := [_, _]) (args := [_, _]) (K := []) (rst := [_, _]) E30 rfl rfl rfl picks0 (dev_Read_ok p_1 ((s_12.2 : Nat) : Int) _ (ha_2.mono (RSl.mono RU8.mono) hleH_15) (ha_3.mono R_Write.mono hleH_15) _ hr_19) rfl (fun u_20 Ku_20 Hu_20 hRu_20 hleu_20 hfu_20 => ?_)
          obtain ⟨aoz_21, nz_21, capz_21, rfl, rfl, hz_21, -⟩ := hRu_20
          replace hz_21 := IsSlice.mono RU8.mono (New.call hleH_15) hz_21
          refine JL.val rfl rfl (R.move rfl) ?_
          refine JL.val rfl rfl (R.extract rfl rfl) ?_
          refine JL.val rfl rfl (R.extract rfl rfl) ?_
          refine JL.val rfl rfl (R.assign rfl) ?_
          refine JL.val rfl rfl (R.assign rfl) ?_
          refine JL.nil ?_
          refine JN.next ?_
          refine JC.seq ?_
          refine JC.region ?_
          refine JL.val rfl rfl (R.move rfl) ?_
          obtain ⟨x_22, hr_23, hx⟩ := bnd_some hx
          refine JL.callC (vs := [_]) (args := [_]) (K := []) (rst := [_, _]) E31 rfl rfl rfl picks0 (label_read_ok x_18.1 _ (hz_21.old RU8.mono) _ hr_23) rfl (fun u_24 Ku_24 Hu_24 hRu_24 hleu_24 hfu_24 => ?_)
          obtain ⟨rfl, rfl, -⟩ := hRu_24
          refine JL.val rfl rfl (R.move rfl) ?_
          refine JL.val rfl rfl (R.extract rfl rfl) ?_
          refine JL.val rfl rfl (R.extract rfl rfl) ?_
          refine JL.alloc Z30 rfl (fun b_25 hb_25 => ?_)
          refine JL.store 0 S30 rfl rfl rfl rfl rfl (Nat.le_of_ble_eq_true rfl) ?_
          refine JL.val rfl rfl (R.assign rfl) ?_
          refine JL.nil ?_
          refine JN.next ?_
          refine JC.seq ?_
          refine JC.region ?_
          refine JL.val rfl rfl (R.move rfl) ?_
          refine JL.val rfl rfl (R.move rfl) ?_
          refine JL.gSplit (t := 30) rfl (fun c_26 => ?_) (fun c_26 => ?_)
          · replace hx := cond_t c_26 hx
            refine JL.gYes rfl rfl rfl ?_
            refine JL.val rfl rfl (R.fa F30_0 rfl) ?_
            refine JL.gYes rfl rfl rfl ?_
            refine JL.val rfl rfl (R.ldo 0 S26 rfl rfl rfl) ?_
            refine JL.gYes rfl rfl rfl ?_
            obtain ⟨x_27, hr_28, hx⟩ := bnd_some hx
            refine JL.callC (vs := [_]) (args := [_]) (K := []) (rst := [_, _, _]) E15 rfl rfl rfl picks0 (label_Slot_ok x_22.1.Gen _ _ hr_28) rfl (fun u_29 Ku_29 Hu_29 hRu_29 hleu_29 hfu_29 => ?_)
            obtain ⟨rfl, rfl, rfl, -⟩ := hRu_29
            refine JL.gYes rfl rfl rfl ?_
            refine JL.val rfl rfl (R.move rfl) ?_
            refine JL.gYes rfl rfl rfl ?_
            refine JL.val rfl rfl (R.eql_i rfl rfl) ?_
            refine JL.val rfl rfl (R.pickT rfl rfl) ?_
            refine JL.nil ?_
            refine JN.next ?_
            refine JC.condB rfl (fun c_30 => ?_) (fun c_30 => ?_)
            · replace hx := cond_t c_30 hx
              refine JC.region ?_
              refine JL.val rfl rfl (R.move rfl) ?_
              refine JL.val rfl rfl (R.ldoN 0 (vs := [.int .u32 (x_22.1.Gen.toNat : Int), .int .u32 (x_22.1.Epoch.toNat : Int), .int .i64 x_22.1.Root.At, .int .u32 (x_22.1.Root.Birth.toNat : Int), .int .u32 (x_22.1.Root.Iv.toNat : Int), .int .u32 (x_22.1.Root.Tag.toNat : Int), .int .u32 (x_22.1.Root.Sum.toNat : Int)]) S30 rfl rfl rfl rfl) ?_
              refine JL.bslF (HF := (New H Hu_24)) (R := R_Label) (ls := [x_22.1]) (vs := [.agg #[.int .u32 (x_22.1.Gen.toNat : Int), .int .u32 (x_22.1.Epoch.toNat : Int), .int .i64 x_22.1.Root.At, .int .u32 (x_22.1.Root.Birth.toNat : Int), .int .u32 (x_22.1.Root.Iv.toNat : Int), .int .u32 (x_22.1.Root.Tag.toNat : Int), .int .u32 (x_22.1.Root.Sum.toNat : Int)]]) U38 I30 rfl rfl (⟨_, _, rfl, rfl, rfl, rfl⟩) R_Label.one rfl rfl rfl (by simp [maxLen]) rfl (fun vr_31 Kr_31 hr_31 => ?_)
              obtain ⟨aor_31, capr_31, rfl⟩ := RowOf.val hr_31
              obtain ⟨q_32, hm_33, hl_34, hx⟩ := app_some hx
              refine JL.appF (HF := (New H Hu_24)) 3 U38 I30 rfl rfl (hr_16.mono R_Label.mono (New.mono (hleu_20.trans hleu_24))) rfl (SrcF.row 0 U38 rfl hr_31) hm_33 hl_34 rfl (Nat.le_refl _) rfl (fun vr_35 Kr_35 hr_35 => ?_)
              obtain ⟨aor_35, capr_35, rfl⟩ := RowOf.val hr_35
              refine JL.val rfl rfl (R.assign rfl) ?_
              refine JL.nil ?_
              refine JN.blkN ?_
              refine JN.next ?_
              refine JC.region ?_
              refine JL.val rfl rfl (R.inc rfl rfl (of_decide_eq_true c_17) (by decide)) ?_
              refine JL.val rfl rfl (R.move rfl) ?_
              refine JL.nil ?_
              replace hx := run_next hd_17 hx
              refine JN.forget 1 ?_
              refine JN.forget 0 ?_
              refine JN.front 1 rfl ?_
              refine JN.front 1 rfl ?_
              exact JN.cut ⟨(q_32, s_12.2 + 1), Hu_24, aor_35, q_32.length, capr_35, Kr_35, rfl, rfl, rfl, hx, ((hleH_15.trans (hleu_20.trans hleu_24))), hr_35⟩ ⟨rfl, rfl, rfl, trivial⟩ rfl rfl
            · replace hx := cond_f c_30 hx
              refine JC.skip ?_
              refine JN.blkN ?_
              refine JN.next ?_
              refine JC.region ?_
              refine JL.val rfl rfl (R.inc rfl rfl (of_decide_eq_true c_17) (by decide)) ?_
              refine JL.val rfl rfl (R.move rfl) ?_
              refine JL.nil ?_
              replace hx := run_next hd_17 hx
              refine JN.forget 0 ?_
              refine JN.front 1 rfl ?_
              refine JN.front 1 rfl ?_
              exact JN.cut ⟨(s_12.1, s_12.2 + 1), Hu_24, aor_16, nr_16, capr_16, Kr_16, rfl, rfl, rfl, hx, ((hleH_15.trans (hleu_20.trans hleu_24))), (hr_16.mono R_Label.mono (New.mono (hleu_20.trans hleu_24)))⟩ ⟨rfl, rfl, rfl, trivial⟩ rfl rfl
          · replace hx := cond_f c_26 hx
            refine JL.gNo rfl rfl rfl rfl rfl ?_
            refine JL.gNo rfl rfl rfl rfl rfl ?_
            refine JL.gNo rfl rfl rfl rfl rfl ?_
            refine JL.gNo rfl rfl rfl rfl rfl ?_
            refine JL.gNo rfl rfl rfl rfl rfl ?_
            refine JL.val rfl rfl (R.pickF rfl rfl) ?_
            refine JL.nil ?_
            refine JN.next ?_
            refine JC.condF rfl ?_
            refine JC.skip ?_
            refine JN.blkN ?_
            refine JN.next ?_
            refine JC.region ?_
            refine JL.val rfl rfl (R.inc rfl rfl (of_decide_eq_true c_17) (by decide)) ?_
            refine JL.val rfl rfl (R.move rfl) ?_
            refine JL.nil ?_
            replace hx := run_next hd_17 hx
            refine JN.forget 0 ?_
            refine JN.front 1 rfl ?_
            refine JN.front 1 rfl ?_
            exact JN.cut ⟨(s_12.1, s_12.2 + 1), Hu_24, aor_16, nr_16, capr_16, Kr_16, rfl, rfl, rfl, hx, ((hleH_15.trans (hleu_20.trans hleu_24))), (hr_16.mono R_Label.mono (New.mono (hleu_20.trans hleu_24)))⟩ ⟨rfl, rfl, rfl, trivial⟩ rfl rfl
        · replace hx := cond_f c_17 hx
          refine JC.exit ?_
          refine JN.passX ?_
          obtain rfl := run_done hd_17 hx
          refine JN.passX ?_
          refine JN.exitSame ?_
          refine JN.forget 0 ?_
          exact JN.cut ⟨H_15, aor_16, nr_16, capr_16, Kr_16, rfl, rfl, rfl, (hleH_15), hr_16⟩ ⟨rfl, trivial⟩ rfl rfl

set_option maxHeartbeats 1000000 in
theorem law11_alive_ok (H : Heaplet) (r : Bool) (hx : law11_alive = some r) :
    Does Try.prog 17 #[] [] H (fun u K' H' => u = .bool r ∧ K' = [] ∧ True) := by
  refine Does.enterL (vs := []) (l := []) Try.func17 rfl rfl trivial (fun w hlt => ?_)
  rw [law11_alive.eq_1] at hx
  refine JC.seq ?_
  refine JC.region ?_
  refine JL.val rfl rfl (R.assign rfl) ?_
  refine JL.nil ?_
  refine JN.next ?_
  refine JC.seq ?_
  refine JC.region ?_
  obtain ⟨x_1, hr_2, hx⟩ := bnd_some hx
  refine JL.callC (vs := []) (args := []) (K := []) (rst := []) E18 rfl rfl rfl picks0 (dev_New_ok _ _ hr_2) rfl (fun u_3 Ku_3 Hu_3 hRu_3 hleu_3 hfu_3 => ?_)
  obtain ⟨aor_4, nr_4, capr_4, Kr_4, aoz_5, nz_5, rfl, rfl, hr_4, hnewr_4, hz_5, -⟩ := hRu_3
  replace hr_4 := (Pcs.base hr_4 (fun p hp => (hfu_3 p (mem_seg 0 rfl hp)).resolve_left (hnewr_4 p hp)))
  replace hz_5 := IsSlice.mono R_Write.mono (New.call (Hle.refl _)) hz_5
  obtain ⟨x_6, hr_7, hx⟩ := bnd_some hx
  refine JL.callC (vs := [_]) (args := [_]) (K := []) (rst := [_]) E19 rfl rfl rfl picks0 (law11_one_ok (5 : UInt32) _ _ hr_7) rfl (fun u_8 Ku_8 Hu_8 hRu_8 hleu_8 hfu_8 => ?_)
  obtain ⟨rfl, rfl, rfl, -⟩ := hRu_8
  refine JL.pubPcs 0  rfl hr_4 (Nat.le_refl _) (fun H_9 hleH_9 hsH_9 => ?_)
  refine JL.forget 0 ?_
  obtain ⟨x_10, hr_11, hx⟩ := bnd_some hx
  refine JL.callC (vs := [_, _]) (args := [_, _]) (K := []) (rst := []) E10 rfl rfl rfl picks0 (label_Put_ok x_1 x_6 _ (hsH_9.old (RSl.mono RU8.mono)) ((hz_5.mono R_Write.mono (New.mono hleH_9)).old R_Write.mono) _ hr_11) rfl (fun u_12 Ku_12 Hu_12 hRu_12 hleu_12 hfu_12 => ?_)
  obtain ⟨aoz_13, nz_13, capz_13, aor_14, nr_14, capr_14, Kr_14, rfl, rfl, hz_13, hr_14, hnewr_14, -⟩ := hRu_12
  replace hr_14 := (RowOf.base (RowOf.mono R_Write.mono (New.call (hleu_3.trans hleH_9)) hr_14) (fun p hp => (hfu_12 p (mem_seg 0 rfl hp)).resolve_left (hnewr_14 p hp)))
  replace hz_13 := IsSlice.mono (RSl.mono RU8.mono) (New.call (hleu_3.trans hleH_9)) hz_13
  refine JL.val rfl rfl (R.move rfl) ?_
  refine JL.val rfl rfl (R.extract rfl rfl) ?_
  refine JL.val rfl rfl (R.extract rfl rfl) ?_
  refine JL.alloc Z25 rfl (fun b_15 hb_15 => ?_)
  refine JL.store 0 S25 rfl rfl rfl rfl rfl (Nat.le_of_ble_eq_true rfl) ?_
  refine JL.val rfl rfl (R.assign rfl) ?_
  refine JL.nil ?_
  refine JN.next ?_
  refine JC.seq ?_
  refine JC.region ?_
  refine JL.val rfl rfl (R.ldoN 0 (vs := [.slice aoz_13 nz_13 capz_13, .slice aor_14 nr_14 capr_14]) S25 rfl rfl rfl rfl) ?_
  obtain ⟨x_19, hr_20, hx⟩ := bnd_some hx
  refine JL.callL3 (vs := [_]) E12 rfl rfl (fun H_18 hle_17 hl_16 => label_Find_ok x_10.1 _ (IsSlice.mono (RSl.mono RU8.mono) hle_17 (hz_13.old (RSl.mono RU8.mono))) (Lent.row' 1 hl_16 R_Write.mono hle_17 rfl (hr_14.old R_Write.mono)) _ hr_20) rfl (fun _ _ _ _ hR_22 hf_23 => ?_)
  obtain ⟨aor_21, nr_21, capr_21, Kr_21, rfl, rfl, hr_21, -, -⟩ := hR_22
  replace hr_21 := RowOf.base (RowOf.const (H2 := New H Hu_12) R_Label.const hr_21) (fun p hp => hf_23 p (mem_seg 0 rfl hp))
  refine JL.val rfl rfl (R.move rfl) ?_
  refine JL.val rfl rfl (R.extract rfl rfl) ?_
  refine JL.val rfl rfl (R.extract rfl rfl) ?_
  refine JL.val rfl rfl (R.assign rfl) ?_
  refine JL.val rfl rfl (R.assign rfl) ?_
  refine JL.nil ?_
  refine JN.next ?_
  refine JC.seq ?_
  obtain ⟨t_24, ht_26, hx⟩ := bnd_some hx
  refine JC.cut (fun l o g => l = [(0, .bool t_24)] ∧ o = [] ∧ Hu_12 = g) ?_ ?_
  · rintro _ _ _ ⟨rfl, rfl, rfl⟩
    refine JN.next ?_
    refine JC.ret ?_
    refine JN.outP (vs := [.bool t_24]) (K := []) (rst := []) (.inl rfl) rfl rfl (Res.tmp rfl rfl) picks0 ?_
    obtain rfl := Option.some.inj hx
    exact ⟨rfl, rfl, trivial⟩
  · have hxo_25 := hx; clear hx; have hx := ht_26; clear ht_26
    refine JC.draw (so := [_, _, _]) 19 rfl Mixed ⟨⟨0, rfl⟩, ⟨1, rfl⟩, ⟨2, rfl⟩, trivial⟩ ?_
    refine JA.val ⟨by kernel_rfl, by kernel_rfl⟩ (calm_only _) (i := 0) rfl ⟨by kernel_rfl, by kernel_rfl, rfl⟩ trivial (stab_of (Hle.refl _) ⟨⟨0, rfl⟩, ⟨1, rfl⟩, ⟨2, rfl⟩, trivial⟩) (R.move rfl) rfl ?_
    refine JA.val ⟨by kernel_rfl, by kernel_rfl⟩ (calm_only _) (i := 1) rfl ⟨by kernel_rfl, by kernel_rfl, rfl⟩ trivial (stab_of (Hle.refl _) ⟨⟨0, rfl⟩, ⟨1, rfl⟩, ⟨2, rfl⟩, trivial⟩) (R.eql_i rfl rfl) rfl ?_
    refine JA.val ⟨by kernel_rfl, by kernel_rfl⟩ (calm_only _) (i := 2) rfl ⟨by kernel_rfl, by kernel_rfl, rfl⟩ trivial (stab_of (Hle.refl _) ⟨⟨0, rfl⟩, ⟨1, rfl⟩, ⟨2, rfl⟩, trivial⟩) (R.move rfl) rfl ?_
    refine JA.gSplit (t := 18) rfl (fun c_27 => ?_) (fun c_27 => ?_)
    · replace hx := cond_t c_27 hx
      refine JA.val ⟨by kernel_rfl, by kernel_rfl⟩ (calm_only _) (i := 3) rfl ⟨by kernel_rfl, by kernel_rfl, rfl⟩ ⟨_, _, rfl, rfl, rfl⟩ (stab_of (Hle.refl _) ⟨⟨0, rfl⟩, ⟨1, rfl⟩, ⟨2, rfl⟩, trivial⟩) (R.move rfl) rfl ?_
      refine JA.val ⟨by kernel_rfl, by kernel_rfl⟩ (calm_only _) (i := 4) rfl ⟨by kernel_rfl, by kernel_rfl, rfl⟩ ⟨_, _, rfl, rfl, rfl⟩ (stab_of (Hle.refl _) ⟨⟨0, rfl⟩, ⟨1, rfl⟩, ⟨2, rfl⟩, trivial⟩) (R.eql_i rfl rfl) rfl ?_
      refine JA.val ⟨by kernel_rfl, by kernel_rfl⟩ (calm_only _) (i := 5) rfl ⟨by kernel_rfl, by kernel_rfl, rfl⟩ trivial (stab_of (Hle.refl _) ⟨⟨0, rfl⟩, ⟨1, rfl⟩, ⟨2, rfl⟩, trivial⟩) (R.pickT rfl rfl) rfl ?_
      refine JA.val ⟨by kernel_rfl, by kernel_rfl⟩ (calm_only _) (i := 6) rfl ⟨by kernel_rfl, by kernel_rfl, rfl⟩ trivial (stab_of (Hle.refl _) ⟨⟨0, rfl⟩, ⟨1, rfl⟩, ⟨2, rfl⟩, trivial⟩) (R.move rfl) rfl ?_
      refine JA.gSplit (t := 22) rfl (fun c_28 => ?_) (fun c_28 => ?_)
      · replace hx := cond_t c_28 hx
        refine JA.val ⟨by kernel_rfl, by kernel_rfl⟩ (calm_only _) (i := 7) rfl ⟨by kernel_rfl, by kernel_rfl, rfl⟩ ⟨_, _, rfl, rfl, rfl⟩ (stab_of (Hle.refl _) ⟨⟨0, rfl⟩, ⟨1, rfl⟩, ⟨2, rfl⟩, trivial⟩) (R.move rfl) rfl ?_
        refine JA.val ⟨by kernel_rfl, by kernel_rfl⟩ (calm_only _) (i := 8) rfl ⟨by kernel_rfl, by kernel_rfl, rfl⟩ ⟨_, _, rfl, rfl, rfl⟩ (stab_of (Hle.refl _) ⟨⟨0, rfl⟩, ⟨1, rfl⟩, ⟨2, rfl⟩, trivial⟩) (R.lenL U38 rfl (RowOf.long hr_21)) rfl ?_
        refine JA.val ⟨by kernel_rfl, by kernel_rfl⟩ (calm_only _) (i := 9) rfl ⟨by kernel_rfl, by kernel_rfl, rfl⟩ ⟨_, _, rfl, rfl, rfl⟩ (stab_of (Hle.refl _) ⟨⟨0, rfl⟩, ⟨1, rfl⟩, ⟨2, rfl⟩, trivial⟩) (R.eql_i rfl rfl) rfl ?_
        refine JA.val ⟨by kernel_rfl, by kernel_rfl⟩ (calm_only _) (i := 10) rfl ⟨by kernel_rfl, by kernel_rfl, rfl⟩ trivial (stab_of (Hle.refl _) ⟨⟨0, rfl⟩, ⟨1, rfl⟩, ⟨2, rfl⟩, trivial⟩) (R.pickT rfl rfl) rfl ?_
        refine JA.val ⟨by kernel_rfl, by kernel_rfl⟩ (calm_only _) (i := 11) rfl ⟨by kernel_rfl, by kernel_rfl, rfl⟩ trivial (stab_of (Hle.refl _) ⟨⟨0, rfl⟩, ⟨1, rfl⟩, ⟨2, rfl⟩, trivial⟩) (R.move rfl) rfl ?_
        refine JA.gSplit (t := 27) rfl (fun c_29 => ?_) (fun c_29 => ?_)
        · replace hx := cond_t c_29 hx
          refine JA.val ⟨by kernel_rfl, by kernel_rfl⟩ (calm_only _) (i := 12) rfl ⟨by kernel_rfl, by kernel_rfl, rfl⟩ ⟨_, _, rfl, rfl, rfl⟩ (stab_of (Hle.refl _) ⟨⟨0, rfl⟩, ⟨1, rfl⟩, ⟨2, rfl⟩, trivial⟩) (R.move rfl) rfl ?_
          obtain ⟨y_30, hN_31, hx⟩ := idx_some hx
          obtain ⟨b_32, o_33, cs_34, cur_39, hK_40, hE_35, hR_36, hl_37, hc_38⟩ := RowOf.elem hr_21 hN_31
          subst hK_40
          obtain rfl := hR_36
          refine JA.val ⟨by kernel_rfl, by kernel_rfl⟩ (calm_only _) (i := 13) rfl ⟨by kernel_rfl, by kernel_rfl, rfl⟩ ⟨_, _, rfl, rfl, rfl⟩ (stab_of (Hle.refl _) ⟨⟨0, rfl⟩, ⟨1, rfl⟩, ⟨2, rfl⟩, trivial⟩) (R.ix U38 S30 rfl rfl hE_35) rfl ?_
          refine JA.val ⟨by kernel_rfl, by kernel_rfl⟩ (calm_only _) (i := 14) rfl ⟨by kernel_rfl, by kernel_rfl, rfl⟩ ⟨_, _, rfl, rfl, rfl⟩ (stab_of (Hle.refl _) ⟨⟨0, rfl⟩, ⟨1, rfl⟩, ⟨2, rfl⟩, trivial⟩) (R.ldoE 0 (cs := [.int .u32 (y_30.Gen.toNat : Int), .int .u32 (y_30.Epoch.toNat : Int), .int .i64 y_30.Root.At, .int .u32 (y_30.Root.Birth.toNat : Int), .int .u32 (y_30.Root.Iv.toNat : Int), .int .u32 (y_30.Root.Tag.toNat : Int), .int .u32 (y_30.Root.Sum.toNat : Int)]) (k := 0) (vs := [.int .u32 (y_30.Gen.toNat : Int), .int .u32 (y_30.Epoch.toNat : Int), .int .i64 y_30.Root.At, .int .u32 (y_30.Root.Birth.toNat : Int), .int .u32 (y_30.Root.Iv.toNat : Int), .int .u32 (y_30.Root.Tag.toNat : Int), .int .u32 (y_30.Root.Sum.toNat : Int)]) S30 rfl rfl hc_38 rfl rfl) rfl ?_
          refine JA.one (i := 15) (by kernel_rfl) ?_
          refine JO.step rfl ⟨_, _, rfl, rfl, rfl⟩ rfl (fun K hK => ?_)
          obtain ⟨x_41, hr_42, hx⟩ := bnd_some hx
          refine JL.callC (vs := [_]) (args := [_]) (K := []) (rst := [_, _, _]) E19 rfl rfl rfl picks0 (law11_one_ok (5 : UInt32) _ _ hr_42) rfl (fun u_43 Ku_43 Hu_43 hRu_43 hleu_43 hfu_43 => ?_)
          obtain ⟨rfl, rfl, rfl, -⟩ := hRu_43
          refine JL.nil ?_
          refine hK _ _ _ (stab_of (Hle.refl _) ⟨⟨0, rfl⟩, ⟨1, rfl⟩, ⟨2, rfl⟩, trivial⟩) ?_
          refine JA.val ⟨by kernel_rfl, by kernel_rfl⟩ (calm_only _) (i := 16) rfl ⟨by kernel_rfl, by kernel_rfl, rfl⟩ ⟨_, _, rfl, rfl, rfl⟩ (stab_of (Hle.refl _) ⟨⟨0, rfl⟩, ⟨1, rfl⟩, ⟨2, rfl⟩, trivial⟩) (R.eqlAgg QU30 QP30 QG30 QF30 rfl rfl (EqF.u32 (a := y_30.Gen) (b := x_41.Gen) (by decide) S26 U26 rfl rfl (EqF.u32 (a := y_30.Epoch) (b := x_41.Epoch) (by decide) S26 U26 rfl rfl (EqF.s (by decide) S28 QU28 QP28 QF28 rfl rfl (EqF.i (by decide) S3 U3 rfl rfl (EqF.u32 (a := y_30.Root.Birth) (b := x_41.Root.Birth) (by decide) S26 U26 rfl rfl (EqF.u32 (a := y_30.Root.Iv) (b := x_41.Root.Iv) (by decide) S26 U26 rfl rfl (EqF.u32 (a := y_30.Root.Tag) (b := x_41.Root.Tag) (by decide) S26 U26 rfl rfl (EqF.u32 (a := y_30.Root.Sum) (b := x_41.Root.Sum) (by decide) S26 U26 rfl rfl EqF.nil))))) EqF.nil)))) rfl ?_
          refine JA.val ⟨by kernel_rfl, by kernel_rfl⟩ (calm_only _) (i := 17) rfl ⟨by kernel_rfl, by kernel_rfl, rfl⟩ trivial (stab_of (Hle.refl _) ⟨⟨0, rfl⟩, ⟨1, rfl⟩, ⟨2, rfl⟩, trivial⟩) (R.pickT rfl rfl) rfl ?_
          refine JA.val ⟨by kernel_rfl, by kernel_rfl⟩ (calm_only _) (i := 18) rfl ⟨by kernel_rfl, by kernel_rfl, rfl⟩ trivial (stab_of (Hle.refl _) ⟨⟨0, rfl⟩, ⟨1, rfl⟩, ⟨2, rfl⟩, trivial⟩) (R.assign rfl) rfl ?_
          refine JA.doneN (by kernel_rfl) ?_
          obtain rfl := Option.some.inj hx
          refine JN.forget 2 ?_
          refine JN.forget 1 ?_
          refine JN.forget 0 ?_
          exact JN.cut ⟨rfl, rfl, rfl⟩ ⟨rfl, trivial⟩ rfl rfl
        · replace hx := cond_f c_29 hx
          refine JA.no ⟨by kernel_rfl, by kernel_rfl⟩ (calm_only _) (i := 12) rfl ⟨by kernel_rfl, by kernel_rfl, rfl⟩ rfl rfl rfl rfl (stab_of (Hle.refl _) ⟨⟨0, rfl⟩, ⟨1, rfl⟩, ⟨2, rfl⟩, trivial⟩) rfl ?_
          refine JA.no ⟨by kernel_rfl, by kernel_rfl⟩ (calm_only _) (i := 13) rfl ⟨by kernel_rfl, by kernel_rfl, rfl⟩ rfl rfl rfl rfl (stab_of (Hle.refl _) ⟨⟨0, rfl⟩, ⟨1, rfl⟩, ⟨2, rfl⟩, trivial⟩) rfl ?_
          refine JA.no ⟨by kernel_rfl, by kernel_rfl⟩ (calm_only _) (i := 14) rfl ⟨by kernel_rfl, by kernel_rfl, rfl⟩ rfl rfl rfl rfl (stab_of (Hle.refl _) ⟨⟨0, rfl⟩, ⟨1, rfl⟩, ⟨2, rfl⟩, trivial⟩) rfl ?_
          refine JA.no ⟨by kernel_rfl, by kernel_rfl⟩ (calm_only _) (i := 15) rfl ⟨by kernel_rfl, by kernel_rfl, rfl⟩ rfl rfl rfl rfl (stab_of (Hle.refl _) ⟨⟨0, rfl⟩, ⟨1, rfl⟩, ⟨2, rfl⟩, trivial⟩) rfl ?_
          refine JA.no ⟨by kernel_rfl, by kernel_rfl⟩ (calm_only _) (i := 16) rfl ⟨by kernel_rfl, by kernel_rfl, rfl⟩ rfl rfl rfl rfl (stab_of (Hle.refl _) ⟨⟨0, rfl⟩, ⟨1, rfl⟩, ⟨2, rfl⟩, trivial⟩) rfl ?_
          refine JA.val ⟨by kernel_rfl, by kernel_rfl⟩ (calm_only _) (i := 17) rfl ⟨by kernel_rfl, by kernel_rfl, rfl⟩ trivial (stab_of (Hle.refl _) ⟨⟨0, rfl⟩, ⟨1, rfl⟩, ⟨2, rfl⟩, trivial⟩) (R.pickF rfl rfl) rfl ?_
          refine JA.val ⟨by kernel_rfl, by kernel_rfl⟩ (calm_only _) (i := 18) rfl ⟨by kernel_rfl, by kernel_rfl, rfl⟩ trivial (stab_of (Hle.refl _) ⟨⟨0, rfl⟩, ⟨1, rfl⟩, ⟨2, rfl⟩, trivial⟩) (R.assign rfl) rfl ?_
          refine JA.doneN (by kernel_rfl) ?_
          obtain rfl := Option.some.inj hx
          refine JN.forget 2 ?_
          refine JN.forget 1 ?_
          refine JN.forget 0 ?_
          exact JN.cut ⟨rfl, rfl, rfl⟩ ⟨rfl, trivial⟩ rfl rfl
      · replace hx := cond_f c_28 hx
        refine JA.no ⟨by kernel_rfl, by kernel_rfl⟩ (calm_only _) (i := 7) rfl ⟨by kernel_rfl, by kernel_rfl, rfl⟩ rfl rfl rfl rfl (stab_of (Hle.refl _) ⟨⟨0, rfl⟩, ⟨1, rfl⟩, ⟨2, rfl⟩, trivial⟩) rfl ?_
        refine JA.no ⟨by kernel_rfl, by kernel_rfl⟩ (calm_only _) (i := 8) rfl ⟨by kernel_rfl, by kernel_rfl, rfl⟩ rfl rfl rfl rfl (stab_of (Hle.refl _) ⟨⟨0, rfl⟩, ⟨1, rfl⟩, ⟨2, rfl⟩, trivial⟩) rfl ?_
        refine JA.no ⟨by kernel_rfl, by kernel_rfl⟩ (calm_only _) (i := 9) rfl ⟨by kernel_rfl, by kernel_rfl, rfl⟩ rfl rfl rfl rfl (stab_of (Hle.refl _) ⟨⟨0, rfl⟩, ⟨1, rfl⟩, ⟨2, rfl⟩, trivial⟩) rfl ?_
        refine JA.val ⟨by kernel_rfl, by kernel_rfl⟩ (calm_only _) (i := 10) rfl ⟨by kernel_rfl, by kernel_rfl, rfl⟩ trivial (stab_of (Hle.refl _) ⟨⟨0, rfl⟩, ⟨1, rfl⟩, ⟨2, rfl⟩, trivial⟩) (R.pickF rfl rfl) rfl ?_
        refine JA.val ⟨by kernel_rfl, by kernel_rfl⟩ (calm_only _) (i := 11) rfl ⟨by kernel_rfl, by kernel_rfl, rfl⟩ trivial (stab_of (Hle.refl _) ⟨⟨0, rfl⟩, ⟨1, rfl⟩, ⟨2, rfl⟩, trivial⟩) (R.move rfl) rfl ?_
        refine JA.no ⟨by kernel_rfl, by kernel_rfl⟩ (calm_only _) (i := 12) rfl ⟨by kernel_rfl, by kernel_rfl, rfl⟩ rfl rfl rfl rfl (stab_of (Hle.refl _) ⟨⟨0, rfl⟩, ⟨1, rfl⟩, ⟨2, rfl⟩, trivial⟩) rfl ?_
        refine JA.no ⟨by kernel_rfl, by kernel_rfl⟩ (calm_only _) (i := 13) rfl ⟨by kernel_rfl, by kernel_rfl, rfl⟩ rfl rfl rfl rfl (stab_of (Hle.refl _) ⟨⟨0, rfl⟩, ⟨1, rfl⟩, ⟨2, rfl⟩, trivial⟩) rfl ?_
        refine JA.no ⟨by kernel_rfl, by kernel_rfl⟩ (calm_only _) (i := 14) rfl ⟨by kernel_rfl, by kernel_rfl, rfl⟩ rfl rfl rfl rfl (stab_of (Hle.refl _) ⟨⟨0, rfl⟩, ⟨1, rfl⟩, ⟨2, rfl⟩, trivial⟩) rfl ?_
        refine JA.no ⟨by kernel_rfl, by kernel_rfl⟩ (calm_only _) (i := 15) rfl ⟨by kernel_rfl, by kernel_rfl, rfl⟩ rfl rfl rfl rfl (stab_of (Hle.refl _) ⟨⟨0, rfl⟩, ⟨1, rfl⟩, ⟨2, rfl⟩, trivial⟩) rfl ?_
        refine JA.no ⟨by kernel_rfl, by kernel_rfl⟩ (calm_only _) (i := 16) rfl ⟨by kernel_rfl, by kernel_rfl, rfl⟩ rfl rfl rfl rfl (stab_of (Hle.refl _) ⟨⟨0, rfl⟩, ⟨1, rfl⟩, ⟨2, rfl⟩, trivial⟩) rfl ?_
        refine JA.val ⟨by kernel_rfl, by kernel_rfl⟩ (calm_only _) (i := 17) rfl ⟨by kernel_rfl, by kernel_rfl, rfl⟩ trivial (stab_of (Hle.refl _) ⟨⟨0, rfl⟩, ⟨1, rfl⟩, ⟨2, rfl⟩, trivial⟩) (R.pickF rfl rfl) rfl ?_
        refine JA.val ⟨by kernel_rfl, by kernel_rfl⟩ (calm_only _) (i := 18) rfl ⟨by kernel_rfl, by kernel_rfl, rfl⟩ trivial (stab_of (Hle.refl _) ⟨⟨0, rfl⟩, ⟨1, rfl⟩, ⟨2, rfl⟩, trivial⟩) (R.assign rfl) rfl ?_
        refine JA.doneN (by kernel_rfl) ?_
        obtain rfl := Option.some.inj hx
        refine JN.forget 2 ?_
        refine JN.forget 1 ?_
        refine JN.forget 0 ?_
        exact JN.cut ⟨rfl, rfl, rfl⟩ ⟨rfl, trivial⟩ rfl rfl
    · replace hx := cond_f c_27 hx
      refine JA.no ⟨by kernel_rfl, by kernel_rfl⟩ (calm_only _) (i := 3) rfl ⟨by kernel_rfl, by kernel_rfl, rfl⟩ rfl rfl rfl rfl (stab_of (Hle.refl _) ⟨⟨0, rfl⟩, ⟨1, rfl⟩, ⟨2, rfl⟩, trivial⟩) rfl ?_
      refine JA.no ⟨by kernel_rfl, by kernel_rfl⟩ (calm_only _) (i := 4) rfl ⟨by kernel_rfl, by kernel_rfl, rfl⟩ rfl rfl rfl rfl (stab_of (Hle.refl _) ⟨⟨0, rfl⟩, ⟨1, rfl⟩, ⟨2, rfl⟩, trivial⟩) rfl ?_
      refine JA.val ⟨by kernel_rfl, by kernel_rfl⟩ (calm_only _) (i := 5) rfl ⟨by kernel_rfl, by kernel_rfl, rfl⟩ trivial (stab_of (Hle.refl _) ⟨⟨0, rfl⟩, ⟨1, rfl⟩, ⟨2, rfl⟩, trivial⟩) (R.pickF rfl rfl) rfl ?_
      refine JA.val ⟨by kernel_rfl, by kernel_rfl⟩ (calm_only _) (i := 6) rfl ⟨by kernel_rfl, by kernel_rfl, rfl⟩ trivial (stab_of (Hle.refl _) ⟨⟨0, rfl⟩, ⟨1, rfl⟩, ⟨2, rfl⟩, trivial⟩) (R.move rfl) rfl ?_
      refine JA.no ⟨by kernel_rfl, by kernel_rfl⟩ (calm_only _) (i := 7) rfl ⟨by kernel_rfl, by kernel_rfl, rfl⟩ rfl rfl rfl rfl (stab_of (Hle.refl _) ⟨⟨0, rfl⟩, ⟨1, rfl⟩, ⟨2, rfl⟩, trivial⟩) rfl ?_
      refine JA.no ⟨by kernel_rfl, by kernel_rfl⟩ (calm_only _) (i := 8) rfl ⟨by kernel_rfl, by kernel_rfl, rfl⟩ rfl rfl rfl rfl (stab_of (Hle.refl _) ⟨⟨0, rfl⟩, ⟨1, rfl⟩, ⟨2, rfl⟩, trivial⟩) rfl ?_
      refine JA.no ⟨by kernel_rfl, by kernel_rfl⟩ (calm_only _) (i := 9) rfl ⟨by kernel_rfl, by kernel_rfl, rfl⟩ rfl rfl rfl rfl (stab_of (Hle.refl _) ⟨⟨0, rfl⟩, ⟨1, rfl⟩, ⟨2, rfl⟩, trivial⟩) rfl ?_
      refine JA.val ⟨by kernel_rfl, by kernel_rfl⟩ (calm_only _) (i := 10) rfl ⟨by kernel_rfl, by kernel_rfl, rfl⟩ trivial (stab_of (Hle.refl _) ⟨⟨0, rfl⟩, ⟨1, rfl⟩, ⟨2, rfl⟩, trivial⟩) (R.pickF rfl rfl) rfl ?_
      refine JA.val ⟨by kernel_rfl, by kernel_rfl⟩ (calm_only _) (i := 11) rfl ⟨by kernel_rfl, by kernel_rfl, rfl⟩ trivial (stab_of (Hle.refl _) ⟨⟨0, rfl⟩, ⟨1, rfl⟩, ⟨2, rfl⟩, trivial⟩) (R.move rfl) rfl ?_
      refine JA.no ⟨by kernel_rfl, by kernel_rfl⟩ (calm_only _) (i := 12) rfl ⟨by kernel_rfl, by kernel_rfl, rfl⟩ rfl rfl rfl rfl (stab_of (Hle.refl _) ⟨⟨0, rfl⟩, ⟨1, rfl⟩, ⟨2, rfl⟩, trivial⟩) rfl ?_
      refine JA.no ⟨by kernel_rfl, by kernel_rfl⟩ (calm_only _) (i := 13) rfl ⟨by kernel_rfl, by kernel_rfl, rfl⟩ rfl rfl rfl rfl (stab_of (Hle.refl _) ⟨⟨0, rfl⟩, ⟨1, rfl⟩, ⟨2, rfl⟩, trivial⟩) rfl ?_
      refine JA.no ⟨by kernel_rfl, by kernel_rfl⟩ (calm_only _) (i := 14) rfl ⟨by kernel_rfl, by kernel_rfl, rfl⟩ rfl rfl rfl rfl (stab_of (Hle.refl _) ⟨⟨0, rfl⟩, ⟨1, rfl⟩, ⟨2, rfl⟩, trivial⟩) rfl ?_
      refine JA.no ⟨by kernel_rfl, by kernel_rfl⟩ (calm_only _) (i := 15) rfl ⟨by kernel_rfl, by kernel_rfl, rfl⟩ rfl rfl rfl rfl (stab_of (Hle.refl _) ⟨⟨0, rfl⟩, ⟨1, rfl⟩, ⟨2, rfl⟩, trivial⟩) rfl ?_
      refine JA.no ⟨by kernel_rfl, by kernel_rfl⟩ (calm_only _) (i := 16) rfl ⟨by kernel_rfl, by kernel_rfl, rfl⟩ rfl rfl rfl rfl (stab_of (Hle.refl _) ⟨⟨0, rfl⟩, ⟨1, rfl⟩, ⟨2, rfl⟩, trivial⟩) rfl ?_
      refine JA.val ⟨by kernel_rfl, by kernel_rfl⟩ (calm_only _) (i := 17) rfl ⟨by kernel_rfl, by kernel_rfl, rfl⟩ trivial (stab_of (Hle.refl _) ⟨⟨0, rfl⟩, ⟨1, rfl⟩, ⟨2, rfl⟩, trivial⟩) (R.pickF rfl rfl) rfl ?_
      refine JA.val ⟨by kernel_rfl, by kernel_rfl⟩ (calm_only _) (i := 18) rfl ⟨by kernel_rfl, by kernel_rfl, rfl⟩ trivial (stab_of (Hle.refl _) ⟨⟨0, rfl⟩, ⟨1, rfl⟩, ⟨2, rfl⟩, trivial⟩) (R.assign rfl) rfl ?_
      refine JA.doneN (by kernel_rfl) ?_
      obtain rfl := Option.some.inj hx
      refine JN.forget 2 ?_
      refine JN.forget 1 ?_
      refine JN.forget 0 ?_
      exact JN.cut ⟨rfl, rfl, rfl⟩ ⟨rfl, trivial⟩ rfl rfl

set_option maxHeartbeats 1000000 in
theorem ref09_Great_ok (p_1 : Disk) (H : Heaplet) {aoa_2 : Option Addr} {na_2 : Nat} {capa_2 : Nat} {aoa_3 : Option Addr} {na_3 : Nat} {capa_3 : Nat} (ha_2 : IsSlice H (RSl RU8 1) 1 (.slice aoa_2 na_2 capa_2) p_1.Blocks) (ha_3 : IsSlice H R_Write 2 (.slice aoa_3 na_3 capa_3) p_1.Waits) (r : Bool) (hx : ref09_Great p_1 = some r) :
    Does Try.prog 8 #[.agg #[.slice aoa_2 na_2 capa_2, .slice aoa_3 na_3 capa_3]] [] H (fun u K' H' => u = .bool r ∧ K' = [] ∧ H = H' ∧ True) := by
  refine Does.enterL (vs := [.agg #[.slice aoa_2 na_2 capa_2, .slice aoa_3 na_3 capa_3]]) (l := [(0, .agg #[.slice aoa_2 na_2 capa_2, .slice aoa_3 na_3 capa_3])]) Try.func8 rfl rfl ⟨rfl, trivial⟩ (fun w hlt => ?_)
  rw [ref09_Great.eq_1] at hx
  refine JC.seq ?_
  refine JC.region ?_
  refine JL.box rfl rfl (fun b_4 hb_4 => ?_)
  refine JL.val rfl rfl (R.assign rfl) ?_
  refine JL.nil ?_
  refine JN.next ?_
  refine JC.seq ?_
  obtain ⟨t_5, ht_7, hx⟩ := bnd_some hx
  refine JC.cut (fun l o g => ∃ t_5a : Unit, l = [(1, .pointer (some ⟨b_4, 0, none⟩))] ∧ o = [[(b_4, .cells #[.slice aoa_2 na_2 capa_2, .slice aoa_3 na_3 capa_3] 25 (0, 0))]] ∧ H = g ∧ t_5 = .inl t_5a) ?_ ?_
  · rintro _ _ _ ⟨t_5a, rfl, rfl, rfl, rfl⟩
    simp only [Sum.elim_inl] at hx
    refine JN.next ?_
    refine JC.seq ?_
    refine JC.region ?_
    refine JL.val rfl rfl (R.assign rfl) ?_
    refine JL.nil ?_
    refine JN.next ?_
    refine JC.seq ?_
    refine JC.seq ?_
    refine JC.region ?_
    refine JL.val rfl rfl (R.assign rfl) ?_
    refine JL.nil ?_
    refine JN.next ?_
    obtain ⟨t_13, ht_15, hx⟩ := bnd_some hx
    refine JC.cut (fun l o g => l = [(1, .pointer (some ⟨b_4, 0, none⟩)), (3, .int .i64 t_13)] ∧ o = [[(b_4, .cells #[.slice aoa_2 na_2 capa_2, .slice aoa_3 na_3 capa_3] 25 (0, 0))]] ∧ H = g) ?_ ?_
    · rintro _ _ _ ⟨rfl, rfl, rfl⟩
      refine JN.next ?_
      refine JC.seq ?_
      refine JC.seq ?_
      refine JC.region ?_
      refine JL.val rfl rfl (R.assign rfl) ?_
      refine JL.nil ?_
      refine JN.next ?_
      obtain ⟨t_19, ht_21, hx⟩ := bnd_some hx
      refine JC.cut (fun l o g => l = [(3, .int .i64 t_19)] ∧ o = [] ∧ H = g) ?_ ?_
      · rintro _ _ _ ⟨rfl, rfl, rfl⟩
        refine JN.next ?_
        refine JC.seq ?_
        refine JC.region ?_
        refine JL.val rfl rfl (R.move rfl) ?_
        refine JL.val rfl rfl (R.geq_i rfl rfl) ?_
        refine JL.val rfl rfl (R.assign rfl) ?_
        refine JL.nil ?_
        refine JN.next ?_
        refine JC.ret ?_
        refine JN.outP (vs := [.bool (decide (2000000 ≤ t_19))]) (K := []) (rst := []) (.inl rfl) rfl rfl (Res.tmp rfl rfl) picks0 ?_
        obtain rfl := Option.some.inj hx
        exact ⟨rfl, rfl, rfl, trivial⟩
      · have hxo_20 := hx; clear hx; have hx := ht_21; clear ht_21
        refine JC.block ?_
        refine JC.loopI (fun n l o g => ∃ s_22 : Int × Nat, l = [(1, .pointer (some ⟨b_4, 0, none⟩)), (3, .int .i64 s_22.1), (5, .int .i64 ((s_22.2 : Nat) : Int))] ∧ o = [[(b_4, .cells #[.slice aoa_2 na_2 capa_2, .slice aoa_3 na_3 capa_3] 25 (0, 0))]] ∧ H = g ∧ run (ref09_Great_l2 p_1) n s_22 = some t_19) FUEL ?_ ⟨(t_13, 0), rfl, rfl, rfl, hx⟩ ⟨rfl, rfl, rfl, trivial⟩ ?_
        · rintro _ _ _ ⟨s_22, rfl, rfl, rfl, hn_23⟩
          exact run_zero hn_23
        · rintro n_24 _ _ _ ⟨s_22, rfl, rfl, rfl, hn_23⟩
          clear hx; obtain ⟨oo_26, hx, hd_25⟩ := run_some hn_23
          rw [ref09_Great_l2.eq_1] at hx
          refine JC.seq ?_
          refine JC.seq ?_
          refine JC.region ?_
          refine JL.val rfl rfl (R.move rfl) ?_
          refine JL.val rfl rfl (R.fa F25_1 rfl) ?_
          refine JL.val rfl rfl (R.ldo 0 S23 rfl rfl rfl) ?_
          refine JL.val rfl rfl (R.lenL U23 rfl (IsSlice.long ha_3)) ?_
          refine JL.val rfl rfl (R.lss_i rfl rfl) ?_
          refine JL.val rfl rfl (R.move rfl) ?_
          refine JL.gSplit (t := 52) rfl (fun c_25 => ?_) (fun c_25 => ?_)
          · replace hx := cond_t c_25 hx
            refine JL.gYes rfl rfl rfl ?_
            refine JL.val rfl rfl (R.move rfl) ?_
            refine JL.gYes rfl rfl rfl ?_
            refine JL.val rfl rfl (R.lss_i rfl rfl) ?_
            refine JL.val rfl rfl (R.pickT rfl rfl) ?_
            refine JL.nil ?_
            refine JN.next ?_
            refine JC.condB rfl (fun c_26 => ?_) (fun c_26 => ?_)
            · replace hx := cond_t c_26 hx
              refine JC.skip ?_
              refine JN.next ?_
              refine JC.seq ?_
              refine JC.block ?_
              refine JC.region ?_
              refine JL.val rfl rfl (R.move rfl) ?_
              refine JL.val rfl rfl (R.fa F25_1 rfl) ?_
              refine JL.val rfl rfl (R.ldo 0 S23 rfl rfl rfl) ?_
              refine JL.val rfl rfl (R.move rfl) ?_
              obtain ⟨y_27, hN_28, hx⟩ := idx_some hx
              obtain ⟨b_29, o_30, cs_31, hE_32, hR_33, hl_34, hc_35⟩ := IsSlice.elem ha_3 hN_28
              obtain ⟨v_36, rfl, hs_37⟩ := hR_33
              obtain ⟨aov_36, capv_36, rfl⟩ := IsSlice.val hs_37
              refine JL.val rfl rfl (R.ix U23 S47 rfl rfl hE_32) ?_
              refine JL.val rfl rfl (R.fa F47_1 rfl) ?_
              refine JL.val rfl rfl (R.ldH S45 rfl (hc_35 1 _ rfl)) ?_
              refine JL.val rfl rfl (R.lenL U45 rfl (IsSlice.long hs_37)) ?_
              refine JL.val rfl rfl (R.add_i rfl rfl) ?_
              refine JL.val rfl rfl (R.assign rfl) ?_
              refine JL.nil ?_
              refine JN.blkN ?_
              refine JN.next ?_
              refine JC.region ?_
              refine JL.val rfl rfl (R.move rfl) ?_
              refine JL.val rfl rfl (R.inc rfl rfl (of_decide_eq_true c_25) (IsSlice.lenI ha_3)) ?_
              refine JL.val rfl rfl (R.assign rfl) ?_
              refine JL.nil ?_
              replace hx := run_next hd_25 hx
              exact JN.cut ⟨(w64 (s_22.1 + (y_27.Data.length : Int)), s_22.2 + 1), rfl, rfl, rfl, hx⟩ ⟨rfl, rfl, rfl, trivial⟩ rfl rfl
            · replace hx := cond_f c_26 hx
              refine JC.exit ?_
              refine JN.passX ?_
              obtain rfl := run_done hd_25 hx
              refine JN.passX ?_
              refine JN.exitSame ?_
              refine JN.forget 0 ?_
              exact JN.cut ⟨rfl, rfl, rfl⟩ ⟨rfl, trivial⟩ rfl rfl
          · replace hx := cond_f c_25 hx
            refine JL.gNo rfl rfl rfl rfl rfl ?_
            refine JL.gNo rfl rfl rfl rfl rfl ?_
            refine JL.val rfl rfl (R.pickF rfl rfl) ?_
            refine JL.nil ?_
            refine JN.next ?_
            refine JC.condF rfl ?_
            refine JC.exit ?_
            refine JN.passX ?_
            obtain rfl := run_done hd_25 hx
            refine JN.passX ?_
            refine JN.exitSame ?_
            refine JN.forget 0 ?_
            exact JN.cut ⟨rfl, rfl, rfl⟩ ⟨rfl, trivial⟩ rfl rfl
    · have hxo_14 := hx; clear hx; have hx := ht_15; clear ht_15
      refine JC.block ?_
      refine JC.loopI (fun n l o g => ∃ s_16 : Int × Nat, l = [(1, .pointer (some ⟨b_4, 0, none⟩)), (3, .int .i64 s_16.1), (4, .int .i64 ((s_16.2 : Nat) : Int))] ∧ o = [[(b_4, .cells #[.slice aoa_2 na_2 capa_2, .slice aoa_3 na_3 capa_3] 25 (0, 0))]] ∧ H = g ∧ run (ref09_Great_l1 p_1) n s_16 = some t_13) FUEL ?_ ⟨(0, 0), rfl, rfl, rfl, hx⟩ ⟨rfl, rfl, rfl, trivial⟩ ?_
      · rintro _ _ _ ⟨s_16, rfl, rfl, rfl, hn_17⟩
        exact run_zero hn_17
      · rintro n_18 _ _ _ ⟨s_16, rfl, rfl, rfl, hn_17⟩
        clear hx; obtain ⟨oo_20, hx, hd_19⟩ := run_some hn_17
        rw [ref09_Great_l1.eq_1] at hx
        refine JC.seq ?_
        refine JC.seq ?_
        refine JC.region ?_
        refine JL.val rfl rfl (R.move rfl) ?_
        refine JL.val rfl rfl (R.fa F25_0 rfl) ?_
        refine JL.val rfl rfl (R.ldo 0 S22 rfl rfl rfl) ?_
        refine JL.val rfl rfl (R.lenL U22 rfl (IsSlice.long ha_2)) ?_
        refine JL.val rfl rfl (R.lss_i rfl rfl) ?_
        refine JL.val rfl rfl (R.move rfl) ?_
        refine JL.gSplit (t := 33) rfl (fun c_19 => ?_) (fun c_19 => ?_)
        · replace hx := cond_t c_19 hx
          refine JL.gYes rfl rfl rfl ?_
          refine JL.val rfl rfl (R.move rfl) ?_
          refine JL.gYes rfl rfl rfl ?_
          refine JL.val rfl rfl (R.lss_i rfl rfl) ?_
          refine JL.val rfl rfl (R.pickT rfl rfl) ?_
          refine JL.nil ?_
          refine JN.next ?_
          refine JC.condB rfl (fun c_20 => ?_) (fun c_20 => ?_)
          · replace hx := cond_t c_20 hx
            refine JC.skip ?_
            refine JN.next ?_
            refine JC.seq ?_
            refine JC.block ?_
            refine JC.region ?_
            refine JL.val rfl rfl (R.move rfl) ?_
            refine JL.val rfl rfl (R.fa F25_0 rfl) ?_
            refine JL.val rfl rfl (R.ldo 0 S22 rfl rfl rfl) ?_
            refine JL.val rfl rfl (R.move rfl) ?_
            obtain ⟨y_21, hN_22, hx⟩ := idx_some hx
            obtain ⟨b_23, o_24, cs_25, hE_26, hR_27, hl_28, hc_29⟩ := IsSlice.elem ha_2 hN_22
            obtain ⟨v_30, rfl, hs_31⟩ := hR_27
            obtain ⟨aov_30, capv_30, rfl⟩ := IsSlice.val hs_31
            refine JL.val rfl rfl (R.ix U22 S45 rfl rfl hE_26) ?_
            refine JL.val rfl rfl (R.ldH S45 rfl (hc_29 0 _ rfl)) ?_
            refine JL.val rfl rfl (R.lenL U45 rfl (IsSlice.long hs_31)) ?_
            refine JL.val rfl rfl (R.add_i rfl rfl) ?_
            refine JL.val rfl rfl (R.assign rfl) ?_
            refine JL.nil ?_
            refine JN.blkN ?_
            refine JN.next ?_
            refine JC.region ?_
            refine JL.val rfl rfl (R.move rfl) ?_
            refine JL.val rfl rfl (R.inc rfl rfl (of_decide_eq_true c_19) (IsSlice.lenI ha_2)) ?_
            refine JL.val rfl rfl (R.assign rfl) ?_
            refine JL.nil ?_
            replace hx := run_next hd_19 hx
            exact JN.cut ⟨(w64 (s_16.1 + (y_21.length : Int)), s_16.2 + 1), rfl, rfl, rfl, hx⟩ ⟨rfl, rfl, rfl, trivial⟩ rfl rfl
          · replace hx := cond_f c_20 hx
            refine JC.exit ?_
            refine JN.passX ?_
            obtain rfl := run_done hd_19 hx
            refine JN.passX ?_
            refine JN.exitSame ?_
            exact JN.cut ⟨rfl, rfl, rfl⟩ ⟨rfl, rfl, trivial⟩ rfl rfl
        · replace hx := cond_f c_19 hx
          refine JL.gNo rfl rfl rfl rfl rfl ?_
          refine JL.gNo rfl rfl rfl rfl rfl ?_
          refine JL.val rfl rfl (R.pickF rfl rfl) ?_
          refine JL.nil ?_
          refine JN.next ?_
          refine JC.condF rfl ?_
          refine JC.exit ?_
          refine JN.passX ?_
          obtain rfl := run_done hd_19 hx
          refine JN.passX ?_
          refine JN.exitSame ?_
          exact JN.cut ⟨rfl, rfl, rfl⟩ ⟨rfl, rfl, trivial⟩ rfl rfl
  · have hxo_6 := hx; clear hx; have hx := ht_7; clear ht_7
    refine JC.seq ?_
    refine JC.region ?_
    refine JL.val rfl rfl (R.fa F25_0 rfl) ?_
    refine JL.val rfl rfl (R.ldo 0 S22 rfl rfl rfl) ?_
    refine JL.val rfl rfl (R.lenL U22 rfl (IsSlice.long ha_2)) ?_
    refine JL.val rfl rfl (R.gtr_i rfl rfl) ?_
    refine JL.val rfl rfl (R.move rfl) ?_
    refine JL.gSplit (t := 10) rfl (fun c_8 => ?_) (fun c_8 => ?_)
    · replace hx := cond_t c_8 hx
      refine JL.gNo rfl rfl rfl rfl rfl ?_
      refine JL.gNo rfl rfl rfl rfl rfl ?_
      refine JL.gNo rfl rfl rfl rfl rfl ?_
      refine JL.gNo rfl rfl rfl rfl rfl ?_
      refine JL.gNo rfl rfl rfl rfl rfl ?_
      refine JL.gNoU rfl rfl rfl rfl ?_
      refine JL.gNoU rfl rfl rfl rfl ?_
      refine JL.gNoU rfl rfl rfl rfl ?_
      refine JL.gNoU rfl rfl rfl rfl ?_
      refine JL.gNo rfl rfl rfl rfl rfl ?_
      refine JL.val rfl rfl (R.pickT rfl rfl) ?_
      refine JL.val rfl rfl (R.move rfl) ?_
      refine JL.gNo rfl rfl rfl rfl rfl ?_
      refine JL.gNo rfl rfl rfl rfl rfl ?_
      refine JL.gNo rfl rfl rfl rfl rfl ?_
      refine JL.gNo rfl rfl rfl rfl rfl ?_
      refine JL.val rfl rfl (R.pickT rfl rfl) ?_
      refine JL.nil ?_
      refine JN.next ?_
      refine JC.condT rfl ?_
      refine JC.seq ?_
      refine JC.region ?_
      refine JL.val rfl rfl (R.assign rfl) ?_
      refine JL.nil ?_
      refine JN.next ?_
      refine JC.ret ?_
      obtain rfl := Option.some.inj hx
      clear hx; have hx := hxo_6
      simp only [Sum.elim_inl, Sum.elim_inr] at hx
      refine JN.passR ?_
      refine JN.passR ?_
      refine JN.outP (vs := [.bool true]) (K := []) (rst := [_]) (.inl rfl) rfl rfl (Res.tmp rfl rfl) picks0 ?_
      obtain rfl := Option.some.inj hx
      exact ⟨rfl, rfl, rfl, trivial⟩
    · replace hx := cond_f c_8 hx
      refine JL.gYes rfl rfl rfl ?_
      refine JL.val rfl rfl (R.fa F25_1 rfl) ?_
      refine JL.gYes rfl rfl rfl ?_
      refine JL.val rfl rfl (R.ldo 0 S23 rfl rfl rfl) ?_
      refine JL.gYes rfl rfl rfl ?_
      refine JL.val rfl rfl (R.lenL U23 rfl (IsSlice.long ha_3)) ?_
      refine JL.gYes rfl rfl rfl ?_
      refine JL.val rfl rfl (R.gtr_i rfl rfl) ?_
      refine JL.gYes rfl rfl rfl ?_
      refine JL.val rfl rfl (R.move rfl) ?_
      refine JL.gSplit (t := 15) rfl (fun c_9 => ?_) (fun c_9 => ?_)
      · replace hx := cond_t c_9 hx
        refine JL.gYes rfl rfl rfl ?_
        refine JL.val rfl rfl (R.fa F25_1 rfl) ?_
        refine JL.gYes rfl rfl rfl ?_
        refine JL.val rfl rfl (R.ldo 0 S23 rfl rfl rfl) ?_
        refine JL.gYes rfl rfl rfl ?_
        refine JL.val rfl rfl (R.lenL U23 rfl (IsSlice.long ha_3)) ?_
        refine JL.gYes rfl rfl rfl ?_
        refine JL.val rfl rfl (R.lss_i rfl rfl) ?_
        refine JL.gYes rfl rfl rfl ?_
        refine JL.val rfl rfl (R.pickT rfl rfl) ?_
        refine JL.val rfl rfl (R.pickF rfl rfl) ?_
        refine JL.val rfl rfl (R.move rfl) ?_
        refine JL.gSplit (t := 22) rfl (fun c_10 => ?_) (fun c_10 => ?_)
        · replace hx := cond_t c_10 hx
          refine JL.gNo rfl rfl rfl rfl rfl ?_
          refine JL.gNo rfl rfl rfl rfl rfl ?_
          refine JL.gNo rfl rfl rfl rfl rfl ?_
          refine JL.gNo rfl rfl rfl rfl rfl ?_
          refine JL.val rfl rfl (R.pickT rfl rfl) ?_
          refine JL.nil ?_
          refine JN.next ?_
          refine JC.condT rfl ?_
          refine JC.seq ?_
          refine JC.region ?_
          refine JL.val rfl rfl (R.assign rfl) ?_
          refine JL.nil ?_
          refine JN.next ?_
          refine JC.ret ?_
          obtain rfl := Option.some.inj hx
          clear hx; have hx := hxo_6
          simp only [Sum.elim_inl, Sum.elim_inr] at hx
          refine JN.passR ?_
          refine JN.passR ?_
          refine JN.outP (vs := [.bool true]) (K := []) (rst := [_]) (.inl rfl) rfl rfl (Res.tmp rfl rfl) picks0 ?_
          obtain rfl := Option.some.inj hx
          exact ⟨rfl, rfl, rfl, trivial⟩
        · replace hx := cond_f c_10 hx
          refine JL.gYes rfl rfl rfl ?_
          refine JL.val rfl rfl (R.fa F25_1 rfl) ?_
          refine JL.gYes rfl rfl rfl ?_
          refine JL.val rfl rfl (R.ldo 0 S23 rfl rfl rfl) ?_
          refine JL.gYes rfl rfl rfl ?_
          refine JL.val rfl rfl (R.lenL U23 rfl (IsSlice.long ha_3)) ?_
          refine JL.gYes rfl rfl rfl ?_
          refine JL.val rfl rfl (R.gtr_i rfl rfl) ?_
          refine JL.val rfl rfl (R.pickF rfl rfl) ?_
          refine JL.nil ?_
          refine JN.next ?_
          refine JC.condB rfl (fun c_11 => ?_) (fun c_11 => ?_)
          · replace hx := cond_t c_11 hx
            refine JC.seq ?_
            refine JC.region ?_
            refine JL.val rfl rfl (R.assign rfl) ?_
            refine JL.nil ?_
            refine JN.next ?_
            refine JC.ret ?_
            obtain rfl := Option.some.inj hx
            clear hx; have hx := hxo_6
            simp only [Sum.elim_inl, Sum.elim_inr] at hx
            refine JN.passR ?_
            refine JN.passR ?_
            refine JN.outP (vs := [.bool true]) (K := []) (rst := [_]) (.inl rfl) rfl rfl (Res.tmp rfl rfl) picks0 ?_
            obtain rfl := Option.some.inj hx
            exact ⟨rfl, rfl, rfl, trivial⟩
          · replace hx := cond_f c_11 hx
            refine JC.skip ?_
            obtain rfl := Option.some.inj hx
            exact JN.cut ⟨(), rfl, rfl, rfl, rfl⟩ ⟨rfl, trivial⟩ rfl rfl
      · replace hx := cond_f c_9 hx
        refine JL.gNo rfl rfl rfl rfl rfl ?_
        refine JL.gNo rfl rfl rfl rfl rfl ?_
        refine JL.gNo rfl rfl rfl rfl rfl ?_
        refine JL.gNo rfl rfl rfl rfl rfl ?_
        refine JL.gYes rfl rfl rfl ?_
        refine JL.val rfl rfl (R.pickF rfl rfl) ?_
        refine JL.val rfl rfl (R.pickF rfl rfl) ?_
        refine JL.val rfl rfl (R.move rfl) ?_
        refine JL.gYes rfl rfl rfl ?_
        refine JL.val rfl rfl (R.fa F25_1 rfl) ?_
        refine JL.gYes rfl rfl rfl ?_
        refine JL.val rfl rfl (R.ldo 0 S23 rfl rfl rfl) ?_
        refine JL.gYes rfl rfl rfl ?_
        refine JL.val rfl rfl (R.lenL U23 rfl (IsSlice.long ha_3)) ?_
        refine JL.gYes rfl rfl rfl ?_
        refine JL.val rfl rfl (R.gtr_i rfl rfl) ?_
        refine JL.val rfl rfl (R.pickF rfl rfl) ?_
        refine JL.nil ?_
        refine JN.next ?_
        refine JC.condB rfl (fun c_12 => ?_) (fun c_12 => ?_)
        · replace hx := cond_t c_12 hx
          refine JC.seq ?_
          refine JC.region ?_
          refine JL.val rfl rfl (R.assign rfl) ?_
          refine JL.nil ?_
          refine JN.next ?_
          refine JC.ret ?_
          obtain rfl := Option.some.inj hx
          clear hx; have hx := hxo_6
          simp only [Sum.elim_inl, Sum.elim_inr] at hx
          refine JN.passR ?_
          refine JN.passR ?_
          refine JN.outP (vs := [.bool true]) (K := []) (rst := [_]) (.inl rfl) rfl rfl (Res.tmp rfl rfl) picks0 ?_
          obtain rfl := Option.some.inj hx
          exact ⟨rfl, rfl, rfl, trivial⟩
        · replace hx := cond_f c_12 hx
          refine JC.skip ?_
          obtain rfl := Option.some.inj hx
          exact JN.cut ⟨(), rfl, rfl, rfl, rfl⟩ ⟨rfl, trivial⟩ rfl rfl
end Go.Proofs.Ytabnbobdjckdmaa
