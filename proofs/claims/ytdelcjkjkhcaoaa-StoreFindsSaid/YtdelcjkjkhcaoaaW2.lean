/- walks: what the code computes, function by function. -/
import Derived.Test.YtdelcjkjkhcaoaaW2p1
namespace Go.Proofs.Ytdelcjkjkhcaoaa
open Go.Ow Go.RowKit Go.Proofs
set_option linter.unusedVariables false
set_option linter.unusedSimpArgs false
set_option maxHeartbeats 8000000 in
theorem dev_Read_ok (p_1 : Disk) (p_4 : Int) (H : Heaplet) {aoa_2 : Option Addr} {na_2 : Nat} {capa_2 : Nat} {aoa_3 : Option Addr} {na_3 : Nat} {capa_3 : Nat} (ha_2 : IsSlice H (RSl RU8 1) 1 (.slice aoa_2 na_2 capa_2) p_1.Blocks) (ha_3 : IsSlice H R_Write 2 (.slice aoa_3 na_3 capa_3) p_1.Waits) (r : List UInt8 × Int) (hx : dev_Read p_1 p_4 = some r) :
    Does Try.prog 39 #[.agg #[.slice aoa_2 na_2 capa_2, .slice aoa_3 na_3 capa_3], .int .i64 p_4] [] H (fun u K' H' => ∃ ao0 : Option Addr, ∃ n0 : Nat, ∃ cap0 : Nat, u = .tuple #[.slice ao0 n0 cap0, .int .i64 r.2] ∧ K' = [] ∧ IsSlice (New H H') RU8 1 (.slice ao0 n0 cap0) r.1 ∧ True) := by
  refine Does.enterL (vs := [.agg #[.slice aoa_2 na_2 capa_2, .slice aoa_3 na_3 capa_3], .int .i64 p_4]) (l := [(0, .agg #[.slice aoa_2 na_2 capa_2, .slice aoa_3 na_3 capa_3]), (1, .int .i64 p_4)]) Try.func39 rfl rfl ⟨rfl, rfl, trivial⟩ (fun w hlt => ?_)
  unfold dev_Read at hx
  refine JC.seq ?_
  refine JC.region ?_
  refine JL.box rfl rfl (fun b_5 hb_5 => ?_)
  refine JL.val rfl rfl (R.assign rfl) ?_
  refine JL.val rfl rfl (R.assign rfl) ?_
  refine JL.nil ?_
  refine JN.next ?_
  refine JC.seq ?_
  obtain ⟨t_6, ht_8, hx⟩ := bnd_some hx
  refine JC.cut (fun l o g => ∃ H_20 : Heaplet, ∃ b_21 : Nat, ∃ aoz_22 : Option Addr, ∃ nz_22 : Nat, ∃ capz_22 : Nat, ∃ aor_23 : Option Addr, ∃ nr_23 : Nat, ∃ capr_23 : Nat, ∃ Kr_23 : Own, l = [(1, .int .i64 p_4), (6, .pointer (some ⟨b_21, 0, none⟩)), (7, .int .i64 t_6.2.2)] ∧ o = [[(b_21, .cells #[.slice aoz_22 nz_22 capz_22, .slice aor_23 nr_23 capr_23] 25 (0, 0))], Kr_23] ∧ H_20 = g ∧ Hle H H_20 ∧ w.heap.size ≤ b_21 ∧ IsSlice (New H H_20) (RSl RU8 1) 1 (.slice aoz_22 nz_22 capz_22) t_6.1 ∧ RowOf (New H H_20) R_Write w.heap.size 72 2 (.slice aor_23 nr_23 capr_23) t_6.2.1 Kr_23) ?_ ?_
  · rintro _ _ _ ⟨H_20, b_21, aoz_22, nz_22, capz_22, aor_23, nr_23, capr_23, Kr_23, rfl, rfl, rfl, hleH_20, hb_21, hz_22, hr_23⟩
    refine JN.next ?_
    refine JC.seq ?_
    refine JC.seq ?_
    refine JC.region ?_
    refine JL.val rfl rfl (R.move rfl) ?_
    refine JL.val rfl rfl (R.neq_i rfl rfl) ?_
    refine JL.nil ?_
    refine JN.next ?_
    refine JC.condB rfl (fun c_24 => ?_) (fun c_24 => ?_)
    · replace hx := cond_t c_24 hx
      refine JC.seq ?_
      refine JC.region ?_
      refine JL.val rfl rfl (R.move rfl) ?_
      refine JL.val rfl rfl (R.assign rfl) ?_
      refine JL.val rfl rfl (R.assign rfl) ?_
      refine JL.nil ?_
      refine JN.next ?_
      refine JC.ret ?_
      refine JN.passR ?_
      refine JN.outP (vs := [.slice none 0 0, .int .i64 t_6.2.2]) (K := []) (rst := [_, _]) (.inl rfl) rfl rfl (Res.tmp rfl (Res.tmp rfl rfl)) picks0 ?_
      obtain rfl := Option.some.inj hx
      exact ⟨none, 0, 0, rfl, rfl, (IsSlice.nil _ _ _), trivial⟩
    · replace hx := cond_f c_24 hx
      refine JC.skip ?_
      refine JN.next ?_
      refine JC.seq ?_
      refine JC.region ?_
      refine JL.val rfl rfl (R.fa F25_0 rfl) ?_
      refine JL.val rfl rfl (R.ldo 0 S22 rfl rfl rfl) ?_
      refine JL.val rfl rfl (R.move rfl) ?_
      obtain ⟨y_25, hN_26, hx⟩ := idx_some hx
      obtain ⟨b_27, o_28, cs_29, hE_30, hR_31, hl_32, hc_33⟩ := IsSlice.elem hz_22 hN_26
      obtain ⟨v_34, rfl, hs_35⟩ := hR_31
      obtain ⟨aov_34, capv_34, rfl⟩ := IsSlice.val hs_35
      refine JL.val rfl rfl (R.ix U22 S26 rfl rfl hE_30) ?_
      refine JL.val rfl rfl (R.ldH S26 rfl ((fun j u e => New.le _ _ _ _ _ (hc_33 j u e)) 0 _ rfl)) ?_
      refine JL.val rfl rfl (R.assign rfl) ?_
      refine JL.val rfl rfl (R.assign rfl) ?_
      refine JL.nil ?_
      refine JN.next ?_
      refine JC.ret ?_
      refine JN.outP (vs := [.slice aov_34 y_25.length capv_34, .int .i64 0]) (K := []) (rst := [_, _]) (.inl rfl) rfl rfl (Res.tmp rfl (Res.tmp rfl rfl)) picks0 ?_
      obtain rfl := Option.some.inj hx
      exact ⟨aov_34, y_25.length, capv_34, rfl, rfl, hs_35, trivial⟩
  · have hxo_7 := hx; clear hx; have hx := ht_8; clear ht_8
    refine JC.draw (so := []) 11 rfl Mixed trivial ?_
    refine JA.val ⟨by kernel_rfl, by kernel_rfl⟩ (calm_only _) (i := 1) rfl ⟨by kernel_rfl, by kernel_rfl, rfl⟩ trivial (stab_of (Hle.refl _) trivial) (R.move rfl) rfl ?_
    refine JA.val ⟨by kernel_rfl, by kernel_rfl⟩ (calm_only _) (i := 3) rfl ⟨by kernel_rfl, by kernel_rfl, rfl⟩ trivial (stab_of (Hle.refl _) trivial) (R.func (vf := []) (vc := [_]) rfl rfl) rfl ?_
    obtain ⟨x_9, hr_10, hx⟩ := bnd_some hx
    obtain ⟨x_12, hr_13, hx⟩ := bnd_some hx
    refine JA.three (i := 0) (j := 2) (m := 8) (by kernel_rfl) ?_ ?_ ?_
    · refine JO.step rfl trivial rfl (fun K hK => ?_)
      refine JL.val rfl rfl (R.ldoN 0 (vs := [.slice aoa_2 na_2 capa_2, .slice aoa_3 na_3 capa_3]) S25 rfl rfl rfl rfl) ?_
      refine JL.nil ?_
      refine hK _ _ _ (stab_of (Hle.refl _) trivial) ?_
      refine JA.two (i := 2) (j := 8) (by kernel_rfl) ?_ ?_
      · refine JO.step rfl trivial rfl (fun K hK => ?_)
        refine JL.callC (vs := [_]) (args := [_]) (K := []) (rst := [_]) E44 rfl rfl rfl picks0 (dev_place_ok p_4 _ _ hr_10) rfl (fun u_11 Ku_11 Hu_11 hRu_11 hleu_11 hfu_11 => ?_)
        obtain ⟨rfl, rfl, rfl, -⟩ := hRu_11
        refine JL.nil ?_
        refine hK _ _ _ (stab_of (Hle.refl _) trivial) ?_
        refine JA.two (i := 4) (j := 8) (by kernel_rfl) ?_ ?_
        · refine JO.step rfl trivial rfl (fun K hK => ?_)
          refine JL.callC (vs := [_, _, _]) (args := [_, _, _]) (K := [_]) (rst := []) E40 rfl rfl rfl (picks 0 rfl picks0) (dev_guarded_v2_ok p_1 x_9 p_1 _ ha_2 ha_3 ha_2 ha_3 _ hr_13) rfl (fun u_14 Ku_14 Hu_14 hRu_14 hleu_14 hfu_14 => ?_)
          obtain ⟨aoz_15, nz_15, capz_15, aoz_16, nz_16, capz_16, aoz_17, nz_17, capz_17, aor_18, nr_18, capr_18, Kr_18, rfl, rfl, hz_15, hz_16, hz_17, hr_18, hnewr_18, -⟩ := hRu_14
          replace hr_18 := (RowOf.base (RowOf.mono R_Write.mono (New.call (Hle.refl _)) hr_18) (fun p hp => (hfu_14 p (mem_seg 1 rfl hp)).resolve_left (hnewr_18 p hp)))
          replace hz_17 := IsSlice.mono (RSl.mono RU8.mono) (New.call (Hle.refl _)) hz_17
          refine JL.nil ?_
          refine hK _ _ _ (stab_of hleu_14 trivial) ?_
          refine JA.val ⟨by kernel_rfl, by kernel_rfl⟩ (calm_only _) (i := 5) rfl ⟨by kernel_rfl, by kernel_rfl, rfl⟩ trivial (stab_of hleu_14 trivial) (R.move rfl) rfl ?_
          refine JA.val ⟨by kernel_rfl, by kernel_rfl⟩ (calm_only _) (i := 6) rfl ⟨by kernel_rfl, by kernel_rfl, rfl⟩ trivial (stab_of hleu_14 trivial) (R.extract rfl rfl) rfl ?_
          refine JA.val ⟨by kernel_rfl, by kernel_rfl⟩ (calm_only _) (i := 7) rfl ⟨by kernel_rfl, by kernel_rfl, rfl⟩ trivial (stab_of hleu_14 trivial) (R.extract rfl rfl) rfl ?_
          refine JA.one (i := 8) (by kernel_rfl) ?_
          refine JO.step rfl trivial rfl (fun K hK => ?_)
          refine JL.alloc Z25 rfl (fun b_19 hb_19 => ?_)
          refine JL.nil ?_
          refine hK _ _ _ (stab_of hleu_14 trivial) ?_
          refine JA.one (i := 9) (by kernel_rfl) ?_
          refine JO.step rfl trivial rfl (fun K hK => ?_)
          refine JL.store 0 S25 rfl rfl rfl rfl rfl (Nat.le_of_ble_eq_true rfl) ?_
          refine JL.nil ?_
          refine hK _ _ _ (stab_of hleu_14 trivial) ?_
          refine JA.val ⟨by kernel_rfl, by kernel_rfl⟩ (calm_only _) (i := 10) rfl ⟨by kernel_rfl, by kernel_rfl, rfl⟩ trivial (stab_of hleu_14 trivial) (R.assign rfl) rfl ?_
          refine JA.doneN (by kernel_rfl) ?_
          obtain rfl := Option.some.inj hx
          refine JN.forget 1 ?_
          refine JN.front 1 rfl ?_
          refine JN.front 1 rfl ?_
          exact JN.cut ⟨Hu_14, b_19, aoz_17, nz_17, capz_17, aor_18, nr_18, capr_18, Kr_18, rfl, rfl, rfl, (hleu_14), hb_19, hz_17, hr_18⟩ ⟨rfl, rfl, rfl, trivial⟩ rfl rfl
        · refine JO.step rfl trivial rfl (fun K hK => ?_)
          refine JL.alloc Z25 rfl (fun b_19 hb_19 => ?_)
          refine JL.nil ?_
          refine hK _ _ _ (stab_of (Hle.refl _) trivial) ?_
          refine JA.one (i := 4) (by kernel_rfl) ?_
          refine JO.step rfl trivial rfl (fun K hK => ?_)
          refine JL.callC (vs := [_, _, _]) (args := [_, _, _]) (K := [_]) (rst := [_]) E40 rfl rfl rfl (picks 1 rfl picks0) (dev_guarded_v2_ok p_1 x_9 p_1 _ ha_2 ha_3 ha_2 ha_3 _ hr_13) rfl (fun u_14 Ku_14 Hu_14 hRu_14 hleu_14 hfu_14 => ?_)
          obtain ⟨aoz_15, nz_15, capz_15, aoz_16, nz_16, capz_16, aoz_17, nz_17, capz_17, aor_18, nr_18, capr_18, Kr_18, rfl, rfl, hz_15, hz_16, hz_17, hr_18, hnewr_18, -⟩ := hRu_14
          replace hr_18 := (RowOf.base (RowOf.mono R_Write.mono (New.call (Hle.refl _)) hr_18) (fun p hp => (hfu_14 p (mem_seg 1 rfl hp)).resolve_left (hnewr_18 p hp)))
          replace hz_17 := IsSlice.mono (RSl.mono RU8.mono) (New.call (Hle.refl _)) hz_17
          refine JL.nil ?_
          refine hK _ _ _ (stab_of hleu_14 trivial) ?_
          refine JA.val ⟨by kernel_rfl, by kernel_rfl⟩ (calm_only _) (i := 5) rfl ⟨by kernel_rfl, by kernel_rfl, rfl⟩ trivial (stab_of hleu_14 trivial) (R.move rfl) rfl ?_
          refine JA.val ⟨by kernel_rfl, by kernel_rfl⟩ (calm_only _) (i := 6) rfl ⟨by kernel_rfl, by kernel_rfl, rfl⟩ trivial (stab_of hleu_14 trivial) (R.extract rfl rfl) rfl ?_
          refine JA.val ⟨by kernel_rfl, by kernel_rfl⟩ (calm_only _) (i := 7) rfl ⟨by kernel_rfl, by kernel_rfl, rfl⟩ trivial (stab_of hleu_14 trivial) (R.extract rfl rfl) rfl ?_
          refine JA.one (i := 9) (by kernel_rfl) ?_
          refine JO.step rfl trivial rfl (fun K hK => ?_)
          refine JL.store 2 S25 rfl rfl rfl rfl rfl (Nat.le_of_ble_eq_true rfl) ?_
          refine JL.nil ?_
          refine hK _ _ _ (stab_of hleu_14 trivial) ?_
          refine JA.val ⟨by kernel_rfl, by kernel_rfl⟩ (calm_only _) (i := 10) rfl ⟨by kernel_rfl, by kernel_rfl, rfl⟩ trivial (stab_of hleu_14 trivial) (R.assign rfl) rfl ?_
          refine JA.doneN (by kernel_rfl) ?_
          obtain rfl := Option.some.inj hx
          refine JN.forget 0 ?_
          refine JN.front 1 rfl ?_
          exact JN.cut ⟨Hu_14, b_19, aoz_17, nz_17, capz_17, aor_18, nr_18, capr_18, Kr_18, rfl, rfl, rfl, (hleu_14), hb_19, hz_17, hr_18⟩ ⟨rfl, rfl, rfl, trivial⟩ rfl rfl
      · refine JO.step rfl trivial rfl (fun K hK => ?_)
        refine JL.alloc Z25 rfl (fun b_19 hb_19 => ?_)
        refine JL.nil ?_
        refine hK _ _ _ (stab_of (Hle.refl _) trivial) ?_
        refine JA.one (i := 2) (by kernel_rfl) ?_
        refine JO.step rfl trivial rfl (fun K hK => ?_)
        refine JL.callC (vs := [_]) (args := [_]) (K := []) (rst := [_, _]) E44 rfl rfl rfl picks0 (dev_place_ok p_4 _ _ hr_10) rfl (fun u_11 Ku_11 Hu_11 hRu_11 hleu_11 hfu_11 => ?_)
        obtain ⟨rfl, rfl, rfl, -⟩ := hRu_11
        refine JL.nil ?_
        refine hK _ _ _ (stab_of (Hle.refl _) trivial) ?_
        refine JA.one (i := 4) (by kernel_rfl) ?_
        refine JO.step rfl trivial rfl (fun K hK => ?_)
        refine JL.callC (vs := [_, _, _]) (args := [_, _, _]) (K := [_]) (rst := [_]) E40 rfl rfl rfl (picks 1 rfl picks0) (dev_guarded_v2_ok p_1 x_9 p_1 _ ha_2 ha_3 ha_2 ha_3 _ hr_13) rfl (fun u_14 Ku_14 Hu_14 hRu_14 hleu_14 hfu_14 => ?_)
        obtain ⟨aoz_15, nz_15, capz_15, aoz_16, nz_16, capz_16, aoz_17, nz_17, capz_17, aor_18, nr_18, capr_18, Kr_18, rfl, rfl, hz_15, hz_16, hz_17, hr_18, hnewr_18, -⟩ := hRu_14
        replace hr_18 := (RowOf.base (RowOf.mono R_Write.mono (New.call (Hle.refl _)) hr_18) (fun p hp => (hfu_14 p (mem_seg 1 rfl hp)).resolve_left (hnewr_18 p hp)))
        replace hz_17 := IsSlice.mono (RSl.mono RU8.mono) (New.call (Hle.refl _)) hz_17
        refine JL.nil ?_
        refine hK _ _ _ (stab_of hleu_14 trivial) ?_
        refine JA.val ⟨by kernel_rfl, by kernel_rfl⟩ (calm_only _) (i := 5) rfl ⟨by kernel_rfl, by kernel_rfl, rfl⟩ trivial (stab_of hleu_14 trivial) (R.move rfl) rfl ?_
        refine JA.val ⟨by kernel_rfl, by kernel_rfl⟩ (calm_only _) (i := 6) rfl ⟨by kernel_rfl, by kernel_rfl, rfl⟩ trivial (stab_of hleu_14 trivial) (R.extract rfl rfl) rfl ?_
        refine JA.val ⟨by kernel_rfl, by kernel_rfl⟩ (calm_only _) (i := 7) rfl ⟨by kernel_rfl, by kernel_rfl, rfl⟩ trivial (stab_of hleu_14 trivial) (R.extract rfl rfl) rfl ?_
        refine JA.one (i := 9) (by kernel_rfl) ?_
        refine JO.step rfl trivial rfl (fun K hK => ?_)
        refine JL.store 2 S25 rfl rfl rfl rfl rfl (Nat.le_of_ble_eq_true rfl) ?_
        refine JL.nil ?_
        refine hK _ _ _ (stab_of hleu_14 trivial) ?_
        refine JA.val ⟨by kernel_rfl, by kernel_rfl⟩ (calm_only _) (i := 10) rfl ⟨by kernel_rfl, by kernel_rfl, rfl⟩ trivial (stab_of hleu_14 trivial) (R.assign rfl) rfl ?_
        refine JA.doneN (by kernel_rfl) ?_
        obtain rfl := Option.some.inj hx
        refine JN.forget 0 ?_
        refine JN.front 1 rfl ?_
        exact JN.cut ⟨Hu_14, b_19, aoz_17, nz_17, capz_17, aor_18, nr_18, capr_18, Kr_18, rfl, rfl, rfl, (hleu_14), hb_19, hz_17, hr_18⟩ ⟨rfl, rfl, rfl, trivial⟩ rfl rfl
    · refine JO.step rfl trivial rfl (fun K hK => ?_)
      refine JL.callC (vs := [_]) (args := [_]) (K := []) (rst := [_]) E44 rfl rfl rfl picks0 (dev_place_ok p_4 _ _ hr_10) rfl (fun u_11 Ku_11 Hu_11 hRu_11 hleu_11 hfu_11 => ?_)
      obtain ⟨rfl, rfl, rfl, -⟩ := hRu_11
      refine JL.nil ?_
      refine hK _ _ _ (stab_of (Hle.refl _) trivial) ?_
      refine JA.two (i := 0) (j := 8) (by kernel_rfl) ?_ ?_
      · refine JO.step rfl trivial rfl (fun K hK => ?_)
        refine JL.val rfl rfl (R.ldoN 0 (vs := [.slice aoa_2 na_2 capa_2, .slice aoa_3 na_3 capa_3]) S25 rfl rfl rfl rfl) ?_
        refine JL.nil ?_
        refine hK _ _ _ (stab_of (Hle.refl _) trivial) ?_
        refine JA.two (i := 4) (j := 8) (by kernel_rfl) ?_ ?_
        · refine JO.step rfl trivial rfl (fun K hK => ?_)
          refine JL.callC (vs := [_, _, _]) (args := [_, _, _]) (K := [_]) (rst := []) E40 rfl rfl rfl (picks 0 rfl picks0) (dev_guarded_v2_ok p_1 x_9 p_1 _ ha_2 ha_3 ha_2 ha_3 _ hr_13) rfl (fun u_14 Ku_14 Hu_14 hRu_14 hleu_14 hfu_14 => ?_)
          obtain ⟨aoz_15, nz_15, capz_15, aoz_16, nz_16, capz_16, aoz_17, nz_17, capz_17, aor_18, nr_18, capr_18, Kr_18, rfl, rfl, hz_15, hz_16, hz_17, hr_18, hnewr_18, -⟩ := hRu_14
          replace hr_18 := (RowOf.base (RowOf.mono R_Write.mono (New.call (Hle.refl _)) hr_18) (fun p hp => (hfu_14 p (mem_seg 1 rfl hp)).resolve_left (hnewr_18 p hp)))
          replace hz_17 := IsSlice.mono (RSl.mono RU8.mono) (New.call (Hle.refl _)) hz_17
          refine JL.nil ?_
          refine hK _ _ _ (stab_of hleu_14 trivial) ?_
          refine JA.val ⟨by kernel_rfl, by kernel_rfl⟩ (calm_only _) (i := 5) rfl ⟨by kernel_rfl, by kernel_rfl, rfl⟩ trivial (stab_of hleu_14 trivial) (R.move rfl) rfl ?_
          refine JA.val ⟨by kernel_rfl, by kernel_rfl⟩ (calm_only _) (i := 6) rfl ⟨by kernel_rfl, by kernel_rfl, rfl⟩ trivial (stab_of hleu_14 trivial) (R.extract rfl rfl) rfl ?_
          refine JA.val ⟨by kernel_rfl, by kernel_rfl⟩ (calm_only _) (i := 7) rfl ⟨by kernel_rfl, by kernel_rfl, rfl⟩ trivial (stab_of hleu_14 trivial) (R.extract rfl rfl) rfl ?_
          refine JA.one (i := 8) (by kernel_rfl) ?_
          refine JO.step rfl trivial rfl (fun K hK => ?_)
          refine JL.alloc Z25 rfl (fun b_19 hb_19 => ?_)
          refine JL.nil ?_
          refine hK _ _ _ (stab_of hleu_14 trivial) ?_
          refine JA.one (i := 9) (by kernel_rfl) ?_
          refine JO.step rfl trivial rfl (fun K hK => ?_)
          refine JL.store 0 S25 rfl rfl rfl rfl rfl (Nat.le_of_ble_eq_true rfl) ?_
          refine JL.nil ?_
          refine hK _ _ _ (stab_of hleu_14 trivial) ?_
          refine JA.val ⟨by kernel_rfl, by kernel_rfl⟩ (calm_only _) (i := 10) rfl ⟨by kernel_rfl, by kernel_rfl, rfl⟩ trivial (stab_of hleu_14 trivial) (R.assign rfl) rfl ?_
          refine JA.doneN (by kernel_rfl) ?_
          obtain rfl := Option.some.inj hx
          refine JN.forget 1 ?_
          refine JN.front 1 rfl ?_
          refine JN.front 1 rfl ?_
          exact JN.cut ⟨Hu_14, b_19, aoz_17, nz_17, capz_17, aor_18, nr_18, capr_18, Kr_18, rfl, rfl, rfl, (hleu_14), hb_19, hz_17, hr_18⟩ ⟨rfl, rfl, rfl, trivial⟩ rfl rfl
        · refine JO.step rfl trivial rfl (fun K hK => ?_)
          refine JL.alloc Z25 rfl (fun b_19 hb_19 => ?_)
          refine JL.nil ?_
          refine hK _ _ _ (stab_of (Hle.refl _) trivial) ?_
          refine JA.one (i := 4) (by kernel_rfl) ?_
          refine JO.step rfl trivial rfl (fun K hK => ?_)
          refine JL.callC (vs := [_, _, _]) (args := [_, _, _]) (K := [_]) (rst := [_]) E40 rfl rfl rfl (picks 1 rfl picks0) (dev_guarded_v2_ok p_1 x_9 p_1 _ ha_2 ha_3 ha_2 ha_3 _ hr_13) rfl (fun u_14 Ku_14 Hu_14 hRu_14 hleu_14 hfu_14 => ?_)
          obtain ⟨aoz_15, nz_15, capz_15, aoz_16, nz_16, capz_16, aoz_17, nz_17, capz_17, aor_18, nr_18, capr_18, Kr_18, rfl, rfl, hz_15, hz_16, hz_17, hr_18, hnewr_18, -⟩ := hRu_14
          replace hr_18 := (RowOf.base (RowOf.mono R_Write.mono (New.call (Hle.refl _)) hr_18) (fun p hp => (hfu_14 p (mem_seg 1 rfl hp)).resolve_left (hnewr_18 p hp)))
          replace hz_17 := IsSlice.mono (RSl.mono RU8.mono) (New.call (Hle.refl _)) hz_17
          refine JL.nil ?_
          refine hK _ _ _ (stab_of hleu_14 trivial) ?_
          refine JA.val ⟨by kernel_rfl, by kernel_rfl⟩ (calm_only _) (i := 5) rfl ⟨by kernel_rfl, by kernel_rfl, rfl⟩ trivial (stab_of hleu_14 trivial) (R.move rfl) rfl ?_
          refine JA.val ⟨by kernel_rfl, by kernel_rfl⟩ (calm_only _) (i := 6) rfl ⟨by kernel_rfl, by kernel_rfl, rfl⟩ trivial (stab_of hleu_14 trivial) (R.extract rfl rfl) rfl ?_
          refine JA.val ⟨by kernel_rfl, by kernel_rfl⟩ (calm_only _) (i := 7) rfl ⟨by kernel_rfl, by kernel_rfl, rfl⟩ trivial (stab_of hleu_14 trivial) (R.extract rfl rfl) rfl ?_
          refine JA.one (i := 9) (by kernel_rfl) ?_
          refine JO.step rfl trivial rfl (fun K hK => ?_)
          refine JL.store 2 S25 rfl rfl rfl rfl rfl (Nat.le_of_ble_eq_true rfl) ?_
          refine JL.nil ?_
          refine hK _ _ _ (stab_of hleu_14 trivial) ?_
          refine JA.val ⟨by kernel_rfl, by kernel_rfl⟩ (calm_only _) (i := 10) rfl ⟨by kernel_rfl, by kernel_rfl, rfl⟩ trivial (stab_of hleu_14 trivial) (R.assign rfl) rfl ?_
          refine JA.doneN (by kernel_rfl) ?_
          obtain rfl := Option.some.inj hx
          refine JN.forget 0 ?_
          refine JN.front 1 rfl ?_
          exact JN.cut ⟨Hu_14, b_19, aoz_17, nz_17, capz_17, aor_18, nr_18, capr_18, Kr_18, rfl, rfl, rfl, (hleu_14), hb_19, hz_17, hr_18⟩ ⟨rfl, rfl, rfl, trivial⟩ rfl rfl
      · refine JO.step rfl trivial rfl (fun K hK => ?_)
        refine JL.alloc Z25 rfl (fun b_19 hb_19 => ?_)
        refine JL.nil ?_
        refine hK _ _ _ (stab_of (Hle.refl _) trivial) ?_
        refine JA.one (i := 0) (by kernel_rfl) ?_
        refine JO.step rfl trivial rfl (fun K hK => ?_)
        refine JL.val rfl rfl (R.ldoN 1 (vs := [.slice aoa_2 na_2 capa_2, .slice aoa_3 na_3 capa_3]) S25 rfl rfl rfl rfl) ?_
        refine JL.nil ?_
        refine hK _ _ _ (stab_of (Hle.refl _) trivial) ?_
        refine JA.one (i := 4) (by kernel_rfl) ?_
        refine JO.step rfl trivial rfl (fun K hK => ?_)
        refine JL.callC (vs := [_, _, _]) (args := [_, _, _]) (K := [_]) (rst := [_]) E40 rfl rfl rfl (picks 1 rfl picks0) (dev_guarded_v2_ok p_1 x_9 p_1 _ ha_2 ha_3 ha_2 ha_3 _ hr_13) rfl (fun u_14 Ku_14 Hu_14 hRu_14 hleu_14 hfu_14 => ?_)
        obtain ⟨aoz_15, nz_15, capz_15, aoz_16, nz_16, capz_16, aoz_17, nz_17, capz_17, aor_18, nr_18, capr_18, Kr_18, rfl, rfl, hz_15, hz_16, hz_17, hr_18, hnewr_18, -⟩ := hRu_14
        replace hr_18 := (RowOf.base (RowOf.mono R_Write.mono (New.call (Hle.refl _)) hr_18) (fun p hp => (hfu_14 p (mem_seg 1 rfl hp)).resolve_left (hnewr_18 p hp)))
        replace hz_17 := IsSlice.mono (RSl.mono RU8.mono) (New.call (Hle.refl _)) hz_17
        refine JL.nil ?_
        refine hK _ _ _ (stab_of hleu_14 trivial) ?_
        refine JA.val ⟨by kernel_rfl, by kernel_rfl⟩ (calm_only _) (i := 5) rfl ⟨by kernel_rfl, by kernel_rfl, rfl⟩ trivial (stab_of hleu_14 trivial) (R.move rfl) rfl ?_
        refine JA.val ⟨by kernel_rfl, by kernel_rfl⟩ (calm_only _) (i := 6) rfl ⟨by kernel_rfl, by kernel_rfl, rfl⟩ trivial (stab_of hleu_14 trivial) (R.extract rfl rfl) rfl ?_
        refine JA.val ⟨by kernel_rfl, by kernel_rfl⟩ (calm_only _) (i := 7) rfl ⟨by kernel_rfl, by kernel_rfl, rfl⟩ trivial (stab_of hleu_14 trivial) (R.extract rfl rfl) rfl ?_
        refine JA.one (i := 9) (by kernel_rfl) ?_
        refine JO.step rfl trivial rfl (fun K hK => ?_)
        refine JL.store 2 S25 rfl rfl rfl rfl rfl (Nat.le_of_ble_eq_true rfl) ?_
        refine JL.nil ?_
        refine hK _ _ _ (stab_of hleu_14 trivial) ?_
        refine JA.val ⟨by kernel_rfl, by kernel_rfl⟩ (calm_only _) (i := 10) rfl ⟨by kernel_rfl, by kernel_rfl, rfl⟩ trivial (stab_of hleu_14 trivial) (R.assign rfl) rfl ?_
        refine JA.doneN (by kernel_rfl) ?_
        obtain rfl := Option.some.inj hx
        refine JN.forget 0 ?_
        refine JN.front 1 rfl ?_
        exact JN.cut ⟨Hu_14, b_19, aoz_17, nz_17, capz_17, aor_18, nr_18, capr_18, Kr_18, rfl, rfl, rfl, (hleu_14), hb_19, hz_17, hr_18⟩ ⟨rfl, rfl, rfl, trivial⟩ rfl rfl
    · refine JO.step rfl trivial rfl (fun K hK => ?_)
      refine JL.alloc Z25 rfl (fun b_19 hb_19 => ?_)
      refine JL.nil ?_
      refine hK _ _ _ (stab_of (Hle.refl _) trivial) ?_
      refine JA.two (i := 0) (j := 2) (by kernel_rfl) ?_ ?_
      · refine JO.step rfl trivial rfl (fun K hK => ?_)
        refine JL.val rfl rfl (R.ldoN 1 (vs := [.slice aoa_2 na_2 capa_2, .slice aoa_3 na_3 capa_3]) S25 rfl rfl rfl rfl) ?_
        refine JL.nil ?_
        refine hK _ _ _ (stab_of (Hle.refl _) trivial) ?_
        refine JA.one (i := 2) (by kernel_rfl) ?_
        refine JO.step rfl trivial rfl (fun K hK => ?_)
        refine JL.callC (vs := [_]) (args := [_]) (K := []) (rst := [_, _]) E44 rfl rfl rfl picks0 (dev_place_ok p_4 _ _ hr_10) rfl (fun u_11 Ku_11 Hu_11 hRu_11 hleu_11 hfu_11 => ?_)
        obtain ⟨rfl, rfl, rfl, -⟩ := hRu_11
        refine JL.nil ?_
        refine hK _ _ _ (stab_of (Hle.refl _) trivial) ?_
        refine JA.one (i := 4) (by kernel_rfl) ?_
        refine JO.step rfl trivial rfl (fun K hK => ?_)
        refine JL.callC (vs := [_, _, _]) (args := [_, _, _]) (K := [_]) (rst := [_]) E40 rfl rfl rfl (picks 1 rfl picks0) (dev_guarded_v2_ok p_1 x_9 p_1 _ ha_2 ha_3 ha_2 ha_3 _ hr_13) rfl (fun u_14 Ku_14 Hu_14 hRu_14 hleu_14 hfu_14 => ?_)
        obtain ⟨aoz_15, nz_15, capz_15, aoz_16, nz_16, capz_16, aoz_17, nz_17, capz_17, aor_18, nr_18, capr_18, Kr_18, rfl, rfl, hz_15, hz_16, hz_17, hr_18, hnewr_18, -⟩ := hRu_14
        replace hr_18 := (RowOf.base (RowOf.mono R_Write.mono (New.call (Hle.refl _)) hr_18) (fun p hp => (hfu_14 p (mem_seg 1 rfl hp)).resolve_left (hnewr_18 p hp)))
        replace hz_17 := IsSlice.mono (RSl.mono RU8.mono) (New.call (Hle.refl _)) hz_17
        refine JL.nil ?_
        refine hK _ _ _ (stab_of hleu_14 trivial) ?_
        refine JA.val ⟨by kernel_rfl, by kernel_rfl⟩ (calm_only _) (i := 5) rfl ⟨by kernel_rfl, by kernel_rfl, rfl⟩ trivial (stab_of hleu_14 trivial) (R.move rfl) rfl ?_
        refine JA.val ⟨by kernel_rfl, by kernel_rfl⟩ (calm_only _) (i := 6) rfl ⟨by kernel_rfl, by kernel_rfl, rfl⟩ trivial (stab_of hleu_14 trivial) (R.extract rfl rfl) rfl ?_
        refine JA.val ⟨by kernel_rfl, by kernel_rfl⟩ (calm_only _) (i := 7) rfl ⟨by kernel_rfl, by kernel_rfl, rfl⟩ trivial (stab_of hleu_14 trivial) (R.extract rfl rfl) rfl ?_
        refine JA.one (i := 9) (by kernel_rfl) ?_
        refine JO.step rfl trivial rfl (fun K hK => ?_)
        refine JL.store 2 S25 rfl rfl rfl rfl rfl (Nat.le_of_ble_eq_true rfl) ?_
        refine JL.nil ?_
        refine hK _ _ _ (stab_of hleu_14 trivial) ?_
        refine JA.val ⟨by kernel_rfl, by kernel_rfl⟩ (calm_only _) (i := 10) rfl ⟨by kernel_rfl, by kernel_rfl, rfl⟩ trivial (stab_of hleu_14 trivial) (R.assign rfl) rfl ?_
        refine JA.doneN (by kernel_rfl) ?_
        obtain rfl := Option.some.inj hx
        refine JN.forget 0 ?_
        refine JN.front 1 rfl ?_
        exact JN.cut ⟨Hu_14, b_19, aoz_17, nz_17, capz_17, aor_18, nr_18, capr_18, Kr_18, rfl, rfl, rfl, (hleu_14), hb_19, hz_17, hr_18⟩ ⟨rfl, rfl, rfl, trivial⟩ rfl rfl
      · refine JO.step rfl trivial rfl (fun K hK => ?_)
        refine JL.callC (vs := [_]) (args := [_]) (K := []) (rst := [_, _]) E44 rfl rfl rfl picks0 (dev_place_ok p_4 _ _ hr_10) rfl (fun u_11 Ku_11 Hu_11 hRu_11 hleu_11 hfu_11 => ?_)
        obtain ⟨rfl, rfl, rfl, -⟩ := hRu_11
        refine JL.nil ?_
        refine hK _ _ _ (stab_of (Hle.refl _) trivial) ?_
        refine JA.one (i := 0) (by kernel_rfl) ?_
        refine JO.step rfl trivial rfl (fun K hK => ?_)
        refine JL.val rfl rfl (R.ldoN 1 (vs := [.slice aoa_2 na_2 capa_2, .slice aoa_3 na_3 capa_3]) S25 rfl rfl rfl rfl) ?_
        refine JL.nil ?_
        refine hK _ _ _ (stab_of (Hle.refl _) trivial) ?_
        refine JA.one (i := 4) (by kernel_rfl) ?_
        refine JO.step rfl trivial rfl (fun K hK => ?_)
        refine JL.callC (vs := [_, _, _]) (args := [_, _, _]) (K := [_]) (rst := [_]) E40 rfl rfl rfl (picks 1 rfl picks0) (dev_guarded_v2_ok p_1 x_9 p_1 _ ha_2 ha_3 ha_2 ha_3 _ hr_13) rfl (fun u_14 Ku_14 Hu_14 hRu_14 hleu_14 hfu_14 => ?_)
        obtain ⟨aoz_15, nz_15, capz_15, aoz_16, nz_16, capz_16, aoz_17, nz_17, capz_17, aor_18, nr_18, capr_18, Kr_18, rfl, rfl, hz_15, hz_16, hz_17, hr_18, hnewr_18, -⟩ := hRu_14
        replace hr_18 := (RowOf.base (RowOf.mono R_Write.mono (New.call (Hle.refl _)) hr_18) (fun p hp => (hfu_14 p (mem_seg 1 rfl hp)).resolve_left (hnewr_18 p hp)))
        replace hz_17 := IsSlice.mono (RSl.mono RU8.mono) (New.call (Hle.refl _)) hz_17
        refine JL.nil ?_
        refine hK _ _ _ (stab_of hleu_14 trivial) ?_
        refine JA.val ⟨by kernel_rfl, by kernel_rfl⟩ (calm_only _) (i := 5) rfl ⟨by kernel_rfl, by kernel_rfl, rfl⟩ trivial (stab_of hleu_14 trivial) (R.move rfl) rfl ?_
        refine JA.val ⟨by kernel_rfl, by kernel_rfl⟩ (calm_only _) (i := 6) rfl ⟨by kernel_rfl, by kernel_rfl, rfl⟩ trivial (stab_of hleu_14 trivial) (R.extract rfl rfl) rfl ?_
        refine JA.val ⟨by kernel_rfl, by kernel_rfl⟩ (calm_only _) (i := 7) rfl ⟨by kernel_rfl, by kernel_rfl, rfl⟩ trivial (stab_of hleu_14 trivial) (R.extract rfl rfl) rfl ?_
        refine JA.one (i := 9) (by kernel_rfl) ?_
        refine JO.step rfl trivial rfl (fun K hK => ?_)
        refine JL.store 2 S25 rfl rfl rfl rfl rfl (Nat.le_of_ble_eq_true rfl) ?_
        refine JL.nil ?_
        refine hK _ _ _ (stab_of hleu_14 trivial) ?_
        refine JA.val ⟨by kernel_rfl, by kernel_rfl⟩ (calm_only _) (i := 10) rfl ⟨by kernel_rfl, by kernel_rfl, rfl⟩ trivial (stab_of hleu_14 trivial) (R.assign rfl) rfl ?_
        refine JA.doneN (by kernel_rfl) ?_
        obtain rfl := Option.some.inj hx
        refine JN.forget 0 ?_
        refine JN.front 1 rfl ?_
        exact JN.cut ⟨Hu_14, b_19, aoz_17, nz_17, capz_17, aor_18, nr_18, capr_18, Kr_18, rfl, rfl, rfl, (hleu_14), hb_19, hz_17, hr_18⟩ ⟨rfl, rfl, rfl, trivial⟩ rfl rfl

set_option maxHeartbeats 8000000 in
theorem store_Look_ok (p_1 : Store) (p_5 : Ptr) (H : Heaplet) {aoa_2 : Option Addr} {na_2 : Nat} {capa_2 : Nat} {aoa_3 : Option Addr} {na_3 : Nat} {capa_3 : Nat} {aoa_4 : Option Addr} {na_4 : Nat} {capa_4 : Nat} (ha_2 : IsSlice H (RSl RU8 1) 1 (.slice aoa_2 na_2 capa_2) p_1.Disk.Blocks) (ha_3 : IsSlice H R_Write 2 (.slice aoa_3 na_3 capa_3) p_1.Disk.Waits) (ha_4 : IsSlice H RU8 1 (.slice aoa_4 na_4 capa_4) p_1.Space) (r : List UInt8 × Int) (hx : store_Look p_1 p_5 = some r) :
    Does Try.prog 20 #[.agg #[.slice aoa_2 na_2 capa_2, .slice aoa_3 na_3 capa_3, .slice aoa_4 na_4 capa_4, .int .u32 (p_1.Epoch.toNat : Int), .int .u32 (p_1.Count.toNat : Int)], .agg #[.int .i64 p_5.At, .int .u32 (p_5.Birth.toNat : Int), .int .u32 (p_5.Iv.toNat : Int), .int .u32 (p_5.Tag.toNat : Int), .int .u32 (p_5.Sum.toNat : Int)]] [] H (fun u K' H' => ∃ ao0 : Option Addr, ∃ n0 : Nat, ∃ cap0 : Nat, u = .tuple #[.slice ao0 n0 cap0, .int .i64 r.2] ∧ K' = [] ∧ IsSlice (New H H') RU8 1 (.slice ao0 n0 cap0) r.1 ∧ True) := by
  refine Does.enterL (vs := [.agg #[.slice aoa_2 na_2 capa_2, .slice aoa_3 na_3 capa_3, .slice aoa_4 na_4 capa_4, .int .u32 (p_1.Epoch.toNat : Int), .int .u32 (p_1.Count.toNat : Int)], .agg #[.int .i64 p_5.At, .int .u32 (p_5.Birth.toNat : Int), .int .u32 (p_5.Iv.toNat : Int), .int .u32 (p_5.Tag.toNat : Int), .int .u32 (p_5.Sum.toNat : Int)]]) (l := [(0, .agg #[.slice aoa_2 na_2 capa_2, .slice aoa_3 na_3 capa_3, .slice aoa_4 na_4 capa_4, .int .u32 (p_1.Epoch.toNat : Int), .int .u32 (p_1.Count.toNat : Int)]), (1, .agg #[.int .i64 p_5.At, .int .u32 (p_5.Birth.toNat : Int), .int .u32 (p_5.Iv.toNat : Int), .int .u32 (p_5.Tag.toNat : Int), .int .u32 (p_5.Sum.toNat : Int)])]) Try.func20 rfl rfl ⟨rfl, rfl, trivial⟩ (fun w hlt => ?_)
  unfold store_Look at hx
  refine JC.seq ?_
  refine JC.region ?_
  refine JL.box rfl rfl (fun b_6 hb_6 => ?_)
  refine JL.box rfl rfl (fun b_7 hb_7 => ?_)
  refine JL.val rfl rfl (R.assign rfl) ?_
  refine JL.val rfl rfl (R.assign rfl) ?_
  refine JL.nil ?_
  refine JN.next ?_
  refine JC.seq ?_
  refine JC.seq ?_
  refine JC.region ?_
  refine JL.val rfl rfl (R.ldoN 1 (vs := [.slice aoa_2 na_2 capa_2, .slice aoa_3 na_3 capa_3, .slice aoa_4 na_4 capa_4, .int .u32 (p_1.Epoch.toNat : Int), .int .u32 (p_1.Count.toNat : Int)]) S29 rfl rfl rfl rfl) ?_
  obtain ⟨x_8, hr_9, hx⟩ := bnd_some hx
  refine JL.callC (vs := [_]) (args := [_]) (K := []) (rst := [_, _]) E24 rfl rfl rfl picks0 (store_Check_ok p_1 _ ha_2 ha_3 ha_4 _ hr_9) rfl (fun u_10 Ku_10 Hu_10 hRu_10 hleu_10 hfu_10 => ?_)
  obtain ⟨rfl, rfl, rfl, -⟩ := hRu_10
  refine JL.val rfl rfl (R.neq_i rfl rfl) ?_
  refine JL.val rfl rfl (R.move rfl) ?_
  refine JL.gSplit (t := 11) rfl (fun c_11 => ?_) (fun c_11 => ?_)
  · replace hx := cond_t c_11 hx
    refine JL.gNo rfl rfl rfl rfl rfl ?_
    refine JL.gNo rfl rfl rfl rfl rfl ?_
    refine JL.gNo rfl rfl rfl rfl rfl ?_
    refine JL.val rfl rfl (R.pickT rfl rfl) ?_
    refine JL.nil ?_
    refine JN.next ?_
    refine JC.condT rfl ?_
    refine JC.seq ?_
    refine JC.region ?_
    refine JL.val rfl rfl (R.assign rfl) ?_
    refine JL.val rfl rfl (R.assign rfl) ?_
    refine JL.nil ?_
    refine JN.next ?_
    refine JC.ret ?_
    refine JN.passR ?_
    refine JN.outP (vs := [.slice none 0 0, .int .i64 8]) (K := []) (rst := [_, _]) (.inl rfl) rfl rfl (Res.tmp rfl (Res.tmp rfl rfl)) picks0 ?_
    obtain rfl := Option.some.inj hx
    exact ⟨none, 0, 0, rfl, rfl, (IsSlice.nil _ _ _), trivial⟩
  · replace hx := cond_f c_11 hx
    refine JL.gYes rfl rfl rfl ?_
    refine JL.val rfl rfl (R.ldoN 0 (vs := [.int .i64 p_5.At, .int .u32 (p_5.Birth.toNat : Int), .int .u32 (p_5.Iv.toNat : Int), .int .u32 (p_5.Tag.toNat : Int), .int .u32 (p_5.Sum.toNat : Int)]) S33 rfl rfl rfl rfl) ?_
    refine JL.gYes rfl rfl rfl ?_
    obtain ⟨x_12, hr_13, hx⟩ := bnd_some hx
    refine JL.callC (vs := [_]) (args := [_]) (K := []) (rst := [_, _]) E38 rfl rfl rfl picks0 (ptr_Check_ok p_5 _ _ hr_13) rfl (fun u_14 Ku_14 Hu_14 hRu_14 hleu_14 hfu_14 => ?_)
    obtain ⟨rfl, rfl, rfl, -⟩ := hRu_14
    refine JL.gYes rfl rfl rfl ?_
    refine JL.val rfl rfl (R.neq_i rfl rfl) ?_
    refine JL.val rfl rfl (R.pickF rfl rfl) ?_
    refine JL.nil ?_
    refine JN.next ?_
    refine JC.condB rfl (fun c_15 => ?_) (fun c_15 => ?_)
    · replace hx := cond_t c_15 hx
      refine JC.seq ?_
      refine JC.region ?_
      refine JL.val rfl rfl (R.assign rfl) ?_
      refine JL.val rfl rfl (R.assign rfl) ?_
      refine JL.nil ?_
      refine JN.next ?_
      refine JC.ret ?_
      refine JN.passR ?_
      refine JN.outP (vs := [.slice none 0 0, .int .i64 8]) (K := []) (rst := [_, _]) (.inl rfl) rfl rfl (Res.tmp rfl (Res.tmp rfl rfl)) picks0 ?_
      obtain rfl := Option.some.inj hx
      exact ⟨none, 0, 0, rfl, rfl, (IsSlice.nil _ _ _), trivial⟩
    · replace hx := cond_f c_15 hx
      refine JC.skip ?_
      refine JN.next ?_
      refine JC.seq ?_
      refine JC.seq ?_
      refine JC.region ?_
      refine JL.val rfl rfl (R.ldoN 0 (vs := [.int .i64 p_5.At, .int .u32 (p_5.Birth.toNat : Int), .int .u32 (p_5.Iv.toNat : Int), .int .u32 (p_5.Tag.toNat : Int), .int .u32 (p_5.Sum.toNat : Int)]) S33 rfl rfl rfl rfl) ?_
      refine JL.val rfl rfl (R.bldP (vs := []) (cs := [.int .i64 0, .int .u32 ((0 : UInt32).toNat : Int), .int .u32 ((0 : UInt32).toNat : Int), .int .u32 ((0 : UInt32).toNat : Int), .int .u32 ((0 : UInt32).toNat : Int)]) Z33 B33 rfl rfl rfl) ?_
      refine JL.val rfl rfl (R.eqlAgg QU33 QP33 QG33 QF33 rfl rfl (EqF.i (by decide) S3 U3 rfl rfl (EqF.u32 (a := p_5.Birth) (b := (0 : UInt32)) (by decide) S27 U27 rfl rfl (EqF.u32 (a := p_5.Iv) (b := (0 : UInt32)) (by decide) S27 U27 rfl rfl (EqF.u32 (a := p_5.Tag) (b := (0 : UInt32)) (by decide) S27 U27 rfl rfl (EqF.u32 (a := p_5.Sum) (b := (0 : UInt32)) (by decide) S27 U27 rfl rfl EqF.nil)))))) ?_
      refine JL.nil ?_
      refine JN.next ?_
      refine JC.condB rfl (fun c_16 => ?_) (fun c_16 => ?_)
      · replace hx := cond_t c_16 hx
        refine JC.seq ?_
        refine JC.region ?_
        refine JL.val rfl rfl (R.assign rfl) ?_
        refine JL.val rfl rfl (R.assign rfl) ?_
        refine JL.nil ?_
        refine JN.next ?_
        refine JC.ret ?_
        refine JN.passR ?_
        refine JN.outP (vs := [.slice none 0 0, .int .i64 6]) (K := []) (rst := [_, _]) (.inl rfl) rfl rfl (Res.tmp rfl (Res.tmp rfl rfl)) picks0 ?_
        obtain rfl := Option.some.inj hx
        exact ⟨none, 0, 0, rfl, rfl, (IsSlice.nil _ _ _), trivial⟩
      · replace hx := cond_f c_16 hx
        refine JC.skip ?_
        refine JN.next ?_
        refine JC.seq ?_
        refine JC.region ?_
        refine JL.val rfl rfl (R.fa F29_0 rfl) ?_
        refine JL.val rfl rfl (R.ldoN 1 (vs := [.slice aoa_2 na_2 capa_2, .slice aoa_3 na_3 capa_3]) S25 rfl rfl rfl rfl) ?_
        refine JL.val rfl rfl (R.fa F33_0 rfl) ?_
        refine JL.val rfl rfl (R.ldo 0 S3 rfl rfl rfl) ?_
        obtain ⟨x_17, hr_18, hx⟩ := bnd_some hx
        refine JL.callC (vs := [_, _]) (args := [_, _]) (K := []) (rst := [_, _]) E39 rfl rfl rfl picks0 (dev_Read_ok (Disk.mk p_1.Disk.Blocks p_1.Disk.Waits) p_5.At _ ha_2 ha_3 _ hr_18) rfl (fun u_19 Ku_19 Hu_19 hRu_19 hleu_19 hfu_19 => ?_)
        obtain ⟨aoz_20, nz_20, capz_20, rfl, rfl, hz_20, -⟩ := hRu_19
        replace hz_20 := IsSlice.mono RU8.mono (New.call (Hle.refl _)) hz_20
        refine JL.val rfl rfl (R.move rfl) ?_
        refine JL.val rfl rfl (R.extract rfl rfl) ?_
        refine JL.val rfl rfl (R.extract rfl rfl) ?_
        refine JL.val rfl rfl (R.assign rfl) ?_
        refine JL.val rfl rfl (R.assign rfl) ?_
        refine JL.nil ?_
        refine JN.next ?_
        refine JC.seq ?_
        obtain ⟨t_21, ht_23, hx⟩ := bnd_some hx
        refine JC.cut (fun l o g => ∃ H_29 : Heaplet, ∃ aoz_30 : Option Addr, ∃ nz_30 : Nat, ∃ capz_30 : Nat, l = [(6, .slice aoz_30 nz_30 capz_30), (7, .int .i64 t_21.2)] ∧ o = [] ∧ H_29 = g ∧ Hle Hu_19 H_29 ∧ IsSlice (New H H_29) RU8 1 (.slice aoz_30 nz_30 capz_30) t_21.1) ?_ ?_
        · rintro _ _ _ ⟨H_29, aoz_30, nz_30, capz_30, rfl, rfl, rfl, hleH_29, hz_30⟩
          refine JN.next ?_
          refine JC.seq ?_
          refine JC.region ?_
          refine JL.val rfl rfl (R.move rfl) ?_
          refine JL.val rfl rfl (R.move rfl) ?_
          refine JL.val rfl rfl (R.assign rfl) ?_
          refine JL.val rfl rfl (R.assign rfl) ?_
          refine JL.nil ?_
          refine JN.next ?_
          refine JC.ret ?_
          refine JN.outP (vs := [.slice aoz_30 nz_30 capz_30, .int .i64 t_21.2]) (K := []) (rst := []) (.inl rfl) rfl rfl (Res.tmp rfl (Res.tmp rfl rfl)) picks0 ?_
          obtain rfl := Option.some.inj hx
          exact ⟨aoz_30, nz_30, capz_30, rfl, rfl, hz_30, trivial⟩
        · have hxo_22 := hx; clear hx; have hx := ht_23; clear ht_23
          refine JC.seq ?_
          refine JC.draw (so := [_, _]) 9 rfl Mixed ⟨⟨0, rfl⟩, ⟨1, rfl⟩, trivial⟩ ?_
          refine JA.val ⟨by kernel_rfl, by kernel_rfl⟩ (calm_only _) (i := 0) rfl ⟨by kernel_rfl, by kernel_rfl, rfl⟩ trivial (stab_of (Hle.refl _) ⟨⟨0, rfl⟩, ⟨1, rfl⟩, trivial⟩) (R.move rfl) rfl ?_
          refine JA.val ⟨by kernel_rfl, by kernel_rfl⟩ (calm_only _) (i := 1) rfl ⟨by kernel_rfl, by kernel_rfl, rfl⟩ trivial (stab_of (Hle.refl _) ⟨⟨0, rfl⟩, ⟨1, rfl⟩, trivial⟩) (R.eql_i rfl rfl) rfl ?_
          refine JA.val ⟨by kernel_rfl, by kernel_rfl⟩ (calm_only _) (i := 2) rfl ⟨by kernel_rfl, by kernel_rfl, rfl⟩ trivial (stab_of (Hle.refl _) ⟨⟨0, rfl⟩, ⟨1, rfl⟩, trivial⟩) (R.move rfl) rfl ?_
          refine JA.gSplit (t := 29) rfl (fun c_24 => ?_) (fun c_24 => ?_)
          · replace hx := cond_t c_24 hx
            refine JA.val ⟨by kernel_rfl, by kernel_rfl⟩ (calm_only _) (i := 3) rfl ⟨by kernel_rfl, by kernel_rfl, rfl⟩ ⟨_, _, rfl, rfl, rfl⟩ (stab_of (Hle.refl _) ⟨⟨0, rfl⟩, ⟨1, rfl⟩, trivial⟩) (R.move rfl) rfl ?_
            refine JA.val ⟨by kernel_rfl, by kernel_rfl⟩ (calm_only _) (i := 5) rfl ⟨by kernel_rfl, by kernel_rfl, rfl⟩ ⟨_, _, rfl, rfl, rfl⟩ (stab_of (Hle.refl _) ⟨⟨0, rfl⟩, ⟨1, rfl⟩, trivial⟩) (R.fa F33_4 rfl) rfl ?_
            refine JA.val ⟨by kernel_rfl, by kernel_rfl⟩ (calm_only _) (i := 6) rfl ⟨by kernel_rfl, by kernel_rfl, rfl⟩ ⟨_, _, rfl, rfl, rfl⟩ (stab_of (Hle.refl _) ⟨⟨0, rfl⟩, ⟨1, rfl⟩, trivial⟩) (R.ldo 0 S27 rfl rfl rfl) rfl ?_
            refine JA.one (i := 4) (by kernel_rfl) ?_
            refine JO.step rfl ⟨_, _, rfl, rfl, rfl⟩ rfl (fun K hK => ?_)
            obtain ⟨x_25, hr_26, hx⟩ := bnd_some hx
            refine JL.callC (vs := [_]) (args := [_]) (K := []) (rst := [_, _]) E23 rfl rfl rfl picks0 (mix_Sum_ok x_17.1 _ (hz_20.old RU8.mono) _ hr_26) rfl (fun u_27 Ku_27 Hu_27 hRu_27 hleu_27 hfu_27 => ?_)
            obtain ⟨rfl, rfl, -⟩ := hRu_27
            refine JL.nil ?_
            refine hK _ _ _ (stab_of hleu_27 ⟨⟨0, rfl⟩, ⟨1, rfl⟩, trivial⟩) ?_
            refine JA.val ⟨by kernel_rfl, by kernel_rfl⟩ (calm_only _) (i := 7) rfl ⟨by kernel_rfl, by kernel_rfl, rfl⟩ ⟨_, _, rfl, rfl, rfl⟩ (stab_of hleu_27 ⟨⟨0, rfl⟩, ⟨1, rfl⟩, trivial⟩) (R.neq32 (a := x_25) (b := p_5.Sum) rfl rfl) rfl ?_
            refine JA.val ⟨by kernel_rfl, by kernel_rfl⟩ (calm_only _) (i := 8) rfl ⟨by kernel_rfl, by kernel_rfl, rfl⟩ trivial (stab_of hleu_27 ⟨⟨0, rfl⟩, ⟨1, rfl⟩, trivial⟩) (R.pickT rfl rfl) rfl ?_
            refine JA.doneN (by kernel_rfl) ?_
            refine JN.next ?_
            refine JC.condB rfl (fun c_28 => ?_) (fun c_28 => ?_)
            · replace hx := cond_t c_28 hx
              refine JC.region ?_
              refine JL.val rfl rfl (R.assign rfl) ?_
              refine JL.val rfl rfl (R.assign rfl) ?_
              refine JL.nil ?_
              obtain rfl := Option.some.inj hx
              refine JN.forget 1 ?_
              refine JN.forget 0 ?_
              exact JN.cut ⟨Hu_27, none, 0, 0, rfl, rfl, rfl, (hleu_27), (IsSlice.nil _ _ _)⟩ ⟨rfl, rfl, trivial⟩ rfl rfl
            · replace hx := cond_f c_28 hx
              refine JC.skip ?_
              obtain rfl := Option.some.inj hx
              refine JN.forget 1 ?_
              refine JN.forget 0 ?_
              exact JN.cut ⟨Hu_27, aoz_20, nz_20, capz_20, rfl, rfl, rfl, (hleu_27), (hz_20.mono RU8.mono (New.mono hleu_27))⟩ ⟨rfl, rfl, trivial⟩ rfl rfl
          · replace hx := cond_f c_24 hx
            refine JA.no ⟨by kernel_rfl, by kernel_rfl⟩ (calm_only _) (i := 3) rfl ⟨by kernel_rfl, by kernel_rfl, rfl⟩ rfl rfl rfl rfl (stab_of (Hle.refl _) ⟨⟨0, rfl⟩, ⟨1, rfl⟩, trivial⟩) rfl ?_
            refine JA.no ⟨by kernel_rfl, by kernel_rfl⟩ (calm_only _) (i := 4) rfl ⟨by kernel_rfl, by kernel_rfl, rfl⟩ rfl rfl rfl rfl (stab_of (Hle.refl _) ⟨⟨0, rfl⟩, ⟨1, rfl⟩, trivial⟩) rfl ?_
            refine JA.no ⟨by kernel_rfl, by kernel_rfl⟩ (calm_only _) (i := 5) rfl ⟨by kernel_rfl, by kernel_rfl, rfl⟩ rfl rfl rfl rfl (stab_of (Hle.refl _) ⟨⟨0, rfl⟩, ⟨1, rfl⟩, trivial⟩) rfl ?_
            refine JA.no ⟨by kernel_rfl, by kernel_rfl⟩ (calm_only _) (i := 6) rfl ⟨by kernel_rfl, by kernel_rfl, rfl⟩ rfl rfl rfl rfl (stab_of (Hle.refl _) ⟨⟨0, rfl⟩, ⟨1, rfl⟩, trivial⟩) rfl ?_
            refine JA.no ⟨by kernel_rfl, by kernel_rfl⟩ (calm_only _) (i := 7) rfl ⟨by kernel_rfl, by kernel_rfl, rfl⟩ rfl rfl rfl rfl (stab_of (Hle.refl _) ⟨⟨0, rfl⟩, ⟨1, rfl⟩, trivial⟩) rfl ?_
            refine JA.val ⟨by kernel_rfl, by kernel_rfl⟩ (calm_only _) (i := 8) rfl ⟨by kernel_rfl, by kernel_rfl, rfl⟩ trivial (stab_of (Hle.refl _) ⟨⟨0, rfl⟩, ⟨1, rfl⟩, trivial⟩) (R.pickF rfl rfl) rfl ?_
            refine JA.doneN (by kernel_rfl) ?_
            refine JN.next ?_
            refine JC.condF rfl ?_
            refine JC.skip ?_
            obtain rfl := Option.some.inj hx
            refine JN.forget 1 ?_
            refine JN.forget 0 ?_
            exact JN.cut ⟨Hu_19, aoz_20, nz_20, capz_20, rfl, rfl, rfl, (Hle.refl _), hz_20⟩ ⟨rfl, rfl, trivial⟩ rfl rfl

set_option maxHeartbeats 8000000 in
theorem seal_Open_ok (p_1 : List UInt8) (p_3 : UInt32) (p_4 : List UInt8) (p_6 : UInt32) (H : Heaplet) {aoa_2 : Option Addr} {na_2 : Nat} {capa_2 : Nat} {aoa_5 : Option Addr} {na_5 : Nat} {capa_5 : Nat} (ha_2 : IsSlice H RU8 1 (.slice aoa_2 na_2 capa_2) p_1) (ha_5 : IsSlice H RU8 1 (.slice aoa_5 na_5 capa_5) p_4) (r : List UInt8 × Int) (hx : seal_Open p_1 p_3 p_4 p_6 = some r) :
    Does Try.prog 62 #[.slice aoa_2 na_2 capa_2, .int .u32 (p_3.toNat : Int), .slice aoa_5 na_5 capa_5, .int .u32 (p_6.toNat : Int)] [] H (fun u K' H' => ∃ ao0 : Option Addr, ∃ n0 : Nat, ∃ cap0 : Nat, ∃ K0 : Own, u = .tuple #[.slice ao0 n0 cap0, .int .i64 r.2] ∧ K' = [K0] ∧ RowOf (New H H') RU8 0 5 1 (.slice ao0 n0 cap0) r.1 K0 ∧ (∀ p ∈ K0, p.1 ∉ ids (List.flatten [])) ∧ True) := by
  refine Does.enterL (vs := [.slice aoa_2 na_2 capa_2, .int .u32 (p_3.toNat : Int), .slice aoa_5 na_5 capa_5, .int .u32 (p_6.toNat : Int)]) (l := [(0, .slice aoa_2 na_2 capa_2), (1, .int .u32 (p_3.toNat : Int)), (2, .slice aoa_5 na_5 capa_5), (3, .int .u32 (p_6.toNat : Int))]) Try.func62 rfl rfl ⟨rfl, rfl, rfl, rfl, trivial⟩ (fun w hlt => ?_)
  unfold seal_Open at hx
  refine JC.seq ?_
  refine JC.region ?_
  refine JL.val rfl rfl (R.assign rfl) ?_
  refine JL.val rfl rfl (R.assign rfl) ?_
  refine JL.nil ?_
  refine JN.next ?_
  refine JC.seq ?_
  refine JC.region ?_
  refine JL.val rfl rfl (R.move rfl) ?_
  refine JL.val rfl rfl (R.move rfl) ?_
  refine JL.val rfl rfl (R.move rfl) ?_
  obtain ⟨x_7, hr_8, hx⟩ := bnd_some hx
  refine JL.callC (vs := [_, _, _]) (args := [_, _, _]) (K := []) (rst := []) E51 rfl rfl rfl picks0 (seal_turned_ok p_1 p_3 p_4 _ ha_2 ha_5 _ hr_8) rfl (fun u_9 Ku_9 Hu_9 hRu_9 hleu_9 hfu_9 => ?_)
  obtain ⟨aor_10, nr_10, capr_10, Kr_10, rfl, rfl, hr_10, hnewr_10, -⟩ := hRu_9
  replace hr_10 := (RowOf.base (RowOf.const (H2 := New H Hu_9) RU8.const hr_10) (fun p hp => (hfu_9 p (mem_seg 0 rfl hp)).resolve_left (hnewr_10 p hp)))
  refine JL.val rfl rfl (R.move rfl) ?_
  refine JL.val rfl rfl (R.extract rfl rfl) ?_
  refine JL.val rfl rfl (R.extract rfl rfl) ?_
  refine JL.val rfl rfl (R.assign rfl) ?_
  refine JL.val rfl rfl (R.assign rfl) ?_
  refine JL.nil ?_
  refine JN.next ?_
  refine JC.seq ?_
  refine JC.seq ?_
  refine JC.region ?_
  refine JL.val rfl rfl (R.move rfl) ?_
  refine JL.val rfl rfl (R.neq_i rfl rfl) ?_
  refine JL.nil ?_
  refine JN.next ?_
  refine JC.condB rfl (fun c_11 => ?_) (fun c_11 => ?_)
  · replace hx := cond_t c_11 hx
    refine JC.seq ?_
    refine JC.region ?_
    refine JL.val rfl rfl (R.move rfl) ?_
    refine JL.val rfl rfl (R.assign rfl) ?_
    refine JL.val rfl rfl (R.assign rfl) ?_
    refine JL.nil ?_
    refine JN.next ?_
    refine JC.ret ?_
    refine JN.passR ?_
    refine JN.seg0 ?_
    refine JN.outP (vs := [.slice none 0 0, .int .i64 x_7.2]) (K := [_]) (rst := [_]) (.inl rfl) rfl rfl (Res.tmp rfl (Res.tmp rfl rfl)) (picks 0 rfl picks0) ?_
    obtain rfl := Option.some.inj hx
    exact ⟨none, 0, 0, [], rfl, rfl, (RowOf.nil _ _ _ _ _), (fun p hp => by cases hp), trivial⟩
  · replace hx := cond_f c_11 hx
    refine JC.skip ?_
    refine JN.next ?_
    refine JC.seq ?_
    refine JC.seq ?_
    refine JC.region ?_
    refine JL.val rfl rfl (R.move rfl) ?_
    refine JL.val rfl rfl (R.move rfl) ?_
    refine JL.val rfl rfl (R.move rfl) ?_
    obtain ⟨x_12, hr_13, hx⟩ := bnd_some hx
    refine JL.callC (vs := [_, _, _]) (args := [_, _, _]) (K := []) (rst := [_]) E52 rfl rfl rfl picks0 (seal_tagged_ok p_1 p_3 p_4 _ (ha_2.mono RU8.mono hleu_9) (ha_5.mono RU8.mono hleu_9) _ hr_13) rfl (fun u_14 Ku_14 Hu_14 hRu_14 hleu_14 hfu_14 => ?_)
    obtain ⟨rfl, rfl, -⟩ := hRu_14
    refine JL.val rfl rfl (R.move rfl) ?_
    refine JL.val rfl rfl (R.extract rfl rfl) ?_
    refine JL.val rfl rfl (R.extract rfl rfl) ?_
    refine JL.val rfl rfl (R.assign rfl) ?_
    refine JL.val rfl rfl (R.assign rfl) ?_
    refine JL.nil ?_
    refine JN.next ?_
    refine JC.seq ?_
    refine JC.region ?_
    refine JL.val rfl rfl (R.move rfl) ?_
    refine JL.val rfl rfl (R.neq_i rfl rfl) ?_
    refine JL.val rfl rfl (R.move rfl) ?_
    refine JL.gSplit (t := 33) rfl (fun c_15 => ?_) (fun c_15 => ?_)
    · replace hx := cond_t c_15 hx
      refine JL.gNo rfl rfl rfl rfl rfl ?_
      refine JL.gNo rfl rfl rfl rfl rfl ?_
      refine JL.gNo rfl rfl rfl rfl rfl ?_
      refine JL.val rfl rfl (R.pickT rfl rfl) ?_
      refine JL.nil ?_
      refine JN.next ?_
      refine JC.condT rfl ?_
      refine JC.seq ?_
      refine JC.region ?_
      refine JL.val rfl rfl (R.assign rfl) ?_
      refine JL.val rfl rfl (R.assign rfl) ?_
      refine JL.nil ?_
      refine JN.next ?_
      refine JC.ret ?_
      refine JN.passR ?_
      refine JN.seg0 ?_
      refine JN.outP (vs := [.slice none 0 0, .int .i64 131]) (K := [_]) (rst := [_]) (.inl rfl) rfl rfl (Res.tmp rfl (Res.tmp rfl rfl)) (picks 0 rfl picks0) ?_
      obtain rfl := Option.some.inj hx
      exact ⟨none, 0, 0, [], rfl, rfl, (RowOf.nil _ _ _ _ _), (fun p hp => by cases hp), trivial⟩
    · replace hx := cond_f c_15 hx
      refine JL.gYes rfl rfl rfl ?_
      refine JL.val rfl rfl (R.move rfl) ?_
      refine JL.gYes rfl rfl rfl ?_
      refine JL.val rfl rfl (R.move rfl) ?_
      refine JL.gYes rfl rfl rfl ?_
      refine JL.val rfl rfl (R.neq32 (a := x_12.1) (b := p_6) rfl rfl) ?_
      refine JL.val rfl rfl (R.pickF rfl rfl) ?_
      refine JL.nil ?_
      refine JN.next ?_
      refine JC.condB rfl (fun c_16 => ?_) (fun c_16 => ?_)
      · replace hx := cond_t c_16 hx
        refine JC.seq ?_
        refine JC.region ?_
        refine JL.val rfl rfl (R.assign rfl) ?_
        refine JL.val rfl rfl (R.assign rfl) ?_
        refine JL.nil ?_
        refine JN.next ?_
        refine JC.ret ?_
        refine JN.passR ?_
        refine JN.seg0 ?_
        refine JN.outP (vs := [.slice none 0 0, .int .i64 131]) (K := [_]) (rst := [_]) (.inl rfl) rfl rfl (Res.tmp rfl (Res.tmp rfl rfl)) (picks 0 rfl picks0) ?_
        obtain rfl := Option.some.inj hx
        exact ⟨none, 0, 0, [], rfl, rfl, (RowOf.nil _ _ _ _ _), (fun p hp => by cases hp), trivial⟩
      · replace hx := cond_f c_16 hx
        refine JC.skip ?_
        refine JN.next ?_
        refine JC.seq ?_
        refine JC.region ?_
        refine JL.val rfl rfl (R.move rfl) ?_
        refine JL.val rfl rfl (R.assign rfl) ?_
        refine JL.val rfl rfl (R.assign rfl) ?_
        refine JL.nil ?_
        refine JN.next ?_
        refine JC.ret ?_
        refine JN.outP (vs := [.slice aor_10 nr_10 capr_10, .int .i64 0]) (K := [_]) (rst := []) (.inl rfl) rfl rfl (Res.tmp rfl (Res.tmp rfl rfl)) (picks 0 rfl picks0) ?_
        obtain rfl := Option.some.inj hx
        exact ⟨aor_10, nr_10, capr_10, Kr_10, rfl, rfl, (RowOf.weak (Nat.zero_le _) (hr_10.mono RU8.mono (New.mono hleu_14))), (new_ids (hr_10.mono RU8.mono (New.mono hleu_14)) hlt), trivial⟩

set_option maxHeartbeats 8000000 in
theorem store_Open_ok (p_1 : Store) (p_5 : Ptr) (p_6 : List UInt8) (H : Heaplet) {aoa_2 : Option Addr} {na_2 : Nat} {capa_2 : Nat} {aoa_3 : Option Addr} {na_3 : Nat} {capa_3 : Nat} {aoa_4 : Option Addr} {na_4 : Nat} {capa_4 : Nat} {aoa_7 : Option Addr} {na_7 : Nat} {capa_7 : Nat} (ha_2 : IsSlice H (RSl RU8 1) 1 (.slice aoa_2 na_2 capa_2) p_1.Disk.Blocks) (ha_3 : IsSlice H R_Write 2 (.slice aoa_3 na_3 capa_3) p_1.Disk.Waits) (ha_4 : IsSlice H RU8 1 (.slice aoa_4 na_4 capa_4) p_1.Space) (ha_7 : IsSlice H RU8 1 (.slice aoa_7 na_7 capa_7) p_6) (r : List UInt8 × Int) (hx : store_Open p_1 p_5 p_6 = some r) :
    Does Try.prog 35 #[.agg #[.slice aoa_2 na_2 capa_2, .slice aoa_3 na_3 capa_3, .slice aoa_4 na_4 capa_4, .int .u32 (p_1.Epoch.toNat : Int), .int .u32 (p_1.Count.toNat : Int)], .agg #[.int .i64 p_5.At, .int .u32 (p_5.Birth.toNat : Int), .int .u32 (p_5.Iv.toNat : Int), .int .u32 (p_5.Tag.toNat : Int), .int .u32 (p_5.Sum.toNat : Int)], .slice aoa_7 na_7 capa_7] [] H (fun u K' H' => ∃ ao0 : Option Addr, ∃ n0 : Nat, ∃ cap0 : Nat, ∃ K0 : Own, u = .tuple #[.slice ao0 n0 cap0, .int .i64 r.2] ∧ K' = [K0] ∧ RowOf (New H H') RU8 0 5 1 (.slice ao0 n0 cap0) r.1 K0 ∧ (∀ p ∈ K0, p.1 ∉ ids (List.flatten [])) ∧ True) := by
  refine Does.enterL (vs := [.agg #[.slice aoa_2 na_2 capa_2, .slice aoa_3 na_3 capa_3, .slice aoa_4 na_4 capa_4, .int .u32 (p_1.Epoch.toNat : Int), .int .u32 (p_1.Count.toNat : Int)], .agg #[.int .i64 p_5.At, .int .u32 (p_5.Birth.toNat : Int), .int .u32 (p_5.Iv.toNat : Int), .int .u32 (p_5.Tag.toNat : Int), .int .u32 (p_5.Sum.toNat : Int)], .slice aoa_7 na_7 capa_7]) (l := [(0, .agg #[.slice aoa_2 na_2 capa_2, .slice aoa_3 na_3 capa_3, .slice aoa_4 na_4 capa_4, .int .u32 (p_1.Epoch.toNat : Int), .int .u32 (p_1.Count.toNat : Int)]), (1, .agg #[.int .i64 p_5.At, .int .u32 (p_5.Birth.toNat : Int), .int .u32 (p_5.Iv.toNat : Int), .int .u32 (p_5.Tag.toNat : Int), .int .u32 (p_5.Sum.toNat : Int)]), (2, .slice aoa_7 na_7 capa_7)]) Try.func35 rfl rfl ⟨rfl, rfl, rfl, trivial⟩ (fun w hlt => ?_)
  unfold store_Open at hx
  refine JC.seq ?_
  refine JC.region ?_
  refine JL.box rfl rfl (fun b_8 hb_8 => ?_)
  refine JL.box rfl rfl (fun b_9 hb_9 => ?_)
  refine JL.val rfl rfl (R.assign rfl) ?_
  refine JL.val rfl rfl (R.assign rfl) ?_
  refine JL.nil ?_
  refine JN.next ?_
  refine JC.seq ?_
  refine JC.region ?_
  refine JL.val rfl rfl (R.ldoN 1 (vs := [.slice aoa_2 na_2 capa_2, .slice aoa_3 na_3 capa_3, .slice aoa_4 na_4 capa_4, .int .u32 (p_1.Epoch.toNat : Int), .int .u32 (p_1.Count.toNat : Int)]) S29 rfl rfl rfl rfl) ?_
  refine JL.val rfl rfl (R.ldoN 0 (vs := [.int .i64 p_5.At, .int .u32 (p_5.Birth.toNat : Int), .int .u32 (p_5.Iv.toNat : Int), .int .u32 (p_5.Tag.toNat : Int), .int .u32 (p_5.Sum.toNat : Int)]) S33 rfl rfl rfl rfl) ?_
  obtain ⟨x_10, hr_11, hx⟩ := bnd_some hx
  refine JL.callC (vs := [_, _]) (args := [_, _]) (K := []) (rst := [_, _]) E20 rfl rfl rfl picks0 (store_Look_ok p_1 p_5 _ ha_2 ha_3 ha_4 _ hr_11) rfl (fun u_12 Ku_12 Hu_12 hRu_12 hleu_12 hfu_12 => ?_)
  obtain ⟨aoz_13, nz_13, capz_13, rfl, rfl, hz_13, -⟩ := hRu_12
  replace hz_13 := IsSlice.mono RU8.mono (New.call (Hle.refl _)) hz_13
  refine JL.val rfl rfl (R.move rfl) ?_
  refine JL.val rfl rfl (R.extract rfl rfl) ?_
  refine JL.val rfl rfl (R.extract rfl rfl) ?_
  refine JL.val rfl rfl (R.assign rfl) ?_
  refine JL.val rfl rfl (R.assign rfl) ?_
  refine JL.nil ?_
  refine JN.next ?_
  refine JC.seq ?_
  refine JC.seq ?_
  refine JC.region ?_
  refine JL.val rfl rfl (R.move rfl) ?_
  refine JL.val rfl rfl (R.neq_i rfl rfl) ?_
  refine JL.nil ?_
  refine JN.next ?_
  refine JC.condB rfl (fun c_14 => ?_) (fun c_14 => ?_)
  · replace hx := cond_t c_14 hx
    refine JC.seq ?_
    refine JC.region ?_
    refine JL.val rfl rfl (R.move rfl) ?_
    refine JL.val rfl rfl (R.assign rfl) ?_
    refine JL.val rfl rfl (R.assign rfl) ?_
    refine JL.nil ?_
    refine JN.next ?_
    refine JC.ret ?_
    refine JN.passR ?_
    refine JN.seg0 ?_
    refine JN.outP (vs := [.slice none 0 0, .int .i64 x_10.2]) (K := [_]) (rst := [_, _]) (.inl rfl) rfl rfl (Res.tmp rfl (Res.tmp rfl rfl)) (picks 0 rfl picks0) ?_
    obtain rfl := Option.some.inj hx
    exact ⟨none, 0, 0, [], rfl, rfl, (RowOf.nil _ _ _ _ _), (fun p hp => by cases hp), trivial⟩
  · replace hx := cond_f c_14 hx
    refine JC.skip ?_
    refine JN.next ?_
    refine JC.seq ?_
    refine JC.seq ?_
    refine JC.region ?_
    refine JL.val rfl rfl (R.move rfl) ?_
    refine JL.val rfl rfl (R.lenL U26 rfl (IsSlice.long ha_7)) ?_
    refine JL.val rfl rfl (R.neq_i rfl rfl) ?_
    refine JL.nil ?_
    refine JN.next ?_
    refine JC.condB rfl (fun c_15 => ?_) (fun c_15 => ?_)
    · replace hx := cond_t c_15 hx
      refine JC.seq ?_
      refine JC.region ?_
      refine JL.val rfl rfl (R.assign rfl) ?_
      refine JL.val rfl rfl (R.assign rfl) ?_
      refine JL.nil ?_
      refine JN.next ?_
      refine JC.ret ?_
      refine JN.passR ?_
      refine JN.seg0 ?_
      refine JN.outP (vs := [.slice none 0 0, .int .i64 3]) (K := [_]) (rst := [_, _]) (.inl rfl) rfl rfl (Res.tmp rfl (Res.tmp rfl rfl)) (picks 0 rfl picks0) ?_
      obtain rfl := Option.some.inj hx
      exact ⟨none, 0, 0, [], rfl, rfl, (RowOf.nil _ _ _ _ _), (fun p hp => by cases hp), trivial⟩
    · replace hx := cond_f c_15 hx
      refine JC.skip ?_
      refine JN.next ?_
      refine JC.seq ?_
      refine JC.region ?_
      refine JL.val rfl rfl (R.move rfl) ?_
      refine JL.val rfl rfl (R.fa F33_2 rfl) ?_
      refine JL.val rfl rfl (R.ldo 0 S27 rfl rfl rfl) ?_
      refine JL.val rfl rfl (R.move rfl) ?_
      refine JL.val rfl rfl (R.fa F33_3 rfl) ?_
      refine JL.val rfl rfl (R.ldo 0 S27 rfl rfl rfl) ?_
      obtain ⟨x_16, hr_17, hx⟩ := bnd_some hx
      refine JL.callC (vs := [_, _, _, _]) (args := [_, _, _, _]) (K := []) (rst := [_, _]) E62 rfl rfl rfl picks0 (seal_Open_ok p_6 p_5.Iv x_10.1 p_5.Tag _ (ha_7.mono RU8.mono hleu_12) (hz_13.old RU8.mono) _ hr_17) rfl (fun u_18 Ku_18 Hu_18 hRu_18 hleu_18 hfu_18 => ?_)
      obtain ⟨aor_19, nr_19, capr_19, Kr_19, rfl, rfl, hr_19, hnewr_19, -⟩ := hRu_18
      replace hr_19 := (RowOf.base (RowOf.const (H2 := New H Hu_18) RU8.const hr_19) (fun p hp => (hfu_18 p (mem_seg 0 rfl hp)).resolve_left (hnewr_19 p hp)))
      refine JL.val rfl rfl (R.move rfl) ?_
      refine JL.val rfl rfl (R.extract rfl rfl) ?_
      refine JL.val rfl rfl (R.extract rfl rfl) ?_
      refine JL.val rfl rfl (R.assign rfl) ?_
      refine JL.val rfl rfl (R.assign rfl) ?_
      refine JL.nil ?_
      refine JN.next ?_
      refine JC.seq ?_
      refine JC.seq ?_
      refine JC.region ?_
      refine JL.val rfl rfl (R.move rfl) ?_
      refine JL.val rfl rfl (R.neq_i rfl rfl) ?_
      refine JL.nil ?_
      refine JN.next ?_
      refine JC.condB rfl (fun c_20 => ?_) (fun c_20 => ?_)
      · replace hx := cond_t c_20 hx
        refine JC.seq ?_
        refine JC.region ?_
        refine JL.val rfl rfl (R.assign rfl) ?_
        refine JL.val rfl rfl (R.assign rfl) ?_
        refine JL.nil ?_
        refine JN.next ?_
        refine JC.ret ?_
        refine JN.passR ?_
        refine JN.seg0 ?_
        refine JN.outP (vs := [.slice none 0 0, .int .i64 131]) (K := [_]) (rst := [_, _, _]) (.inl rfl) rfl rfl (Res.tmp rfl (Res.tmp rfl rfl)) (picks 0 rfl picks0) ?_
        obtain rfl := Option.some.inj hx
        exact ⟨none, 0, 0, [], rfl, rfl, (RowOf.nil _ _ _ _ _), (fun p hp => by cases hp), trivial⟩
      · replace hx := cond_f c_20 hx
        refine JC.skip ?_
        refine JN.next ?_
        refine JC.seq ?_
        refine JC.region ?_
        refine JL.val rfl rfl (R.move rfl) ?_
        refine JL.val rfl rfl (R.assign rfl) ?_
        refine JL.val rfl rfl (R.assign rfl) ?_
        refine JL.nil ?_
        refine JN.next ?_
        refine JC.ret ?_
        refine JN.outP (vs := [.slice aor_19 nr_19 capr_19, .int .i64 0]) (K := [_]) (rst := [_, _]) (.inl rfl) rfl rfl (Res.tmp rfl (Res.tmp rfl rfl)) (picks 0 rfl picks0) ?_
        obtain rfl := Option.some.inj hx
        exact ⟨aor_19, nr_19, capr_19, Kr_19, rfl, rfl, (RowOf.weak (Nat.zero_le _) hr_19), (new_ids hr_19 hlt), trivial⟩

set_option maxHeartbeats 8000000 in
theorem law13_alive_ok (H : Heaplet) (r : Bool) (hx : law13_alive = some r) :
    Does Try.prog 18 #[] [] H (fun u K' H' => u = .bool r ∧ K' = [] ∧ True) := by
  refine Does.enterL (vs := []) (l := []) Try.func18 rfl rfl trivial (fun w hlt => ?_)
  unfold law13_alive at hx
  refine JC.seq ?_
  refine JC.region ?_
  refine JL.val rfl rfl (R.assign rfl) ?_
  refine JL.nil ?_
  refine JN.next ?_
  refine JC.seq ?_
  obtain ⟨t_1, ht_3, hx⟩ := bnd_some hx
  refine JC.cut (fun l o g => ∃ aor_12 : Option Addr, ∃ nr_12 : Nat, ∃ capr_12 : Nat, ∃ Kr_12 : Own, ∃ aor_13 : Option Addr, ∃ nr_13 : Nat, ∃ capr_13 : Nat, ∃ Kr_13 : Own, l = [(1, .slice aor_12 nr_12 capr_12), (2, .slice aor_13 nr_13 capr_13)] ∧ o = [Kr_12, Kr_13] ∧ H = g ∧ RowOf (New H H) RU8 w.heap.size 5 1 (.slice aor_12 nr_12 capr_12) t_1.1 Kr_12 ∧ RowOf (New H H) RU8 w.heap.size 5 1 (.slice aor_13 nr_13 capr_13) t_1.2 Kr_13) ?_ ?_
  · rintro _ _ _ ⟨aor_12, nr_12, capr_12, Kr_12, aor_13, nr_13, capr_13, Kr_13, rfl, rfl, rfl, hr_12, hr_13⟩
    refine JN.next ?_
    refine JC.seq ?_
    refine JC.region ?_
    obtain ⟨x_14, hr_15, hx⟩ := bnd_some hx
    refine JL.callC (vs := []) (args := []) (K := []) (rst := [_, _]) E19 rfl rfl rfl picks0 (store_New_ok _ _ hr_15) rfl (fun u_16 Ku_16 Hu_16 hRu_16 hleu_16 hfu_16 => ?_)
    obtain ⟨aor_17, nr_17, capr_17, Kr_17, aoz_18, nz_18, aor_19, nr_19, capr_19, Kr_19, rfl, rfl, hr_17, hnewr_17, hz_18, hr_19, hnewr_19, -⟩ := hRu_16
    replace hr_17 := (Pcs.base hr_17 (fun p hp => (hfu_16 p (mem_seg 0 rfl hp)).resolve_left (hnewr_17 p hp)))
    replace hr_19 := (RowOf.base (RowOf.const (H2 := New H Hu_16) RU8.const hr_19) (fun p hp => (hfu_16 p (mem_seg 1 rfl hp)).resolve_left (hnewr_19 p hp)))
    replace hz_18 := IsSlice.mono R_Write.mono (New.call (Hle.refl _)) hz_18
    refine JL.val rfl rfl (R.move rfl) ?_
    refine JL.val rfl rfl (R.move rfl) ?_
    refine JL.pubPcs 0  rfl hr_17 (Nat.le_refl _) (fun H_20 hleH_20 hsH_20 => ?_)
    refine JL.forget 0 ?_
    refine JL.pubN 0 RU8.mono rfl (hr_19.mono RU8.mono (New.mono hleH_20)) (Nat.le_refl _) (fun H_21 hleH_21 hsH_21 => ?_)
    refine JL.forget 0 ?_
    refine JL.pubN 1 RU8.mono rfl (hr_13.mono RU8.mono (New.mono (hleu_16.trans (hleH_20.trans hleH_21)))) (Nat.le_refl _) (fun H_22 hleH_22 hsH_22 => ?_)
    refine JL.forget 1 ?_
    refine JL.pubN 0 RU8.mono rfl (hr_12.mono RU8.mono (New.mono (hleu_16.trans (hleH_20.trans (hleH_21.trans hleH_22))))) (Nat.le_refl _) (fun H_23 hleH_23 hsH_23 => ?_)
    refine JL.forget 0 ?_
    obtain ⟨x_24, hr_25, hx⟩ := bnd_some hx
    refine JL.callC (vs := [_, _, _, _]) (args := [_, _, _, _]) (K := []) (rst := []) E12 rfl rfl rfl picks0 (store_Seal_ok x_14 (1 : UInt32) t_1.2 t_1.1 _ ((hsH_20.mono (RSl.mono RU8.mono) (New.mono (hleH_21.trans (hleH_22.trans hleH_23)))).old (RSl.mono RU8.mono)) ((hz_18.mono R_Write.mono (New.mono (hleH_20.trans (hleH_21.trans (hleH_22.trans hleH_23))))).old R_Write.mono) ((hsH_21.mono RU8.mono (New.mono (hleH_22.trans hleH_23))).old RU8.mono) ((hsH_22.mono RU8.mono (New.mono hleH_23)).old RU8.mono) (hsH_23.old RU8.mono) _ hr_25) rfl (fun u_26 Ku_26 Hu_26 hRu_26 hleu_26 hfu_26 => ?_)
    obtain ⟨aoz_27, nz_27, capz_27, aor_28, nr_28, capr_28, Kr_28, aor_29, nr_29, capr_29, Kr_29, rfl, rfl, hz_27, hr_28, hnewr_28, hr_29, hnewr_29, -⟩ := hRu_26
    replace hr_28 := (RowOf.base (RowOf.mono R_Write.mono (New.call (hleu_16.trans (hleH_20.trans (hleH_21.trans (hleH_22.trans hleH_23))))) hr_28) (fun p hp => (hfu_26 p (mem_seg 0 rfl hp)).resolve_left (hnewr_28 p hp)))
    replace hr_29 := (RowOf.base (RowOf.const (H2 := New H Hu_26) RU8.const hr_29) (fun p hp => (hfu_26 p (mem_seg 1 rfl hp)).resolve_left (hnewr_29 p hp)))
    replace hz_27 := IsSlice.mono (RSl.mono RU8.mono) (New.call (hleu_16.trans (hleH_20.trans (hleH_21.trans (hleH_22.trans hleH_23))))) hz_27
    refine JL.val rfl rfl (R.move rfl) ?_
    refine JL.val rfl rfl (R.extract rfl rfl) ?_
    refine JL.val rfl rfl (R.extract rfl rfl) ?_
    refine JL.val rfl rfl (R.extract rfl rfl) ?_
    refine JL.alloc Z29 rfl (fun b_30 hb_30 => ?_)
    refine JL.alloc Z33 rfl (fun b_31 hb_31 => ?_)
    refine JL.store 1 S29 rfl rfl rfl rfl rfl (Nat.le_of_ble_eq_true rfl) ?_
    refine JL.store 0 S33 rfl rfl rfl rfl rfl (Nat.le_of_ble_eq_true rfl) ?_
    refine JL.val rfl rfl (R.assign rfl) ?_
    refine JL.nil ?_
    refine JN.next ?_
    refine JC.seq ?_
    refine JC.region ?_
    refine JL.val rfl rfl (R.ldoN 1 (vs := [.slice aoz_27 nz_27 capz_27, .slice aor_28 nr_28 capr_28, .slice aor_29 nr_29 capr_29, .int .u32 (x_24.1.Epoch.toNat : Int), .int .u32 (x_24.1.Count.toNat : Int)]) S29 rfl rfl rfl rfl) ?_
    refine JL.val rfl rfl (R.ldoN 0 (vs := [.int .i64 x_24.2.1.At, .int .u32 (x_24.2.1.Birth.toNat : Int), .int .u32 (x_24.2.1.Iv.toNat : Int), .int .u32 (x_24.2.1.Tag.toNat : Int), .int .u32 (x_24.2.1.Sum.toNat : Int)]) S33 rfl rfl rfl rfl) ?_
    refine JL.val rfl rfl (R.move rfl) ?_
    obtain ⟨x_35, hr_36, hx⟩ := bnd_some hx
    refine JL.callL3 (vs := [_, _, _]) E35 rfl rfl (fun H_34 hle_33 hl_32 => store_Open_ok x_24.1 x_24.2.1 t_1.2 _ (IsSlice.mono (RSl.mono RU8.mono) hle_33 (hz_27.old (RSl.mono RU8.mono))) (Lent.row' 2 hl_32 R_Write.mono hle_33 rfl (hr_28.old R_Write.mono)) (Lent.row' 3 hl_32 RU8.mono hle_33 rfl (hr_29.old RU8.mono)) (IsSlice.mono RU8.mono hle_33 ((hsH_22.mono RU8.mono (New.mono (hleH_23.trans hleu_26))).old RU8.mono)) _ hr_36) rfl (fun _ _ _ _ hR_38 hf_39 => ?_)
    obtain ⟨aor_37, nr_37, capr_37, Kr_37, rfl, rfl, hr_37, -, -⟩ := hR_38
    replace hr_37 := RowOf.base (RowOf.const (H2 := New H Hu_26) RU8.const hr_37) (fun p hp => hf_39 p (mem_seg 0 rfl hp))
    refine JL.val rfl rfl (R.move rfl) ?_
    refine JL.val rfl rfl (R.extract rfl rfl) ?_
    refine JL.val rfl rfl (R.extract rfl rfl) ?_
    refine JL.val rfl rfl (R.assign rfl) ?_
    refine JL.val rfl rfl (R.assign rfl) ?_
    refine JL.nil ?_
    refine JN.next ?_
    refine JC.seq ?_
    obtain ⟨t_40, ht_42, hx⟩ := bnd_some hx
    refine JC.cut (fun l o g => ∃ H_49 : Heaplet, l = [(0, .bool t_40)] ∧ o = [] ∧ H_49 = g ∧ Hle Hu_26 H_49) ?_ ?_
    · rintro _ _ _ ⟨H_49, rfl, rfl, rfl, hleH_49⟩
      refine JN.next ?_
      refine JC.ret ?_
      refine JN.outP (vs := [.bool t_40]) (K := []) (rst := []) (.inl rfl) rfl rfl (Res.tmp rfl rfl) picks0 ?_
      obtain rfl := Option.some.inj hx
      exact ⟨rfl, rfl, trivial⟩
    · have hxo_41 := hx; clear hx; have hx := ht_42; clear ht_42
      refine JC.region ?_
      refine JL.val rfl rfl (R.move rfl) ?_
      refine JL.val rfl rfl (R.eql_i rfl rfl) ?_
      refine JL.val rfl rfl (R.move rfl) ?_
      refine JL.gSplit (t := 27) rfl (fun c_43 => ?_) (fun c_43 => ?_)
      · replace hx := cond_t c_43 hx
        refine JL.gYes rfl rfl rfl ?_
        refine JL.val rfl rfl (R.fa F33_0 rfl) ?_
        refine JL.gYes rfl rfl rfl ?_
        refine JL.val rfl rfl (R.ldo 1 S3 rfl rfl rfl) ?_
        refine JL.gYes rfl rfl rfl ?_
        refine JL.val rfl rfl (R.eql_i rfl rfl) ?_
        refine JL.val rfl rfl (R.pickT rfl rfl) ?_
        refine JL.val rfl rfl (R.move rfl) ?_
        refine JL.gSplit (t := 32) rfl (fun c_44 => ?_) (fun c_44 => ?_)
        · replace hx := cond_t c_44 hx
          refine JL.gYes rfl rfl rfl ?_
          refine JL.val rfl rfl (R.fa F33_2 rfl) ?_
          refine JL.gYes rfl rfl rfl ?_
          refine JL.val rfl rfl (R.ldo 1 S27 rfl rfl rfl) ?_
          refine JL.gYes rfl rfl rfl ?_
          refine JL.val rfl rfl (R.eql32 (a := x_24.2.1.Iv) (b := (65537 : UInt32)) rfl rfl) ?_
          refine JL.val rfl rfl (R.pickT rfl rfl) ?_
          refine JL.val rfl rfl (R.move rfl) ?_
          refine JL.gSplit (t := 37) rfl (fun c_45 => ?_) (fun c_45 => ?_)
          · replace hx := cond_t c_45 hx
            refine JL.gYes rfl rfl rfl ?_
            refine JL.val rfl rfl (R.fa F29_3 rfl) ?_
            refine JL.gYes rfl rfl rfl ?_
            refine JL.val rfl rfl (R.ldo 2 S27 rfl rfl rfl) ?_
            refine JL.gYes rfl rfl rfl ?_
            refine JL.val rfl rfl (R.eql32 (a := x_24.1.Count) (b := (1 : UInt32)) rfl rfl) ?_
            refine JL.val rfl rfl (R.pickT rfl rfl) ?_
            refine JL.val rfl rfl (R.move rfl) ?_
            refine JL.gSplit (t := 42) rfl (fun c_46 => ?_) (fun c_46 => ?_)
            · replace hx := cond_t c_46 hx
              refine JL.gYes rfl rfl rfl ?_
              refine JL.val rfl rfl (R.move rfl) ?_
              refine JL.gYes rfl rfl rfl ?_
              refine JL.val rfl rfl (R.eql_i rfl rfl) ?_
              refine JL.val rfl rfl (R.pickT rfl rfl) ?_
              refine JL.val rfl rfl (R.move rfl) ?_
              refine JL.gSplit (t := 46) rfl (fun c_47 => ?_) (fun c_47 => ?_)
              · replace hx := cond_t c_47 hx
                refine JL.gYes rfl rfl rfl ?_
                refine JL.val rfl rfl (R.move rfl) ?_
                refine JL.gYes rfl rfl rfl ?_
                refine JL.pubN 0 RU8.mono rfl hr_37 (Nat.le_refl _) (fun H_48 hleH_48 hsH_48 => ?_)
                refine JL.forget 0 ?_
                refine JL.val rfl rfl (R.toStr U26 U5 U9 rfl (hsH_48.old RU8.mono)) ?_
                refine JL.gYes rfl rfl rfl ?_
                refine JL.val rfl rfl (R.move rfl) ?_
                refine JL.gYes rfl rfl rfl ?_
                refine JL.val rfl rfl (R.toStr U26 U5 U9 rfl ((hsH_23.mono RU8.mono (New.mono (hleu_26.trans hleH_48))).old RU8.mono)) ?_
                refine JL.gYes rfl rfl rfl ?_
                refine JL.val rfl rfl (R.eqlStr (a := x_35.1) (b := t_1.1) rfl rfl) ?_
                refine JL.val rfl rfl (R.pickT rfl rfl) ?_
                refine JL.val rfl rfl (R.assign rfl) ?_
                refine JL.nil ?_
                obtain rfl := Option.some.inj hx
                refine JN.forget 3 ?_
                refine JN.forget 2 ?_
                refine JN.forget 1 ?_
                refine JN.forget 0 ?_
                exact JN.cut ⟨H_48, rfl, rfl, rfl, (hleH_48)⟩ ⟨rfl, trivial⟩ rfl rfl
              · replace hx := cond_f c_47 hx
                refine JL.gNo rfl rfl rfl rfl rfl ?_
                refine JL.gNo rfl rfl rfl rfl rfl ?_
                refine JL.gNo rfl rfl rfl rfl rfl ?_
                refine JL.gNo rfl rfl rfl rfl rfl ?_
                refine JL.gNo rfl rfl rfl rfl rfl ?_
                refine JL.val rfl rfl (R.pickF rfl rfl) ?_
                refine JL.val rfl rfl (R.assign rfl) ?_
                refine JL.nil ?_
                obtain rfl := Option.some.inj hx
                refine JN.forget 4 ?_
                refine JN.forget 3 ?_
                refine JN.forget 2 ?_
                refine JN.forget 1 ?_
                refine JN.forget 0 ?_
                exact JN.cut ⟨Hu_26, rfl, rfl, rfl, (Hle.refl _)⟩ ⟨rfl, trivial⟩ rfl rfl
            · replace hx := cond_f c_46 hx
              refine JL.gNo rfl rfl rfl rfl rfl ?_
              refine JL.gNo rfl rfl rfl rfl rfl ?_
              refine JL.val rfl rfl (R.pickF rfl rfl) ?_
              refine JL.val rfl rfl (R.move rfl) ?_
              refine JL.gNo rfl rfl rfl rfl rfl ?_
              refine JL.gNo rfl rfl rfl rfl rfl ?_
              refine JL.gNo rfl rfl rfl rfl rfl ?_
              refine JL.gNo rfl rfl rfl rfl rfl ?_
              refine JL.gNo rfl rfl rfl rfl rfl ?_
              refine JL.val rfl rfl (R.pickF rfl rfl) ?_
              refine JL.val rfl rfl (R.assign rfl) ?_
              refine JL.nil ?_
              obtain rfl := Option.some.inj hx
              refine JN.forget 4 ?_
              refine JN.forget 3 ?_
              refine JN.forget 2 ?_
              refine JN.forget 1 ?_
              refine JN.forget 0 ?_
              exact JN.cut ⟨Hu_26, rfl, rfl, rfl, (Hle.refl _)⟩ ⟨rfl, trivial⟩ rfl rfl
          · replace hx := cond_f c_45 hx
            refine JL.gNo rfl rfl rfl rfl rfl ?_
            refine JL.gNo rfl rfl rfl rfl rfl ?_
            refine JL.gNo rfl rfl rfl rfl rfl ?_
            refine JL.val rfl rfl (R.pickF rfl rfl) ?_
            refine JL.val rfl rfl (R.move rfl) ?_
            refine JL.gNo rfl rfl rfl rfl rfl ?_
            refine JL.gNo rfl rfl rfl rfl rfl ?_
            refine JL.val rfl rfl (R.pickF rfl rfl) ?_
            refine JL.val rfl rfl (R.move rfl) ?_
            refine JL.gNo rfl rfl rfl rfl rfl ?_
            refine JL.gNo rfl rfl rfl rfl rfl ?_
            refine JL.gNo rfl rfl rfl rfl rfl ?_
            refine JL.gNo rfl rfl rfl rfl rfl ?_
            refine JL.gNo rfl rfl rfl rfl rfl ?_
            refine JL.val rfl rfl (R.pickF rfl rfl) ?_
            refine JL.val rfl rfl (R.assign rfl) ?_
            refine JL.nil ?_
            obtain rfl := Option.some.inj hx
            refine JN.forget 4 ?_
            refine JN.forget 3 ?_
            refine JN.forget 2 ?_
            refine JN.forget 1 ?_
            refine JN.forget 0 ?_
            exact JN.cut ⟨Hu_26, rfl, rfl, rfl, (Hle.refl _)⟩ ⟨rfl, trivial⟩ rfl rfl
        · replace hx := cond_f c_44 hx
          refine JL.gNo rfl rfl rfl rfl rfl ?_
          refine JL.gNo rfl rfl rfl rfl rfl ?_
          refine JL.gNo rfl rfl rfl rfl rfl ?_
          refine JL.val rfl rfl (R.pickF rfl rfl) ?_
          refine JL.val rfl rfl (R.move rfl) ?_
          refine JL.gNo rfl rfl rfl rfl rfl ?_
          refine JL.gNo rfl rfl rfl rfl rfl ?_
          refine JL.gNo rfl rfl rfl rfl rfl ?_
          refine JL.val rfl rfl (R.pickF rfl rfl) ?_
          refine JL.val rfl rfl (R.move rfl) ?_
          refine JL.gNo rfl rfl rfl rfl rfl ?_
          refine JL.gNo rfl rfl rfl rfl rfl ?_
          refine JL.val rfl rfl (R.pickF rfl rfl) ?_
          refine JL.val rfl rfl (R.move rfl) ?_
          refine JL.gNo rfl rfl rfl rfl rfl ?_
          refine JL.gNo rfl rfl rfl rfl rfl ?_
          refine JL.gNo rfl rfl rfl rfl rfl ?_
          refine JL.gNo rfl rfl rfl rfl rfl ?_
          refine JL.gNo rfl rfl rfl rfl rfl ?_
          refine JL.val rfl rfl (R.pickF rfl rfl) ?_
          refine JL.val rfl rfl (R.assign rfl) ?_
          refine JL.nil ?_
          obtain rfl := Option.some.inj hx
          refine JN.forget 4 ?_
          refine JN.forget 3 ?_
          refine JN.forget 2 ?_
          refine JN.forget 1 ?_
          refine JN.forget 0 ?_
          exact JN.cut ⟨Hu_26, rfl, rfl, rfl, (Hle.refl _)⟩ ⟨rfl, trivial⟩ rfl rfl
      · replace hx := cond_f c_43 hx
        refine JL.gNo rfl rfl rfl rfl rfl ?_
        refine JL.gNo rfl rfl rfl rfl rfl ?_
        refine JL.gNo rfl rfl rfl rfl rfl ?_
        refine JL.val rfl rfl (R.pickF rfl rfl) ?_
        refine JL.val rfl rfl (R.move rfl) ?_
        refine JL.gNo rfl rfl rfl rfl rfl ?_
        refine JL.gNo rfl rfl rfl rfl rfl ?_
        refine JL.gNo rfl rfl rfl rfl rfl ?_
        refine JL.val rfl rfl (R.pickF rfl rfl) ?_
        refine JL.val rfl rfl (R.move rfl) ?_
        refine JL.gNo rfl rfl rfl rfl rfl ?_
        refine JL.gNo rfl rfl rfl rfl rfl ?_
        refine JL.gNo rfl rfl rfl rfl rfl ?_
        refine JL.val rfl rfl (R.pickF rfl rfl) ?_
        refine JL.val rfl rfl (R.move rfl) ?_
        refine JL.gNo rfl rfl rfl rfl rfl ?_
        refine JL.gNo rfl rfl rfl rfl rfl ?_
        refine JL.val rfl rfl (R.pickF rfl rfl) ?_
        refine JL.val rfl rfl (R.move rfl) ?_
        refine JL.gNo rfl rfl rfl rfl rfl ?_
        refine JL.gNo rfl rfl rfl rfl rfl ?_
        refine JL.gNo rfl rfl rfl rfl rfl ?_
        refine JL.gNo rfl rfl rfl rfl rfl ?_
        refine JL.gNo rfl rfl rfl rfl rfl ?_
        refine JL.val rfl rfl (R.pickF rfl rfl) ?_
        refine JL.val rfl rfl (R.assign rfl) ?_
        refine JL.nil ?_
        obtain rfl := Option.some.inj hx
        refine JN.forget 4 ?_
        refine JN.forget 3 ?_
        refine JN.forget 2 ?_
        refine JN.forget 1 ?_
        refine JN.forget 0 ?_
        exact JN.cut ⟨Hu_26, rfl, rfl, rfl, (Hle.refl _)⟩ ⟨rfl, trivial⟩ rfl rfl
  · have hxo_2 := hx; clear hx; have hx := ht_3; clear ht_3
    refine JC.draw (so := []) 4 rfl Mixed trivial ?_
    obtain ⟨x_6, hm_5, hc_4, hx⟩ := mks_some hx
    obtain ⟨x_10, hm_9, hc_8, hx⟩ := mks_some hx
    refine JA.two (i := 0) (j := 1) (by kernel_rfl) ?_ ?_
    · refine JO.step rfl trivial rfl (fun K hK => ?_)
      refine JL.mkF (HF := New H H) (R := RU8) (y := (0 : UInt8)) (n := 256) U26 I5 rfl rfl (fun _ => rfl) RU8.one hm_5 hc_4 rfl rfl (fun vr_7 Kr_7 hr_7 => ?_)
      obtain ⟨aor_7, capr_7, rfl⟩ := RowOf.val hr_7
      refine JL.nil ?_
      refine hK _ _ _ (stab_of (Hle.refl _) trivial) ?_
      refine JA.val ⟨by kernel_rfl, by kernel_rfl⟩ (calm_only _) (i := 2) rfl ⟨by kernel_rfl, by kernel_rfl, rfl⟩ trivial (stab_of (Hle.refl _) trivial) (R.assign rfl) rfl ?_
      refine JA.one (i := 1) (by kernel_rfl) ?_
      refine JO.step rfl trivial rfl (fun K hK => ?_)
      refine JL.mkF (HF := New H H) (R := RU8) (y := (0 : UInt8)) (n := 16) U26 I5 rfl rfl (fun _ => rfl) RU8.one hm_9 hc_8 rfl rfl (fun vr_11 Kr_11 hr_11 => ?_)
      obtain ⟨aor_11, capr_11, rfl⟩ := RowOf.val hr_11
      refine JL.nil ?_
      refine hK _ _ _ (stab_of (Hle.refl _) trivial) ?_
      refine JA.val ⟨by kernel_rfl, by kernel_rfl⟩ (calm_only _) (i := 3) rfl ⟨by kernel_rfl, by kernel_rfl, rfl⟩ trivial (stab_of (Hle.refl _) trivial) (R.assign rfl) rfl ?_
      refine JA.doneN (by kernel_rfl) ?_
      obtain rfl := Option.some.inj hx
      refine JN.front 1 rfl ?_
      exact JN.cut ⟨aor_7, x_6.length, capr_7, Kr_7, aor_11, x_10.length, capr_11, Kr_11, rfl, rfl, rfl, hr_7, hr_11⟩ ⟨rfl, rfl, trivial⟩ rfl rfl
    · refine JO.step rfl trivial rfl (fun K hK => ?_)
      refine JL.mkF (HF := New H H) (R := RU8) (y := (0 : UInt8)) (n := 16) U26 I5 rfl rfl (fun _ => rfl) RU8.one hm_9 hc_8 rfl rfl (fun vr_11 Kr_11 hr_11 => ?_)
      obtain ⟨aor_11, capr_11, rfl⟩ := RowOf.val hr_11
      refine JL.nil ?_
      refine hK _ _ _ (stab_of (Hle.refl _) trivial) ?_
      refine JA.one (i := 0) (by kernel_rfl) ?_
      refine JO.step rfl trivial rfl (fun K hK => ?_)
      refine JL.mkF (HF := New H H) (R := RU8) (y := (0 : UInt8)) (n := 256) U26 I5 rfl rfl (fun _ => rfl) RU8.one hm_5 hc_4 rfl rfl (fun vr_7 Kr_7 hr_7 => ?_)
      obtain ⟨aor_7, capr_7, rfl⟩ := RowOf.val hr_7
      refine JL.nil ?_
      refine hK _ _ _ (stab_of (Hle.refl _) trivial) ?_
      refine JA.val ⟨by kernel_rfl, by kernel_rfl⟩ (calm_only _) (i := 2) rfl ⟨by kernel_rfl, by kernel_rfl, rfl⟩ trivial (stab_of (Hle.refl _) trivial) (R.assign rfl) rfl ?_
      refine JA.val ⟨by kernel_rfl, by kernel_rfl⟩ (calm_only _) (i := 3) rfl ⟨by kernel_rfl, by kernel_rfl, rfl⟩ trivial (stab_of (Hle.refl _) trivial) (R.assign rfl) rfl ?_
      refine JA.doneN (by kernel_rfl) ?_
      obtain rfl := Option.some.inj hx
      refine JN.front 1 rfl ?_
      refine JN.front 1 rfl ?_
      exact JN.cut ⟨aor_7, x_6.length, capr_7, Kr_7, aor_11, x_10.length, capr_11, Kr_11, rfl, rfl, rfl, hr_7, hr_11⟩ ⟨rfl, rfl, trivial⟩ rfl rfl

set_option maxHeartbeats 8000000 in
theorem ref09_Great_ok (p_1 : Disk) (H : Heaplet) {aoa_2 : Option Addr} {na_2 : Nat} {capa_2 : Nat} {aoa_3 : Option Addr} {na_3 : Nat} {capa_3 : Nat} (ha_2 : IsSlice H (RSl RU8 1) 1 (.slice aoa_2 na_2 capa_2) p_1.Blocks) (ha_3 : IsSlice H R_Write 2 (.slice aoa_3 na_3 capa_3) p_1.Waits) (r : Bool) (hx : ref09_Great p_1 = some r) :
    Does Try.prog 26 #[.agg #[.slice aoa_2 na_2 capa_2, .slice aoa_3 na_3 capa_3]] [] H (fun u K' H' => u = .bool r ∧ K' = [] ∧ H = H' ∧ True) := by
  refine Does.enterL (vs := [.agg #[.slice aoa_2 na_2 capa_2, .slice aoa_3 na_3 capa_3]]) (l := [(0, .agg #[.slice aoa_2 na_2 capa_2, .slice aoa_3 na_3 capa_3])]) Try.func26 rfl rfl ⟨rfl, trivial⟩ (fun w hlt => ?_)
  unfold ref09_Great at hx
  refine JC.seq ?_
  refine JC.region ?_
  refine JL.box rfl rfl (fun b_4 hb_4 => ?_)
  refine JL.val rfl rfl (R.assign rfl) ?_
  refine JL.nil ?_
  refine JN.next ?_
  refine JC.seq ?_
  obtain ⟨t_5, ht_7, hx⟩ := bnd_some hx
  refine JC.cut (fun l o g => ∃ t_5a : Unit, l = [(1, .pointer (some ⟨b_4, 0, none⟩))] ∧ o = [[(b_4, .cells #[.slice aoa_2 na_2 capa_2, .slice aoa_3 na_3 capa_3] 25 (0, 0))]] ∧ H = g ∧ t_5 = .inl t_5a) ?_ ?_
  · rintro _ _ _ ⟨t_5a, rfl, rfl, rfl, rfl⟩
    simp only [Sum.elim_inl] at hx
    refine JN.next ?_
    refine JC.seq ?_
    refine JC.region ?_
    refine JL.val rfl rfl (R.assign rfl) ?_
    refine JL.nil ?_
    refine JN.next ?_
    refine JC.seq ?_
    refine JC.seq ?_
    refine JC.region ?_
    refine JL.val rfl rfl (R.assign rfl) ?_
    refine JL.nil ?_
    refine JN.next ?_
    obtain ⟨t_13, ht_15, hx⟩ := bnd_some hx
    refine JC.cut (fun l o g => l = [(1, .pointer (some ⟨b_4, 0, none⟩)), (3, .int .i64 t_13)] ∧ o = [[(b_4, .cells #[.slice aoa_2 na_2 capa_2, .slice aoa_3 na_3 capa_3] 25 (0, 0))]] ∧ H = g) ?_ ?_
    · rintro _ _ _ ⟨rfl, rfl, rfl⟩
      refine JN.next ?_
      refine JC.seq ?_
      refine JC.seq ?_
      refine JC.region ?_
      refine JL.val rfl rfl (R.assign rfl) ?_
      refine JL.nil ?_
      refine JN.next ?_
      obtain ⟨t_19, ht_21, hx⟩ := bnd_some hx
      refine JC.cut (fun l o g => l = [(3, .int .i64 t_19)] ∧ o = [] ∧ H = g) ?_ ?_
      · rintro _ _ _ ⟨rfl, rfl, rfl⟩
        refine JN.next ?_
        refine JC.seq ?_
        refine JC.region ?_
        refine JL.val rfl rfl (R.move rfl) ?_
        refine JL.val rfl rfl (R.geq_i rfl rfl) ?_
        refine JL.val rfl rfl (R.assign rfl) ?_
        refine JL.nil ?_
        refine JN.next ?_
        refine JC.ret ?_
        refine JN.outP (vs := [.bool (decide (2000000 ≤ t_19))]) (K := []) (rst := []) (.inl rfl) rfl rfl (Res.tmp rfl rfl) picks0 ?_
        obtain rfl := Option.some.inj hx
        exact ⟨rfl, rfl, rfl, trivial⟩
      · have hxo_20 := hx; clear hx; have hx := ht_21; clear ht_21
        refine JC.block ?_
        refine JC.loopI (fun n l o g => ∃ s_22 : Int × Nat, l = [(1, .pointer (some ⟨b_4, 0, none⟩)), (3, .int .i64 s_22.1), (5, .int .i64 ((s_22.2 : Nat) : Int))] ∧ o = [[(b_4, .cells #[.slice aoa_2 na_2 capa_2, .slice aoa_3 na_3 capa_3] 25 (0, 0))]] ∧ H = g ∧ run (ref09_Great_l2 p_1) n s_22 = some t_19) FUEL ?_ ⟨(t_13, 0), rfl, rfl, rfl, hx⟩ ⟨rfl, rfl, rfl, trivial⟩ ?_
        · rintro _ _ _ ⟨s_22, rfl, rfl, rfl, hn_23⟩
          exact run_zero hn_23
        · rintro n_24 _ _ _ ⟨s_22, rfl, rfl, rfl, hn_23⟩
          clear hx; obtain ⟨oo_26, hx, hd_25⟩ := run_some hn_23
          unfold ref09_Great_l2 at hx
          refine JC.seq ?_
          refine JC.seq ?_
          refine JC.region ?_
          refine JL.val rfl rfl (R.move rfl) ?_
          refine JL.val rfl rfl (R.fa F25_1 rfl) ?_
          refine JL.val rfl rfl (R.ldo 0 S23 rfl rfl rfl) ?_
          refine JL.val rfl rfl (R.lenL U23 rfl (IsSlice.long ha_3)) ?_
          refine JL.val rfl rfl (R.lss_i rfl rfl) ?_
          refine JL.val rfl rfl (R.move rfl) ?_
          refine JL.gSplit (t := 52) rfl (fun c_25 => ?_) (fun c_25 => ?_)
          · replace hx := cond_t c_25 hx
            refine JL.gYes rfl rfl rfl ?_
            refine JL.val rfl rfl (R.move rfl) ?_
            refine JL.gYes rfl rfl rfl ?_
            refine JL.val rfl rfl (R.lss_i rfl rfl) ?_
            refine JL.val rfl rfl (R.pickT rfl rfl) ?_
            refine JL.nil ?_
            refine JN.next ?_
            refine JC.condB rfl (fun c_26 => ?_) (fun c_26 => ?_)
            · replace hx := cond_t c_26 hx
              refine JC.skip ?_
              refine JN.next ?_
              refine JC.seq ?_
              refine JC.block ?_
              refine JC.region ?_
              refine JL.val rfl rfl (R.move rfl) ?_
              refine JL.val rfl rfl (R.fa F25_1 rfl) ?_
              refine JL.val rfl rfl (R.ldo 0 S23 rfl rfl rfl) ?_
              refine JL.val rfl rfl (R.move rfl) ?_
              obtain ⟨y_27, hN_28, hx⟩ := idx_some hx
              obtain ⟨b_29, o_30, cs_31, hE_32, hR_33, hl_34, hc_35⟩ := IsSlice.elem ha_3 hN_28
              obtain ⟨v_36, rfl, hs_37⟩ := hR_33
              obtain ⟨aov_36, capv_36, rfl⟩ := IsSlice.val hs_37
              refine JL.val rfl rfl (R.ix U23 S72 rfl rfl hE_32) ?_
              refine JL.val rfl rfl (R.fa F72_1 rfl) ?_
              refine JL.val rfl rfl (R.ldH S26 rfl (hc_35 1 _ rfl)) ?_
              refine JL.val rfl rfl (R.lenL U26 rfl (IsSlice.long hs_37)) ?_
              refine JL.val rfl rfl (R.add_i rfl rfl) ?_
              refine JL.val rfl rfl (R.assign rfl) ?_
              refine JL.nil ?_
              refine JN.blkN ?_
              refine JN.next ?_
              refine JC.region ?_
              refine JL.val rfl rfl (R.move rfl) ?_
              refine JL.val rfl rfl (R.inc rfl rfl (of_decide_eq_true c_25) (IsSlice.lenI ha_3)) ?_
              refine JL.val rfl rfl (R.assign rfl) ?_
              refine JL.nil ?_
              replace hx := run_next hd_25 hx
              exact JN.cut ⟨(w64 (s_22.1 + (y_27.Data.length : Int)), s_22.2 + 1), rfl, rfl, rfl, hx⟩ ⟨rfl, rfl, rfl, trivial⟩ rfl rfl
            · replace hx := cond_f c_26 hx
              refine JC.exit ?_
              refine JN.passX ?_
              obtain rfl := run_done hd_25 hx
              refine JN.passX ?_
              refine JN.exitSame ?_
              refine JN.forget 0 ?_
              exact JN.cut ⟨rfl, rfl, rfl⟩ ⟨rfl, trivial⟩ rfl rfl
          · replace hx := cond_f c_25 hx
            refine JL.gNo rfl rfl rfl rfl rfl ?_
            refine JL.gNo rfl rfl rfl rfl rfl ?_
            refine JL.val rfl rfl (R.pickF rfl rfl) ?_
            refine JL.nil ?_
            refine JN.next ?_
            refine JC.condF rfl ?_
            refine JC.exit ?_
            refine JN.passX ?_
            obtain rfl := run_done hd_25 hx
            refine JN.passX ?_
            refine JN.exitSame ?_
            refine JN.forget 0 ?_
            exact JN.cut ⟨rfl, rfl, rfl⟩ ⟨rfl, trivial⟩ rfl rfl
    · have hxo_14 := hx; clear hx; have hx := ht_15; clear ht_15
      refine JC.block ?_
      refine JC.loopI (fun n l o g => ∃ s_16 : Int × Nat, l = [(1, .pointer (some ⟨b_4, 0, none⟩)), (3, .int .i64 s_16.1), (4, .int .i64 ((s_16.2 : Nat) : Int))] ∧ o = [[(b_4, .cells #[.slice aoa_2 na_2 capa_2, .slice aoa_3 na_3 capa_3] 25 (0, 0))]] ∧ H = g ∧ run (ref09_Great_l1 p_1) n s_16 = some t_13) FUEL ?_ ⟨(0, 0), rfl, rfl, rfl, hx⟩ ⟨rfl, rfl, rfl, trivial⟩ ?_
      · rintro _ _ _ ⟨s_16, rfl, rfl, rfl, hn_17⟩
        exact run_zero hn_17
      · rintro n_18 _ _ _ ⟨s_16, rfl, rfl, rfl, hn_17⟩
        clear hx; obtain ⟨oo_20, hx, hd_19⟩ := run_some hn_17
        unfold ref09_Great_l1 at hx
        refine JC.seq ?_
        refine JC.seq ?_
        refine JC.region ?_
        refine JL.val rfl rfl (R.move rfl) ?_
        refine JL.val rfl rfl (R.fa F25_0 rfl) ?_
        refine JL.val rfl rfl (R.ldo 0 S22 rfl rfl rfl) ?_
        refine JL.val rfl rfl (R.lenL U22 rfl (IsSlice.long ha_2)) ?_
        refine JL.val rfl rfl (R.lss_i rfl rfl) ?_
        refine JL.val rfl rfl (R.move rfl) ?_
        refine JL.gSplit (t := 33) rfl (fun c_19 => ?_) (fun c_19 => ?_)
        · replace hx := cond_t c_19 hx
          refine JL.gYes rfl rfl rfl ?_
          refine JL.val rfl rfl (R.move rfl) ?_
          refine JL.gYes rfl rfl rfl ?_
          refine JL.val rfl rfl (R.lss_i rfl rfl) ?_
          refine JL.val rfl rfl (R.pickT rfl rfl) ?_
          refine JL.nil ?_
          refine JN.next ?_
          refine JC.condB rfl (fun c_20 => ?_) (fun c_20 => ?_)
          · replace hx := cond_t c_20 hx
            refine JC.skip ?_
            refine JN.next ?_
            refine JC.seq ?_
            refine JC.block ?_
            refine JC.region ?_
            refine JL.val rfl rfl (R.move rfl) ?_
            refine JL.val rfl rfl (R.fa F25_0 rfl) ?_
            refine JL.val rfl rfl (R.ldo 0 S22 rfl rfl rfl) ?_
            refine JL.val rfl rfl (R.move rfl) ?_
            obtain ⟨y_21, hN_22, hx⟩ := idx_some hx
            obtain ⟨b_23, o_24, cs_25, hE_26, hR_27, hl_28, hc_29⟩ := IsSlice.elem ha_2 hN_22
            obtain ⟨v_30, rfl, hs_31⟩ := hR_27
            obtain ⟨aov_30, capv_30, rfl⟩ := IsSlice.val hs_31
            refine JL.val rfl rfl (R.ix U22 S26 rfl rfl hE_26) ?_
            refine JL.val rfl rfl (R.ldH S26 rfl (hc_29 0 _ rfl)) ?_
            refine JL.val rfl rfl (R.lenL U26 rfl (IsSlice.long hs_31)) ?_
            refine JL.val rfl rfl (R.add_i rfl rfl) ?_
            refine JL.val rfl rfl (R.assign rfl) ?_
            refine JL.nil ?_
            refine JN.blkN ?_
            refine JN.next ?_
            refine JC.region ?_
            refine JL.val rfl rfl (R.move rfl) ?_
            refine JL.val rfl rfl (R.inc rfl rfl (of_decide_eq_true c_19) (IsSlice.lenI ha_2)) ?_
            refine JL.val rfl rfl (R.assign rfl) ?_
            refine JL.nil ?_
            replace hx := run_next hd_19 hx
            exact JN.cut ⟨(w64 (s_16.1 + (y_21.length : Int)), s_16.2 + 1), rfl, rfl, rfl, hx⟩ ⟨rfl, rfl, rfl, trivial⟩ rfl rfl
          · replace hx := cond_f c_20 hx
            refine JC.exit ?_
            refine JN.passX ?_
            obtain rfl := run_done hd_19 hx
            refine JN.passX ?_
            refine JN.exitSame ?_
            exact JN.cut ⟨rfl, rfl, rfl⟩ ⟨rfl, rfl, trivial⟩ rfl rfl
        · replace hx := cond_f c_19 hx
          refine JL.gNo rfl rfl rfl rfl rfl ?_
          refine JL.gNo rfl rfl rfl rfl rfl ?_
          refine JL.val rfl rfl (R.pickF rfl rfl) ?_
          refine JL.nil ?_
          refine JN.next ?_
          refine JC.condF rfl ?_
          refine JC.exit ?_
          refine JN.passX ?_
          obtain rfl := run_done hd_19 hx
          refine JN.passX ?_
          refine JN.exitSame ?_
          exact JN.cut ⟨rfl, rfl, rfl⟩ ⟨rfl, rfl, trivial⟩ rfl rfl
  · have hxo_6 := hx; clear hx; have hx := ht_7; clear ht_7
    refine JC.seq ?_
    refine JC.region ?_
    refine JL.val rfl rfl (R.fa F25_0 rfl) ?_
    refine JL.val rfl rfl (R.ldo 0 S22 rfl rfl rfl) ?_
    refine JL.val rfl rfl (R.lenL U22 rfl (IsSlice.long ha_2)) ?_
    refine JL.val rfl rfl (R.gtr_i rfl rfl) ?_
    refine JL.val rfl rfl (R.move rfl) ?_
    refine JL.gSplit (t := 10) rfl (fun c_8 => ?_) (fun c_8 => ?_)
    · replace hx := cond_t c_8 hx
      refine JL.gNo rfl rfl rfl rfl rfl ?_
      refine JL.gNo rfl rfl rfl rfl rfl ?_
      refine JL.gNo rfl rfl rfl rfl rfl ?_
      refine JL.gNo rfl rfl rfl rfl rfl ?_
      refine JL.gNo rfl rfl rfl rfl rfl ?_
      refine JL.gNoU rfl rfl rfl rfl ?_
      refine JL.gNoU rfl rfl rfl rfl ?_
      refine JL.gNoU rfl rfl rfl rfl ?_
      refine JL.gNoU rfl rfl rfl rfl ?_
      refine JL.gNo rfl rfl rfl rfl rfl ?_
      refine JL.val rfl rfl (R.pickT rfl rfl) ?_
      refine JL.val rfl rfl (R.move rfl) ?_
      refine JL.gNo rfl rfl rfl rfl rfl ?_
      refine JL.gNo rfl rfl rfl rfl rfl ?_
      refine JL.gNo rfl rfl rfl rfl rfl ?_
      refine JL.gNo rfl rfl rfl rfl rfl ?_
      refine JL.val rfl rfl (R.pickT rfl rfl) ?_
      refine JL.nil ?_
      refine JN.next ?_
      refine JC.condT rfl ?_
      refine JC.seq ?_
      refine JC.region ?_
      refine JL.val rfl rfl (R.assign rfl) ?_
      refine JL.nil ?_
      refine JN.next ?_
      refine JC.ret ?_
      obtain rfl := Option.some.inj hx
      clear hx; have hx := hxo_6
      simp only [Sum.elim_inl, Sum.elim_inr] at hx
      refine JN.passR ?_
      refine JN.passR ?_
      refine JN.outP (vs := [.bool true]) (K := []) (rst := [_]) (.inl rfl) rfl rfl (Res.tmp rfl rfl) picks0 ?_
      obtain rfl := Option.some.inj hx
      exact ⟨rfl, rfl, rfl, trivial⟩
    · replace hx := cond_f c_8 hx
      refine JL.gYes rfl rfl rfl ?_
      refine JL.val rfl rfl (R.fa F25_1 rfl) ?_
      refine JL.gYes rfl rfl rfl ?_
      refine JL.val rfl rfl (R.ldo 0 S23 rfl rfl rfl) ?_
      refine JL.gYes rfl rfl rfl ?_
      refine JL.val rfl rfl (R.lenL U23 rfl (IsSlice.long ha_3)) ?_
      refine JL.gYes rfl rfl rfl ?_
      refine JL.val rfl rfl (R.gtr_i rfl rfl) ?_
      refine JL.gYes rfl rfl rfl ?_
      refine JL.val rfl rfl (R.move rfl) ?_
      refine JL.gSplit (t := 15) rfl (fun c_9 => ?_) (fun c_9 => ?_)
      · replace hx := cond_t c_9 hx
        refine JL.gYes rfl rfl rfl ?_
        refine JL.val rfl rfl (R.fa F25_1 rfl) ?_
        refine JL.gYes rfl rfl rfl ?_
        refine JL.val rfl rfl (R.ldo 0 S23 rfl rfl rfl) ?_
        refine JL.gYes rfl rfl rfl ?_
        refine JL.val rfl rfl (R.lenL U23 rfl (IsSlice.long ha_3)) ?_
        refine JL.gYes rfl rfl rfl ?_
        refine JL.val rfl rfl (R.lss_i rfl rfl) ?_
        refine JL.gYes rfl rfl rfl ?_
        refine JL.val rfl rfl (R.pickT rfl rfl) ?_
        refine JL.val rfl rfl (R.pickF rfl rfl) ?_
        refine JL.val rfl rfl (R.move rfl) ?_
        refine JL.gSplit (t := 22) rfl (fun c_10 => ?_) (fun c_10 => ?_)
        · replace hx := cond_t c_10 hx
          refine JL.gNo rfl rfl rfl rfl rfl ?_
          refine JL.gNo rfl rfl rfl rfl rfl ?_
          refine JL.gNo rfl rfl rfl rfl rfl ?_
          refine JL.gNo rfl rfl rfl rfl rfl ?_
          refine JL.val rfl rfl (R.pickT rfl rfl) ?_
          refine JL.nil ?_
          refine JN.next ?_
          refine JC.condT rfl ?_
          refine JC.seq ?_
          refine JC.region ?_
          refine JL.val rfl rfl (R.assign rfl) ?_
          refine JL.nil ?_
          refine JN.next ?_
          refine JC.ret ?_
          obtain rfl := Option.some.inj hx
          clear hx; have hx := hxo_6
          simp only [Sum.elim_inl, Sum.elim_inr] at hx
          refine JN.passR ?_
          refine JN.passR ?_
          refine JN.outP (vs := [.bool true]) (K := []) (rst := [_]) (.inl rfl) rfl rfl (Res.tmp rfl rfl) picks0 ?_
          obtain rfl := Option.some.inj hx
          exact ⟨rfl, rfl, rfl, trivial⟩
        · replace hx := cond_f c_10 hx
          refine JL.gYes rfl rfl rfl ?_
          refine JL.val rfl rfl (R.fa F25_1 rfl) ?_
          refine JL.gYes rfl rfl rfl ?_
          refine JL.val rfl rfl (R.ldo 0 S23 rfl rfl rfl) ?_
          refine JL.gYes rfl rfl rfl ?_
          refine JL.val rfl rfl (R.lenL U23 rfl (IsSlice.long ha_3)) ?_
          refine JL.gYes rfl rfl rfl ?_
          refine JL.val rfl rfl (R.gtr_i rfl rfl) ?_
          refine JL.val rfl rfl (R.pickF rfl rfl) ?_
          refine JL.nil ?_
          refine JN.next ?_
          refine JC.condB rfl (fun c_11 => ?_) (fun c_11 => ?_)
          · replace hx := cond_t c_11 hx
            refine JC.seq ?_
            refine JC.region ?_
            refine JL.val rfl rfl (R.assign rfl) ?_
            refine JL.nil ?_
            refine JN.next ?_
            refine JC.ret ?_
            obtain rfl := Option.some.inj hx
            clear hx; have hx := hxo_6
            simp only [Sum.elim_inl, Sum.elim_inr] at hx
            refine JN.passR ?_
            refine JN.passR ?_
            refine JN.outP (vs := [.bool true]) (K := []) (rst := [_]) (.inl rfl) rfl rfl (Res.tmp rfl rfl) picks0 ?_
            obtain rfl := Option.some.inj hx
            exact ⟨rfl, rfl, rfl, trivial⟩
          · replace hx := cond_f c_11 hx
            refine JC.skip ?_
            obtain rfl := Option.some.inj hx
            exact JN.cut ⟨(), rfl, rfl, rfl, rfl⟩ ⟨rfl, trivial⟩ rfl rfl
      · replace hx := cond_f c_9 hx
        refine JL.gNo rfl rfl rfl rfl rfl ?_
        refine JL.gNo rfl rfl rfl rfl rfl ?_
        refine JL.gNo rfl rfl rfl rfl rfl ?_
        refine JL.gNo rfl rfl rfl rfl rfl ?_
        refine JL.gYes rfl rfl rfl ?_
        refine JL.val rfl rfl (R.pickF rfl rfl) ?_
        refine JL.val rfl rfl (R.pickF rfl rfl) ?_
        refine JL.val rfl rfl (R.move rfl) ?_
        refine JL.gYes rfl rfl rfl ?_
        refine JL.val rfl rfl (R.fa F25_1 rfl) ?_
        refine JL.gYes rfl rfl rfl ?_
        refine JL.val rfl rfl (R.ldo 0 S23 rfl rfl rfl) ?_
        refine JL.gYes rfl rfl rfl ?_
        refine JL.val rfl rfl (R.lenL U23 rfl (IsSlice.long ha_3)) ?_
        refine JL.gYes rfl rfl rfl ?_
        refine JL.val rfl rfl (R.gtr_i rfl rfl) ?_
        refine JL.val rfl rfl (R.pickF rfl rfl) ?_
        refine JL.nil ?_
        refine JN.next ?_
        refine JC.condB rfl (fun c_12 => ?_) (fun c_12 => ?_)
        · replace hx := cond_t c_12 hx
          refine JC.seq ?_
          refine JC.region ?_
          refine JL.val rfl rfl (R.assign rfl) ?_
          refine JL.nil ?_
          refine JN.next ?_
          refine JC.ret ?_
          obtain rfl := Option.some.inj hx
          clear hx; have hx := hxo_6
          simp only [Sum.elim_inl, Sum.elim_inr] at hx
          refine JN.passR ?_
          refine JN.passR ?_
          refine JN.outP (vs := [.bool true]) (K := []) (rst := [_]) (.inl rfl) rfl rfl (Res.tmp rfl rfl) picks0 ?_
          obtain rfl := Option.some.inj hx
          exact ⟨rfl, rfl, rfl, trivial⟩
        · replace hx := cond_f c_12 hx
          refine JC.skip ?_
          obtain rfl := Option.some.inj hx
          exact JN.cut ⟨(), rfl, rfl, rfl, rfl⟩ ⟨rfl, trivial⟩ rfl rfl

set_option maxHeartbeats 8000000 in
theorem ref13_Great_ok (p_1 : Store) (H : Heaplet) {aoa_2 : Option Addr} {na_2 : Nat} {capa_2 : Nat} {aoa_3 : Option Addr} {na_3 : Nat} {capa_3 : Nat} {aoa_4 : Option Addr} {na_4 : Nat} {capa_4 : Nat} (ha_2 : IsSlice H (RSl RU8 1) 1 (.slice aoa_2 na_2 capa_2) p_1.Disk.Blocks) (ha_3 : IsSlice H R_Write 2 (.slice aoa_3 na_3 capa_3) p_1.Disk.Waits) (ha_4 : IsSlice H RU8 1 (.slice aoa_4 na_4 capa_4) p_1.Space) (r : Bool) (hx : ref13_Great p_1 = some r) :
    Does Try.prog 8 #[.agg #[.slice aoa_2 na_2 capa_2, .slice aoa_3 na_3 capa_3, .slice aoa_4 na_4 capa_4, .int .u32 (p_1.Epoch.toNat : Int), .int .u32 (p_1.Count.toNat : Int)]] [] H (fun u K' H' => u = .bool r ∧ K' = [] ∧ H = H' ∧ True) := by
  refine Does.enterL (vs := [.agg #[.slice aoa_2 na_2 capa_2, .slice aoa_3 na_3 capa_3, .slice aoa_4 na_4 capa_4, .int .u32 (p_1.Epoch.toNat : Int), .int .u32 (p_1.Count.toNat : Int)]]) (l := [(0, .agg #[.slice aoa_2 na_2 capa_2, .slice aoa_3 na_3 capa_3, .slice aoa_4 na_4 capa_4, .int .u32 (p_1.Epoch.toNat : Int), .int .u32 (p_1.Count.toNat : Int)])]) Try.func8 rfl rfl ⟨rfl, trivial⟩ (fun w hlt => ?_)
  unfold ref13_Great at hx
  refine JC.seq ?_
  refine JC.region ?_
  refine JL.box rfl rfl (fun b_5 hb_5 => ?_)
  refine JL.val rfl rfl (R.assign rfl) ?_
  refine JL.nil ?_
  refine JN.next ?_
  refine JC.seq ?_
  obtain ⟨t_6, ht_8, hx⟩ := bnd_some hx
  refine JC.cut (fun l o g => l = [(2, .bool t_6)] ∧ o = [] ∧ H = g) ?_ ?_
  · rintro _ _ _ ⟨rfl, rfl, rfl⟩
    refine JN.next ?_
    refine JC.ret ?_
    refine JN.outP (vs := [.bool t_6]) (K := []) (rst := []) (.inl rfl) rfl rfl (Res.tmp rfl rfl) picks0 ?_
    obtain rfl := Option.some.inj hx
    exact ⟨rfl, rfl, rfl, trivial⟩
  · have hxo_7 := hx; clear hx; have hx := ht_8; clear ht_8
    refine JC.region ?_
    refine JL.val rfl rfl (R.fa F29_0 rfl) ?_
    refine JL.val rfl rfl (R.ldoN 0 (vs := [.slice aoa_2 na_2 capa_2, .slice aoa_3 na_3 capa_3]) S25 rfl rfl rfl rfl) ?_
    obtain ⟨x_9, hr_10, hx⟩ := bnd_some hx
    refine JL.callC (vs := [_]) (args := [_]) (K := []) (rst := [_]) E26 rfl rfl rfl picks0 (ref09_Great_ok (Disk.mk p_1.Disk.Blocks p_1.Disk.Waits) _ ha_2 ha_3 _ hr_10) rfl (fun u_11 Ku_11 Hu_11 hRu_11 hleu_11 hfu_11 => ?_)
    obtain ⟨rfl, rfl, rfl, -⟩ := hRu_11
    refine JL.val rfl rfl (R.move rfl) ?_
    refine JL.gSplit (t := 6) rfl (fun c_12 => ?_) (fun c_12 => ?_)
    · replace hx := cond_t c_12 hx
      refine JL.gNo rfl rfl rfl rfl rfl ?_
      refine JL.gNo rfl rfl rfl rfl rfl ?_
      refine JL.gNo rfl rfl rfl rfl rfl ?_
      refine JL.gNo rfl rfl rfl rfl rfl ?_
      refine JL.val rfl rfl (R.pickT rfl rfl) ?_
      refine JL.val rfl rfl (R.assign rfl) ?_
      refine JL.nil ?_
      obtain rfl := Option.some.inj hx
      refine JN.forget 0 ?_
      exact JN.cut ⟨rfl, rfl, rfl⟩ ⟨rfl, trivial⟩ rfl rfl
    · replace hx := cond_f c_12 hx
      refine JL.gYes rfl rfl rfl ?_
      refine JL.val rfl rfl (R.fa F29_1 rfl) ?_
      refine JL.gYes rfl rfl rfl ?_
      refine JL.val rfl rfl (R.ldo 0 S26 rfl rfl rfl) ?_
      refine JL.gYes rfl rfl rfl ?_
      refine JL.val rfl rfl (R.lenL U26 rfl (IsSlice.long ha_4)) ?_
      refine JL.gYes rfl rfl rfl ?_
      refine JL.val rfl rfl (R.gtr_i rfl rfl) ?_
      refine JL.val rfl rfl (R.pickF rfl rfl) ?_
      refine JL.val rfl rfl (R.assign rfl) ?_
      refine JL.nil ?_
      obtain rfl := Option.some.inj hx
      refine JN.forget 0 ?_
      exact JN.cut ⟨rfl, rfl, rfl⟩ ⟨rfl, trivial⟩ rfl rfl

set_option maxHeartbeats 8000000 in
theorem store_Raw_ok (p_1 : Store) (p_5 : UInt32) (p_6 : UInt32) (p_7 : UInt32) (p_8 : List UInt8) (H : Heaplet) {aoa_2 : Option Addr} {na_2 : Nat} {capa_2 : Nat} {aoa_3 : Option Addr} {na_3 : Nat} {capa_3 : Nat} {aoa_4 : Option Addr} {na_4 : Nat} {capa_4 : Nat} {aoa_9 : Option Addr} {na_9 : Nat} {capa_9 : Nat} (ha_2 : IsSlice H (RSl RU8 1) 1 (.slice aoa_2 na_2 capa_2) p_1.Disk.Blocks) (ha_3 : IsSlice H R_Write 2 (.slice aoa_3 na_3 capa_3) p_1.Disk.Waits) (ha_4 : IsSlice H RU8 1 (.slice aoa_4 na_4 capa_4) p_1.Space) (ha_9 : IsSlice H RU8 1 (.slice aoa_9 na_9 capa_9) p_8) (r : Store × Ptr × Int) (hx : store_Raw p_1 p_5 p_6 p_7 p_8 = some r) :
    Does Try.prog 14 #[.agg #[.slice aoa_2 na_2 capa_2, .slice aoa_3 na_3 capa_3, .slice aoa_4 na_4 capa_4, .int .u32 (p_1.Epoch.toNat : Int), .int .u32 (p_1.Count.toNat : Int)], .int .u32 (p_5.toNat : Int), .int .u32 (p_6.toNat : Int), .int .u32 (p_7.toNat : Int), .slice aoa_9 na_9 capa_9] [] H (fun u K' H' => ∃ ao0 : Option Addr, ∃ n0 : Nat, ∃ cap0 : Nat, ∃ ao1 : Option Addr, ∃ n1 : Nat, ∃ cap1 : Nat, ∃ K1 : Own, ∃ ao2 : Option Addr, ∃ n2 : Nat, ∃ cap2 : Nat, ∃ K2 : Own, u = .tuple #[.agg #[.slice ao0 n0 cap0, .slice ao1 n1 cap1, .slice ao2 n2 cap2, .int .u32 (r.1.Epoch.toNat : Int), .int .u32 (r.1.Count.toNat : Int)], .agg #[.int .i64 r.2.1.At, .int .u32 (r.2.1.Birth.toNat : Int), .int .u32 (r.2.1.Iv.toNat : Int), .int .u32 (r.2.1.Tag.toNat : Int), .int .u32 (r.2.1.Sum.toNat : Int)], .int .i64 r.2.2] ∧ K' = [K1, K2] ∧ IsSlice (New H H') (RSl RU8 1) 1 (.slice ao0 n0 cap0) r.1.Disk.Blocks ∧ RowOf (New H H') R_Write 0 72 2 (.slice ao1 n1 cap1) r.1.Disk.Waits K1 ∧ (∀ p ∈ K1, p.1 ∉ ids (List.flatten [])) ∧ RowOf (New H H') RU8 0 5 1 (.slice ao2 n2 cap2) r.1.Space K2 ∧ (∀ p ∈ K2, p.1 ∉ ids (List.flatten [])) ∧ True) := by
  refine Does.enterL (vs := [.agg #[.slice aoa_2 na_2 capa_2, .slice aoa_3 na_3 capa_3, .slice aoa_4 na_4 capa_4, .int .u32 (p_1.Epoch.toNat : Int), .int .u32 (p_1.Count.toNat : Int)], .int .u32 (p_5.toNat : Int), .int .u32 (p_6.toNat : Int), .int .u32 (p_7.toNat : Int), .slice aoa_9 na_9 capa_9]) (l := [(0, .agg #[.slice aoa_2 na_2 capa_2, .slice aoa_3 na_3 capa_3, .slice aoa_4 na_4 capa_4, .int .u32 (p_1.Epoch.toNat : Int), .int .u32 (p_1.Count.toNat : Int)]), (1, .int .u32 (p_5.toNat : Int)), (2, .int .u32 (p_6.toNat : Int)), (3, .int .u32 (p_7.toNat : Int)), (4, .slice aoa_9 na_9 capa_9)]) Try.func14 rfl rfl ⟨rfl, rfl, rfl, rfl, rfl, trivial⟩ (fun w hlt => ?_)
  unfold store_Raw at hx
  refine JC.seq ?_
  refine JC.region ?_
  refine JL.box rfl rfl (fun b_10 hb_10 => ?_)
  refine JL.alloc Z29 rfl (fun b_11 hb_11 => ?_)
  refine JL.alloc Z33 rfl (fun b_12 hb_12 => ?_)
  refine JL.val rfl rfl (R.assign rfl) ?_
  refine JL.nil ?_
  refine JN.next ?_
  refine JC.seq ?_
  refine JC.seq ?_
  refine JC.region ?_
  refine JL.val rfl rfl (R.ldoN 2 (vs := [.slice aoa_2 na_2 capa_2, .slice aoa_3 na_3 capa_3, .slice aoa_4 na_4 capa_4, .int .u32 (p_1.Epoch.toNat : Int), .int .u32 (p_1.Count.toNat : Int)]) S29 rfl rfl rfl rfl) ?_
  refine JL.val rfl rfl (R.move rfl) ?_
  refine JL.val rfl rfl (R.move rfl) ?_
  refine JL.bslF (HF := H) (R := (RSl RU8 1)) (ls := [p_8]) (vs := [.slice aoa_9 na_9 capa_9]) U22 I26 rfl rfl (⟨_, _, rfl, rfl, ⟨_, rfl, ha_9⟩, rfl⟩) RSl.one rfl rfl rfl (by simp [maxLen]) rfl (fun vr_13 Kr_13 hr_13 => ?_)
  obtain ⟨aor_13, capr_13, rfl⟩ := RowOf.val hr_13
  obtain ⟨x_17, hr_18, hx⟩ := bnd_some hx
  refine JL.callL2 (vs := [_, _, _, _]) (v := .int .i64 x_17) E28 rfl rfl (fun H_16 hle_15 hl_14 => Does.mono (store_asked_ok p_1 p_5 256 ([p_8]) _ (IsSlice.mono (RSl.mono RU8.mono) hle_15 ha_2) (IsSlice.mono R_Write.mono hle_15 ha_3) (IsSlice.mono RU8.mono hle_15 ha_4) (Lent.row' 0 hl_14 (RSl.mono RU8.mono) hle_15 rfl hr_13) _ hr_18) (fun _ _ _ h => h.1)) rfl ?_
  refine JL.val rfl rfl (R.assign rfl) ?_
  refine JL.nil ?_
  refine JN.next ?_
  refine JC.seq ?_
  refine JC.region ?_
  refine JL.val rfl rfl (R.move rfl) ?_
  refine JL.val rfl rfl (R.neq_i rfl rfl) ?_
  refine JL.nil ?_
  refine JN.next ?_
  refine JC.condB rfl (fun c_19 => ?_) (fun c_19 => ?_)
  · replace hx := cond_t c_19 hx
    refine JC.ret ?_
    refine JN.passR ?_
    refine JN.seg0 ?_
    refine JN.seg0 ?_
    refine JN.outP (vs := [.agg #[.slice none 0 0, .slice none 0 0, .slice none 0 0, .int .u32 ((0 : UInt32).toNat : Int), .int .u32 ((0 : UInt32).toNat : Int)], .agg #[.int .i64 0, .int .u32 ((0 : UInt32).toNat : Int), .int .u32 ((0 : UInt32).toNat : Int), .int .u32 ((0 : UInt32).toNat : Int), .int .u32 ((0 : UInt32).toNat : Int)], .int .i64 x_17]) (K := [_, _]) (rst := [_, _, _, _]) (.inl rfl) rfl rfl (Res.cellN 4 rfl rfl S29 (Res.cellN 3 rfl rfl S33 (Res.tmp rfl rfl))) (picks 0 rfl (picks 0 rfl picks0)) ?_
    obtain rfl := Option.some.inj hx
    exact ⟨none, 0, 0, none, 0, 0, [], none, 0, 0, [], rfl, rfl, (IsSlice.nil _ _ _), (RowOf.nil _ _ _ _ _), (fun p hp => by cases hp), (RowOf.nil _ _ _ _ _), (fun p hp => by cases hp), trivial⟩
  · replace hx := cond_f c_19 hx
    refine JC.skip ?_
    refine JN.next ?_
    refine JC.seq ?_
    refine JC.region ?_
    refine JL.val rfl rfl (R.ldoN 3 (vs := [.slice aoa_2 na_2 capa_2, .slice aoa_3 na_3 capa_3, .slice aoa_4 na_4 capa_4, .int .u32 (p_1.Epoch.toNat : Int), .int .u32 (p_1.Count.toNat : Int)]) S29 rfl rfl rfl rfl) ?_
    refine JL.val rfl rfl (R.move rfl) ?_
    refine JL.val rfl rfl (R.move rfl) ?_
    refine JL.val rfl rfl (R.move rfl) ?_
    refine JL.val rfl rfl (R.bldP (vs := [(1, .int .u32 (p_5.toNat : Int)), (2, .int .u32 (p_6.toNat : Int)), (3, .int .u32 (p_7.toNat : Int))]) (cs := [.int .i64 0, .int .u32 (p_5.toNat : Int), .int .u32 (p_6.toNat : Int), .int .u32 (p_7.toNat : Int), .int .u32 ((0 : UInt32).toNat : Int)]) Z33 B33 rfl rfl rfl) ?_
    refine JL.val rfl rfl (R.move rfl) ?_
    obtain ⟨x_20, hr_21, hx⟩ := bnd_some hx
    refine JL.callC (vs := [_, _, _]) (args := [_, _, _]) (K := []) (rst := [_, _, _, _]) E30 rfl rfl rfl picks0 (store_put_ok p_1 (Ptr.mk 0 p_5 p_6 p_7 (0 : UInt32)) p_8 _ ha_2 ha_3 ha_4 ha_9 _ hr_21) rfl (fun u_22 Ku_22 Hu_22 hRu_22 hleu_22 hfu_22 => ?_)
    obtain ⟨aoz_23, nz_23, capz_23, aor_24, nr_24, capr_24, Kr_24, aor_25, nr_25, capr_25, Kr_25, rfl, rfl, hz_23, hr_24, hnewr_24, hr_25, hnewr_25, -⟩ := hRu_22
    replace hr_24 := (RowOf.base (RowOf.mono R_Write.mono (New.call (Hle.refl _)) hr_24) (fun p hp => (hfu_22 p (mem_seg 0 rfl hp)).resolve_left (hnewr_24 p hp)))
    replace hr_25 := (RowOf.base (RowOf.const (H2 := New H Hu_22) RU8.const hr_25) (fun p hp => (hfu_22 p (mem_seg 1 rfl hp)).resolve_left (hnewr_25 p hp)))
    replace hz_23 := IsSlice.mono (RSl.mono RU8.mono) (New.call (Hle.refl _)) hz_23
    refine JL.val rfl rfl (R.extract rfl rfl) ?_
    refine JL.val rfl rfl (R.extract rfl rfl) ?_
    refine JL.val rfl rfl (R.extract rfl rfl) ?_
    refine JL.store 4 S29 rfl rfl rfl rfl rfl (Nat.le_of_ble_eq_true rfl) ?_
    refine JL.store 3 S33 rfl rfl rfl rfl rfl (Nat.le_of_ble_eq_true rfl) ?_
    refine JL.val rfl rfl (R.assign rfl) ?_
    refine JL.nil ?_
    refine JN.next ?_
    refine JC.ret ?_
    refine JN.outP (vs := [.agg #[.slice aoz_23 nz_23 capz_23, .slice aor_24 nr_24 capr_24, .slice aor_25 nr_25 capr_25, .int .u32 (x_20.1.Epoch.toNat : Int), .int .u32 (x_20.1.Count.toNat : Int)], .agg #[.int .i64 x_20.2.1.At, .int .u32 (x_20.2.1.Birth.toNat : Int), .int .u32 (x_20.2.1.Iv.toNat : Int), .int .u32 (x_20.2.1.Tag.toNat : Int), .int .u32 (x_20.2.1.Sum.toNat : Int)], .int .i64 x_20.2.2]) (K := [_, _]) (rst := [_, _, _, _]) (.inl rfl) rfl rfl (Res.cellN 4 rfl rfl S29 (Res.cellN 3 rfl rfl S33 (Res.tmp rfl rfl))) (picks 0 rfl (picks 0 rfl picks0)) ?_
    obtain rfl := Option.some.inj hx
    exact ⟨aoz_23, nz_23, capz_23, aor_24, nr_24, capr_24, Kr_24, aor_25, nr_25, capr_25, Kr_25, rfl, rfl, hz_23, (RowOf.weak (Nat.zero_le _) hr_24), (new_ids hr_24 hlt), (RowOf.weak (Nat.zero_le _) hr_25), (new_ids hr_25 hlt), trivial⟩

set_option maxHeartbeats 8000000 in
theorem store_Lay_ok (p_1 : Store) (p_5 : UInt32) (p_6 : List UInt8) (H : Heaplet) {aoa_2 : Option Addr} {na_2 : Nat} {capa_2 : Nat} {aoa_3 : Option Addr} {na_3 : Nat} {capa_3 : Nat} {aoa_4 : Option Addr} {na_4 : Nat} {capa_4 : Nat} {aoa_7 : Option Addr} {na_7 : Nat} {capa_7 : Nat} (ha_2 : IsSlice H (RSl RU8 1) 1 (.slice aoa_2 na_2 capa_2) p_1.Disk.Blocks) (ha_3 : IsSlice H R_Write 2 (.slice aoa_3 na_3 capa_3) p_1.Disk.Waits) (ha_4 : IsSlice H RU8 1 (.slice aoa_4 na_4 capa_4) p_1.Space) (ha_7 : IsSlice H RU8 1 (.slice aoa_7 na_7 capa_7) p_6) (r : Store × Ptr × Int) (hx : store_Lay p_1 p_5 p_6 = some r) :
    Does Try.prog 10 #[.agg #[.slice aoa_2 na_2 capa_2, .slice aoa_3 na_3 capa_3, .slice aoa_4 na_4 capa_4, .int .u32 (p_1.Epoch.toNat : Int), .int .u32 (p_1.Count.toNat : Int)], .int .u32 (p_5.toNat : Int), .slice aoa_7 na_7 capa_7] [] H (fun u K' H' => ∃ ao0 : Option Addr, ∃ n0 : Nat, ∃ cap0 : Nat, ∃ ao1 : Option Addr, ∃ n1 : Nat, ∃ cap1 : Nat, ∃ K1 : Own, ∃ ao2 : Option Addr, ∃ n2 : Nat, ∃ cap2 : Nat, ∃ K2 : Own, u = .tuple #[.agg #[.slice ao0 n0 cap0, .slice ao1 n1 cap1, .slice ao2 n2 cap2, .int .u32 (r.1.Epoch.toNat : Int), .int .u32 (r.1.Count.toNat : Int)], .agg #[.int .i64 r.2.1.At, .int .u32 (r.2.1.Birth.toNat : Int), .int .u32 (r.2.1.Iv.toNat : Int), .int .u32 (r.2.1.Tag.toNat : Int), .int .u32 (r.2.1.Sum.toNat : Int)], .int .i64 r.2.2] ∧ K' = [K1, K2] ∧ IsSlice (New H H') (RSl RU8 1) 1 (.slice ao0 n0 cap0) r.1.Disk.Blocks ∧ RowOf (New H H') R_Write 0 72 2 (.slice ao1 n1 cap1) r.1.Disk.Waits K1 ∧ (∀ p ∈ K1, p.1 ∉ ids (List.flatten [])) ∧ RowOf (New H H') RU8 0 5 1 (.slice ao2 n2 cap2) r.1.Space K2 ∧ (∀ p ∈ K2, p.1 ∉ ids (List.flatten [])) ∧ True) := by
  refine Does.enterL (vs := [.agg #[.slice aoa_2 na_2 capa_2, .slice aoa_3 na_3 capa_3, .slice aoa_4 na_4 capa_4, .int .u32 (p_1.Epoch.toNat : Int), .int .u32 (p_1.Count.toNat : Int)], .int .u32 (p_5.toNat : Int), .slice aoa_7 na_7 capa_7]) (l := [(0, .agg #[.slice aoa_2 na_2 capa_2, .slice aoa_3 na_3 capa_3, .slice aoa_4 na_4 capa_4, .int .u32 (p_1.Epoch.toNat : Int), .int .u32 (p_1.Count.toNat : Int)]), (1, .int .u32 (p_5.toNat : Int)), (2, .slice aoa_7 na_7 capa_7)]) Try.func10 rfl rfl ⟨rfl, rfl, rfl, trivial⟩ (fun w hlt => ?_)
  unfold store_Lay at hx
  refine JC.seq ?_
  refine JC.region ?_
  refine JL.box rfl rfl (fun b_8 hb_8 => ?_)
  refine JL.alloc Z29 rfl (fun b_9 hb_9 => ?_)
  refine JL.alloc Z33 rfl (fun b_10 hb_10 => ?_)
  refine JL.val rfl rfl (R.assign rfl) ?_
  refine JL.nil ?_
  refine JN.next ?_
  refine JC.seq ?_
  refine JC.region ?_
  refine JL.val rfl rfl (R.ldoN 2 (vs := [.slice aoa_2 na_2 capa_2, .slice aoa_3 na_3 capa_3, .slice aoa_4 na_4 capa_4, .int .u32 (p_1.Epoch.toNat : Int), .int .u32 (p_1.Count.toNat : Int)]) S29 rfl rfl rfl rfl) ?_
  refine JL.val rfl rfl (R.move rfl) ?_
  refine JL.val rfl rfl (R.move rfl) ?_
  obtain ⟨x_11, hr_12, hx⟩ := bnd_some hx
  refine JL.callC (vs := [_, _, _, _, _]) (args := [_, _, _, _, _]) (K := []) (rst := [_, _, _]) E14 rfl rfl rfl picks0 (store_Raw_ok p_1 p_5 (0 : UInt32) (0 : UInt32) p_6 _ ha_2 ha_3 ha_4 ha_7 _ hr_12) rfl (fun u_13 Ku_13 Hu_13 hRu_13 hleu_13 hfu_13 => ?_)
  obtain ⟨aoz_14, nz_14, capz_14, aor_15, nr_15, capr_15, Kr_15, aor_16, nr_16, capr_16, Kr_16, rfl, rfl, hz_14, hr_15, hnewr_15, hr_16, hnewr_16, -⟩ := hRu_13
  replace hr_15 := (RowOf.base (RowOf.mono R_Write.mono (New.call (Hle.refl _)) hr_15) (fun p hp => (hfu_13 p (mem_seg 0 rfl hp)).resolve_left (hnewr_15 p hp)))
  replace hr_16 := (RowOf.base (RowOf.const (H2 := New H Hu_13) RU8.const hr_16) (fun p hp => (hfu_13 p (mem_seg 1 rfl hp)).resolve_left (hnewr_16 p hp)))
  replace hz_14 := IsSlice.mono (RSl.mono RU8.mono) (New.call (Hle.refl _)) hz_14
  refine JL.val rfl rfl (R.extract rfl rfl) ?_
  refine JL.val rfl rfl (R.extract rfl rfl) ?_
  refine JL.val rfl rfl (R.extract rfl rfl) ?_
  refine JL.store 3 S29 rfl rfl rfl rfl rfl (Nat.le_of_ble_eq_true rfl) ?_
  refine JL.store 2 S33 rfl rfl rfl rfl rfl (Nat.le_of_ble_eq_true rfl) ?_
  refine JL.val rfl rfl (R.assign rfl) ?_
  refine JL.nil ?_
  refine JN.next ?_
  refine JC.ret ?_
  refine JN.outP (vs := [.agg #[.slice aoz_14 nz_14 capz_14, .slice aor_15 nr_15 capr_15, .slice aor_16 nr_16 capr_16, .int .u32 (x_11.1.Epoch.toNat : Int), .int .u32 (x_11.1.Count.toNat : Int)], .agg #[.int .i64 x_11.2.1.At, .int .u32 (x_11.2.1.Birth.toNat : Int), .int .u32 (x_11.2.1.Iv.toNat : Int), .int .u32 (x_11.2.1.Tag.toNat : Int), .int .u32 (x_11.2.1.Sum.toNat : Int)], .int .i64 x_11.2.2]) (K := [_, _]) (rst := [_, _, _]) (.inl rfl) rfl rfl (Res.cellN 3 rfl rfl S29 (Res.cellN 2 rfl rfl S33 (Res.tmp rfl rfl))) (picks 0 rfl (picks 0 rfl picks0)) ?_
  obtain rfl := Option.some.inj hx
  exact ⟨aoz_14, nz_14, capz_14, aor_15, nr_15, capr_15, Kr_15, aor_16, nr_16, capr_16, Kr_16, rfl, rfl, hz_14, (RowOf.weak (Nat.zero_le _) hr_15), (new_ids hr_15 hlt), (RowOf.weak (Nat.zero_le _) hr_16), (new_ids hr_16 hlt), trivial⟩

set_option maxHeartbeats 8000000 in
theorem dev_Flush_1_ok (p_2 : Disk) (H : Heaplet) {b_1 : Nat} {aoa_3 : Option Addr} {na_3 : Nat} {capa_3 : Nat} {aoa_4 : Option Addr} {na_4 : Nat} {capa_4 : Nat} (ha_3 : IsSlice H (RSl RU8 1) 1 (.slice aoa_3 na_3 capa_3) p_2.Blocks) (ha_4 : IsSlice H R_Write 2 (.slice aoa_4 na_4 capa_4) p_2.Waits) (r : Disk × Disk) (hx : dev_Flush_1 p_2 = some r) :
    Does Try.prog 41 #[.pointer (some ⟨b_1, 0, none⟩)] [[(b_1, .cells #[.slice aoa_3 na_3 capa_3, .slice aoa_4 na_4 capa_4] 25 (0, 0))]] H (fun u K' H' => ∃ ao0 : Option Addr, ∃ n0 : Nat, ∃ cap0 : Nat, ∃ ao1 : Option Addr, ∃ n1 : Nat, ∃ cap1 : Nat, ∃ ao2 : Option Addr, ∃ n2 : Nat, ∃ cap2 : Nat, ∃ K2 : Own, ∃ ao3 : Option Addr, ∃ n3 : Nat, ∃ cap3 : Nat, ∃ K3 : Own, u = .agg #[.slice ao2 n2 cap2, .slice ao3 n3 cap3] ∧ K' = [[(b_1, .cells #[.slice ao0 n0 cap0, .slice ao1 n1 cap1] 25 (0, 0))], K2, K3] ∧ IsSlice H' (RSl RU8 1) 1 (.slice ao0 n0 cap0) r.2.Blocks ∧ IsSlice H' R_Write 2 (.slice ao1 n1 cap1) r.2.Waits ∧ Pcs 0 5 26 (.slice ao2 n2 cap2) r.1.Blocks K2 ∧ (∀ p ∈ K2, p.1 ∉ ids (List.flatten [[(b_1, .cells #[.slice aoa_3 na_3 capa_3, .slice aoa_4 na_4 capa_4] 25 (0, 0))]])) ∧ RowOf (New H H') R_Write 0 72 2 (.slice ao3 n3 cap3) r.1.Waits K3 ∧ (∀ p ∈ K3, p.1 ∉ ids (List.flatten [[(b_1, .cells #[.slice aoa_3 na_3 capa_3, .slice aoa_4 na_4 capa_4] 25 (0, 0))]])) ∧ True) := by
  refine Does.enterL (vs := [.pointer (some ⟨b_1, 0, none⟩)]) (l := [(0, .pointer (some ⟨b_1, 0, none⟩))]) Try.func41 rfl rfl ⟨rfl, trivial⟩ (fun w hlt => ?_)
  unfold dev_Flush_1 at hx
  refine JC.seq ?_
  refine JC.region ?_
  refine JL.alloc Z25 rfl (fun b_5 hb_5 => ?_)
  refine JL.nil ?_
  refine JN.next ?_
  refine JC.seq ?_
  refine JC.region ?_
  refine JL.val rfl rfl (R.ldoN 1 (vs := [.slice aoa_3 na_3 capa_3, .slice aoa_4 na_4 capa_4]) S25 rfl rfl rfl rfl) ?_
  obtain ⟨x_6, hr_7, hx⟩ := bnd_some hx
  refine JL.callC (vs := [_, _]) (args := [_, _]) (K := []) (rst := [_, _]) E42 rfl rfl rfl picks0 (dev_left_ok p_2 _ ha_3 ha_4 _ hr_7) rfl (fun u_8 Ku_8 Hu_8 hRu_8 hleu_8 hfu_8 => ?_)
  obtain ⟨aor_9, nr_9, capr_9, Kr_9, aor_10, nr_10, capr_10, Kr_10, rfl, rfl, hr_9, hnewr_9, hr_10, hnewr_10, -⟩ := hRu_8
  replace hr_9 := (Pcs.base hr_9 (fun p hp => (hfu_8 p (mem_seg 0 rfl hp)).resolve_left (hnewr_9 p hp)))
  replace hr_10 := (RowOf.base (RowOf.mono R_Write.mono (New.call (Hle.refl _)) hr_10) (fun p hp => (hfu_8 p (mem_seg 1 rfl hp)).resolve_left (hnewr_10 p hp)))
  refine JL.store 2 S25 rfl rfl rfl rfl rfl (Nat.le_of_ble_eq_true rfl) ?_
  refine JL.nil ?_
  refine JN.next ?_
  refine JC.ret ?_
  refine JN.outP (vs := [.agg #[.slice aor_9 nr_9 capr_9, .slice aor_10 nr_10 capr_10]]) (K := [_, _, _]) (rst := [_]) (.inl rfl) rfl rfl (Res.cellN 2 rfl rfl S25 rfl) (picks 3 rfl (picks 0 rfl (picks 0 rfl picks0))) ?_
  obtain rfl := Option.some.inj hx
  exact ⟨aoa_3, na_3, capa_3, aoa_4, na_4, capa_4, aor_9, nr_9, capr_9, Kr_9, aor_10, nr_10, capr_10, Kr_10, rfl, rfl, (ha_3.mono (RSl.mono RU8.mono) hleu_8), (ha_4.mono R_Write.mono hleu_8), (Pcs.weak (Nat.zero_le _) hr_9), (newP_ids hr_9 hlt), (RowOf.weak (Nat.zero_le _) hr_10), (new_ids hr_10 hlt), trivial⟩

set_option maxHeartbeats 8000000 in
theorem dev_guarded_v3_ok (p_1 : Disk) (p_4 : Bool) (p_6 : Disk) (H : Heaplet) {aoa_2 : Option Addr} {na_2 : Nat} {capa_2 : Nat} {aoa_3 : Option Addr} {na_3 : Nat} {capa_3 : Nat} {b_5 : Nat} {aoa_7 : Option Addr} {na_7 : Nat} {capa_7 : Nat} {aoa_8 : Option Addr} {na_8 : Nat} {capa_8 : Nat} (ha_2 : IsSlice H (RSl RU8 1) 1 (.slice aoa_2 na_2 capa_2) p_1.Blocks) (ha_3 : IsSlice H R_Write 2 (.slice aoa_3 na_3 capa_3) p_1.Waits) (ha_7 : IsSlice H (RSl RU8 1) 1 (.slice aoa_7 na_7 capa_7) p_6.Blocks) (ha_8 : IsSlice H R_Write 2 (.slice aoa_8 na_8 capa_8) p_6.Waits) (r : Disk × Int × Disk) (hx : dev_guarded_v3 p_1 p_4 p_6 = some r) :
    Does Try.prog 40 #[.agg #[.slice aoa_2 na_2 capa_2, .slice aoa_3 na_3 capa_3], .bool p_4, .func (.func 41) #[] #[.pointer (some ⟨b_5, 0, none⟩)]] [[(b_5, .cells #[.slice aoa_7 na_7 capa_7, .slice aoa_8 na_8 capa_8] 25 (0, 0))]] H (fun u K' H' => ∃ ao0 : Option Addr, ∃ n0 : Nat, ∃ cap0 : Nat, ∃ ao1 : Option Addr, ∃ n1 : Nat, ∃ cap1 : Nat, ∃ ao2 : Option Addr, ∃ n2 : Nat, ∃ cap2 : Nat, ∃ ao3 : Option Addr, ∃ n3 : Nat, ∃ cap3 : Nat, ∃ K3 : Own, u = .tuple #[.agg #[.slice ao2 n2 cap2, .slice ao3 n3 cap3], .int .i64 r.2.1] ∧ K' = [[(b_5, .cells #[.slice ao0 n0 cap0, .slice ao1 n1 cap1] 25 (0, 0))], K3] ∧ IsSlice H' (RSl RU8 1) 1 (.slice ao0 n0 cap0) r.2.2.Blocks ∧ IsSlice H' R_Write 2 (.slice ao1 n1 cap1) r.2.2.Waits ∧ IsSlice (New H H') (RSl RU8 1) 1 (.slice ao2 n2 cap2) r.1.Blocks ∧ RowOf (New H H') R_Write 0 72 2 (.slice ao3 n3 cap3) r.1.Waits K3 ∧ (∀ p ∈ K3, p.1 ∉ ids (List.flatten [[(b_5, .cells #[.slice aoa_7 na_7 capa_7, .slice aoa_8 na_8 capa_8] 25 (0, 0))]])) ∧ True) := by
  refine Does.enterL (vs := [.agg #[.slice aoa_2 na_2 capa_2, .slice aoa_3 na_3 capa_3], .bool p_4, .func (.func 41) #[] #[.pointer (some ⟨b_5, 0, none⟩)]]) (l := [(0, .agg #[.slice aoa_2 na_2 capa_2, .slice aoa_3 na_3 capa_3]), (1, .bool p_4), (2, .func (.func 41) #[] #[.pointer (some ⟨b_5, 0, none⟩)])]) Try.func40 rfl rfl ⟨rfl, rfl, rfl, trivial⟩ (fun w hlt => ?_)
  unfold dev_guarded_v3 at hx
  refine JC.seq ?_
  refine JC.region ?_
  refine JL.box rfl rfl (fun b_9 hb_9 => ?_)
  refine JL.alloc Z25 rfl (fun b_10 hb_10 => ?_)
  refine JL.val rfl rfl (R.assign rfl) ?_
  refine JL.nil ?_
  refine JN.next ?_
  refine JC.seq ?_
  refine JC.region ?_
  refine JL.val rfl rfl (R.ldoN 1 (vs := [.slice aoa_2 na_2 capa_2, .slice aoa_3 na_3 capa_3]) S25 rfl rfl rfl rfl) ?_
  obtain ⟨x_11, hr_12, hx⟩ := bnd_some hx
  refine JL.callC (vs := [_]) (args := [_]) (K := []) (rst := [_, _, _]) E48 rfl rfl rfl picks0 (dev_Check_ok p_1 _ ha_2 ha_3 _ hr_12) rfl (fun u_13 Ku_13 Hu_13 hRu_13 hleu_13 hfu_13 => ?_)
  obtain ⟨rfl, rfl, rfl, -⟩ := hRu_13
  refine JL.val rfl rfl (R.assign rfl) ?_
  refine JL.nil ?_
  refine JN.next ?_
  refine JC.seq ?_
  refine JC.block ?_
  refine JC.seq ?_
  refine JC.region ?_
  refine JL.val rfl rfl (R.move rfl) ?_
  refine JL.val rfl rfl (R.neq_i rfl rfl) ?_
  refine JL.val rfl rfl (R.assign rfl) ?_
  refine JL.nil ?_
  refine JN.next ?_
  refine JC.condB rfl (fun c_14 => ?_) (fun c_14 => ?_)
  · replace hx := cond_t c_14 hx
    refine JC.seq ?_
    refine JC.region ?_
    refine JL.val rfl rfl (R.bldP (vs := []) (cs := [.slice none 0 0, .slice none 0 0]) Z25 B25 rfl rfl rfl) ?_
    refine JL.val rfl rfl (R.move rfl) ?_
    refine JL.store 0 S25 rfl rfl rfl rfl rfl (Nat.le_of_ble_eq_true rfl) ?_
    refine JL.val rfl rfl (R.assign rfl) ?_
    refine JL.nil ?_
    refine JN.next ?_
    refine JC.ret ?_
    refine JN.blkR ?_
    refine JN.passR ?_
    refine JN.seg0 ?_
    refine JN.outP (vs := [.agg #[.slice none 0 0, .slice none 0 0], .int .i64 x_11]) (K := [_, _]) (rst := [_, _]) (.inl rfl) rfl rfl (Res.cellN 1 rfl rfl S25 (Res.tmp rfl rfl)) (picks 3 rfl (picks 0 rfl picks0)) ?_
    obtain rfl := Option.some.inj hx
    exact ⟨aoa_7, na_7, capa_7, aoa_8, na_8, capa_8, none, 0, 0, none, 0, 0, [], rfl, rfl, ha_7, ha_8, (IsSlice.nil _ _ _), (RowOf.nil _ _ _ _ _), (fun p hp => by cases hp), trivial⟩
  · replace hx := cond_f c_14 hx
    refine JC.seq ?_
    refine JC.region ?_
    refine JL.val rfl rfl (R.move rfl) ?_
    refine JL.val rfl rfl (R.not rfl) ?_
    refine JL.val rfl rfl (R.assign rfl) ?_
    refine JL.nil ?_
    refine JN.next ?_
    refine JC.condB rfl (fun c_15 => ?_) (fun c_15 => ?_)
    · replace hx := cond_t c_15 hx
      refine JC.seq ?_
      refine JC.region ?_
      refine JL.val rfl rfl (R.bldP (vs := []) (cs := [.slice none 0 0, .slice none 0 0]) Z25 B25 rfl rfl rfl) ?_
      refine JL.store 0 S25 rfl rfl rfl rfl rfl (Nat.le_of_ble_eq_true rfl) ?_
      refine JL.val rfl rfl (R.assign rfl) ?_
      refine JL.nil ?_
      refine JN.next ?_
      refine JC.ret ?_
      refine JN.blkR ?_
      refine JN.passR ?_
      refine JN.seg0 ?_
      refine JN.outP (vs := [.agg #[.slice none 0 0, .slice none 0 0], .int .i64 2]) (K := [_, _]) (rst := [_, _]) (.inl rfl) rfl rfl (Res.cellN 1 rfl rfl S25 (Res.tmp rfl rfl)) (picks 3 rfl (picks 0 rfl picks0)) ?_
      obtain rfl := Option.some.inj hx
      exact ⟨aoa_7, na_7, capa_7, aoa_8, na_8, capa_8, none, 0, 0, none, 0, 0, [], rfl, rfl, ha_7, ha_8, (IsSlice.nil _ _ _), (RowOf.nil _ _ _ _ _), (fun p hp => by cases hp), trivial⟩
    · replace hx := cond_f c_15 hx
      refine JC.skip ?_
      refine JN.blkN ?_
      refine JN.next ?_
      refine JC.seq ?_
      refine JC.region ?_
      refine JL.val rfl rfl (R.move rfl) ?_
      obtain ⟨x_16, hr_17, hx⟩ := bnd_some hx
      refine JL.callC (vs := []) (args := [_]) (K := [_]) (rst := [_, _]) E41 rfl rfl rfl (picks 2 rfl picks0) (dev_Flush_1_ok p_6 _ ha_7 ha_8 _ hr_17) rfl (fun u_18 Ku_18 Hu_18 hRu_18 hleu_18 hfu_18 => ?_)
      obtain ⟨aoz_19, nz_19, capz_19, aoz_20, nz_20, capz_20, aor_21, nr_21, capr_21, Kr_21, aor_22, nr_22, capr_22, Kr_22, rfl, rfl, hz_19, hz_20, hr_21, hnewr_21, hr_22, hnewr_22, -⟩ := hRu_18
      replace hr_21 := (Pcs.base hr_21 (fun p hp => (hfu_18 p (mem_seg 1 rfl hp)).resolve_left (hnewr_21 p hp)))
      replace hr_22 := (RowOf.base (RowOf.mono R_Write.mono (New.call (Hle.refl _)) hr_22) (fun p hp => (hfu_18 p (mem_seg 2 rfl hp)).resolve_left (hnewr_22 p hp)))
      refine JL.store 3 S25 rfl rfl rfl rfl rfl (Nat.le_of_ble_eq_true rfl) ?_
      refine JL.val rfl rfl (R.assign rfl) ?_
      refine JL.nil ?_
      refine JN.next ?_
      refine JC.ret ?_
      refine JN.pubPcs 1  rfl hr_21 (Nat.le_refl _) (fun H_23 hleH_23 hsH_23 => ?_)
      refine JN.forget 1 ?_
      refine JN.outP (vs := [.agg #[.slice aor_21 nr_21 capr_21, .slice aor_22 nr_22 capr_22], .int .i64 0]) (K := [_, _]) (rst := [_, _]) (.inl rfl) rfl rfl (Res.cellN 2 rfl rfl S25 (Res.tmp rfl rfl)) (picks 0 rfl (picks 0 rfl picks0)) ?_
      obtain rfl := Option.some.inj hx
      exact ⟨aoz_19, nz_19, capz_19, aoz_20, nz_20, capz_20, aor_21, nr_21, capr_21, aor_22, nr_22, capr_22, Kr_22, rfl, rfl, (hz_19.mono (RSl.mono RU8.mono) hleH_23), (hz_20.mono R_Write.mono hleH_23), hsH_23, (RowOf.weak (Nat.zero_le _) (hr_22.mono R_Write.mono (New.mono hleH_23))), (new_ids (hr_22.mono R_Write.mono (New.mono hleH_23)) hlt), trivial⟩

set_option maxHeartbeats 8000000 in
theorem dev_Flush_ok (p_1 : Disk) (H : Heaplet) {aoa_2 : Option Addr} {na_2 : Nat} {capa_2 : Nat} {aoa_3 : Option Addr} {na_3 : Nat} {capa_3 : Nat} (ha_2 : IsSlice H (RSl RU8 1) 1 (.slice aoa_2 na_2 capa_2) p_1.Blocks) (ha_3 : IsSlice H R_Write 2 (.slice aoa_3 na_3 capa_3) p_1.Waits) (r : Disk × Int) (hx : dev_Flush p_1 = some r) :
    Does Try.prog 21 #[.agg #[.slice aoa_2 na_2 capa_2, .slice aoa_3 na_3 capa_3]] [] H (fun u K' H' => ∃ ao0 : Option Addr, ∃ n0 : Nat, ∃ cap0 : Nat, ∃ ao1 : Option Addr, ∃ n1 : Nat, ∃ cap1 : Nat, ∃ K1 : Own, u = .tuple #[.agg #[.slice ao0 n0 cap0, .slice ao1 n1 cap1], .int .i64 r.2] ∧ K' = [K1] ∧ IsSlice (New H H') (RSl RU8 1) 1 (.slice ao0 n0 cap0) r.1.Blocks ∧ RowOf (New H H') R_Write 0 72 2 (.slice ao1 n1 cap1) r.1.Waits K1 ∧ (∀ p ∈ K1, p.1 ∉ ids (List.flatten [])) ∧ True) := by
  refine Does.enterL (vs := [.agg #[.slice aoa_2 na_2 capa_2, .slice aoa_3 na_3 capa_3]]) (l := [(0, .agg #[.slice aoa_2 na_2 capa_2, .slice aoa_3 na_3 capa_3])]) Try.func21 rfl rfl ⟨rfl, trivial⟩ (fun w hlt => ?_)
  unfold dev_Flush at hx
  refine JC.seq ?_
  refine JC.region ?_
  refine JL.box rfl rfl (fun b_4 hb_4 => ?_)
  refine JL.alloc Z25 rfl (fun b_5 hb_5 => ?_)
  refine JL.val rfl rfl (R.assign rfl) ?_
  refine JL.nil ?_
  refine JN.next ?_
  refine JC.seq ?_
  refine JC.region ?_
  refine JL.val rfl rfl (R.ldoN 1 (vs := [.slice aoa_2 na_2 capa_2, .slice aoa_3 na_3 capa_3]) S25 rfl rfl rfl rfl) ?_
  refine JL.val rfl rfl (R.func (vf := []) (vc := [_]) rfl rfl) ?_
  obtain ⟨x_6, hr_7, hx⟩ := bnd_some hx
  refine JL.callC (vs := [_, _, _]) (args := [_, _, _]) (K := [_]) (rst := [_]) E40 rfl rfl rfl (picks 1 rfl picks0) (dev_guarded_v3_ok p_1 true p_1 _ ha_2 ha_3 ha_2 ha_3 _ hr_7) rfl (fun u_8 Ku_8 Hu_8 hRu_8 hleu_8 hfu_8 => ?_)
  obtain ⟨aoz_9, nz_9, capz_9, aoz_10, nz_10, capz_10, aoz_11, nz_11, capz_11, aor_12, nr_12, capr_12, Kr_12, rfl, rfl, hz_9, hz_10, hz_11, hr_12, hnewr_12, -⟩ := hRu_8
  replace hr_12 := (RowOf.base (RowOf.mono R_Write.mono (New.call (Hle.refl _)) hr_12) (fun p hp => (hfu_8 p (mem_seg 1 rfl hp)).resolve_left (hnewr_12 p hp)))
  replace hz_11 := IsSlice.mono (RSl.mono RU8.mono) (New.call (Hle.refl _)) hz_11
  refine JL.val rfl rfl (R.extract rfl rfl) ?_
  refine JL.val rfl rfl (R.extract rfl rfl) ?_
  refine JL.store 2 S25 rfl rfl rfl rfl rfl (Nat.le_of_ble_eq_true rfl) ?_
  refine JL.val rfl rfl (R.assign rfl) ?_
  refine JL.nil ?_
  refine JN.next ?_
  refine JC.ret ?_
  refine JN.outP (vs := [.agg #[.slice aoz_11 nz_11 capz_11, .slice aor_12 nr_12 capr_12], .int .i64 x_6.2.1]) (K := [_]) (rst := [_, _]) (.inl rfl) rfl rfl (Res.cellN 2 rfl rfl S25 (Res.tmp rfl rfl)) (picks 1 rfl picks0) ?_
  obtain rfl := Option.some.inj hx
  exact ⟨aoz_11, nz_11, capz_11, aor_12, nr_12, capr_12, Kr_12, rfl, rfl, hz_11, (RowOf.weak (Nat.zero_le _) hr_12), (new_ids hr_12 hlt), trivial⟩

set_option maxHeartbeats 8000000 in
theorem dev_Tamper_1_ok (p_2 : Disk) (p_6 : Int) (p_8 : Int) (p_10 : UInt8) (H : Heaplet) {b_1 : Nat} {aoa_3 : Option Addr} {na_3 : Nat} {capa_3 : Nat} {aoa_4 : Option Addr} {na_4 : Nat} {capa_4 : Nat} {b_5 : Nat} {b_7 : Nat} {b_9 : Nat} (ha_3 : IsSlice H (RSl RU8 1) 1 (.slice aoa_3 na_3 capa_3) p_2.Blocks) (ha_4 : IsSlice H R_Write 2 (.slice aoa_4 na_4 capa_4) p_2.Waits) (r : Disk × Disk × Int × Int × UInt8) (hx : dev_Tamper_1 p_2 p_6 p_8 p_10 = some r) :
    Does Try.prog 45 #[.pointer (some ⟨b_1, 0, none⟩), .pointer (some ⟨b_5, 0, none⟩), .pointer (some ⟨b_7, 0, none⟩), .pointer (some ⟨b_9, 0, none⟩)] [[(b_1, .cells #[.slice aoa_3 na_3 capa_3, .slice aoa_4 na_4 capa_4] 25 (0, 0))], [(b_5, .cells #[.int .i64 p_6] 3 (0, 0))], [(b_7, .cells #[.int .i64 p_8] 3 (0, 0))], [(b_9, .cells #[.int .u8 (p_10.toNat : Int)] 5 (0, 0))]] H (fun u K' H' => ∃ ao0 : Option Addr, ∃ n0 : Nat, ∃ cap0 : Nat, ∃ ao1 : Option Addr, ∃ n1 : Nat, ∃ cap1 : Nat, ∃ ao2 : Option Addr, ∃ n2 : Nat, ∃ cap2 : Nat, ∃ ao3 : Option Addr, ∃ n3 : Nat, ∃ cap3 : Nat, u = .agg #[.slice ao2 n2 cap2, .slice ao3 n3 cap3] ∧ K' = [[(b_1, .cells #[.slice ao0 n0 cap0, .slice ao1 n1 cap1] 25 (0, 0))], [(b_5, .cells #[.int .i64 r.2.2.1] 3 (0, 0))], [(b_7, .cells #[.int .i64 r.2.2.2.1] 3 (0, 0))], [(b_9, .cells #[.int .u8 (r.2.2.2.2.toNat : Int)] 5 (0, 0))]] ∧ IsSlice (New H H') (RSl RU8 1) 1 (.slice ao0 n0 cap0) r.2.1.Blocks ∧ IsSlice (New H H') R_Write 2 (.slice ao1 n1 cap1) r.2.1.Waits ∧ IsSlice (New H H') (RSl RU8 1) 1 (.slice ao2 n2 cap2) r.1.Blocks ∧ IsSlice (New H H') R_Write 2 (.slice ao3 n3 cap3) r.1.Waits ∧ True) := by
  refine Does.enterL (vs := [.pointer (some ⟨b_1, 0, none⟩), .pointer (some ⟨b_5, 0, none⟩), .pointer (some ⟨b_7, 0, none⟩), .pointer (some ⟨b_9, 0, none⟩)]) (l := [(0, .pointer (some ⟨b_1, 0, none⟩)), (1, .pointer (some ⟨b_5, 0, none⟩)), (2, .pointer (some ⟨b_7, 0, none⟩)), (3, .pointer (some ⟨b_9, 0, none⟩))]) Try.func45 rfl rfl ⟨rfl, rfl, rfl, rfl, trivial⟩ (fun w hlt => ?_)
  unfold dev_Tamper_1 at hx
  refine JC.seq ?_
  refine JC.region ?_
  refine JL.alloc Z25 rfl (fun b_11 hb_11 => ?_)
  refine JL.nil ?_
  refine JN.next ?_
  refine JC.seq ?_
  refine JC.region ?_
  refine JL.val rfl rfl (R.ldoN 1 (vs := [.slice aoa_3 na_3 capa_3, .slice aoa_4 na_4 capa_4]) S25 rfl rfl rfl rfl) ?_
  obtain ⟨x_12, hr_13, hx⟩ := bnd_some hx
  refine JL.callC (vs := [_]) (args := [_]) (K := []) (rst := [_, _, _, _, _]) E46 rfl rfl rfl picks0 (dev_Twin_ok p_2 _ ha_3 ha_4 _ hr_13) rfl (fun u_14 Ku_14 Hu_14 hRu_14 hleu_14 hfu_14 => ?_)
  obtain ⟨aor_15, nr_15, capr_15, Kr_15, aor_16, nr_16, capr_16, Kr_16, rfl, rfl, hr_15, hnewr_15, hr_16, hnewr_16, -⟩ := hRu_14
  replace hr_15 := (Pcs.base hr_15 (fun p hp => (hfu_14 p (mem_seg 0 rfl hp)).resolve_left (hnewr_15 p hp)))
  replace hr_16 := (RowOf.base (RowOf.mono R_Write.mono (New.call (Hle.refl _)) hr_16) (fun p hp => (hfu_14 p (mem_seg 1 rfl hp)).resolve_left (hnewr_16 p hp)))
  refine JL.store 3 S25 rfl rfl rfl rfl rfl (Nat.le_of_ble_eq_true rfl) ?_
  refine JL.nil ?_
  refine JN.next ?_
  refine JC.seq ?_
  refine JC.draw (so := [_, _, _, _, _, _]) 12 rfl Mixed ⟨⟨1, rfl⟩, ⟨2, rfl⟩, ⟨3, rfl⟩, ⟨4, rfl⟩, ⟨5, rfl⟩, ⟨6, rfl⟩, trivial⟩ ?_
  refine JA.val ⟨by kernel_rfl, by kernel_rfl⟩ (calm_only _) (i := 0) rfl ⟨by kernel_rfl, by kernel_rfl, rfl⟩ trivial (stab_of (Hle.refl _) ⟨⟨1, rfl⟩, ⟨2, rfl⟩, ⟨3, rfl⟩, ⟨4, rfl⟩, ⟨5, rfl⟩, ⟨6, rfl⟩, trivial⟩) (R.fa F25_0 rfl) rfl ?_
  refine JA.val ⟨by kernel_rfl, by kernel_rfl⟩ (calm_only _) (i := 1) rfl ⟨by kernel_rfl, by kernel_rfl, rfl⟩ trivial (stab_of (Hle.refl _) ⟨⟨1, rfl⟩, ⟨2, rfl⟩, ⟨3, rfl⟩, ⟨4, rfl⟩, ⟨5, rfl⟩, ⟨6, rfl⟩, trivial⟩) (R.ldo 2 S22 rfl rfl rfl) rfl ?_
  refine JA.val ⟨by kernel_rfl, by kernel_rfl⟩ (calm_only _) (i := 2) rfl ⟨by kernel_rfl, by kernel_rfl, rfl⟩ trivial (stab_of (Hle.refl _) ⟨⟨1, rfl⟩, ⟨2, rfl⟩, ⟨3, rfl⟩, ⟨4, rfl⟩, ⟨5, rfl⟩, ⟨6, rfl⟩, trivial⟩) (R.ldo 3 S3 rfl rfl rfl) rfl ?_
  refine JA.val ⟨by kernel_rfl, by kernel_rfl⟩ (calm_only _) (i := 5) rfl ⟨by kernel_rfl, by kernel_rfl, rfl⟩ trivial (stab_of (Hle.refl _) ⟨⟨1, rfl⟩, ⟨2, rfl⟩, ⟨3, rfl⟩, ⟨4, rfl⟩, ⟨5, rfl⟩, ⟨6, rfl⟩, trivial⟩) (R.ldo 4 S3 rfl rfl rfl) rfl ?_
  refine JA.val ⟨by kernel_rfl, by kernel_rfl⟩ (calm_only _) (i := 8) rfl ⟨by kernel_rfl, by kernel_rfl, rfl⟩ trivial (stab_of (Hle.refl _) ⟨⟨1, rfl⟩, ⟨2, rfl⟩, ⟨3, rfl⟩, ⟨4, rfl⟩, ⟨5, rfl⟩, ⟨6, rfl⟩, trivial⟩) (R.ldo 5 S5 rfl rfl rfl) rfl ?_
  refine JA.one (i := 3) (by kernel_rfl) ?_
  refine JO.step rfl trivial rfl (fun K hK => ?_)
  obtain ⟨y_17, hN_18, hx⟩ := idx_some hx
  obtain ⟨b_20, o_19, cur_21, pv_22, hE_23, hm_24, hc_25, hA_26⟩ := Pcs.at hr_15 hN_18
  refine JL.val rfl rfl (R.ix U22 S26 rfl rfl hE_23) ?_
  refine JL.nil ?_
  refine hK _ _ _ (stab_of (Hle.refl _) ⟨⟨1, rfl⟩, ⟨2, rfl⟩, ⟨3, rfl⟩, ⟨4, rfl⟩, ⟨5, rfl⟩, ⟨6, rfl⟩, trivial⟩) ?_
  refine JA.one (i := 4) (by kernel_rfl) ?_
  refine JO.step rfl trivial rfl (fun K hK => ?_)
  refine JL.val rfl rfl (R.ldM 0 S26 rfl rfl hm_24 hc_25) ?_
  refine JL.nil ?_
  refine hK _ _ _ (stab_of (Hle.refl _) ⟨⟨1, rfl⟩, ⟨2, rfl⟩, ⟨3, rfl⟩, ⟨4, rfl⟩, ⟨5, rfl⟩, ⟨6, rfl⟩, trivial⟩) ?_
  refine JA.one (i := 6) (by kernel_rfl) ?_
  refine JO.step rfl trivial rfl (fun K hK => ?_)
  obtain ⟨y_30, hN_31, hx⟩ := idx_some hx
  obtain ⟨b_27, o_28, hE_29⟩ := PcAt.elem hA_26 ⟨hN_31.1, (List.getElem?_eq_some_iff.1 hN_31.2).1⟩
  refine JL.val rfl rfl (R.ix U26 S5 rfl rfl hE_29) ?_
  refine JL.nil ?_
  refine hK _ _ _ (stab_of (Hle.refl _) ⟨⟨1, rfl⟩, ⟨2, rfl⟩, ⟨3, rfl⟩, ⟨4, rfl⟩, ⟨5, rfl⟩, ⟨6, rfl⟩, trivial⟩) ?_
  refine JA.one (i := 7) (by kernel_rfl) ?_
  refine JO.step rfl trivial rfl (fun K hK => ?_)
  have hc_32 := PcAt.cell hA_26 hN_18 hN_31 hE_29
  refine JL.val rfl rfl (R.ldM 0 S5 rfl rfl hc_32.1 hc_32.2) ?_
  refine JL.nil ?_
  refine hK _ _ _ (stab_of (Hle.refl _) ⟨⟨1, rfl⟩, ⟨2, rfl⟩, ⟨3, rfl⟩, ⟨4, rfl⟩, ⟨5, rfl⟩, ⟨6, rfl⟩, trivial⟩) ?_
  refine JA.val ⟨by kernel_rfl, by kernel_rfl⟩ (calm_only _) (i := 9) rfl ⟨by kernel_rfl, by kernel_rfl, rfl⟩ trivial (stab_of (Hle.refl _) ⟨⟨1, rfl⟩, ⟨2, rfl⟩, ⟨3, rfl⟩, ⟨4, rfl⟩, ⟨5, rfl⟩, ⟨6, rfl⟩, trivial⟩) (R.xor8 (a := y_30) (b := p_10) rfl rfl) rfl ?_
  refine JA.one (i := 10) (by kernel_rfl) ?_
  refine JO.step rfl trivial rfl (fun K hK => ?_)
  obtain ⟨hp_36, hx⟩ := chk_some hx
  obtain ⟨b_33, o_34, hE_35⟩ := PcAt.elem hA_26 hp_36
  refine JL.val rfl rfl (R.ix U26 S5 rfl rfl hE_35) ?_
  refine JL.nil ?_
  refine hK _ _ _ (stab_of (Hle.refl _) ⟨⟨1, rfl⟩, ⟨2, rfl⟩, ⟨3, rfl⟩, ⟨4, rfl⟩, ⟨5, rfl⟩, ⟨6, rfl⟩, trivial⟩) ?_
  refine JA.one (i := 11) (by kernel_rfl) ?_
  refine JO.step rfl trivial rfl (fun K hK => ?_)
  obtain ⟨m_37, hm_39, hi_41, hx⟩ := setI_some hx
  obtain ⟨m_38, hm_40, hi_42, hx⟩ := setI_some hx
  refine JL.stPc 0 S5 rfl hr_15 hN_18 hA_26 rfl hE_35 rfl (fun Kr_43 hr_43 => ?_)
  rw [← hm_39, ← hm_40] at hr_43
  refine JL.nil ?_
  refine hK _ _ _ (stab_of (Hle.refl _) ⟨⟨1, rfl⟩, ⟨2, rfl⟩, ⟨3, rfl⟩, ⟨4, rfl⟩, ⟨5, rfl⟩, ⟨6, rfl⟩, trivial⟩) ?_
  refine JA.doneN (by kernel_rfl) ?_
  refine JN.next ?_
  refine JC.seq ?_
  refine JC.region ?_
  refine JL.val rfl rfl (R.ldoN 3 (vs := [.slice aor_15 nr_15 capr_15, .slice aor_16 nr_16 capr_16]) S25 rfl rfl rfl rfl) ?_
  refine JL.store 2 S25 rfl rfl rfl rfl rfl (Nat.le_of_ble_eq_true rfl) ?_
  refine JL.nil ?_
  refine JN.next ?_
  refine JC.ret ?_
  refine JN.pubPcs 0  rfl hr_43 (Nat.le_refl _) (fun H_44 hleH_44 hsH_44 => ?_)
  refine JN.forget 0 ?_
  refine JN.pubN 0 R_Write.mono rfl (hr_16.mono R_Write.mono (New.mono hleH_44)) (Nat.le_refl _) (fun H_45 hleH_45 hsH_45 => ?_)
  refine JN.forget 0 ?_
  refine JN.outP (vs := [.agg #[.slice aor_15 nr_15 capr_15, .slice aor_16 nr_16 capr_16]]) (K := [_, _, _, _]) (rst := [_]) (.inl rfl) rfl rfl (Res.cellN 0 rfl rfl S25 rfl) (picks 1 rfl (picks 1 rfl (picks 1 rfl (picks 1 rfl picks0)))) ?_
  obtain rfl := Option.some.inj hx
  exact ⟨aor_15, nr_15, capr_15, aor_16, nr_16, capr_16, aor_15, nr_15, capr_15, aor_16, nr_16, capr_16, rfl, rfl, (hsH_44.mono (RSl.mono RU8.mono) (New.mono hleH_45)), hsH_45, (hsH_44.mono (RSl.mono RU8.mono) (New.mono hleH_45)), hsH_45, trivial⟩

set_option maxHeartbeats 8000000 in
theorem dev_guarded_v4_ok (p_1 : Disk) (p_4 : Bool) (p_6 : Disk) (p_10 : Int) (p_12 : Int) (p_14 : UInt8) (H : Heaplet) {aoa_2 : Option Addr} {na_2 : Nat} {capa_2 : Nat} {aoa_3 : Option Addr} {na_3 : Nat} {capa_3 : Nat} {b_5 : Nat} {aoa_7 : Option Addr} {na_7 : Nat} {capa_7 : Nat} {aoa_8 : Option Addr} {na_8 : Nat} {capa_8 : Nat} {b_9 : Nat} {b_11 : Nat} {b_13 : Nat} (ha_2 : IsSlice H (RSl RU8 1) 1 (.slice aoa_2 na_2 capa_2) p_1.Blocks) (ha_3 : IsSlice H R_Write 2 (.slice aoa_3 na_3 capa_3) p_1.Waits) (ha_7 : IsSlice H (RSl RU8 1) 1 (.slice aoa_7 na_7 capa_7) p_6.Blocks) (ha_8 : IsSlice H R_Write 2 (.slice aoa_8 na_8 capa_8) p_6.Waits) (r : Disk × Int × Disk × Int × Int × UInt8) (hx : dev_guarded_v4 p_1 p_4 p_6 p_10 p_12 p_14 = some r) :
    Does Try.prog 40 #[.agg #[.slice aoa_2 na_2 capa_2, .slice aoa_3 na_3 capa_3], .bool p_4, .func (.func 45) #[] #[.pointer (some ⟨b_5, 0, none⟩), .pointer (some ⟨b_9, 0, none⟩), .pointer (some ⟨b_11, 0, none⟩), .pointer (some ⟨b_13, 0, none⟩)]] [[(b_5, .cells #[.slice aoa_7 na_7 capa_7, .slice aoa_8 na_8 capa_8] 25 (0, 0))], [(b_9, .cells #[.int .i64 p_10] 3 (0, 0))], [(b_11, .cells #[.int .i64 p_12] 3 (0, 0))], [(b_13, .cells #[.int .u8 (p_14.toNat : Int)] 5 (0, 0))]] H (fun u K' H' => ∃ ao0 : Option Addr, ∃ n0 : Nat, ∃ cap0 : Nat, ∃ ao1 : Option Addr, ∃ n1 : Nat, ∃ cap1 : Nat, ∃ ao2 : Option Addr, ∃ n2 : Nat, ∃ cap2 : Nat, ∃ ao3 : Option Addr, ∃ n3 : Nat, ∃ cap3 : Nat, u = .tuple #[.agg #[.slice ao2 n2 cap2, .slice ao3 n3 cap3], .int .i64 r.2.1] ∧ K' = [[(b_5, .cells #[.slice ao0 n0 cap0, .slice ao1 n1 cap1] 25 (0, 0))], [(b_9, .cells #[.int .i64 r.2.2.2.1] 3 (0, 0))], [(b_11, .cells #[.int .i64 r.2.2.2.2.1] 3 (0, 0))], [(b_13, .cells #[.int .u8 (r.2.2.2.2.2.toNat : Int)] 5 (0, 0))]] ∧ IsSlice H' (RSl RU8 1) 1 (.slice ao0 n0 cap0) r.2.2.1.Blocks ∧ IsSlice H' R_Write 2 (.slice ao1 n1 cap1) r.2.2.1.Waits ∧ IsSlice (New H H') (RSl RU8 1) 1 (.slice ao2 n2 cap2) r.1.Blocks ∧ IsSlice (New H H') R_Write 2 (.slice ao3 n3 cap3) r.1.Waits ∧ True) := by
  refine Does.enterL (vs := [.agg #[.slice aoa_2 na_2 capa_2, .slice aoa_3 na_3 capa_3], .bool p_4, .func (.func 45) #[] #[.pointer (some ⟨b_5, 0, none⟩), .pointer (some ⟨b_9, 0, none⟩), .pointer (some ⟨b_11, 0, none⟩), .pointer (some ⟨b_13, 0, none⟩)]]) (l := [(0, .agg #[.slice aoa_2 na_2 capa_2, .slice aoa_3 na_3 capa_3]), (1, .bool p_4), (2, .func (.func 45) #[] #[.pointer (some ⟨b_5, 0, none⟩), .pointer (some ⟨b_9, 0, none⟩), .pointer (some ⟨b_11, 0, none⟩), .pointer (some ⟨b_13, 0, none⟩)])]) Try.func40 rfl rfl ⟨rfl, rfl, rfl, trivial⟩ (fun w hlt => ?_)
  unfold dev_guarded_v4 at hx
  refine JC.seq ?_
  refine JC.region ?_
  refine JL.box rfl rfl (fun b_15 hb_15 => ?_)
  refine JL.alloc Z25 rfl (fun b_16 hb_16 => ?_)
  refine JL.val rfl rfl (R.assign rfl) ?_
  refine JL.nil ?_
  refine JN.next ?_
  refine JC.seq ?_
  refine JC.region ?_
  refine JL.val rfl rfl (R.ldoN 1 (vs := [.slice aoa_2 na_2 capa_2, .slice aoa_3 na_3 capa_3]) S25 rfl rfl rfl rfl) ?_
  obtain ⟨x_17, hr_18, hx⟩ := bnd_some hx
  refine JL.callC (vs := [_]) (args := [_]) (K := []) (rst := [_, _, _, _, _, _]) E48 rfl rfl rfl picks0 (dev_Check_ok p_1 _ ha_2 ha_3 _ hr_18) rfl (fun u_19 Ku_19 Hu_19 hRu_19 hleu_19 hfu_19 => ?_)
  obtain ⟨rfl, rfl, rfl, -⟩ := hRu_19
  refine JL.val rfl rfl (R.assign rfl) ?_
  refine JL.nil ?_
  refine JN.next ?_
  refine JC.seq ?_
  refine JC.block ?_
  refine JC.seq ?_
  refine JC.region ?_
  refine JL.val rfl rfl (R.move rfl) ?_
  refine JL.val rfl rfl (R.neq_i rfl rfl) ?_
  refine JL.val rfl rfl (R.assign rfl) ?_
  refine JL.nil ?_
  refine JN.next ?_
  refine JC.condB rfl (fun c_20 => ?_) (fun c_20 => ?_)
  · replace hx := cond_t c_20 hx
    refine JC.seq ?_
    refine JC.region ?_
    refine JL.val rfl rfl (R.bldP (vs := []) (cs := [.slice none 0 0, .slice none 0 0]) Z25 B25 rfl rfl rfl) ?_
    refine JL.val rfl rfl (R.move rfl) ?_
    refine JL.store 0 S25 rfl rfl rfl rfl rfl (Nat.le_of_ble_eq_true rfl) ?_
    refine JL.val rfl rfl (R.assign rfl) ?_
    refine JL.nil ?_
    refine JN.next ?_
    refine JC.ret ?_
    refine JN.blkR ?_
    refine JN.passR ?_
    refine JN.outP (vs := [.agg #[.slice none 0 0, .slice none 0 0], .int .i64 x_17]) (K := [_, _, _, _]) (rst := [_, _]) (.inl rfl) rfl rfl (Res.cellN 0 rfl rfl S25 (Res.tmp rfl rfl)) (picks 2 rfl (picks 2 rfl (picks 2 rfl (picks 2 rfl picks0)))) ?_
    obtain rfl := Option.some.inj hx
    exact ⟨aoa_7, na_7, capa_7, aoa_8, na_8, capa_8, none, 0, 0, none, 0, 0, rfl, rfl, ha_7, ha_8, (IsSlice.nil _ _ _), (IsSlice.nil _ _ _), trivial⟩
  · replace hx := cond_f c_20 hx
    refine JC.seq ?_
    refine JC.region ?_
    refine JL.val rfl rfl (R.move rfl) ?_
    refine JL.val rfl rfl (R.not rfl) ?_
    refine JL.val rfl rfl (R.assign rfl) ?_
    refine JL.nil ?_
    refine JN.next ?_
    refine JC.condB rfl (fun c_21 => ?_) (fun c_21 => ?_)
    · replace hx := cond_t c_21 hx
      refine JC.seq ?_
      refine JC.region ?_
      refine JL.val rfl rfl (R.bldP (vs := []) (cs := [.slice none 0 0, .slice none 0 0]) Z25 B25 rfl rfl rfl) ?_
      refine JL.store 0 S25 rfl rfl rfl rfl rfl (Nat.le_of_ble_eq_true rfl) ?_
      refine JL.val rfl rfl (R.assign rfl) ?_
      refine JL.nil ?_
      refine JN.next ?_
      refine JC.ret ?_
      refine JN.blkR ?_
      refine JN.passR ?_
      refine JN.outP (vs := [.agg #[.slice none 0 0, .slice none 0 0], .int .i64 2]) (K := [_, _, _, _]) (rst := [_, _]) (.inl rfl) rfl rfl (Res.cellN 0 rfl rfl S25 (Res.tmp rfl rfl)) (picks 2 rfl (picks 2 rfl (picks 2 rfl (picks 2 rfl picks0)))) ?_
      obtain rfl := Option.some.inj hx
      exact ⟨aoa_7, na_7, capa_7, aoa_8, na_8, capa_8, none, 0, 0, none, 0, 0, rfl, rfl, ha_7, ha_8, (IsSlice.nil _ _ _), (IsSlice.nil _ _ _), trivial⟩
    · replace hx := cond_f c_21 hx
      refine JC.skip ?_
      refine JN.blkN ?_
      refine JN.next ?_
      refine JC.seq ?_
      refine JC.region ?_
      refine JL.val rfl rfl (R.move rfl) ?_
      obtain ⟨x_22, hr_23, hx⟩ := bnd_some hx
      refine JL.callC (vs := []) (args := [_, _, _, _]) (K := [_, _, _, _]) (rst := [_, _]) E45 rfl rfl rfl (picks 2 rfl (picks 2 rfl (picks 2 rfl (picks 2 rfl picks0)))) (dev_Tamper_1_ok p_6 p_10 p_12 p_14 _ ha_7 ha_8 _ hr_23) rfl (fun u_24 Ku_24 Hu_24 hRu_24 hleu_24 hfu_24 => ?_)
      obtain ⟨aoz_25, nz_25, capz_25, aoz_26, nz_26, capz_26, aoz_27, nz_27, capz_27, aoz_28, nz_28, capz_28, rfl, rfl, hz_25, hz_26, hz_27, hz_28, -⟩ := hRu_24
      replace hz_27 := IsSlice.mono (RSl.mono RU8.mono) (New.call (Hle.refl _)) hz_27
      replace hz_28 := IsSlice.mono R_Write.mono (New.call (Hle.refl _)) hz_28
      replace hz_25 := IsSlice.mono (RSl.mono RU8.mono) (New.call (Hle.refl _)) hz_25
      replace hz_26 := IsSlice.mono R_Write.mono (New.call (Hle.refl _)) hz_26
      refine JL.store 4 S25 rfl rfl rfl rfl rfl (Nat.le_of_ble_eq_true rfl) ?_
      refine JL.val rfl rfl (R.assign rfl) ?_
      refine JL.nil ?_
      refine JN.next ?_
      refine JC.ret ?_
      refine JN.outP (vs := [.agg #[.slice aoz_27 nz_27 capz_27, .slice aoz_28 nz_28 capz_28], .int .i64 0]) (K := [_, _, _, _]) (rst := [_, _]) (.inl rfl) rfl rfl (Res.cellN 4 rfl rfl S25 (Res.tmp rfl rfl)) (picks 0 rfl (picks 0 rfl (picks 0 rfl (picks 0 rfl picks0)))) ?_
      obtain rfl := Option.some.inj hx
      exact ⟨aoz_25, nz_25, capz_25, aoz_26, nz_26, capz_26, aoz_27, nz_27, capz_27, aoz_28, nz_28, capz_28, rfl, rfl, (hz_25.old (RSl.mono RU8.mono)), (hz_26.old R_Write.mono), hz_27, hz_28, trivial⟩

set_option maxHeartbeats 8000000 in
theorem dev_Tamper_ok (p_1 : Disk) (p_4 : Int) (p_5 : Int) (p_6 : UInt8) (H : Heaplet) {aoa_2 : Option Addr} {na_2 : Nat} {capa_2 : Nat} {aoa_3 : Option Addr} {na_3 : Nat} {capa_3 : Nat} (ha_2 : IsSlice H (RSl RU8 1) 1 (.slice aoa_2 na_2 capa_2) p_1.Blocks) (ha_3 : IsSlice H R_Write 2 (.slice aoa_3 na_3 capa_3) p_1.Waits) (r : Disk × Int) (hx : dev_Tamper p_1 p_4 p_5 p_6 = some r) :
    Does Try.prog 22 #[.agg #[.slice aoa_2 na_2 capa_2, .slice aoa_3 na_3 capa_3], .int .i64 p_4, .int .i64 p_5, .int .u8 (p_6.toNat : Int)] [] H (fun u K' H' => ∃ ao0 : Option Addr, ∃ n0 : Nat, ∃ cap0 : Nat, ∃ ao1 : Option Addr, ∃ n1 : Nat, ∃ cap1 : Nat, u = .tuple #[.agg #[.slice ao0 n0 cap0, .slice ao1 n1 cap1], .int .i64 r.2] ∧ K' = [] ∧ IsSlice (New H H') (RSl RU8 1) 1 (.slice ao0 n0 cap0) r.1.Blocks ∧ IsSlice (New H H') R_Write 2 (.slice ao1 n1 cap1) r.1.Waits ∧ True) := by
  refine Does.enterL (vs := [.agg #[.slice aoa_2 na_2 capa_2, .slice aoa_3 na_3 capa_3], .int .i64 p_4, .int .i64 p_5, .int .u8 (p_6.toNat : Int)]) (l := [(0, .agg #[.slice aoa_2 na_2 capa_2, .slice aoa_3 na_3 capa_3]), (1, .int .i64 p_4), (2, .int .i64 p_5), (3, .int .u8 (p_6.toNat : Int))]) Try.func22 rfl rfl ⟨rfl, rfl, rfl, rfl, trivial⟩ (fun w hlt => ?_)
  unfold dev_Tamper at hx
  refine JC.seq ?_
  refine JC.region ?_
  refine JL.box rfl rfl (fun b_7 hb_7 => ?_)
  refine JL.box rfl rfl (fun b_8 hb_8 => ?_)
  refine JL.box rfl rfl (fun b_9 hb_9 => ?_)
  refine JL.box rfl rfl (fun b_10 hb_10 => ?_)
  refine JL.alloc Z25 rfl (fun b_11 hb_11 => ?_)
  refine JL.val rfl rfl (R.assign rfl) ?_
  refine JL.nil ?_
  refine JN.next ?_
  refine JC.seq ?_
  obtain ⟨t_12, ht_14, hx⟩ := bnd_some hx
  refine JC.cut (fun l o g => ∃ H_78 : Heaplet, ∃ aoz_79 : Option Addr, ∃ nz_79 : Nat, ∃ capz_79 : Nat, ∃ aoz_80 : Option Addr, ∃ nz_80 : Nat, ∃ capz_80 : Nat, l = [(8, .pointer (some ⟨b_11, 0, none⟩)), (9, .int .i64 t_12.2.2)] ∧ o = [[(b_11, .cells #[.slice aoz_79 nz_79 capz_79, .slice aoz_80 nz_80 capz_80] 25 (0, 0))]] ∧ H_78 = g ∧ Hle H H_78 ∧ IsSlice (New H H_78) (RSl RU8 1) 1 (.slice aoz_79 nz_79 capz_79) t_12.1 ∧ IsSlice (New H H_78) R_Write 2 (.slice aoz_80 nz_80 capz_80) t_12.2.1) ?_ ?_
  · rintro _ _ _ ⟨H_78, aoz_79, nz_79, capz_79, aoz_80, nz_80, capz_80, rfl, rfl, rfl, hleH_78, hz_79, hz_80⟩
    refine JN.next ?_
    refine JC.ret ?_
    refine JN.outP (vs := [.agg #[.slice aoz_79 nz_79 capz_79, .slice aoz_80 nz_80 capz_80], .int .i64 t_12.2.2]) (K := []) (rst := [_]) (.inl rfl) rfl rfl (Res.cellN 0 rfl rfl S25 (Res.tmp rfl rfl)) picks0 ?_
    obtain rfl := Option.some.inj hx
    exact ⟨aoz_79, nz_79, capz_79, aoz_80, nz_80, capz_80, rfl, rfl, hz_79, hz_80, trivial⟩
  · have hxo_13 := hx; clear hx; have hx := ht_14; clear ht_14
    refine JC.draw (so := []) 13 rfl Mixed trivial ?_
    refine JA.val ⟨by kernel_rfl, by kernel_rfl⟩ (calm_only _) (i := 7) rfl ⟨by kernel_rfl, by kernel_rfl, rfl⟩ trivial (stab_of (Hle.refl _) trivial) (R.func (vf := []) (vc := [_, _, _, _]) rfl rfl) rfl ?_
    refine JA.two (i := 0) (j := 1) (by kernel_rfl) ?_ ?_
    · refine JO.step rfl trivial rfl (fun K hK => ?_)
      refine JL.val rfl rfl (R.ldoN 4 (vs := [.slice aoa_2 na_2 capa_2, .slice aoa_3 na_3 capa_3]) S25 rfl rfl rfl rfl) ?_
      refine JL.nil ?_
      refine hK _ _ _ (stab_of (Hle.refl _) trivial) ?_
      refine JA.one (i := 1) (by kernel_rfl) ?_
      refine JO.step rfl trivial rfl (fun K hK => ?_)
      refine JL.val rfl rfl (R.ldo 3 S3 rfl rfl rfl) ?_
      refine JL.nil ?_
      refine hK _ _ _ (stab_of (Hle.refl _) trivial) ?_
      refine JA.one (i := 2) (by kernel_rfl) ?_
      refine JO.step rfl trivial rfl (fun K hK => ?_)
      obtain ⟨x_15, hr_16, hx⟩ := bnd_some hx
      refine JL.callC (vs := [_]) (args := [_]) (K := []) (rst := [_, _, _, _, _]) E44 rfl rfl rfl picks0 (dev_place_ok p_4 _ _ hr_16) rfl (fun u_17 Ku_17 Hu_17 hRu_17 hleu_17 hfu_17 => ?_)
      obtain ⟨rfl, rfl, rfl, -⟩ := hRu_17
      refine JL.nil ?_
      refine hK _ _ _ (stab_of (Hle.refl _) trivial) ?_
      refine JA.val ⟨by kernel_rfl, by kernel_rfl⟩ (calm_only _) (i := 3) rfl ⟨by kernel_rfl, by kernel_rfl, rfl⟩ trivial (stab_of (Hle.refl _) trivial) (R.move rfl) rfl ?_
      refine JA.gSplit (t := 13) rfl (fun c_18 => ?_) (fun c_18 => ?_)
      · replace hx := cond_t c_18 hx
        refine JA.one (i := 4) (by kernel_rfl) ?_
        refine JO.step rfl ⟨_, _, rfl, rfl, rfl⟩ rfl (fun K hK => ?_)
        refine JL.val rfl rfl (R.ldo 2 S3 rfl rfl rfl) ?_
        refine JL.nil ?_
        refine hK _ _ _ (stab_of (Hle.refl _) trivial) ?_
        refine JA.one (i := 5) (by kernel_rfl) ?_
        refine JO.step rfl ⟨_, _, rfl, rfl, rfl⟩ rfl (fun K hK => ?_)
        obtain ⟨x_19, hr_20, hx⟩ := bnd_some hx
        refine JL.callC (vs := [_]) (args := [_]) (K := []) (rst := [_, _, _, _, _]) E44 rfl rfl rfl picks0 (dev_place_ok p_5 _ _ hr_20) rfl (fun u_21 Ku_21 Hu_21 hRu_21 hleu_21 hfu_21 => ?_)
        obtain ⟨rfl, rfl, rfl, -⟩ := hRu_21
        refine JL.nil ?_
        refine hK _ _ _ (stab_of (Hle.refl _) trivial) ?_
        refine JA.val ⟨by kernel_rfl, by kernel_rfl⟩ (calm_only _) (i := 6) rfl ⟨by kernel_rfl, by kernel_rfl, rfl⟩ trivial (stab_of (Hle.refl _) trivial) (R.pickT rfl rfl) rfl ?_
        refine JA.one (i := 8) (by kernel_rfl) ?_
        refine JO.step rfl trivial rfl (fun K hK => ?_)
        obtain ⟨x_22, hr_23, hx⟩ := bnd_some hx
        refine JL.callC (vs := [_, _, _]) (args := [_, _, _]) (K := [_, _, _, _]) (rst := [_]) E40 rfl rfl rfl (picks 4 rfl (picks 3 rfl (picks 2 rfl (picks 1 rfl picks0)))) (dev_guarded_v4_ok p_1 x_19 p_1 p_4 p_5 p_6 _ ha_2 ha_3 ha_2 ha_3 _ hr_23) rfl (fun u_24 Ku_24 Hu_24 hRu_24 hleu_24 hfu_24 => ?_)
        obtain ⟨aoz_25, nz_25, capz_25, aoz_26, nz_26, capz_26, aoz_27, nz_27, capz_27, aoz_28, nz_28, capz_28, rfl, rfl, hz_25, hz_26, hz_27, hz_28, -⟩ := hRu_24
        replace hz_27 := IsSlice.mono (RSl.mono RU8.mono) (New.call (Hle.refl _)) hz_27
        replace hz_28 := IsSlice.mono R_Write.mono (New.call (Hle.refl _)) hz_28
        refine JL.nil ?_
        refine hK _ _ _ (stab_of hleu_24 trivial) ?_
        refine JA.val ⟨by kernel_rfl, by kernel_rfl⟩ (calm_only _) (i := 9) rfl ⟨by kernel_rfl, by kernel_rfl, rfl⟩ trivial (stab_of hleu_24 trivial) (R.extract rfl rfl) rfl ?_
        refine JA.val ⟨by kernel_rfl, by kernel_rfl⟩ (calm_only _) (i := 10) rfl ⟨by kernel_rfl, by kernel_rfl, rfl⟩ trivial (stab_of hleu_24 trivial) (R.extract rfl rfl) rfl ?_
        refine JA.one (i := 11) (by kernel_rfl) ?_
        refine JO.step rfl trivial rfl (fun K hK => ?_)
        refine JL.store 4 S25 rfl rfl rfl rfl rfl (Nat.le_of_ble_eq_true rfl) ?_
        refine JL.nil ?_
        refine hK _ _ _ (stab_of hleu_24 trivial) ?_
        refine JA.val ⟨by kernel_rfl, by kernel_rfl⟩ (calm_only _) (i := 12) rfl ⟨by kernel_rfl, by kernel_rfl, rfl⟩ trivial (stab_of hleu_24 trivial) (R.assign rfl) rfl ?_
        refine JA.doneN (by kernel_rfl) ?_
        obtain rfl := Option.some.inj hx
        refine JN.forget 3 ?_
        refine JN.forget 2 ?_
        refine JN.forget 1 ?_
        refine JN.forget 0 ?_
        exact JN.cut ⟨Hu_24, aoz_27, nz_27, capz_27, aoz_28, nz_28, capz_28, rfl, rfl, rfl, (hleu_24), hz_27, hz_28⟩ ⟨rfl, rfl, trivial⟩ rfl rfl
      · replace hx := cond_f c_18 hx
        refine JA.no ⟨by kernel_rfl, by kernel_rfl⟩ (calm_only _) (i := 4) rfl ⟨by kernel_rfl, by kernel_rfl, rfl⟩ rfl rfl rfl rfl (stab_of (Hle.refl _) trivial) rfl ?_
        refine JA.no ⟨by kernel_rfl, by kernel_rfl⟩ (calm_only _) (i := 5) rfl ⟨by kernel_rfl, by kernel_rfl, rfl⟩ rfl rfl rfl rfl (stab_of (Hle.refl _) trivial) rfl ?_
        refine JA.val ⟨by kernel_rfl, by kernel_rfl⟩ (calm_only _) (i := 6) rfl ⟨by kernel_rfl, by kernel_rfl, rfl⟩ trivial (stab_of (Hle.refl _) trivial) (R.pickF rfl rfl) rfl ?_
        refine JA.one (i := 8) (by kernel_rfl) ?_
        refine JO.step rfl trivial rfl (fun K hK => ?_)
        obtain ⟨x_29, hr_30, hx⟩ := bnd_some hx
        refine JL.callC (vs := [_, _, _]) (args := [_, _, _]) (K := [_, _, _, _]) (rst := [_]) E40 rfl rfl rfl (picks 4 rfl (picks 3 rfl (picks 2 rfl (picks 1 rfl picks0)))) (dev_guarded_v4_ok p_1 false p_1 p_4 p_5 p_6 _ ha_2 ha_3 ha_2 ha_3 _ hr_30) rfl (fun u_31 Ku_31 Hu_31 hRu_31 hleu_31 hfu_31 => ?_)
        obtain ⟨aoz_32, nz_32, capz_32, aoz_33, nz_33, capz_33, aoz_34, nz_34, capz_34, aoz_35, nz_35, capz_35, rfl, rfl, hz_32, hz_33, hz_34, hz_35, -⟩ := hRu_31
        replace hz_34 := IsSlice.mono (RSl.mono RU8.mono) (New.call (Hle.refl _)) hz_34
        replace hz_35 := IsSlice.mono R_Write.mono (New.call (Hle.refl _)) hz_35
        refine JL.nil ?_
        refine hK _ _ _ (stab_of hleu_31 trivial) ?_
        refine JA.val ⟨by kernel_rfl, by kernel_rfl⟩ (calm_only _) (i := 9) rfl ⟨by kernel_rfl, by kernel_rfl, rfl⟩ trivial (stab_of hleu_31 trivial) (R.extract rfl rfl) rfl ?_
        refine JA.val ⟨by kernel_rfl, by kernel_rfl⟩ (calm_only _) (i := 10) rfl ⟨by kernel_rfl, by kernel_rfl, rfl⟩ trivial (stab_of hleu_31 trivial) (R.extract rfl rfl) rfl ?_
        refine JA.one (i := 11) (by kernel_rfl) ?_
        refine JO.step rfl trivial rfl (fun K hK => ?_)
        refine JL.store 4 S25 rfl rfl rfl rfl rfl (Nat.le_of_ble_eq_true rfl) ?_
        refine JL.nil ?_
        refine hK _ _ _ (stab_of hleu_31 trivial) ?_
        refine JA.val ⟨by kernel_rfl, by kernel_rfl⟩ (calm_only _) (i := 12) rfl ⟨by kernel_rfl, by kernel_rfl, rfl⟩ trivial (stab_of hleu_31 trivial) (R.assign rfl) rfl ?_
        refine JA.doneN (by kernel_rfl) ?_
        obtain rfl := Option.some.inj hx
        refine JN.forget 3 ?_
        refine JN.forget 2 ?_
        refine JN.forget 1 ?_
        refine JN.forget 0 ?_
        exact JN.cut ⟨Hu_31, aoz_34, nz_34, capz_34, aoz_35, nz_35, capz_35, rfl, rfl, rfl, (hleu_31), hz_34, hz_35⟩ ⟨rfl, rfl, trivial⟩ rfl rfl
    · refine JO.step rfl trivial rfl (fun K hK => ?_)
      refine JL.val rfl rfl (R.ldo 3 S3 rfl rfl rfl) ?_
      refine JL.nil ?_
      refine hK _ _ _ (stab_of (Hle.refl _) trivial) ?_
      refine JA.two (i := 0) (j := 2) (by kernel_rfl) ?_ ?_
      · refine JO.step rfl trivial rfl (fun K hK => ?_)
        refine JL.val rfl rfl (R.ldoN 4 (vs := [.slice aoa_2 na_2 capa_2, .slice aoa_3 na_3 capa_3]) S25 rfl rfl rfl rfl) ?_
        refine JL.nil ?_
        refine hK _ _ _ (stab_of (Hle.refl _) trivial) ?_
        refine JA.one (i := 2) (by kernel_rfl) ?_
        refine JO.step rfl trivial rfl (fun K hK => ?_)
        obtain ⟨x_36, hr_37, hx⟩ := bnd_some hx
        refine JL.callC (vs := [_]) (args := [_]) (K := []) (rst := [_, _, _, _, _]) E44 rfl rfl rfl picks0 (dev_place_ok p_4 _ _ hr_37) rfl (fun u_38 Ku_38 Hu_38 hRu_38 hleu_38 hfu_38 => ?_)
        obtain ⟨rfl, rfl, rfl, -⟩ := hRu_38
        refine JL.nil ?_
        refine hK _ _ _ (stab_of (Hle.refl _) trivial) ?_
        refine JA.val ⟨by kernel_rfl, by kernel_rfl⟩ (calm_only _) (i := 3) rfl ⟨by kernel_rfl, by kernel_rfl, rfl⟩ trivial (stab_of (Hle.refl _) trivial) (R.move rfl) rfl ?_
        refine JA.gSplit (t := 13) rfl (fun c_39 => ?_) (fun c_39 => ?_)
        · replace hx := cond_t c_39 hx
          refine JA.one (i := 4) (by kernel_rfl) ?_
          refine JO.step rfl ⟨_, _, rfl, rfl, rfl⟩ rfl (fun K hK => ?_)
          refine JL.val rfl rfl (R.ldo 2 S3 rfl rfl rfl) ?_
          refine JL.nil ?_
          refine hK _ _ _ (stab_of (Hle.refl _) trivial) ?_
          refine JA.one (i := 5) (by kernel_rfl) ?_
          refine JO.step rfl ⟨_, _, rfl, rfl, rfl⟩ rfl (fun K hK => ?_)
          obtain ⟨x_40, hr_41, hx⟩ := bnd_some hx
          refine JL.callC (vs := [_]) (args := [_]) (K := []) (rst := [_, _, _, _, _]) E44 rfl rfl rfl picks0 (dev_place_ok p_5 _ _ hr_41) rfl (fun u_42 Ku_42 Hu_42 hRu_42 hleu_42 hfu_42 => ?_)
          obtain ⟨rfl, rfl, rfl, -⟩ := hRu_42
          refine JL.nil ?_
          refine hK _ _ _ (stab_of (Hle.refl _) trivial) ?_
          refine JA.val ⟨by kernel_rfl, by kernel_rfl⟩ (calm_only _) (i := 6) rfl ⟨by kernel_rfl, by kernel_rfl, rfl⟩ trivial (stab_of (Hle.refl _) trivial) (R.pickT rfl rfl) rfl ?_
          refine JA.one (i := 8) (by kernel_rfl) ?_
          refine JO.step rfl trivial rfl (fun K hK => ?_)
          obtain ⟨x_43, hr_44, hx⟩ := bnd_some hx
          refine JL.callC (vs := [_, _, _]) (args := [_, _, _]) (K := [_, _, _, _]) (rst := [_]) E40 rfl rfl rfl (picks 4 rfl (picks 3 rfl (picks 2 rfl (picks 1 rfl picks0)))) (dev_guarded_v4_ok p_1 x_40 p_1 p_4 p_5 p_6 _ ha_2 ha_3 ha_2 ha_3 _ hr_44) rfl (fun u_45 Ku_45 Hu_45 hRu_45 hleu_45 hfu_45 => ?_)
          obtain ⟨aoz_46, nz_46, capz_46, aoz_47, nz_47, capz_47, aoz_48, nz_48, capz_48, aoz_49, nz_49, capz_49, rfl, rfl, hz_46, hz_47, hz_48, hz_49, -⟩ := hRu_45
          replace hz_48 := IsSlice.mono (RSl.mono RU8.mono) (New.call (Hle.refl _)) hz_48
          replace hz_49 := IsSlice.mono R_Write.mono (New.call (Hle.refl _)) hz_49
          refine JL.nil ?_
          refine hK _ _ _ (stab_of hleu_45 trivial) ?_
          refine JA.val ⟨by kernel_rfl, by kernel_rfl⟩ (calm_only _) (i := 9) rfl ⟨by kernel_rfl, by kernel_rfl, rfl⟩ trivial (stab_of hleu_45 trivial) (R.extract rfl rfl) rfl ?_
          refine JA.val ⟨by kernel_rfl, by kernel_rfl⟩ (calm_only _) (i := 10) rfl ⟨by kernel_rfl, by kernel_rfl, rfl⟩ trivial (stab_of hleu_45 trivial) (R.extract rfl rfl) rfl ?_
          refine JA.one (i := 11) (by kernel_rfl) ?_
          refine JO.step rfl trivial rfl (fun K hK => ?_)
          refine JL.store 4 S25 rfl rfl rfl rfl rfl (Nat.le_of_ble_eq_true rfl) ?_
          refine JL.nil ?_
          refine hK _ _ _ (stab_of hleu_45 trivial) ?_
          refine JA.val ⟨by kernel_rfl, by kernel_rfl⟩ (calm_only _) (i := 12) rfl ⟨by kernel_rfl, by kernel_rfl, rfl⟩ trivial (stab_of hleu_45 trivial) (R.assign rfl) rfl ?_
          refine JA.doneN (by kernel_rfl) ?_
          obtain rfl := Option.some.inj hx
          refine JN.forget 3 ?_
          refine JN.forget 2 ?_
          refine JN.forget 1 ?_
          refine JN.forget 0 ?_
          exact JN.cut ⟨Hu_45, aoz_48, nz_48, capz_48, aoz_49, nz_49, capz_49, rfl, rfl, rfl, (hleu_45), hz_48, hz_49⟩ ⟨rfl, rfl, trivial⟩ rfl rfl
        · replace hx := cond_f c_39 hx
          refine JA.no ⟨by kernel_rfl, by kernel_rfl⟩ (calm_only _) (i := 4) rfl ⟨by kernel_rfl, by kernel_rfl, rfl⟩ rfl rfl rfl rfl (stab_of (Hle.refl _) trivial) rfl ?_
          refine JA.no ⟨by kernel_rfl, by kernel_rfl⟩ (calm_only _) (i := 5) rfl ⟨by kernel_rfl, by kernel_rfl, rfl⟩ rfl rfl rfl rfl (stab_of (Hle.refl _) trivial) rfl ?_
          refine JA.val ⟨by kernel_rfl, by kernel_rfl⟩ (calm_only _) (i := 6) rfl ⟨by kernel_rfl, by kernel_rfl, rfl⟩ trivial (stab_of (Hle.refl _) trivial) (R.pickF rfl rfl) rfl ?_
          refine JA.one (i := 8) (by kernel_rfl) ?_
          refine JO.step rfl trivial rfl (fun K hK => ?_)
          obtain ⟨x_50, hr_51, hx⟩ := bnd_some hx
          refine JL.callC (vs := [_, _, _]) (args := [_, _, _]) (K := [_, _, _, _]) (rst := [_]) E40 rfl rfl rfl (picks 4 rfl (picks 3 rfl (picks 2 rfl (picks 1 rfl picks0)))) (dev_guarded_v4_ok p_1 false p_1 p_4 p_5 p_6 _ ha_2 ha_3 ha_2 ha_3 _ hr_51) rfl (fun u_52 Ku_52 Hu_52 hRu_52 hleu_52 hfu_52 => ?_)
          obtain ⟨aoz_53, nz_53, capz_53, aoz_54, nz_54, capz_54, aoz_55, nz_55, capz_55, aoz_56, nz_56, capz_56, rfl, rfl, hz_53, hz_54, hz_55, hz_56, -⟩ := hRu_52
          replace hz_55 := IsSlice.mono (RSl.mono RU8.mono) (New.call (Hle.refl _)) hz_55
          replace hz_56 := IsSlice.mono R_Write.mono (New.call (Hle.refl _)) hz_56
          refine JL.nil ?_
          refine hK _ _ _ (stab_of hleu_52 trivial) ?_
          refine JA.val ⟨by kernel_rfl, by kernel_rfl⟩ (calm_only _) (i := 9) rfl ⟨by kernel_rfl, by kernel_rfl, rfl⟩ trivial (stab_of hleu_52 trivial) (R.extract rfl rfl) rfl ?_
          refine JA.val ⟨by kernel_rfl, by kernel_rfl⟩ (calm_only _) (i := 10) rfl ⟨by kernel_rfl, by kernel_rfl, rfl⟩ trivial (stab_of hleu_52 trivial) (R.extract rfl rfl) rfl ?_
          refine JA.one (i := 11) (by kernel_rfl) ?_
          refine JO.step rfl trivial rfl (fun K hK => ?_)
          refine JL.store 4 S25 rfl rfl rfl rfl rfl (Nat.le_of_ble_eq_true rfl) ?_
          refine JL.nil ?_
          refine hK _ _ _ (stab_of hleu_52 trivial) ?_
          refine JA.val ⟨by kernel_rfl, by kernel_rfl⟩ (calm_only _) (i := 12) rfl ⟨by kernel_rfl, by kernel_rfl, rfl⟩ trivial (stab_of hleu_52 trivial) (R.assign rfl) rfl ?_
          refine JA.doneN (by kernel_rfl) ?_
          obtain rfl := Option.some.inj hx
          refine JN.forget 3 ?_
          refine JN.forget 2 ?_
          refine JN.forget 1 ?_
          refine JN.forget 0 ?_
          exact JN.cut ⟨Hu_52, aoz_55, nz_55, capz_55, aoz_56, nz_56, capz_56, rfl, rfl, rfl, (hleu_52), hz_55, hz_56⟩ ⟨rfl, rfl, trivial⟩ rfl rfl
      · refine JO.step rfl trivial rfl (fun K hK => ?_)
        obtain ⟨x_57, hr_58, hx⟩ := bnd_some hx
        refine JL.callC (vs := [_]) (args := [_]) (K := []) (rst := [_, _, _, _, _]) E44 rfl rfl rfl picks0 (dev_place_ok p_4 _ _ hr_58) rfl (fun u_59 Ku_59 Hu_59 hRu_59 hleu_59 hfu_59 => ?_)
        obtain ⟨rfl, rfl, rfl, -⟩ := hRu_59
        refine JL.nil ?_
        refine hK _ _ _ (stab_of (Hle.refl _) trivial) ?_
        refine JA.val ⟨by kernel_rfl, by kernel_rfl⟩ (calm_only _) (i := 3) rfl ⟨by kernel_rfl, by kernel_rfl, rfl⟩ trivial (stab_of (Hle.refl _) trivial) (R.move rfl) rfl ?_
        refine JA.gSplit (t := 13) rfl (fun c_60 => ?_) (fun c_60 => ?_)
        · replace hx := cond_t c_60 hx
          obtain ⟨x_61, hr_62, hx⟩ := bnd_some hx
          obtain ⟨x_64, hr_65, hx⟩ := bnd_some hx
          refine JA.two (i := 0) (j := 4) (by kernel_rfl) ?_ ?_
          · refine JO.step rfl trivial rfl (fun K hK => ?_)
            refine JL.val rfl rfl (R.ldoN 4 (vs := [.slice aoa_2 na_2 capa_2, .slice aoa_3 na_3 capa_3]) S25 rfl rfl rfl rfl) ?_
            refine JL.nil ?_
            refine hK _ _ _ (stab_of (Hle.refl _) trivial) ?_
            refine JA.one (i := 4) (by kernel_rfl) ?_
            refine JO.step rfl ⟨_, _, rfl, rfl, rfl⟩ rfl (fun K hK => ?_)
            refine JL.val rfl rfl (R.ldo 2 S3 rfl rfl rfl) ?_
            refine JL.nil ?_
            refine hK _ _ _ (stab_of (Hle.refl _) trivial) ?_
            refine JA.one (i := 5) (by kernel_rfl) ?_
            refine JO.step rfl ⟨_, _, rfl, rfl, rfl⟩ rfl (fun K hK => ?_)
            refine JL.callC (vs := [_]) (args := [_]) (K := []) (rst := [_, _, _, _, _]) E44 rfl rfl rfl picks0 (dev_place_ok p_5 _ _ hr_62) rfl (fun u_63 Ku_63 Hu_63 hRu_63 hleu_63 hfu_63 => ?_)
            obtain ⟨rfl, rfl, rfl, -⟩ := hRu_63
            refine JL.nil ?_
            refine hK _ _ _ (stab_of (Hle.refl _) trivial) ?_
            refine JA.val ⟨by kernel_rfl, by kernel_rfl⟩ (calm_only _) (i := 6) rfl ⟨by kernel_rfl, by kernel_rfl, rfl⟩ trivial (stab_of (Hle.refl _) trivial) (R.pickT rfl rfl) rfl ?_
            refine JA.one (i := 8) (by kernel_rfl) ?_
            refine JO.step rfl trivial rfl (fun K hK => ?_)
            refine JL.callC (vs := [_, _, _]) (args := [_, _, _]) (K := [_, _, _, _]) (rst := [_]) E40 rfl rfl rfl (picks 4 rfl (picks 3 rfl (picks 2 rfl (picks 1 rfl picks0)))) (dev_guarded_v4_ok p_1 x_61 p_1 p_4 p_5 p_6 _ ha_2 ha_3 ha_2 ha_3 _ hr_65) rfl (fun u_66 Ku_66 Hu_66 hRu_66 hleu_66 hfu_66 => ?_)
            obtain ⟨aoz_67, nz_67, capz_67, aoz_68, nz_68, capz_68, aoz_69, nz_69, capz_69, aoz_70, nz_70, capz_70, rfl, rfl, hz_67, hz_68, hz_69, hz_70, -⟩ := hRu_66
            replace hz_69 := IsSlice.mono (RSl.mono RU8.mono) (New.call (Hle.refl _)) hz_69
            replace hz_70 := IsSlice.mono R_Write.mono (New.call (Hle.refl _)) hz_70
            refine JL.nil ?_
            refine hK _ _ _ (stab_of hleu_66 trivial) ?_
            refine JA.val ⟨by kernel_rfl, by kernel_rfl⟩ (calm_only _) (i := 9) rfl ⟨by kernel_rfl, by kernel_rfl, rfl⟩ trivial (stab_of hleu_66 trivial) (R.extract rfl rfl) rfl ?_
            refine JA.val ⟨by kernel_rfl, by kernel_rfl⟩ (calm_only _) (i := 10) rfl ⟨by kernel_rfl, by kernel_rfl, rfl⟩ trivial (stab_of hleu_66 trivial) (R.extract rfl rfl) rfl ?_
            refine JA.one (i := 11) (by kernel_rfl) ?_
            refine JO.step rfl trivial rfl (fun K hK => ?_)
            refine JL.store 4 S25 rfl rfl rfl rfl rfl (Nat.le_of_ble_eq_true rfl) ?_
            refine JL.nil ?_
            refine hK _ _ _ (stab_of hleu_66 trivial) ?_
            refine JA.val ⟨by kernel_rfl, by kernel_rfl⟩ (calm_only _) (i := 12) rfl ⟨by kernel_rfl, by kernel_rfl, rfl⟩ trivial (stab_of hleu_66 trivial) (R.assign rfl) rfl ?_
            refine JA.doneN (by kernel_rfl) ?_
            obtain rfl := Option.some.inj hx
            refine JN.forget 3 ?_
            refine JN.forget 2 ?_
            refine JN.forget 1 ?_
            refine JN.forget 0 ?_
            exact JN.cut ⟨Hu_66, aoz_69, nz_69, capz_69, aoz_70, nz_70, capz_70, rfl, rfl, rfl, (hleu_66), hz_69, hz_70⟩ ⟨rfl, rfl, trivial⟩ rfl rfl
          · refine JO.step rfl ⟨_, _, rfl, rfl, rfl⟩ rfl (fun K hK => ?_)
            refine JL.val rfl rfl (R.ldo 2 S3 rfl rfl rfl) ?_
            refine JL.nil ?_
            refine hK _ _ _ (stab_of (Hle.refl _) trivial) ?_
            refine JA.two (i := 0) (j := 5) (by kernel_rfl) ?_ ?_
            · refine JO.step rfl trivial rfl (fun K hK => ?_)
              refine JL.val rfl rfl (R.ldoN 4 (vs := [.slice aoa_2 na_2 capa_2, .slice aoa_3 na_3 capa_3]) S25 rfl rfl rfl rfl) ?_
              refine JL.nil ?_
              refine hK _ _ _ (stab_of (Hle.refl _) trivial) ?_
              refine JA.one (i := 5) (by kernel_rfl) ?_
              refine JO.step rfl ⟨_, _, rfl, rfl, rfl⟩ rfl (fun K hK => ?_)
              refine JL.callC (vs := [_]) (args := [_]) (K := []) (rst := [_, _, _, _, _]) E44 rfl rfl rfl picks0 (dev_place_ok p_5 _ _ hr_62) rfl (fun u_63 Ku_63 Hu_63 hRu_63 hleu_63 hfu_63 => ?_)
              obtain ⟨rfl, rfl, rfl, -⟩ := hRu_63
              refine JL.nil ?_
              refine hK _ _ _ (stab_of (Hle.refl _) trivial) ?_
              refine JA.val ⟨by kernel_rfl, by kernel_rfl⟩ (calm_only _) (i := 6) rfl ⟨by kernel_rfl, by kernel_rfl, rfl⟩ trivial (stab_of (Hle.refl _) trivial) (R.pickT rfl rfl) rfl ?_
              refine JA.one (i := 8) (by kernel_rfl) ?_
              refine JO.step rfl trivial rfl (fun K hK => ?_)
              refine JL.callC (vs := [_, _, _]) (args := [_, _, _]) (K := [_, _, _, _]) (rst := [_]) E40 rfl rfl rfl (picks 4 rfl (picks 3 rfl (picks 2 rfl (picks 1 rfl picks0)))) (dev_guarded_v4_ok p_1 x_61 p_1 p_4 p_5 p_6 _ ha_2 ha_3 ha_2 ha_3 _ hr_65) rfl (fun u_66 Ku_66 Hu_66 hRu_66 hleu_66 hfu_66 => ?_)
              obtain ⟨aoz_67, nz_67, capz_67, aoz_68, nz_68, capz_68, aoz_69, nz_69, capz_69, aoz_70, nz_70, capz_70, rfl, rfl, hz_67, hz_68, hz_69, hz_70, -⟩ := hRu_66
              replace hz_69 := IsSlice.mono (RSl.mono RU8.mono) (New.call (Hle.refl _)) hz_69
              replace hz_70 := IsSlice.mono R_Write.mono (New.call (Hle.refl _)) hz_70
              refine JL.nil ?_
              refine hK _ _ _ (stab_of hleu_66 trivial) ?_
              refine JA.val ⟨by kernel_rfl, by kernel_rfl⟩ (calm_only _) (i := 9) rfl ⟨by kernel_rfl, by kernel_rfl, rfl⟩ trivial (stab_of hleu_66 trivial) (R.extract rfl rfl) rfl ?_
              refine JA.val ⟨by kernel_rfl, by kernel_rfl⟩ (calm_only _) (i := 10) rfl ⟨by kernel_rfl, by kernel_rfl, rfl⟩ trivial (stab_of hleu_66 trivial) (R.extract rfl rfl) rfl ?_
              refine JA.one (i := 11) (by kernel_rfl) ?_
              refine JO.step rfl trivial rfl (fun K hK => ?_)
              refine JL.store 4 S25 rfl rfl rfl rfl rfl (Nat.le_of_ble_eq_true rfl) ?_
              refine JL.nil ?_
              refine hK _ _ _ (stab_of hleu_66 trivial) ?_
              refine JA.val ⟨by kernel_rfl, by kernel_rfl⟩ (calm_only _) (i := 12) rfl ⟨by kernel_rfl, by kernel_rfl, rfl⟩ trivial (stab_of hleu_66 trivial) (R.assign rfl) rfl ?_
              refine JA.doneN (by kernel_rfl) ?_
              obtain rfl := Option.some.inj hx
              refine JN.forget 3 ?_
              refine JN.forget 2 ?_
              refine JN.forget 1 ?_
              refine JN.forget 0 ?_
              exact JN.cut ⟨Hu_66, aoz_69, nz_69, capz_69, aoz_70, nz_70, capz_70, rfl, rfl, rfl, (hleu_66), hz_69, hz_70⟩ ⟨rfl, rfl, trivial⟩ rfl rfl
            · refine JO.step rfl ⟨_, _, rfl, rfl, rfl⟩ rfl (fun K hK => ?_)
              refine JL.callC (vs := [_]) (args := [_]) (K := []) (rst := [_, _, _, _, _]) E44 rfl rfl rfl picks0 (dev_place_ok p_5 _ _ hr_62) rfl (fun u_63 Ku_63 Hu_63 hRu_63 hleu_63 hfu_63 => ?_)
              obtain ⟨rfl, rfl, rfl, -⟩ := hRu_63
              refine JL.nil ?_
              refine hK _ _ _ (stab_of (Hle.refl _) trivial) ?_
              refine JA.val ⟨by kernel_rfl, by kernel_rfl⟩ (calm_only _) (i := 6) rfl ⟨by kernel_rfl, by kernel_rfl, rfl⟩ trivial (stab_of (Hle.refl _) trivial) (R.pickT rfl rfl) rfl ?_
              refine JA.one (i := 0) (by kernel_rfl) ?_
              refine JO.step rfl trivial rfl (fun K hK => ?_)
              refine JL.val rfl rfl (R.ldoN 4 (vs := [.slice aoa_2 na_2 capa_2, .slice aoa_3 na_3 capa_3]) S25 rfl rfl rfl rfl) ?_
              refine JL.nil ?_
              refine hK _ _ _ (stab_of (Hle.refl _) trivial) ?_
              refine JA.one (i := 8) (by kernel_rfl) ?_
              refine JO.step rfl trivial rfl (fun K hK => ?_)
              refine JL.callC (vs := [_, _, _]) (args := [_, _, _]) (K := [_, _, _, _]) (rst := [_]) E40 rfl rfl rfl (picks 4 rfl (picks 3 rfl (picks 2 rfl (picks 1 rfl picks0)))) (dev_guarded_v4_ok p_1 x_61 p_1 p_4 p_5 p_6 _ ha_2 ha_3 ha_2 ha_3 _ hr_65) rfl (fun u_66 Ku_66 Hu_66 hRu_66 hleu_66 hfu_66 => ?_)
              obtain ⟨aoz_67, nz_67, capz_67, aoz_68, nz_68, capz_68, aoz_69, nz_69, capz_69, aoz_70, nz_70, capz_70, rfl, rfl, hz_67, hz_68, hz_69, hz_70, -⟩ := hRu_66
              replace hz_69 := IsSlice.mono (RSl.mono RU8.mono) (New.call (Hle.refl _)) hz_69
              replace hz_70 := IsSlice.mono R_Write.mono (New.call (Hle.refl _)) hz_70
              refine JL.nil ?_
              refine hK _ _ _ (stab_of hleu_66 trivial) ?_
              refine JA.val ⟨by kernel_rfl, by kernel_rfl⟩ (calm_only _) (i := 9) rfl ⟨by kernel_rfl, by kernel_rfl, rfl⟩ trivial (stab_of hleu_66 trivial) (R.extract rfl rfl) rfl ?_
              refine JA.val ⟨by kernel_rfl, by kernel_rfl⟩ (calm_only _) (i := 10) rfl ⟨by kernel_rfl, by kernel_rfl, rfl⟩ trivial (stab_of hleu_66 trivial) (R.extract rfl rfl) rfl ?_
              refine JA.one (i := 11) (by kernel_rfl) ?_
              refine JO.step rfl trivial rfl (fun K hK => ?_)
              refine JL.store 4 S25 rfl rfl rfl rfl rfl (Nat.le_of_ble_eq_true rfl) ?_
              refine JL.nil ?_
              refine hK _ _ _ (stab_of hleu_66 trivial) ?_
              refine JA.val ⟨by kernel_rfl, by kernel_rfl⟩ (calm_only _) (i := 12) rfl ⟨by kernel_rfl, by kernel_rfl, rfl⟩ trivial (stab_of hleu_66 trivial) (R.assign rfl) rfl ?_
              refine JA.doneN (by kernel_rfl) ?_
              obtain rfl := Option.some.inj hx
              refine JN.forget 3 ?_
              refine JN.forget 2 ?_
              refine JN.forget 1 ?_
              refine JN.forget 0 ?_
              exact JN.cut ⟨Hu_66, aoz_69, nz_69, capz_69, aoz_70, nz_70, capz_70, rfl, rfl, rfl, (hleu_66), hz_69, hz_70⟩ ⟨rfl, rfl, trivial⟩ rfl rfl
        · replace hx := cond_f c_60 hx
          refine JA.no ⟨by kernel_rfl, by kernel_rfl⟩ (calm_only _) (i := 4) rfl ⟨by kernel_rfl, by kernel_rfl, rfl⟩ rfl rfl rfl rfl (stab_of (Hle.refl _) trivial) rfl ?_
          refine JA.no ⟨by kernel_rfl, by kernel_rfl⟩ (calm_only _) (i := 5) rfl ⟨by kernel_rfl, by kernel_rfl, rfl⟩ rfl rfl rfl rfl (stab_of (Hle.refl _) trivial) rfl ?_
          refine JA.val ⟨by kernel_rfl, by kernel_rfl⟩ (calm_only _) (i := 6) rfl ⟨by kernel_rfl, by kernel_rfl, rfl⟩ trivial (stab_of (Hle.refl _) trivial) (R.pickF rfl rfl) rfl ?_
          refine JA.one (i := 0) (by kernel_rfl) ?_
          refine JO.step rfl trivial rfl (fun K hK => ?_)
          refine JL.val rfl rfl (R.ldoN 4 (vs := [.slice aoa_2 na_2 capa_2, .slice aoa_3 na_3 capa_3]) S25 rfl rfl rfl rfl) ?_
          refine JL.nil ?_
          refine hK _ _ _ (stab_of (Hle.refl _) trivial) ?_
          refine JA.one (i := 8) (by kernel_rfl) ?_
          refine JO.step rfl trivial rfl (fun K hK => ?_)
          obtain ⟨x_71, hr_72, hx⟩ := bnd_some hx
          refine JL.callC (vs := [_, _, _]) (args := [_, _, _]) (K := [_, _, _, _]) (rst := [_]) E40 rfl rfl rfl (picks 4 rfl (picks 3 rfl (picks 2 rfl (picks 1 rfl picks0)))) (dev_guarded_v4_ok p_1 false p_1 p_4 p_5 p_6 _ ha_2 ha_3 ha_2 ha_3 _ hr_72) rfl (fun u_73 Ku_73 Hu_73 hRu_73 hleu_73 hfu_73 => ?_)
          obtain ⟨aoz_74, nz_74, capz_74, aoz_75, nz_75, capz_75, aoz_76, nz_76, capz_76, aoz_77, nz_77, capz_77, rfl, rfl, hz_74, hz_75, hz_76, hz_77, -⟩ := hRu_73
          replace hz_76 := IsSlice.mono (RSl.mono RU8.mono) (New.call (Hle.refl _)) hz_76
          replace hz_77 := IsSlice.mono R_Write.mono (New.call (Hle.refl _)) hz_77
          refine JL.nil ?_
          refine hK _ _ _ (stab_of hleu_73 trivial) ?_
          refine JA.val ⟨by kernel_rfl, by kernel_rfl⟩ (calm_only _) (i := 9) rfl ⟨by kernel_rfl, by kernel_rfl, rfl⟩ trivial (stab_of hleu_73 trivial) (R.extract rfl rfl) rfl ?_
          refine JA.val ⟨by kernel_rfl, by kernel_rfl⟩ (calm_only _) (i := 10) rfl ⟨by kernel_rfl, by kernel_rfl, rfl⟩ trivial (stab_of hleu_73 trivial) (R.extract rfl rfl) rfl ?_
          refine JA.one (i := 11) (by kernel_rfl) ?_
          refine JO.step rfl trivial rfl (fun K hK => ?_)
          refine JL.store 4 S25 rfl rfl rfl rfl rfl (Nat.le_of_ble_eq_true rfl) ?_
          refine JL.nil ?_
          refine hK _ _ _ (stab_of hleu_73 trivial) ?_
          refine JA.val ⟨by kernel_rfl, by kernel_rfl⟩ (calm_only _) (i := 12) rfl ⟨by kernel_rfl, by kernel_rfl, rfl⟩ trivial (stab_of hleu_73 trivial) (R.assign rfl) rfl ?_
          refine JA.doneN (by kernel_rfl) ?_
          obtain rfl := Option.some.inj hx
          refine JN.forget 3 ?_
          refine JN.forget 2 ?_
          refine JN.forget 1 ?_
          refine JN.forget 0 ?_
          exact JN.cut ⟨Hu_73, aoz_76, nz_76, capz_76, aoz_77, nz_77, capz_77, rfl, rfl, rfl, (hleu_73), hz_76, hz_77⟩ ⟨rfl, rfl, trivial⟩ rfl rfl

set_option maxHeartbeats 8000000 in
theorem law13_StoreFinds_ok (p_1 : Store) (p_5 : List UInt8) (p_7 : Int) (p_8 : UInt8) (H : Heaplet) {aoa_2 : Option Addr} {na_2 : Nat} {capa_2 : Nat} {aoa_3 : Option Addr} {na_3 : Nat} {capa_3 : Nat} {aoa_4 : Option Addr} {na_4 : Nat} {capa_4 : Nat} {aoa_6 : Option Addr} {na_6 : Nat} {capa_6 : Nat} (ha_2 : IsSlice H (RSl RU8 1) 1 (.slice aoa_2 na_2 capa_2) p_1.Disk.Blocks) (ha_3 : IsSlice H R_Write 2 (.slice aoa_3 na_3 capa_3) p_1.Disk.Waits) (ha_4 : IsSlice H RU8 1 (.slice aoa_4 na_4 capa_4) p_1.Space) (ha_6 : IsSlice H RU8 1 (.slice aoa_6 na_6 capa_6) p_5) (r : Bool) (hx : law13_StoreFinds p_1 p_5 p_7 p_8 = some r) :
    Does Try.prog 6 #[.agg #[.slice aoa_2 na_2 capa_2, .slice aoa_3 na_3 capa_3, .slice aoa_4 na_4 capa_4, .int .u32 (p_1.Epoch.toNat : Int), .int .u32 (p_1.Count.toNat : Int)], .slice aoa_6 na_6 capa_6, .int .i64 p_7, .int .u8 (p_8.toNat : Int)] [] H (fun u K' H' => u = .bool r ∧ K' = [] ∧ True) := by
  refine Does.enterL (vs := [.agg #[.slice aoa_2 na_2 capa_2, .slice aoa_3 na_3 capa_3, .slice aoa_4 na_4 capa_4, .int .u32 (p_1.Epoch.toNat : Int), .int .u32 (p_1.Count.toNat : Int)], .slice aoa_6 na_6 capa_6, .int .i64 p_7, .int .u8 (p_8.toNat : Int)]) (l := [(0, .agg #[.slice aoa_2 na_2 capa_2, .slice aoa_3 na_3 capa_3, .slice aoa_4 na_4 capa_4, .int .u32 (p_1.Epoch.toNat : Int), .int .u32 (p_1.Count.toNat : Int)]), (1, .slice aoa_6 na_6 capa_6), (2, .int .i64 p_7), (3, .int .u8 (p_8.toNat : Int))]) Try.func6 rfl rfl ⟨rfl, rfl, rfl, rfl, trivial⟩ (fun w hlt => ?_)
  unfold law13_StoreFinds at hx
  refine JC.seq ?_
  refine JC.region ?_
  refine JL.box rfl rfl (fun b_9 hb_9 => ?_)
  refine JL.val rfl rfl (R.assign rfl) ?_
  refine JL.nil ?_
  refine JN.next ?_
  refine JC.seq ?_
  refine JC.region ?_
  obtain ⟨x_10, hr_11, hx⟩ := bnd_some hx
  refine JL.callC (vs := []) (args := []) (K := []) (rst := [_]) E18 rfl rfl rfl picks0 (law13_alive_ok _ _ hr_11) rfl (fun u_12 Ku_12 Hu_12 hRu_12 hleu_12 hfu_12 => ?_)
  obtain ⟨rfl, rfl, -⟩ := hRu_12
  refine JL.val rfl rfl (R.assign rfl) ?_
  refine JL.nil ?_
  refine JN.next ?_
  refine JC.seq ?_
  refine JC.seq ?_
  refine JC.region ?_
  refine JL.val rfl rfl (R.move rfl) ?_
  refine JL.val rfl rfl (R.not rfl) ?_
  refine JL.nil ?_
  refine JN.next ?_
  refine JC.condB rfl (fun c_13 => ?_) (fun c_13 => ?_)
  · replace hx := cond_t c_13 hx
    refine JC.seq ?_
    refine JC.region ?_
    refine JL.val rfl rfl (R.assign rfl) ?_
    refine JL.nil ?_
    refine JN.next ?_
    refine JC.ret ?_
    refine JN.passR ?_
    refine JN.outP (vs := [.bool false]) (K := []) (rst := [_]) (.inl rfl) rfl rfl (Res.tmp rfl rfl) picks0 ?_
    obtain rfl := Option.some.inj hx
    exact ⟨rfl, rfl, trivial⟩
  · replace hx := cond_f c_13 hx
    refine JC.skip ?_
    refine JN.next ?_
    refine JC.seq ?_
    refine JC.seq ?_
    refine JC.region ?_
    refine JL.val rfl rfl (R.ldoN 0 (vs := [.slice aoa_2 na_2 capa_2, .slice aoa_3 na_3 capa_3, .slice aoa_4 na_4 capa_4, .int .u32 (p_1.Epoch.toNat : Int), .int .u32 (p_1.Count.toNat : Int)]) S29 rfl rfl rfl rfl) ?_
    obtain ⟨x_14, hr_15, hx⟩ := bnd_some hx
    refine JL.callC (vs := [_]) (args := [_]) (K := []) (rst := [_]) E8 rfl rfl rfl picks0 (ref13_Great_ok p_1 _ (ha_2.mono (RSl.mono RU8.mono) hleu_12) (ha_3.mono R_Write.mono hleu_12) (ha_4.mono RU8.mono hleu_12) _ hr_15) rfl (fun u_16 Ku_16 Hu_16 hRu_16 hleu_16 hfu_16 => ?_)
    obtain ⟨rfl, rfl, rfl, -⟩ := hRu_16
    refine JL.val rfl rfl (R.move rfl) ?_
    refine JL.gSplit (t := 24) rfl (fun c_17 => ?_) (fun c_17 => ?_)
    · replace hx := cond_t c_17 hx
      refine JL.gNo rfl rfl rfl rfl rfl ?_
      refine JL.gNo rfl rfl rfl rfl rfl ?_
      refine JL.gNo rfl rfl rfl rfl rfl ?_
      refine JL.val rfl rfl (R.pickT rfl rfl) ?_
      refine JL.nil ?_
      refine JN.next ?_
      refine JC.condT rfl ?_
      refine JC.seq ?_
      refine JC.region ?_
      refine JL.val rfl rfl (R.move rfl) ?_
      refine JL.val rfl rfl (R.assign rfl) ?_
      refine JL.nil ?_
      refine JN.next ?_
      refine JC.ret ?_
      refine JN.passR ?_
      refine JN.outP (vs := [.bool x_10]) (K := []) (rst := [_]) (.inl rfl) rfl rfl (Res.tmp rfl rfl) picks0 ?_
      obtain rfl := Option.some.inj hx
      exact ⟨rfl, rfl, trivial⟩
    · replace hx := cond_f c_17 hx
      refine JL.gYes rfl rfl rfl ?_
      refine JL.val rfl rfl (R.move rfl) ?_
      refine JL.gYes rfl rfl rfl ?_
      refine JL.val rfl rfl (R.lenL U26 rfl (IsSlice.long ha_6)) ?_
      refine JL.gYes rfl rfl rfl ?_
      refine JL.val rfl rfl (R.gtr_i rfl rfl) ?_
      refine JL.val rfl rfl (R.pickF rfl rfl) ?_
      refine JL.nil ?_
      refine JN.next ?_
      refine JC.condB rfl (fun c_18 => ?_) (fun c_18 => ?_)
      · replace hx := cond_t c_18 hx
        refine JC.seq ?_
        refine JC.region ?_
        refine JL.val rfl rfl (R.move rfl) ?_
        refine JL.val rfl rfl (R.assign rfl) ?_
        refine JL.nil ?_
        refine JN.next ?_
        refine JC.ret ?_
        refine JN.passR ?_
        refine JN.outP (vs := [.bool x_10]) (K := []) (rst := [_]) (.inl rfl) rfl rfl (Res.tmp rfl rfl) picks0 ?_
        obtain rfl := Option.some.inj hx
        exact ⟨rfl, rfl, trivial⟩
      · replace hx := cond_f c_18 hx
        refine JC.skip ?_
        refine JN.next ?_
        refine JC.seq ?_
        refine JC.region ?_
        refine JL.val rfl rfl (R.ldoN 0 (vs := [.slice aoa_2 na_2 capa_2, .slice aoa_3 na_3 capa_3, .slice aoa_4 na_4 capa_4, .int .u32 (p_1.Epoch.toNat : Int), .int .u32 (p_1.Count.toNat : Int)]) S29 rfl rfl rfl rfl) ?_
        refine JL.val rfl rfl (R.move rfl) ?_
        obtain ⟨x_19, hr_20, hx⟩ := bnd_some hx
        refine JL.callC (vs := [_, _, _]) (args := [_, _, _]) (K := []) (rst := [_]) E10 rfl rfl rfl picks0 (store_Lay_ok p_1 (1 : UInt32) p_5 _ (ha_2.mono (RSl.mono RU8.mono) hleu_12) (ha_3.mono R_Write.mono hleu_12) (ha_4.mono RU8.mono hleu_12) (ha_6.mono RU8.mono hleu_12) _ hr_20) rfl (fun u_21 Ku_21 Hu_21 hRu_21 hleu_21 hfu_21 => ?_)
        obtain ⟨aoz_22, nz_22, capz_22, aor_23, nr_23, capr_23, Kr_23, aor_24, nr_24, capr_24, Kr_24, rfl, rfl, hz_22, hr_23, hnewr_23, hr_24, hnewr_24, -⟩ := hRu_21
        replace hr_23 := (RowOf.base (RowOf.mono R_Write.mono (New.call hleu_12) hr_23) (fun p hp => (hfu_21 p (mem_seg 0 rfl hp)).resolve_left (hnewr_23 p hp)))
        replace hr_24 := (RowOf.base (RowOf.const (H2 := New H Hu_21) RU8.const hr_24) (fun p hp => (hfu_21 p (mem_seg 1 rfl hp)).resolve_left (hnewr_24 p hp)))
        replace hz_22 := IsSlice.mono (RSl.mono RU8.mono) (New.call hleu_12) hz_22
        refine JL.val rfl rfl (R.move rfl) ?_
        refine JL.val rfl rfl (R.extract rfl rfl) ?_
        refine JL.val rfl rfl (R.extract rfl rfl) ?_
        refine JL.val rfl rfl (R.extract rfl rfl) ?_
        refine JL.alloc Z29 rfl (fun b_25 hb_25 => ?_)
        refine JL.alloc Z33 rfl (fun b_26 hb_26 => ?_)
        refine JL.store 1 S29 rfl rfl rfl rfl rfl (Nat.le_of_ble_eq_true rfl) ?_
        refine JL.store 0 S33 rfl rfl rfl rfl rfl (Nat.le_of_ble_eq_true rfl) ?_
        refine JL.val rfl rfl (R.assign rfl) ?_
        refine JL.nil ?_
        refine JN.next ?_
        refine JC.seq ?_
        refine JC.seq ?_
        refine JC.region ?_
        refine JL.val rfl rfl (R.move rfl) ?_
        refine JL.val rfl rfl (R.neq_i rfl rfl) ?_
        refine JL.nil ?_
        refine JN.next ?_
        refine JC.condB rfl (fun c_27 => ?_) (fun c_27 => ?_)
        · replace hx := cond_t c_27 hx
          refine JC.seq ?_
          refine JC.region ?_
          refine JL.val rfl rfl (R.move rfl) ?_
          refine JL.val rfl rfl (R.assign rfl) ?_
          refine JL.nil ?_
          refine JN.next ?_
          refine JC.ret ?_
          refine JN.passR ?_
          refine JN.outP (vs := [.bool x_10]) (K := []) (rst := [_, _, _, _, _]) (.inl rfl) rfl rfl (Res.tmp rfl rfl) picks0 ?_
          obtain rfl := Option.some.inj hx
          exact ⟨rfl, rfl, trivial⟩
        · replace hx := cond_f c_27 hx
          refine JC.skip ?_
          refine JN.next ?_
          refine JC.seq ?_
          refine JC.region ?_
          refine JL.val rfl rfl (R.fa F29_0 rfl) ?_
          refine JL.val rfl rfl (R.ldoN 1 (vs := [.slice aoz_22 nz_22 capz_22, .slice aor_23 nr_23 capr_23]) S25 rfl rfl rfl rfl) ?_
          refine JL.pubN 2 R_Write.mono rfl hr_23 (Nat.le_refl _) (fun H_28 hleH_28 hsH_28 => ?_)
          refine JL.forget 2 ?_
          obtain ⟨x_29, hr_30, hx⟩ := bnd_some hx
          refine JL.callC (vs := [_]) (args := [_]) (K := []) (rst := [_, _, _, _]) E21 rfl rfl rfl picks0 (dev_Flush_ok (Disk.mk x_19.1.Disk.Blocks x_19.1.Disk.Waits) _ ((hz_22.mono (RSl.mono RU8.mono) (New.mono hleH_28)).old (RSl.mono RU8.mono)) (hsH_28.old R_Write.mono) _ hr_30) rfl (fun u_31 Ku_31 Hu_31 hRu_31 hleu_31 hfu_31 => ?_)
          obtain ⟨aoz_32, nz_32, capz_32, aor_33, nr_33, capr_33, Kr_33, rfl, rfl, hz_32, hr_33, hnewr_33, -⟩ := hRu_31
          replace hr_33 := (RowOf.base (RowOf.mono R_Write.mono (New.call (hleu_12.trans (hleu_21.trans hleH_28))) hr_33) (fun p hp => (hfu_31 p (mem_seg 0 rfl hp)).resolve_left (hnewr_33 p hp)))
          replace hz_32 := IsSlice.mono (RSl.mono RU8.mono) (New.call (hleu_12.trans (hleu_21.trans hleH_28))) hz_32
          refine JL.val rfl rfl (R.move rfl) ?_
          refine JL.val rfl rfl (R.extract rfl rfl) ?_
          refine JL.val rfl rfl (R.extract rfl rfl) ?_
          refine JL.alloc Z25 rfl (fun b_34 hb_34 => ?_)
          refine JL.store 0 S25 rfl rfl rfl rfl rfl (Nat.le_of_ble_eq_true rfl) ?_
          refine JL.val rfl rfl (R.assign rfl) ?_
          refine JL.nil ?_
          refine JN.next ?_
          refine JC.seq ?_
          refine JC.seq ?_
          refine JC.region ?_
          refine JL.val rfl rfl (R.move rfl) ?_
          refine JL.val rfl rfl (R.neq_i rfl rfl) ?_
          refine JL.nil ?_
          refine JN.next ?_
          refine JC.condB rfl (fun c_35 => ?_) (fun c_35 => ?_)
          · replace hx := cond_t c_35 hx
            refine JC.seq ?_
            refine JC.region ?_
            refine JL.val rfl rfl (R.assign rfl) ?_
            refine JL.nil ?_
            refine JN.next ?_
            refine JC.ret ?_
            refine JN.passR ?_
            refine JN.outP (vs := [.bool false]) (K := []) (rst := [_, _, _, _, _, _]) (.inl rfl) rfl rfl (Res.tmp rfl rfl) picks0 ?_
            obtain rfl := Option.some.inj hx
            exact ⟨rfl, rfl, trivial⟩
          · replace hx := cond_f c_35 hx
            refine JC.skip ?_
            refine JN.next ?_
            refine JC.seq ?_
            refine JC.region ?_
            refine JL.val rfl rfl (R.ldoN 0 (vs := [.slice aoz_32 nz_32 capz_32, .slice aor_33 nr_33 capr_33]) S25 rfl rfl rfl rfl) ?_
            refine JL.val rfl rfl (R.fa F33_0 rfl) ?_
            refine JL.val rfl rfl (R.ldo 2 S3 rfl rfl rfl) ?_
            refine JL.val rfl rfl (R.move rfl) ?_
            refine JL.val rfl rfl (R.move rfl) ?_
            refine JL.pubN 1 R_Write.mono rfl hr_33 (Nat.le_refl _) (fun H_36 hleH_36 hsH_36 => ?_)
            refine JL.forget 1 ?_
            obtain ⟨x_37, hr_38, hx⟩ := bnd_some hx
            refine JL.callC (vs := [_, _, _, _]) (args := [_, _, _, _]) (K := []) (rst := [_, _, _, _, _]) E22 rfl rfl rfl picks0 (dev_Tamper_ok x_29.1 x_19.2.1.At p_7 p_8 _ ((hz_32.mono (RSl.mono RU8.mono) (New.mono hleH_36)).old (RSl.mono RU8.mono)) (hsH_36.old R_Write.mono) _ hr_38) rfl (fun u_39 Ku_39 Hu_39 hRu_39 hleu_39 hfu_39 => ?_)
            obtain ⟨aoz_40, nz_40, capz_40, aoz_41, nz_41, capz_41, rfl, rfl, hz_40, hz_41, -⟩ := hRu_39
            replace hz_40 := IsSlice.mono (RSl.mono RU8.mono) (New.call (hleu_12.trans (hleu_21.trans (hleH_28.trans (hleu_31.trans hleH_36))))) hz_40
            replace hz_41 := IsSlice.mono R_Write.mono (New.call (hleu_12.trans (hleu_21.trans (hleH_28.trans (hleu_31.trans hleH_36))))) hz_41
            refine JL.val rfl rfl (R.move rfl) ?_
            refine JL.val rfl rfl (R.extract rfl rfl) ?_
            refine JL.val rfl rfl (R.extract rfl rfl) ?_
            refine JL.alloc Z25 rfl (fun b_42 hb_42 => ?_)
            refine JL.store 0 S25 rfl rfl rfl rfl rfl (Nat.le_of_ble_eq_true rfl) ?_
            refine JL.val rfl rfl (R.assign rfl) ?_
            refine JL.nil ?_
            refine JN.next ?_
            refine JC.seq ?_
            refine JC.seq ?_
            refine JC.region ?_
            refine JL.val rfl rfl (R.move rfl) ?_
            refine JL.val rfl rfl (R.neq_i rfl rfl) ?_
            refine JL.nil ?_
            refine JN.next ?_
            refine JC.condB rfl (fun c_43 => ?_) (fun c_43 => ?_)
            · replace hx := cond_t c_43 hx
              refine JC.seq ?_
              obtain ⟨t_44, ht_46, hx⟩ := bnd_some hx
              refine JC.cut (fun l o g => l = [(8, .bool t_44)] ∧ o = [] ∧ Hu_39 = g) ?_ ?_
              · rintro _ _ _ ⟨rfl, rfl, rfl⟩
                refine JN.next ?_
                refine JC.ret ?_
                refine JN.passR ?_
                refine JN.outP (vs := [.bool t_44]) (K := []) (rst := []) (.inl rfl) rfl rfl (Res.tmp rfl rfl) picks0 ?_
                obtain rfl := Option.some.inj hx
                exact ⟨rfl, rfl, trivial⟩
              · have hxo_45 := hx; clear hx; have hx := ht_46; clear ht_46
                refine JC.region ?_
                refine JL.val rfl rfl (R.move rfl) ?_
                refine JL.val rfl rfl (R.move rfl) ?_
                refine JL.gSplit (t := 60) rfl (fun c_47 => ?_) (fun c_47 => ?_)
                · replace hx := cond_t c_47 hx
                  refine JL.gYes rfl rfl rfl ?_
                  refine JL.val rfl rfl (R.move rfl) ?_
                  refine JL.gYes rfl rfl rfl ?_
                  refine JL.val rfl rfl (R.lss_i rfl rfl) ?_
                  refine JL.gYes rfl rfl rfl ?_
                  refine JL.val rfl rfl (R.move rfl) ?_
                  refine JL.gSplit (t := 63) rfl (fun c_48 => ?_) (fun c_48 => ?_)
                  · replace hx := cond_t c_48 hx
                    refine JL.gNo rfl rfl rfl rfl rfl ?_
                    refine JL.gNo rfl rfl rfl rfl rfl ?_
                    refine JL.gYes rfl rfl rfl ?_
                    refine JL.val rfl rfl (R.pickT rfl rfl) ?_
                    refine JL.val rfl rfl (R.pickT rfl rfl) ?_
                    refine JL.val rfl rfl (R.assign rfl) ?_
                    refine JL.nil ?_
                    obtain rfl := Option.some.inj hx
                    refine JN.forget 5 ?_
                    refine JN.forget 4 ?_
                    refine JN.forget 3 ?_
                    refine JN.forget 2 ?_
                    refine JN.forget 1 ?_
                    refine JN.forget 0 ?_
                    exact JN.cut ⟨rfl, rfl, rfl⟩ ⟨rfl, trivial⟩ rfl rfl
                  · replace hx := cond_f c_48 hx
                    refine JL.gYes rfl rfl rfl ?_
                    refine JL.val rfl rfl (R.move rfl) ?_
                    refine JL.gYes rfl rfl rfl ?_
                    refine JL.val rfl rfl (R.gtr_i rfl rfl) ?_
                    refine JL.gYes rfl rfl rfl ?_
                    refine JL.val rfl rfl (R.pickF rfl rfl) ?_
                    refine JL.val rfl rfl (R.pickT rfl rfl) ?_
                    refine JL.val rfl rfl (R.assign rfl) ?_
                    refine JL.nil ?_
                    obtain rfl := Option.some.inj hx
                    refine JN.forget 5 ?_
                    refine JN.forget 4 ?_
                    refine JN.forget 3 ?_
                    refine JN.forget 2 ?_
                    refine JN.forget 1 ?_
                    refine JN.forget 0 ?_
                    exact JN.cut ⟨rfl, rfl, rfl⟩ ⟨rfl, trivial⟩ rfl rfl
                · replace hx := cond_f c_47 hx
                  refine JL.gNo rfl rfl rfl rfl rfl ?_
                  refine JL.gNo rfl rfl rfl rfl rfl ?_
                  refine JL.gNo rfl rfl rfl rfl rfl ?_
                  refine JL.gNoU rfl rfl rfl rfl ?_
                  refine JL.gNoU rfl rfl rfl rfl ?_
                  refine JL.gNo rfl rfl rfl rfl rfl ?_
                  refine JL.val rfl rfl (R.pickF rfl rfl) ?_
                  refine JL.val rfl rfl (R.assign rfl) ?_
                  refine JL.nil ?_
                  obtain rfl := Option.some.inj hx
                  refine JN.forget 5 ?_
                  refine JN.forget 4 ?_
                  refine JN.forget 3 ?_
                  refine JN.forget 2 ?_
                  refine JN.forget 1 ?_
                  refine JN.forget 0 ?_
                  exact JN.cut ⟨rfl, rfl, rfl⟩ ⟨rfl, trivial⟩ rfl rfl
            · replace hx := cond_f c_43 hx
              refine JC.skip ?_
              refine JN.next ?_
              refine JC.seq ?_
              refine JC.region ?_
              refine JL.val rfl rfl (R.ldoN 0 (vs := [.slice aoz_40 nz_40 capz_40, .slice aoz_41 nz_41 capz_41]) S25 rfl rfl rfl rfl) ?_
              refine JL.val rfl rfl (R.fa F29_0 rfl) ?_
              refine JL.store 3 S25 rfl rfl rfl rfl rfl (Nat.le_of_ble_eq_true rfl) ?_
              refine JL.nil ?_
              refine JN.next ?_
              refine JC.seq ?_
              refine JC.region ?_
              refine JL.val rfl rfl (R.ldoN 3 (vs := [.slice aoz_40 nz_40 capz_40, .slice aoz_41 nz_41 capz_41, .slice aor_24 nr_24 capr_24, .int .u32 (x_19.1.Epoch.toNat : Int), .int .u32 (x_19.1.Count.toNat : Int)]) S29 rfl rfl rfl rfl) ?_
              refine JL.val rfl rfl (R.ldoN 2 (vs := [.int .i64 x_19.2.1.At, .int .u32 (x_19.2.1.Birth.toNat : Int), .int .u32 (x_19.2.1.Iv.toNat : Int), .int .u32 (x_19.2.1.Tag.toNat : Int), .int .u32 (x_19.2.1.Sum.toNat : Int)]) S33 rfl rfl rfl rfl) ?_
              refine JL.pubN 4 RU8.mono rfl (hr_24.mono RU8.mono (New.mono (hleH_28.trans (hleu_31.trans (hleH_36.trans hleu_39))))) (Nat.le_refl _) (fun H_49 hleH_49 hsH_49 => ?_)
              refine JL.forget 4 ?_
              obtain ⟨x_50, hr_51, hx⟩ := bnd_some hx
              refine JL.callC (vs := [_, _]) (args := [_, _]) (K := []) (rst := [_, _, _, _, _]) E20 rfl rfl rfl picks0 (store_Look_ok (Store.mk (Disk.mk x_37.1.Blocks x_37.1.Waits) x_19.1.Space x_19.1.Epoch x_19.1.Count) x_19.2.1 _ ((hz_40.mono (RSl.mono RU8.mono) (New.mono hleH_49)).old (RSl.mono RU8.mono)) ((hz_41.mono R_Write.mono (New.mono hleH_49)).old R_Write.mono) (hsH_49.old RU8.mono) _ hr_51) rfl (fun u_52 Ku_52 Hu_52 hRu_52 hleu_52 hfu_52 => ?_)
              obtain ⟨aoz_53, nz_53, capz_53, rfl, rfl, hz_53, -⟩ := hRu_52
              replace hz_53 := IsSlice.mono RU8.mono (New.call (hleu_12.trans (hleu_21.trans (hleH_28.trans (hleu_31.trans (hleH_36.trans (hleu_39.trans hleH_49))))))) hz_53
              refine JL.val rfl rfl (R.move rfl) ?_
              refine JL.val rfl rfl (R.extract rfl rfl) ?_
              refine JL.val rfl rfl (R.extract rfl rfl) ?_
              refine JL.val rfl rfl (R.assign rfl) ?_
              refine JL.val rfl rfl (R.assign rfl) ?_
              refine JL.nil ?_
              refine JN.next ?_
              refine JC.seq ?_
              refine JC.seq ?_
              refine JC.region ?_
              refine JL.val rfl rfl (R.move rfl) ?_
              refine JL.val rfl rfl (R.neq_i rfl rfl) ?_
              refine JL.nil ?_
              refine JN.next ?_
              refine JC.condB rfl (fun c_54 => ?_) (fun c_54 => ?_)
              · replace hx := cond_t c_54 hx
                refine JC.seq ?_
                obtain ⟨t_55, ht_57, hx⟩ := bnd_some hx
                refine JC.cut (fun l o g => l = [(8, .bool t_55)] ∧ o = [] ∧ Hu_52 = g) ?_ ?_
                · rintro _ _ _ ⟨rfl, rfl, rfl⟩
                  refine JN.next ?_
                  refine JC.ret ?_
                  refine JN.passR ?_
                  refine JN.outP (vs := [.bool t_55]) (K := []) (rst := []) (.inl rfl) rfl rfl (Res.tmp rfl rfl) picks0 ?_
                  obtain rfl := Option.some.inj hx
                  exact ⟨rfl, rfl, trivial⟩
                · have hxo_56 := hx; clear hx; have hx := ht_57; clear ht_57
                  refine JC.region ?_
                  refine JL.val rfl rfl (R.move rfl) ?_
                  refine JL.val rfl rfl (R.move rfl) ?_
                  refine JL.gSplit (t := 79) rfl (fun c_58 => ?_) (fun c_58 => ?_)
                  · replace hx := cond_t c_58 hx
                    refine JL.gYes rfl rfl rfl ?_
                    refine JL.val rfl rfl (R.move rfl) ?_
                    refine JL.gYes rfl rfl rfl ?_
                    refine JL.val rfl rfl (R.eql_i rfl rfl) ?_
                    refine JL.val rfl rfl (R.pickT rfl rfl) ?_
                    refine JL.val rfl rfl (R.move rfl) ?_
                    refine JL.gSplit (t := 83) rfl (fun c_59 => ?_) (fun c_59 => ?_)
                    · replace hx := cond_t c_59 hx
                      refine JL.gYes rfl rfl rfl ?_
                      refine JL.val rfl rfl (R.move rfl) ?_
                      refine JL.gYes rfl rfl rfl ?_
                      refine JL.val rfl rfl (R.neq8 (a := p_8) (b := (0 : UInt8)) rfl rfl) ?_
                      refine JL.val rfl rfl (R.pickT rfl rfl) ?_
                      refine JL.val rfl rfl (R.assign rfl) ?_
                      refine JL.nil ?_
                      obtain rfl := Option.some.inj hx
                      refine JN.forget 4 ?_
                      refine JN.forget 3 ?_
                      refine JN.forget 2 ?_
                      refine JN.forget 1 ?_
                      refine JN.forget 0 ?_
                      exact JN.cut ⟨rfl, rfl, rfl⟩ ⟨rfl, trivial⟩ rfl rfl
                    · replace hx := cond_f c_59 hx
                      refine JL.gNo rfl rfl rfl rfl rfl ?_
                      refine JL.gNo rfl rfl rfl rfl rfl ?_
                      refine JL.val rfl rfl (R.pickF rfl rfl) ?_
                      refine JL.val rfl rfl (R.assign rfl) ?_
                      refine JL.nil ?_
                      obtain rfl := Option.some.inj hx
                      refine JN.forget 4 ?_
                      refine JN.forget 3 ?_
                      refine JN.forget 2 ?_
                      refine JN.forget 1 ?_
                      refine JN.forget 0 ?_
                      exact JN.cut ⟨rfl, rfl, rfl⟩ ⟨rfl, trivial⟩ rfl rfl
                  · replace hx := cond_f c_58 hx
                    refine JL.gNo rfl rfl rfl rfl rfl ?_
                    refine JL.gNo rfl rfl rfl rfl rfl ?_
                    refine JL.val rfl rfl (R.pickF rfl rfl) ?_
                    refine JL.val rfl rfl (R.move rfl) ?_
                    refine JL.gNo rfl rfl rfl rfl rfl ?_
                    refine JL.gNo rfl rfl rfl rfl rfl ?_
                    refine JL.val rfl rfl (R.pickF rfl rfl) ?_
                    refine JL.val rfl rfl (R.assign rfl) ?_
                    refine JL.nil ?_
                    obtain rfl := Option.some.inj hx
                    refine JN.forget 4 ?_
                    refine JN.forget 3 ?_
                    refine JN.forget 2 ?_
                    refine JN.forget 1 ?_
                    refine JN.forget 0 ?_
                    exact JN.cut ⟨rfl, rfl, rfl⟩ ⟨rfl, trivial⟩ rfl rfl
              · replace hx := cond_f c_54 hx
                refine JC.skip ?_
                refine JN.next ?_
                refine JC.seq ?_
                obtain ⟨t_60, ht_62, hx⟩ := bnd_some hx
                refine JC.cut (fun l o g => ∃ H_71 : Heaplet, l = [(8, .bool t_60)] ∧ o = [] ∧ H_71 = g ∧ Hle Hu_52 H_71) ?_ ?_
                · rintro _ _ _ ⟨H_71, rfl, rfl, rfl, hleH_71⟩
                  refine JN.next ?_
                  refine JC.ret ?_
                  refine JN.outP (vs := [.bool t_60]) (K := []) (rst := []) (.inl rfl) rfl rfl (Res.tmp rfl rfl) picks0 ?_
                  obtain rfl := Option.some.inj hx
                  exact ⟨rfl, rfl, trivial⟩
                · have hxo_61 := hx; clear hx; have hx := ht_62; clear ht_62
                  refine JC.region ?_
                  refine JL.val rfl rfl (R.move rfl) ?_
                  refine JL.val rfl rfl (R.move rfl) ?_
                  refine JL.gSplit (t := 88) rfl (fun c_63 => ?_) (fun c_63 => ?_)
                  · replace hx := cond_t c_63 hx
                    refine JL.gYes rfl rfl rfl ?_
                    refine JL.val rfl rfl (R.move rfl) ?_
                    refine JL.gYes rfl rfl rfl ?_
                    refine JL.val rfl rfl (R.toStr U26 U5 U9 rfl (hz_53.old RU8.mono)) ?_
                    refine JL.gYes rfl rfl rfl ?_
                    refine JL.val rfl rfl (R.move rfl) ?_
                    refine JL.gYes rfl rfl rfl ?_
                    refine JL.val rfl rfl (R.toStr U26 U5 U9 rfl (ha_6.mono RU8.mono (hleu_12.trans (hleu_21.trans (hleH_28.trans (hleu_31.trans (hleH_36.trans (hleu_39.trans (hleH_49.trans hleu_52))))))))) ?_
                    refine JL.gYes rfl rfl rfl ?_
                    refine JL.val rfl rfl (R.eqlStr (a := x_50.1) (b := p_5) rfl rfl) ?_
                    refine JL.gYes rfl rfl rfl ?_
                    refine JL.val rfl rfl (R.move rfl) ?_
                    refine JL.gSplit (t := 94) rfl (fun c_64 => ?_) (fun c_64 => ?_)
                    · replace hx := cond_t c_64 hx
                      refine JL.gNo rfl rfl rfl rfl rfl ?_
                      refine JL.gNo rfl rfl rfl rfl rfl ?_
                      refine JL.gNo rfl rfl rfl rfl rfl ?_
                      refine JL.gNo rfl rfl rfl rfl rfl ?_
                      refine JL.gNo rfl rfl rfl rfl rfl ?_
                      refine JL.gYes rfl rfl rfl ?_
                      refine JL.val rfl rfl (R.pickT rfl rfl) ?_
                      refine JL.val rfl rfl (R.pickT rfl rfl) ?_
                      refine JL.val rfl rfl (R.assign rfl) ?_
                      refine JL.nil ?_
                      obtain rfl := Option.some.inj hx
                      refine JN.forget 4 ?_
                      refine JN.forget 3 ?_
                      refine JN.forget 2 ?_
                      refine JN.forget 1 ?_
                      refine JN.forget 0 ?_
                      exact JN.cut ⟨Hu_52, rfl, rfl, rfl, (Hle.refl _)⟩ ⟨rfl, trivial⟩ rfl rfl
                    · replace hx := cond_f c_64 hx
                      refine JL.gYes rfl rfl rfl ?_
                      refine JL.val rfl rfl (R.move rfl) ?_
                      refine JL.gYes rfl rfl rfl ?_
                      obtain ⟨x_65, hr_66, hx⟩ := bnd_some hx
                      refine JL.callC (vs := [_]) (args := [_]) (K := []) (rst := [_, _, _, _, _]) E23 rfl rfl rfl picks0 (mix_Sum_ok x_50.1 _ (hz_53.old RU8.mono) _ hr_66) rfl (fun u_67 Ku_67 Hu_67 hRu_67 hleu_67 hfu_67 => ?_)
                      obtain ⟨rfl, rfl, -⟩ := hRu_67
                      refine JL.gYes rfl rfl rfl ?_
                      refine JL.val rfl rfl (R.move rfl) ?_
                      refine JL.gYes rfl rfl rfl ?_
                      obtain ⟨x_68, hr_69, hx⟩ := bnd_some hx
                      refine JL.callC (vs := [_]) (args := [_]) (K := []) (rst := [_, _, _, _, _]) E23 rfl rfl rfl picks0 (mix_Sum_ok p_5 _ (ha_6.mono RU8.mono (hleu_12.trans (hleu_21.trans (hleH_28.trans (hleu_31.trans (hleH_36.trans (hleu_39.trans (hleH_49.trans (hleu_52.trans hleu_67))))))))) _ hr_69) rfl (fun u_70 Ku_70 Hu_70 hRu_70 hleu_70 hfu_70 => ?_)
                      obtain ⟨rfl, rfl, -⟩ := hRu_70
                      refine JL.gYes rfl rfl rfl ?_
                      refine JL.val rfl rfl (R.eql32 (a := x_65) (b := x_68) rfl rfl) ?_
                      refine JL.gYes rfl rfl rfl ?_
                      refine JL.val rfl rfl (R.pickF rfl rfl) ?_
                      refine JL.val rfl rfl (R.pickT rfl rfl) ?_
                      refine JL.val rfl rfl (R.assign rfl) ?_
                      refine JL.nil ?_
                      obtain rfl := Option.some.inj hx
                      refine JN.forget 4 ?_
                      refine JN.forget 3 ?_
                      refine JN.forget 2 ?_
                      refine JN.forget 1 ?_
                      refine JN.forget 0 ?_
                      exact JN.cut ⟨Hu_70, rfl, rfl, rfl, ((hleu_67.trans hleu_70))⟩ ⟨rfl, trivial⟩ rfl rfl
                  · replace hx := cond_f c_63 hx
                    refine JL.gNo rfl rfl rfl rfl rfl ?_
                    refine JL.gNo rfl rfl rfl rfl rfl ?_
                    refine JL.gNo rfl rfl rfl rfl rfl ?_
                    refine JL.gNo rfl rfl rfl rfl rfl ?_
                    refine JL.gNo rfl rfl rfl rfl rfl ?_
                    refine JL.gNo rfl rfl rfl rfl rfl ?_
                    refine JL.gNoU rfl rfl rfl rfl ?_
                    refine JL.gNoU rfl rfl rfl rfl ?_
                    refine JL.gNoU rfl rfl rfl rfl ?_
                    refine JL.gNoU rfl rfl rfl rfl ?_
                    refine JL.gNoU rfl rfl rfl rfl ?_
                    refine JL.gNo rfl rfl rfl rfl rfl ?_
                    refine JL.val rfl rfl (R.pickF rfl rfl) ?_
                    refine JL.val rfl rfl (R.assign rfl) ?_
                    refine JL.nil ?_
                    obtain rfl := Option.some.inj hx
                    refine JN.forget 4 ?_
                    refine JN.forget 3 ?_
                    refine JN.forget 2 ?_
                    refine JN.forget 1 ?_
                    refine JN.forget 0 ?_
                    exact JN.cut ⟨Hu_52, rfl, rfl, rfl, (Hle.refl _)⟩ ⟨rfl, trivial⟩ rfl rfl
end Go.Proofs.Ytdelcjkjkhcaoaa
