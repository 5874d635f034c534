/- walks: what the code computes, function by function. -/
import Derived.Test.YtdelcjkjkhcaoaaW2p1
namespace Go.Proofs.Ytdelcjkjkhcaoaa
open Go.Ow Go.RowKit Go.Proofs
set_option linter.unusedVariables false
set_option linter.unusedSimpArgs false
set_option maxHeartbeats 8000000 in
theorem dev_Read_ok (p_1 : Disk) (p_4 : Int) (H : Heaplet) {aoa_2 : Option Addr} {na_2 : Nat} {capa_2 : Nat} {aoa_3 : Option Addr} {na_3 : Nat} {capa_3 : Nat} (ha_2 : IsSlice H (RSl RU8 1) 1 (.slice aoa_2 na_2 capa_2) p_1.Blocks) (ha_3 : IsSlice H R_Write 2 (.slice aoa_3 na_3 capa_3) p_1.Waits) (r : List UInt8 × Int) (hx : dev_Read p_1 p_4 = some r) :
    Does Try.prog 39 #[.agg #[.slice aoa_2 na_2 capa_2, .slice aoa_3 na_3 capa_3], .int .i64 p_4] [] H (fun u K' H' => ∃ ao0 : Option Addr, ∃ n0 : Nat, ∃ cap0 : Nat, u = .tuple #[.slice ao0 n0 cap0, .int .i64 r.2] ∧ K' = [] ∧ IsSlice (New H H') RU8 1 (.slice ao0 n0 cap0) r.1 ∧ True) := by
  refine Does.enterL (vs := [.agg #[.slice aoa_2 na_2 capa_2, .slice aoa_3 na_3 capa_3], .int .i64 p_4]) (l := [(0, .agg #[.slice aoa_2 na_2 capa_2, .slice aoa_3 na_3 capa_3]), (1, .int .i64 p_4)]) Try.func39 rfl rfl ⟨rfl, rfl, trivial⟩ (fun w hlt => ?_)
  unfold dev_Read at hx
  refine JC.seq ?_
  refine JC.region ?_
  refine JL.box rfl rfl (fun b_5 hb_5 => ?_)
  refine JL.val rfl rfl (R.assign rfl) ?_
  refine JL.val rfl rfl (R.assign rfl) ?_
  refine JL.nil ?_
  refine JN.next ?_
  refine JC.seq ?_
  obtain ⟨t_6, ht_8, hx⟩ := bnd_some hx
  refine JC.cut (fun l o g => ∃ H_20 : Heaplet, ∃ b_21 : Nat, ∃ aoz_22 : Option Addr, ∃ nz_22 : Nat, ∃ capz_22 : Nat, ∃ aor_23 : Option Addr, ∃ nr_23 : Nat, ∃ capr_23 : Nat, ∃ Kr_23 : Own, l = [(1, .int .i64 p_4), (6, .pointer (some ⟨b_21, 0, none⟩)), (7, .int .i64 t_6.2.2)] ∧ o = [[(b_21, .cells #[.slice aoz_22 nz_22 capz_22, .slice aor_23 nr_23 capr_23] 25 (0, 0))], Kr_23] ∧ H_20 = g ∧ Hle H H_20 ∧ w.heap.size ≤ b_21 ∧ IsSlice (New H H_20) (RSl RU8 1) 1 (.slice aoz_22 nz_22 capz_22) t_6.1 ∧ RowOf (New H H_20) R_Write w.heap.size 72 2 (.slice aor_23 nr_23 capr_23) t_6.2.1 Kr_23) ?_ ?_
  · rintro _ _ _ ⟨H_20, b_21, aoz_22, nz_22, capz_22, aor_23, nr_23, capr_23, Kr_23, rfl, rfl, rfl, hleH_20, hb_21, hz_22, hr_23⟩
    refine JN.next ?_
    refine JC.seq ?_
    refine JC.seq ?_
    refine JC.region ?_
    refine JL.val rfl rfl (R.move rfl) ?_
    refine JL.val rfl rfl (R.neq_i rfl rfl) ?_
    refine JL.nil ?_
    refine JN.next ?_
    refine JC.condB rfl (fun c_24 => ?_) (fun c_24 => ?_)
    · replace hx := cond_t c_24 hx
      refine JC.seq ?_
      refine JC.region ?_
      refine JL.val rfl rfl (R.move rfl) ?_
      refine JL.val rfl rfl (R.assign rfl) ?_
      refine JL.val rfl rfl (R.assign rfl) ?_
      refine JL.nil ?_
      refine JN.next ?_
      refine JC.ret ?_
      refine JN.passR ?_
      refine JN.outP (vs := [.slice none 0 0, .int .i64 t_6.2.2]) (K := []) (rst := [_, _]) (.inl rfl) rfl rfl (Res.tmp rfl (Res.tmp rfl rfl)) picks0 ?_
      obtain rfl := Option.some.inj hx
      exact ⟨none, 0, 0, rfl, rfl, (IsSlice.nil _ _ _), trivial⟩
    · replace hx := cond_f c_24 hx
      refine JC.skip ?_
      refine JN.next ?_
      refine JC.seq ?_
      refine JC.region ?_
      refine JL.val rfl rfl (R.fa F25_0 rfl) ?_
      refine JL.val rfl rfl (R.ldo 0 S22 rfl rfl rfl) ?_
      refine JL.val rfl rfl (R.move rfl) ?_
      obtain ⟨y_25, hN_26, hx⟩ := idx_some hx
      obtain ⟨b_27, o_28, cs_29, hE_30, hR_31, hl_32, hc_33⟩ := IsSlice.elem hz_22 hN_26
      obtain ⟨v_34, rfl, hs_35⟩ := hR_31
      obtain ⟨aov_34, capv_34, rfl⟩ := IsSlice.val hs_35
      refine JL.val rfl rfl (R.ix U22 S26 rfl rfl hE_30) ?_
      refine JL.val rfl rfl (R.ldH S26 rfl ((fun j u e => New.le _ _ _ _ _ (hc_33 j u e)) 0 _ rfl)) ?_
      refine JL.val rfl rfl (R.assign rfl) ?_
      refine JL.val rfl rfl (R.assign rfl) ?_
      refine JL.nil ?_
      refine JN.next ?_
      refine JC.ret ?_
      refine JN.outP (vs := [.slice aov_34 y_25.length capv_34, .int .i64 0]) (K := []) (rst := [_, _]) (.inl rfl) rfl rfl (Res.tmp rfl (Res.tmp rfl rfl)) picks0 ?_
      obtain rfl := Option.some.inj hx
      exact ⟨aov_34, y_25.length, capv_34, rfl, rfl, hs_35, trivial⟩
  · have hxo_7 := hx; clear hx; have hx := ht_8; clear ht_8
    refine JC.draw (so := []) 11 rfl Mixed trivial ?_
    refine JA.val ⟨by kernel_rfl, by kernel_rfl⟩ (calm_only _) (i := 1) rfl ⟨by kernel_rfl, by kernel_rfl, rfl⟩ trivial (stab_of (Hle.refl _) trivial) (R.move rfl) rfl ?_
    refine JA.val ⟨by kernel_rfl, by kernel_rfl⟩ (calm_only _) (i := 3) rfl ⟨by kernel_rfl, by kernel_rfl, rfl⟩ trivial (stab_of (Hle.refl _) trivial) (R.func (vf := []) (vc := [_]) rfl rfl) rfl ?_
    obtain ⟨x_9, hr_10, hx⟩ := bnd_some hx
    obtain ⟨x_12, hr_13, hx⟩ := bnd_some hx
    refine JA.three (i := 0) (j := 2) (m := 8) (by kernel_rfl) ?_ ?_ ?_
    · refine JO.step rfl trivial rfl (fun K hK => ?_)
      refine JL.val rfl rfl (R.ldoN 0 (vs := [.slice aoa_2 na_2 capa_2, .slice aoa_3 na_3 capa_3]) S25 rfl rfl rfl rfl) ?_
      refine JL.nil ?_
      refine hK _ _ _ (stab_of (Hle.refl _) trivial) ?_
      refine JA.two (i := 2) (j := 8) (by kernel_rfl) ?_ ?_
      · refine JO.step rfl trivial rfl (fun K hK => ?_)
        refine JL.callC (vs := [_]) (args := [_]) (K := []) (rst := [_]) E44 rfl rfl rfl picks0 (dev_place_ok p_4 _ _ hr_10) rfl (fun u_11 Ku_11 Hu_11 hRu_11 hleu_11 hfu_11 => ?_)
        obtain ⟨rfl, rfl, rfl, -⟩ := hRu_11
        refine JL.nil ?_
        refine hK _ _ _ (stab_of (Hle.refl _) trivial) ?_
        refine JA.two (i := 4) (j := 8) (by kernel_rfl) ?_ ?_
        · refine JO.step rfl trivial rfl (fun K hK => ?_)
          refine JL.callC (vs := [_, _, _]) (args := [_, _, _]) (K := [_]) (rst := []) E40 rfl rfl rfl (picks 0 rfl picks0) (dev_guarded_v2_ok p_1 x_9 p_1 _ ha_2 ha_3 ha_2 ha_3 _ hr_13) rfl (fun u_14 Ku_14 Hu_14 hRu_14 hleu_14 hfu_14 => ?_)
          obtain ⟨aoz_15, nz_15, capz_15, aoz_16, nz_16, capz_16, aoz_17, nz_17, capz_17, aor_18, nr_18, capr_18, Kr_18, rfl, rfl, hz_15, hz_16, hz_17, hr_18, hnewr_18, -⟩ := hRu_14
          replace hr_18 := (RowOf.base (RowOf.mono R_Write.mono (New.call (Hle.refl _)) hr_18) (fun p hp => (hfu_14 p (mem_seg 1 rfl hp)).resolve_left (hnewr_18 p hp)))
          replace hz_17 := IsSlice.mono (RSl.mono RU8.mono) (New.call (Hle.refl _)) hz_17
          refine JL.nil ?_
          refine hK _ _ _ (stab_of hleu_14 trivial) ?_
          refine JA.val ⟨by kernel_rfl, by kernel_rfl⟩ (calm_only _) (i := 5) rfl ⟨by kernel_rfl, by kernel_rfl, rfl⟩ trivial (stab_of hleu_14 trivial) (R.move rfl) rfl ?_
          refine JA.val ⟨by kernel_rfl, by kernel_rfl⟩ (calm_only _) (i := 6) rfl ⟨by kernel_rfl, by kernel_rfl, rfl⟩ trivial (stab_of hleu_14 trivial) (R.extract rfl rfl) rfl ?_
          refine JA.val ⟨by kernel_rfl, by kernel_rfl⟩ (calm_only _) (i := 7) rfl ⟨by kernel_rfl, by kernel_rfl, rfl⟩ trivial (stab_of hleu_14 trivial) (R.extract rfl rfl) rfl ?_
          refine JA.one (i := 8) (by kernel_rfl) ?_
          refine JO.step rfl trivial rfl (fun K hK => ?_)
          refine JL.alloc Z25 rfl (fun b_19 hb_19 => ?_)
          refine JL.nil ?_
          refine hK _ _ _ (stab_of hleu_14 trivial) ?_
          refine JA.one (i := 9) (by kernel_rfl) ?_
          refine JO.step rfl trivial rfl (fun K hK => ?_)
          refine JL.store 0 S25 rfl rfl rfl rfl rfl (Nat.le_of_ble_eq_true rfl) ?_
          refine JL.nil ?_
          refine hK _ _ _ (stab_of hleu_14 trivial) ?_
          refine JA.val ⟨by kernel_rfl, by kernel_rfl⟩ (calm_only _) (i := 10) rfl ⟨by kernel_rfl, by kernel_rfl, rfl⟩ trivial (stab_of hleu_14 trivial) (R.assign rfl) rfl ?_
          refine JA.doneN (by kernel_rfl) ?_
          obtain rfl := Option.some.inj hx
          refine JN.forget 1 ?_
          refine JN.front 1 rfl ?_
          refine JN.front 1 rfl ?_
          exact JN.cut ⟨Hu_14, b_19, aoz_17, nz_17, capz_17, aor_18, nr_18, capr_18, Kr_18, rfl, rfl, rfl, (hleu_14), hb_19, hz_17, hr_18⟩ ⟨rfl, rfl, rfl, trivial⟩ rfl rfl
        · refine JO.step rfl trivial rfl (fun K hK => ?_)
          refine JL.alloc Z25 rfl (fun b_19 hb_19 => ?_)
          refine JL.nil ?_
          refine hK _ _ _ (stab_of (Hle.refl _) trivial) ?_
          refine JA.one (i := 4) (by kernel_rfl) ?_
          refine JO.step rfl trivial rfl (fun K hK => ?_)
          refine JL.callC (vs := [_, _, _]) (args := [_, _, _]) (K := [_]) (rst := [_]) E40 rfl rfl rfl (picks 1 rfl picks0) (dev_guarded_v2_ok p_1 x_9 p_1 _ ha_2 ha_3 ha_2 ha_3 _ hr_13) rfl (fun u_14 Ku_14 Hu_14 hRu_14 hleu_14 hfu_14 => ?_)
          obtain ⟨aoz_15, nz_15, capz_15, aoz_16, nz_16, capz_16, aoz_17, nz_17, capz_17, aor_18, nr_18, capr_18, Kr_18, rfl, rfl, hz_15, hz_16, hz_17, hr_18, hnewr_18, -⟩ := hRu_14
          replace hr_18 := (RowOf.base (RowOf.mono R_Write.mono (New.call (Hle.refl _)) hr_18) (fun p hp => (hfu_14 p (mem_seg 1 rfl hp)).resolve_left (hnewr_18 p hp)))
          replace hz_17 := IsSlice.mono (RSl.mono RU8.mono) (New.call (Hle.refl _)) hz_17
          refine JL.nil ?_
          refine hK _ _ _ (stab_of hleu_14 trivial) ?_
          refine JA.val ⟨by kernel_rfl, by kernel_rfl⟩ (calm_only _) (i := 5) rfl ⟨by kernel_rfl, by kernel_rfl, rfl⟩ trivial (stab_of hleu_14 trivial) (R.move rfl) rfl ?_
          refine JA.val ⟨by kernel_rfl, by kernel_rfl⟩ (calm_only _) (i := 6) rfl ⟨by kernel_rfl, by kernel_rfl, rfl⟩ trivial (stab_of hleu_14 trivial) (R.extract rfl rfl) rfl ?_
          refine JA.val ⟨by kernel_rfl, by kernel_rfl⟩ (calm_only _) (i := 7) rfl ⟨by kernel_rfl, by kernel_rfl, rfl⟩ trivial (stab_of hleu_14 trivial) (R.extract rfl rfl) rfl ?_
          refine JA.one (i := 9) (by kernel_rfl) ?_
          refine JO.step rfl trivial rfl (fun K hK => ?_)
          refine JL.store 2 S25 rfl rfl rfl rfl rfl (Nat.le_of_ble_eq_true rfl) ?_
          refine JL.nil ?_
          refine hK _ _ _ (stab_of hleu_14 trivial) ?_
          refine JA.val ⟨by kernel_rfl, by kernel_rfl⟩ (calm_only _) (i := 10) rfl ⟨by kernel_rfl, by kernel_rfl, rfl⟩ trivial (stab_of hleu_14 trivial) (R.assign rfl) rfl ?_
          refine JA.doneN (by kernel_rfl) ?_
          obtain rfl := Option.some.inj hx
          refine JN.forget 0 ?_
          refine JN.front 1 rfl ?_
          exact JN.cut ⟨Hu_14, b_19, aoz_17, nz_17, capz_17, aor_18, nr_18, capr_18, Kr_18, rfl, rfl, rfl, (hleu_14), hb_19, hz_17, hr_18⟩ ⟨rfl, rfl, rfl, trivial⟩ rfl rfl
      · refine JO.step rfl trivial rfl (fun K hK => ?_)
        refine JL.alloc Z25 rfl (fun b_19 hb_19 => ?_)
        refine JL.nil ?_
        refine hK _ _ _ (stab_of (Hle.refl _) trivial) ?_
        refine JA.one (i := 2) (by kernel_rfl) ?_
        refine JO.step rfl trivial rfl (fun K hK => ?_)
        refine JL.callC (vs := [_]) (args := [_]) (K := []) (rst := [_, _]) E44 rfl rfl rfl picks0 (dev_place_ok p_4 _ _ hr_10) rfl (fun u_11 Ku_11 Hu_11 hRu_11 hleu_11 hfu_11 => ?_)
        obtain ⟨rfl, rfl, rfl, -⟩ := hRu_11
        refine JL.nil ?_
        refine hK _ _ _ (stab_of (Hle.refl _) trivial) ?_
        refine JA.one (i := 4) (by kernel_rfl) ?_
        refine JO.step rfl trivial rfl (fun K hK => ?_)
        refine JL.callC (vs := [_, _, _]) (args := [_, _, _]) (K := [_]) (rst := [_]) E40 rfl rfl rfl (picks 1 rfl picks0) (dev_guarded_v2_ok p_1 x_9 p_1 _ ha_2 ha_3 ha_2 ha_3 _ hr_13) rfl (fun u_14 Ku_14 Hu_14 hRu_14 hleu_14 hfu_14 => ?_)
        obtain ⟨aoz_15, nz_15, capz_15, aoz_16, nz_16, capz_16, aoz_17, nz_17, capz_17, aor_18, nr_18, capr_18, Kr_18, rfl, rfl, hz_15, hz_16, hz_17, hr_18, hnewr_18, -⟩ := hRu_14
        replace hr_18 := (RowOf.base (RowOf.mono R_Write.mono (New.call (Hle.refl _)) hr_18) (fun p hp => (hfu_14 p (mem_seg 1 rfl hp)).resolve_left (hnewr_18 p hp)))
        replace hz_17 := IsSlice.mono (RSl.mono RU8.mono) (New.call (Hle.refl _)) hz_17
        refine JL.nil ?_
        refine hK _ _ _ (stab_of hleu_14 trivial) ?_
        refine JA.val ⟨by kernel_rfl, by kernel_rfl⟩ (calm_only _) (i := 5) rfl ⟨by kernel_rfl, by kernel_rfl, rfl⟩ trivial (stab_of hleu_14 trivial) (R.move rfl) rfl ?_
        refine JA.val ⟨by kernel_rfl, by kernel_rfl⟩ (calm_only _) (i := 6) rfl ⟨by kernel_rfl, by kernel_rfl, rfl⟩ trivial (stab_of hleu_14 trivial) (R.extract rfl rfl) rfl ?_
        refine JA.val ⟨by kernel_rfl, by kernel_rfl⟩ (calm_only _) (i := 7) rfl ⟨by kernel_rfl, by kernel_rfl, rfl⟩ trivial (stab_of hleu_14 trivial) (R.extract rfl rfl) rfl ?_
        refine JA.one (i := 9) (by kernel_rfl) ?_
        refine JO.step rfl trivial rfl (fun K hK => ?_)
        refine JL.store 2 S25 rfl rfl rfl rfl rfl (Nat.le_of_ble_eq_true rfl) ?_
        refine JL.nil ?_
        refine hK _ _ _ (stab_of hleu_14 trivial) ?_
        refine JA.val ⟨by kernel_rfl, by kernel_rfl⟩ (calm_only _) (i := 10) rfl ⟨by kernel_rfl, by kernel_rfl, rfl⟩ trivial (stab_of hleu_14 trivial) (R.assign rfl) rfl ?_
        refine JA.doneN (by kernel_rfl) ?_
        obtain rfl := Option.some.inj hx
        refine JN.forget 0 ?_
        refine JN.front 1 rfl ?_
        exact JN.cut ⟨Hu_14, b_19, aoz_17, nz_17, capz_17, aor_18, nr_18, capr_18, Kr_18, rfl, rfl, rfl, (hleu_14), hb_19, hz_17, hr_18⟩ ⟨rfl, rfl, rfl, trivial⟩ rfl rfl
    · refine JO.step rfl trivial rfl (fun K hK => ?_)
      refine JL.callC (vs := [_]) (args := [_]) (K := []) (rst := [_]) E44 rfl rfl rfl picks0 (dev_place_ok p_4 _ _ hr_10) rfl (fun u_11 Ku_11 Hu_11 hRu_11 hleu_11 hfu_11 => ?_)
      obtain ⟨rfl, rfl, rfl, -⟩ := hRu_11
      refine JL.nil ?_
      refine hK _ _ _ (stab_of (Hle.refl _) trivial) ?_
      refine JA.two (i := 0) (j := 8) (by kernel_rfl) ?_ ?_
      · refine JO.step rfl trivial rfl (fun K hK => ?_)
        refine JL.val rfl rfl (R.ldoN 0 (vs := [.slice aoa_2 na_2 capa_2, .slice aoa_3 na_3 capa_3]) S25 rfl rfl rfl rfl) ?_
        refine JL.nil ?_
        refine hK _ _ _ (stab_of (Hle.refl _) trivial) ?_
        refine JA.two (i := 4) (j := 8) (by kernel_rfl) ?_ ?_
        · refine JO.step rfl trivial rfl (fun K hK => ?_)
          refine JL.callC (vs := [_, _, _]) (args := [_, _, _]) (K := [_]) (rst := []) E40 rfl rfl rfl (picks 0 rfl picks0) (dev_guarded_v2_ok p_1 x_9 p_1 _ ha_2 ha_3 ha_2 ha_3 _ hr_13) rfl (fun u_14 Ku_14 Hu_14 hRu_14 hleu_14 hfu_14 => ?_)
          obtain ⟨aoz_15, nz_15, capz_15, aoz_16, nz_16, capz_16, aoz_17, nz_17, capz_17, aor_18, nr_18, capr_18, Kr_18, rfl, rfl, hz_15, hz_16, hz_17, hr_18, hnewr_18, -⟩ := hRu_14
          replace hr_18 := (RowOf.base (RowOf.mono R_Write.mono (New.call (Hle.refl _)) hr_18) (fun p hp => (hfu_14 p (mem_seg 1 rfl hp)).resolve_left (hnewr_18 p hp)))
          replace hz_17 := IsSlice.mono (RSl.mono RU8.mono) (New.call (Hle.refl _)) hz_17
          refine JL.nil ?_
          refine hK _ _ _ (stab_of hleu_14 trivial) ?_
          refine JA.val ⟨by kernel_rfl, by kernel_rfl⟩ (calm_only _) (i := 5) rfl ⟨by kernel_rfl, by kernel_rfl, rfl⟩ trivial (stab_of hleu_14 trivial) (R.move rfl) rfl ?_
          refine JA.val ⟨by kernel_rfl, by kernel_rfl⟩ (calm_only _) (i := 6) rfl ⟨by kernel_rfl, by kernel_rfl, rfl⟩ trivial (stab_of hleu_14 trivial) (R.extract rfl rfl) rfl ?_
          refine JA.val ⟨by kernel_rfl, by kernel_rfl⟩ (calm_only _) (i := 7) rfl ⟨by kernel_rfl, by kernel_rfl, rfl⟩ trivial (stab_of hleu_14 trivial) (R.extract rfl rfl) rfl ?_
          refine JA.one (i := 8) (by kernel_rfl) ?_
          refine JO.step rfl trivial rfl (fun K hK => ?_)
          refine JL.alloc Z25 rfl (fun b_19 hb_19 => ?_)
          refine JL.nil ?_
          refine hK _ _ _ (stab_of hleu_14 trivial) ?_
          refine JA.one (i := 9) (by kernel_rfl) ?_
          refine JO.step rfl trivial rfl (fun K hK => ?_)
          refine JL.store 0 S25 rfl rfl rfl rfl rfl (Nat.le_of_ble_eq_true rfl) ?_
          refine JL.nil ?_
          refine hK _ _ _ (stab_of hleu_14 trivial) ?_
          refine JA.val ⟨by kernel_rfl, by kernel_rfl⟩ (calm_only _) (i := 10) rfl ⟨by kernel_rfl, by kernel_rfl, rfl⟩ trivial (stab_of hleu_14 trivial) (R.assign rfl) rfl ?_
          refine JA.doneN (by kernel_rfl) ?_
          obtain rfl := Option.some.inj hx
          refine JN.forget 1 ?_
          refine JN.front 1 rfl ?_
          refine JN.front 1 rfl ?_
          exact JN.cut ⟨Hu_14, b_19, aoz_17, nz_17, capz_17, aor_18, nr_18, capr_18, Kr_18, rfl, rfl, rfl, (hleu_14), hb_19, hz_17, hr_18⟩ ⟨rfl, rfl, rfl, trivial⟩ rfl rfl
        · refine JO.step rfl trivial rfl (fun K hK => ?_)
          refine JL.alloc Z25 rfl (fun b_19 hb_19 => ?_)
          refine JL.nil ?_
          refine hK _ _ _ (stab_of (Hle.refl _) trivial) ?_
          refine JA.one (i := 4) (by kernel_rfl) ?_
          refine JO.step rfl trivial rfl (fun K hK => ?_)
          refine JL.callC (vs := [_, _, _]) (args := [_, _, _]) (K := [_]) (rst := [_]) E40 rfl rfl rfl (picks 1 rfl picks0) (dev_guarded_v2_ok p_1 x_9 p_1 _ ha_2 ha_3 ha_2 ha_3 _ hr_13) rfl (fun u_14 Ku_14 Hu_14 hRu_14 hleu_14 hfu_14 => ?_)
          obtain ⟨aoz_15, nz_15, capz_15, aoz_16, nz_16, capz_16, aoz_17, nz_17, capz_17, aor_18, nr_18, capr_18, Kr_18, rfl, rfl, hz_15, hz_16, hz_17, hr_18, hnewr_18, -⟩ := hRu_14
          replace hr_18 := (RowOf.base (RowOf.mono R_Write.mono (New.call (Hle.refl _)) hr_18) (fun p hp => (hfu_14 p (mem_seg 1 rfl hp)).resolve_left (hnewr_18 p hp)))
          replace hz_17 := IsSlice.mono (RSl.mono RU8.mono) (New.call (Hle.refl _)) hz_17
          refine JL.nil ?_
          refine hK _ _ _ (stab_of hleu_14 trivial) ?_
          refine JA.val ⟨by kernel_rfl, by kernel_rfl⟩ (calm_only _) (i := 5) rfl ⟨by kernel_rfl, by kernel_rfl, rfl⟩ trivial (stab_of hleu_14 trivial) (R.move rfl) rfl ?_
          refine JA.val ⟨by kernel_rfl, by kernel_rfl⟩ (calm_only _) (i := 6) rfl ⟨by kernel_rfl, by kernel_rfl, rfl⟩ trivial (stab_of hleu_14 trivial) (R.extract rfl rfl) rfl ?_
          refine JA.val ⟨by kernel_rfl, by kernel_rfl⟩ (calm_only _) (i := 7) rfl ⟨by kernel_rfl, by kernel_rfl, rfl⟩ trivial (stab_of hleu_14 trivial) (R.extract rfl rfl) rfl ?_
          refine JA.one (i := 9) (by kernel_rfl) ?_
          refine JO.step rfl trivial rfl (fun K hK => ?_)
          refine JL.store 2 S25 rfl rfl rfl rfl rfl (Nat.le_of_ble_eq_true rfl) ?_
          refine JL.nil ?_
          refine hK _ _ _ (stab_of hleu_14 trivial) ?_
          refine JA.val ⟨by kernel_rfl, by kernel_rfl⟩ (calm_only _) (i := 10) rfl ⟨by kernel_rfl, by kernel_rfl, rfl⟩ trivial (stab_of hleu_14 trivial) (R.assign rfl) rfl ?_
          refine JA.doneN (by kernel_rfl) ?_
          obtain rfl := Option.some.inj hx
          refine JN.forget 0 ?_
          refine JN.front 1 rfl ?_
          exact JN.cut ⟨Hu_14, b_19, aoz_17, nz_17, capz_17, aor_18, nr_18, capr_18, Kr_18, rfl, rfl, rfl, (hleu_14), hb_19, hz_17, hr_18⟩ ⟨rfl, rfl, rfl, trivial⟩ rfl rfl
      · refine JO.step rfl trivial rfl (fun K hK => ?_)
        refine JL.alloc Z25 rfl (fun b_19 hb_19 => ?_)
        refine JL.nil ?_
        refine hK _ _ _ (stab_of (Hle.refl _) trivial) ?_
        refine JA.one (i := 0) (by kernel_rfl) ?_
        refine JO.step rfl trivial rfl (fun K hK => ?_)
        refine JL.val rfl rfl (R.ldoN 1 (vs := [.slice aoa_2 na_2 capa_2, .slice aoa_3 na_3 capa_3]) S25 rfl rfl rfl rfl) ?_
        refine JL.nil ?_
        refine hK _ _ _ (stab_of (Hle.refl _) trivial) ?_
        refine JA.one (i := 4) (by kernel_rfl) ?_
        refine JO.step rfl trivial rfl (fun K hK => ?_)
        refine JL.callC (vs := [_, _, _]) (args := [_, _, _]) (K := [_]) (rst := [_]) E40 rfl rfl rfl (picks 1 rfl picks0) (dev_guarded_v2_ok p_1 x_9 p_1 _ ha_2 ha_3 ha_2 ha_3 _ hr_13) rfl (fun u_14 Ku_14 Hu_14 hRu_14 hleu_14 hfu_14 => ?_)
        obtain ⟨aoz_15, nz_15, capz_15, aoz_16, nz_16, capz_16, aoz_17, nz_17, capz_17, aor_18, nr_18, capr_18, Kr_18, rfl, rfl, hz_15, hz_16, hz_17, hr_18, hnewr_18, -⟩ := hRu_14
        replace hr_18 := (RowOf.base (RowOf.mono R_Write.mono (New.call (Hle.refl _)) hr_18) (fun p hp => (hfu_14 p (mem_seg 1 rfl hp)).resolve_left (hnewr_18 p hp)))
        replace hz_17 := IsSlice.mono (RSl.mono RU8.mono) (New.call (Hle.refl _)) hz_17
        refine JL.nil ?_
        refine hK _ _ _ (stab_of hleu_14 trivial) ?_
        refine JA.val ⟨by kernel_rfl, by kernel_rfl⟩ (calm_only _) (i := 5) rfl ⟨by kernel_rfl, by kernel_rfl, rfl⟩ trivial (stab_of hleu_14 trivial) (R.move rfl) rfl ?_
        refine JA.val ⟨by kernel_rfl, by kernel_rfl⟩ (calm_only _) (i := 6) rfl ⟨by kernel_rfl, by kernel_rfl, rfl⟩ trivial (stab_of hleu_14 trivial) (R.extract rfl rfl) rfl ?_
        refine JA.val ⟨by kernel_rfl, by kernel_rfl⟩ (calm_only _) (i := 7) rfl ⟨by kernel_rfl, by kernel_rfl, rfl⟩ trivial (stab_of hleu_14 trivial) (R.extract rfl rfl) rfl ?_
        refine JA.one (i := 9) (by kernel_rfl) ?_
        refine JO.step rfl trivial rfl (fun K hK => ?_)
        refine JL.store 2 S25 rfl rfl rfl rfl rfl (Nat.le_of_ble_eq_true rfl) ?_
        refine JL.nil ?_
        refine hK _ _ _ (stab_of hleu_14 trivial) ?_
        refine JA.val ⟨by kernel_rfl, by kernel_rfl⟩ (calm_only _) (i := 10) rfl ⟨by kernel_rfl, by kernel_rfl, rfl⟩ trivial (stab_of hleu_14 trivial) (R.assign rfl) rfl ?_
        refine JA.doneN (by kernel_rfl) ?_
        obtain rfl := Option.some.inj hx
        refine JN.forget 0 ?_
        refine JN.front 1 rfl ?_
        exact JN.cut ⟨Hu_14, b_19, aoz_17, nz_17, capz_17, aor_18, nr_18, capr_18, Kr_18, rfl, rfl, rfl, (hleu_14), hb_19, hz_17, hr_18⟩ ⟨rfl, rfl, rfl, trivial⟩ rfl rfl
    · refine JO.step rfl trivial rfl (fun K hK => ?_)
      refine JL.alloc Z25 rfl (fun b_19 hb_19 => ?_)
      refine JL.nil ?_
      refine hK _ _ _ (stab_of (Hle.refl _) trivial) ?_
      refine JA.two (i := 0) (j := 2) (by kernel_rfl) ?_ ?_
      · refine JO.step rfl trivial rfl (fun K hK => ?_)
        refine JL.val rfl rfl (R.ldoN 1 (vs := [.slice aoa_2 na_2 capa_2, .slice aoa_3 na_3 capa_3]) S25 rfl rfl rfl rfl) ?_
        refine JL.nil ?_
        refine hK _ _ _ (stab_of (Hle.refl _) trivial) ?_
        refine JA.one (i := 2) (by kernel_rfl) ?_
        refine JO.step rfl trivial rfl (fun K hK => ?_)
        refine JL.callC (vs := [_]) (args := [_]) (K := []) (rst := [_, _]) E44 rfl rfl rfl picks0 (dev_place_ok p_4 _ _ hr_10) rfl (fun u_11 Ku_11 Hu_11 hRu_11 hleu_11 hfu_11 => ?_)
        obtain ⟨rfl, rfl, rfl, -⟩ := hRu_11
        refine JL.nil ?_
        refine hK _ _ _ (stab_of (Hle.refl _) trivial) ?_
        refine JA.one (i := 4) (by kernel_rfl) ?_
        refine JO.step rfl trivial rfl (fun K hK => ?_)
        refine JL.callC (vs := [_, _, _]) (args := [_, _, _]) (K := [_]) (rst := [_]) E40 rfl rfl rfl (picks 1 rfl picks0) (dev_guarded_v2_ok p_1 x_9 p_1 _ ha_2 ha_3 ha_2 ha_3 _ hr_13) rfl (fun u_14 Ku_14 Hu_14 hRu_14 hleu_14 hfu_14 => ?_)
        obtain ⟨aoz_15, nz_15, capz_15, aoz_16, nz_16, capz_16, aoz_17, nz_17, capz_17, aor_18, nr_18, capr_18, Kr_18, rfl, rfl, hz_15, hz_16, hz_17, hr_18, hnewr_18, -⟩ := hRu_14
        replace hr_18 := (RowOf.base (RowOf.mono R_Write.mono (New.call (Hle.refl _)) hr_18) (fun p hp => (hfu_14 p (mem_seg 1 rfl hp)).resolve_left (hnewr_18 p hp)))
        replace hz_17 := IsSlice.mono (RSl.mono RU8.mono) (New.call (Hle.refl _)) hz_17
        refine JL.nil ?_
        refine hK _ _ _ (stab_of hleu_14 trivial) ?_
        refine JA.val ⟨by kernel_rfl, by kernel_rfl⟩ (calm_only _) (i := 5) rfl ⟨by kernel_rfl, by kernel_rfl, rfl⟩ trivial (stab_of hleu_14 trivial) (R.move rfl) rfl ?_
        refine JA.val ⟨by kernel_rfl, by kernel_rfl⟩ (calm_only _) (i := 6) rfl ⟨by kernel_rfl, by kernel_rfl, rfl⟩ trivial (stab_of hleu_14 trivial) (R.extract rfl rfl) rfl ?_
        refine JA.val ⟨by kernel_rfl, by kernel_rfl⟩ (calm_only _) (i := 7) rfl ⟨by kernel_rfl, by kernel_rfl, rfl⟩ trivial (stab_of hleu_14 trivial) (R.extract rfl rfl) rfl ?_
        refine JA.one (i := 9) (by kernel_rfl) ?_
        refine JO.step rfl trivial rfl (fun K hK => ?_)
        refine JL.store 2 S25 rfl rfl rfl rfl rfl (Nat.le_of_ble_eq_true rfl) ?_
        refine JL.nil ?_
        refine hK _ _ _ (stab_of hleu_14 trivial) ?_
        refine JA.val ⟨by kernel_rfl, by kernel_rfl⟩ (calm_only _) (i := 10) rfl ⟨by kernel_rfl, by kernel_rfl, rfl⟩ trivial (stab_of hleu_14 trivial) (R.assign rfl) rfl ?_
        refine JA.doneN (by kernel_rfl) ?_
        obtain rfl := Option.some.inj hx
        refine JN.forget 0 ?_
        refine JN.front 1 rfl ?_
        exact JN.cut ⟨Hu_14, b_19, aoz_17, nz_17, capz_17, aor_18, nr_18, capr_18, Kr_18, rfl, rfl, rfl, (hleu_14), hb_19, hz_17, hr_18⟩ ⟨rfl, rfl, rfl, trivial⟩ rfl rfl
      · refine JO.step rfl trivial rfl (fun K hK => ?_)
        refine JL.callC (vs := [_]) (args := [_]) (K := []) (rst := [_, _]) E44 rfl rfl rfl picks0 (dev_place_ok p_4 _ _ hr_10) rfl (fun u_11 Ku_11 Hu_11 hRu_11 hleu_11 hfu_11 => ?_)
        obtain ⟨rfl, rfl, rfl, -⟩ := hRu_11
        refine JL.nil ?_
        refine hK _ _ _ (stab_of (Hle.refl _) trivial) ?_
        refine JA.one (i := 0) (by kernel_rfl) ?_
        refine JO.step rfl trivial rfl (fun K hK => ?_)
        refine JL.val rfl rfl (R.ldoN 1 (vs := [.slice aoa_2 na_2 capa_2, .slice aoa_3 na_3 capa_3]) S25 rfl rfl rfl rfl) ?_
        refine JL.nil ?_
        refine hK _ _ _ (stab_of (Hle.refl _) trivial) ?_
        refine JA.one (i := 4) (by kernel_rfl) ?_
        refine JO.step rfl trivial rfl (fun K hK => ?_)
        refine JL.callC (vs := [_, _, _]) (args := [_, _, _]) (K := [_]) (rst := [_]) E40 rfl rfl rfl (picks 1 rfl picks0) (dev_guarded_v2_ok p_1 x_9 p_1 _ ha_2 ha_3 ha_2 ha_3 _ hr_13) rfl (fun u_14 Ku_14 Hu_14 hRu_14 hleu_14 hfu_14 => ?_)
        obtain ⟨aoz_15, nz_15, capz_15, aoz_16, nz_16, capz_16, aoz_17, nz_17, capz_17, aor_18, nr_18, capr_18, Kr_18, rfl, rfl, hz_15, hz_16, hz_17, hr_18, hnewr_18, -⟩ := hRu_14
        replace hr_18 := (RowOf.base (RowOf.mono R_Write.mono (New.call (Hle.refl _)) hr_18) (fun p hp => (hfu_14 p (mem_seg 1 rfl hp)).resolve_left (hnewr_18 p hp)))
        replace hz_17 := IsSlice.mono (RSl.mono RU8.mono) (New.call (Hle.refl _)) hz_17
        refine JL.nil ?_
        refine hK _ _ _ (stab_of hleu_14 trivial) ?_
        refine JA.val ⟨by kernel_rfl, by kernel_rfl⟩ (calm_only _) (i := 5) rfl ⟨by kernel_rfl, by kernel_rfl, rfl⟩ trivial (stab_of hleu_14 trivial) (R.move rfl) rfl ?_
        refine JA.val ⟨by kernel_rfl, by kernel_rfl⟩ (calm_only _) (i := 6) rfl ⟨by kernel_rfl, by kernel_rfl, rfl⟩ trivial (stab_of hleu_14 trivial) (R.extract rfl rfl) rfl ?_
        refine JA.val ⟨by kernel_rfl, by kernel_rfl⟩ (calm_only _) (i := 7) rfl ⟨by kernel_rfl, by kernel_rfl, rfl⟩ trivial (stab_of hleu_14 trivial) (R.extract rfl rfl) rfl ?_
        refine JA.one (i := 9) (by kernel_rfl) ?_
        refine JO.step rfl trivial rfl (fun K hK => ?_)
        refine JL.store 2 S25 rfl rfl rfl rfl rfl (Nat.le_of_ble_eq_true rfl) ?_
        refine JL.nil ?_
        refine hK _ _ _ (stab_of hleu_14 trivial) ?_
        refine JA.val ⟨by kernel_rfl, by kernel_rfl⟩ (calm_only _) (i := 10) rfl ⟨by kernel_rfl, by kernel_rfl, rfl⟩ trivial (stab_of hleu_14 trivial) (R.assign rfl) rfl ?_
        refine JA.doneN (by kernel_rfl) ?_
        obtain rfl := Option.some.inj hx
        refine JN.forget 0 ?_
        refine JN.front 1 rfl ?_
        exact JN.cut ⟨Hu_14, b_19, aoz_17, nz_17, capz_17, aor_18, nr_18, capr_18, Kr_18, rfl, rfl, rfl, (hleu_14), hb_19, hz_17, hr_18⟩ ⟨rfl, rfl, rfl, trivial⟩ rfl rfl

set_option maxHeartbeats 8000000 in
theorem store_Look_ok (p_1 : Store) (p_5 : Ptr) (H : Heaplet) {aoa_2 : Option Addr} {na_2 : Nat} {capa_2 : Nat} {aoa_3 : Option Addr} {na_3 : Nat} {capa_3 : Nat} {aoa_4 : Option Addr} {na_4 : Nat} {capa_4 : Nat} (ha_2 : IsSlice H (RSl RU8 1) 1 (.slice aoa_2 na_2 capa_2) p_1.Disk.Blocks) (ha_3 : IsSlice H R_Write 2 (.slice aoa_3 na_3 capa_3) p_1.Disk.Waits) (ha_4 : IsSlice H RU8 1 (.slice aoa_4 na_4 capa_4) p_1.Space) (r : List UInt8 × Int) (hx : store_Look p_1 p_5 = some r) :
    Does Try.prog 20 #[.agg #[.slice aoa_2 na_2 capa_2, .slice aoa_3 na_3 capa_3, .slice aoa_4 na_4 capa_4, .int .u32 (p_1.Epoch.toNat : Int), .int .u32 (p_1.Count.toNat : Int)], .agg #[.int .i64 p_5.At, .int .u32 (p_5.Birth.toNat : Int), .int .u32 (p_5.Iv.toNat : Int), .int .u32 (p_5.Tag.toNat : Int), .int .u32 (p_5.Sum.toNat : Int)]] [] H (fun u K' H' => ∃ ao0 : Option Addr, ∃ n0 : Nat, ∃ cap0 : Nat, u = .tuple #[.slice ao0 n0 cap0, .int .i64 r.2] ∧ K' = [] ∧ IsSlice (New H H') RU8 1 (.slice ao0 n0 cap0) r.1 ∧ True) := by
  refine Does.enterL (vs := [.agg #[.slice aoa_2 na_2 capa_2, .slice aoa_3 na_3 capa_3, .slice aoa_4 na_4 capa_4, .int .u32 (p_1.Epoch.toNat : Int), .int .u32 (p_1.Count.toNat : Int)], .agg #[.int .i64 p_5.At, .int .u32 (p_5.Birth.toNat : Int), .int .u32 (p_5.Iv.toNat : Int), .int .u32 (p_5.Tag.toNat : Int), .int .u32 (p_5.Sum.toNat : Int)]]) (l := [(0, .agg #[.slice aoa_2 na_2 capa_2, .slice aoa_3 na_3 capa_3, .slice aoa_4 na_4 capa_4, .int .u32 (p_1.Epoch.toNat : Int), .int .u32 (p_1.Count.toNat : Int)]), (1, .agg #[.int .i64 p_5.At, .int .u32 (p_5.Birth.toNat : Int), .int .u32 (p_5.Iv.toNat : Int), .int .u32 (p_5.Tag.toNat : Int), .int .u32 (p_5.Sum.toNat : Int)])]) Try.func20 rfl rfl ⟨rfl, rfl, trivial⟩ (fun w hlt => ?_)
  unfold store_Look at hx
  refine JC.seq ?_
  refine JC.region ?_
  refine JL.box rfl rfl (fun b_6 hb_6 => ?_)
  refine JL.box rfl rfl (fun b_7 hb_7 => ?_)
  refine JL.val rfl rfl (R.assign rfl) ?_
  refine JL.val rfl rfl (R.assign rfl) ?_
  refine JL.nil ?_
  refine JN.next ?_
  refine JC.seq ?_
  refine JC.seq ?_
  refine JC.region ?_
  refine JL.val rfl rfl (R.ldoN 1 (vs := [.slice aoa_2 na_2 capa_2, .slice aoa_3 na_3 capa_3, .slice aoa_4 na_4 capa_4, .int .u32 (p_1.Epoch.toNat : Int), .int .u32 (p_1.Count.toNat : Int)]) S29 rfl rfl rfl rfl) ?_
  obtain ⟨x_8, hr_9, hx⟩ := bnd_some hx
  refine JL.callC (vs := [_]) (args := [_]) (K := []) (rst := [_, _]) E24 rfl rfl rfl picks0 (store_Check_ok p_1 _ ha_2 ha_3 ha_4 _ hr_9) rfl (fun u_10 Ku_10 Hu_10 hRu_10 hleu_10 hfu_10 => ?_)
  obtain ⟨rfl, rfl, rfl, -⟩ := hRu_10
  refine JL.val rfl rfl (R.neq_i rfl rfl) ?_
  refine JL.val rfl rfl (R.move rfl) ?_
  refine JL.gSplit (t := 11) rfl (fun c_11 => ?_) (fun c_11 => ?_)
  · replace hx := cond_t c_11 hx
    refine JL.gNo rfl rfl rfl rfl rfl ?_
    refine JL.gNo rfl rfl rfl rfl rfl ?_
    refine JL.gNo rfl rfl rfl rfl rfl ?_
    refine JL.val rfl rfl (R.pickT rfl rfl) ?_
    refine JL.nil ?_
    refine JN.next ?_
    refine JC.condT rfl ?_
    refine JC.seq ?_
    refine JC.region ?_
    refine JL.val rfl rfl (R.assign rfl) ?_
    refine JL.val rfl rfl (R.assign rfl) ?_
    refine JL.nil ?_
    refine JN.next ?_
    refine JC.ret ?_
    refine JN.passR ?_
    refine JN.outP (vs := [.slice none 0 0, .int .i64 8]) (K := []) (rst := [_, _]) (.inl rfl) rfl rfl (Res.tmp rfl (Res.tmp rfl rfl)) picks0 ?_
    obtain rfl := Option.some.inj hx
    exact ⟨none, 0, 0, rfl, rfl, (IsSlice.nil _ _ _), trivial⟩
  · replace hx := cond_f c_11 hx
    refine JL.gYes rfl rfl rfl ?_
    refine JL.val rfl rfl (R.ldoN 0 (vs := [.int .i64 p_5.At, .int .u32 (p_5.Birth.toNat : Int), .int .u32 (p_5.Iv.toNat : Int), .int .u32 (p_5.Tag.toNat : Int), .int .u32 (p_5.Sum.toNat : Int)]) S33 rfl rfl rfl rfl) ?_
    refine JL.gYes rfl rfl rfl ?_
    obtain ⟨x_12, hr_13, hx⟩ := bnd_some hx
    refine JL.callC (vs := [_]) (args := [_]) (K := []) (rst := [_, _]) E38 rfl rfl rfl picks0 (ptr_Check_ok p_5 _ _ hr_13) rfl (fun u_14 Ku_14 Hu_14 hRu_14 hleu_14 hfu_14 => ?_)
    obtain ⟨rfl, rfl, rfl, -⟩ := hRu_14
    refine JL.gYes rfl rfl rfl ?_
    refine JL.val rfl rfl (R.neq_i rfl rfl) ?_
    refine JL.val rfl rfl (R.pickF rfl rfl) ?_
    refine JL.nil ?_
    refine JN.next ?_
    refine JC.condB rfl (fun c_15 => ?_) (fun c_15 => ?_)
    · replace hx := cond_t c_15 hx
      refine JC.seq ?_
      refine JC.region ?_
      refine JL.val rfl rfl (R.assign rfl) ?_
      refine JL.val rfl rfl (R.assign rfl) ?_
      refine JL.nil ?_
      refine JN.next ?_
      refine JC.ret ?_
      refine JN.passR ?_
      refine JN.outP (vs := [.slice none 0 0, .int .i64 8]) (K := []) (rst := [_, _]) (.inl rfl) rfl rfl (Res.tmp rfl (Res.tmp rfl rfl)) picks0 ?_
      obtain rfl := Option.some.inj hx
      exact ⟨none, 0, 0, rfl, rfl, (IsSlice.nil _ _ _), trivial⟩
    · replace hx := cond_f c_15 hx
      refine JC.skip ?_
      refine JN.next ?_
      refine JC.seq ?_
      refine JC.seq ?_
      refine JC.region ?_
      refine JL.val rfl rfl (R.ldoN 0 (vs := [.int .i64 p_5.At, .int .u32 (p_5.Birth.toNat : Int), .int .u32 (p_5.Iv.toNat : Int), .int .u32 (p_5.Tag.toNat : Int), .int .u32 (p_5.Sum.toNat : Int)]) S33 rfl rfl rfl rfl) ?_
      refine JL.val rfl rfl (R.bldP (vs := []) (cs := [.int .i64 0, .int .u32 ((0 : UInt32).toNat : Int), .int .u32 ((0 : UInt32).toNat : Int), .int .u32 ((0 : UInt32).toNat : Int), .int .u32 ((0 : UInt32).toNat : Int)]) Z33 B33 rfl rfl rfl) ?_
      refine JL.val rfl rfl (R.eqlAgg QU33 QP33 QG33 QF33 rfl rfl (EqF.i (by decide) S3 U3 rfl rfl (EqF.u32 (a := p_5.Birth) (b := (0 : UInt32)) (by decide) S27 U27 rfl rfl (EqF.u32 (a := p_5.Iv) (b := (0 : UInt32)) (by decide) S27 U27 rfl rfl (EqF.u32 (a := p_5.Tag) (b := (0 : UInt32)) (by decide) S27 U27 rfl rfl (EqF.u32 (a := p_5.Sum) (b := (0 : UInt32)) (by decide) S27 U27 rfl rfl EqF.nil)))))) ?_
      refine JL.nil ?_
      refine JN.next ?_
      refine JC.condB rfl (fun c_16 => ?_) (fun c_16 => ?_)
      · replace hx := cond_t c_16 hx
        refine JC.seq ?_
        refine JC.region ?_
        refine JL.val rfl rfl (R.assign rfl) ?_
        refine JL.val rfl rfl (R.assign rfl) ?_
        refine JL.nil ?_
        refine JN.next ?_
        refine JC.ret ?_
        refine JN.passR ?_
        refine JN.outP (vs := [.slice none 0 0, .int .i64 6]) (K := []) (rst := [_, _]) (.inl rfl) rfl rfl (Res.tmp rfl (Res.tmp rfl rfl)) picks0 ?_
        obtain rfl := Option.some.inj hx
        exact ⟨none, 0, 0, rfl, rfl, (IsSlice.nil _ _ _), trivial⟩
      · replace hx := cond_f c_16 hx
        refine JC.skip ?_
        refine JN.next ?_
        refine JC.seq ?_
        refine JC.region ?_
        refine JL.val rfl rfl (R.fa F29_0 rfl) ?_
        refine JL.val rfl rfl (R.ldoN 1 (vs := [.slice aoa_2 na_2 capa_2, .slice aoa_3 na_3 capa_3]) S25 rfl rfl rfl rfl) ?_
        refine JL.val rfl rfl (R.fa F33_0 rfl) ?_
        refine JL.val rfl rfl (R.ldo 0 S3 rfl rfl rfl) ?_
        obtain ⟨x_17, hr_18, hx⟩ := bnd_some hx
        refine JL.callC (vs := [_, _]) (args := [_, _]) (K := []) (rst := [_, _]) E39 rfl rfl rfl picks0 (dev_Read_ok (Disk.mk p_1.Disk.Blocks p_1.Disk.Waits) p_5.At _ ha_2 ha_3 _ hr_18) rfl (fun u_19 Ku_19 Hu_19 hRu_19 hleu_19 hfu_19 => ?_)
        obtain ⟨aoz_20, nz_20, capz_20, rfl, rfl, hz_20, -⟩ := hRu_19
        replace hz_20 := IsSlice.mono RU8.mono (New.call (Hle.refl _)) hz_20
        refine JL.val rfl rfl (R.move rfl) ?_
        refine JL.val rfl rfl (R.extract rfl rfl) ?_
        refine JL.val rfl rfl (R.extract rfl rfl) ?_
        refine JL.val rfl rfl (R.assign rfl) ?_
        refine JL.val rfl rfl (R.assign rfl) ?_
        refine JL.nil ?_
        refine JN.next ?_
        refine JC.seq ?_
        obtain ⟨t_21, ht_23, hx⟩ := bnd_some hx
        refine JC.cut (fun l o g => ∃ H_29 : Heaplet, ∃ aoz_30 : Option Addr, ∃ nz_30 : Nat, ∃ capz_30 : Nat, l = [(6, .slice aoz_30 nz_30 capz_30), (7, .int .i64 t_21.2)] ∧ o = [] ∧ H_29 = g ∧ Hle Hu_19 H_29 ∧ IsSlice (New H H_29) RU8 1 (.slice aoz_30 nz_30 capz_30) t_21.1) ?_ ?_
        · rintro _ _ _ ⟨H_29, aoz_30, nz_30, capz_30, rfl, rfl, rfl, hleH_29, hz_30⟩
          refine JN.next ?_
          refine JC.seq ?_
          refine JC.region ?_
          refine JL.val rfl rfl (R.move rfl) ?_
          refine JL.val rfl rfl (R.move rfl) ?_
          refine JL.val rfl rfl (R.assign rfl) ?_
          refine JL.val rfl rfl (R.assign rfl) ?_
          refine JL.nil ?_
          refine JN.next ?_
          refine JC.ret ?_
          refine JN.outP (vs := [.slice aoz_30 nz_30 capz_30, .int .i64 t_21.2]) (K := []) (rst := []) (.inl rfl) rfl rfl (Res.tmp rfl (Res.tmp rfl rfl)) picks0 ?_
          obtain rfl := Option.some.inj hx
          exact ⟨aoz_30, nz_30, capz_30, rfl, rfl, hz_30, trivial⟩
        · have hxo_22 := hx; clear hx; have hx := ht_23; clear ht_23
          refine JC.seq ?_
          refine JC.draw (so := [_, _]) 9 rfl Mixed ⟨⟨0, rfl⟩, ⟨1, rfl⟩, trivial⟩ ?_
          refine JA.val ⟨by kernel_rfl, by kernel_rfl⟩ (calm_only _) (i := 0) rfl ⟨by kernel_rfl, by kernel_rfl, rfl⟩ trivial (stab_of (Hle.refl _) ⟨⟨0, rfl⟩, ⟨1, rfl⟩, trivial⟩) (R.move rfl) rfl ?_
          refine JA.val ⟨by kernel_rfl, by kernel_rfl⟩ (calm_only _) (i := 1) rfl ⟨by kernel_rfl, by kernel_rfl, rfl⟩ trivial (stab_of (Hle.refl _) ⟨⟨0, rfl⟩, ⟨1, rfl⟩, trivial⟩) (R.eql_i rfl rfl) rfl ?_
          refine JA.val ⟨by kernel_rfl, by kernel_rfl⟩ (calm_only _) (i := 2) rfl ⟨by kernel_rfl, by kernel_rfl, rfl⟩ trivial (stab_of (Hle.refl _) ⟨⟨0, rfl⟩, ⟨1, rfl⟩, trivial⟩) (R.move rfl) rfl ?_
          refine JA.gSplit (t := 29) rfl (fun c_24 => ?_) (fun c_24 => ?_)
          · replace hx := cond_t c_24 hx
            refine JA.val ⟨by kernel_rfl, by kernel_rfl⟩ (calm_only _) (i := 3) rfl ⟨by kernel_rfl, by kernel_rfl, rfl⟩ ⟨_, _, rfl, rfl, rfl⟩ (stab_of (Hle.refl _) ⟨⟨0, rfl⟩, ⟨1, rfl⟩, trivial⟩) (R.move rfl) rfl ?_
            refine JA.val ⟨by kernel_rfl, by kernel_rfl⟩ (calm_only _) (i := 5) rfl ⟨by kernel_rfl, by kernel_rfl, rfl⟩ ⟨_, _, rfl, rfl, rfl⟩ (stab_of (Hle.refl _) ⟨⟨0, rfl⟩, ⟨1, rfl⟩, trivial⟩) (R.fa F33_4 rfl) rfl ?_
            refine JA.val ⟨by kernel_rfl, by kernel_rfl⟩ (calm_only _) (i := 6) rfl ⟨by kernel_rfl, by kernel_rfl, rfl⟩ ⟨_, _, rfl, rfl, rfl⟩ (stab_of (Hle.refl _) ⟨⟨0, rfl⟩, ⟨1, rfl⟩, trivial⟩) (R.ldo 0 S27 rfl rfl rfl) rfl ?_
            refine JA.one (i := 4) (by kernel_rfl) ?_
            refine JO.step rfl ⟨_, _, rfl, rfl, rfl⟩ rfl (fun K hK => ?_)
            obtain ⟨x_25, hr_26, hx⟩ := bnd_some hx
            refine JL.callC (vs := [_]) (args := [_]) (K := []) (rst := [_, _]) E23 rfl rfl rfl picks0 (mix_Sum_ok x_17.1 _ (hz_20.old RU8.mono) _ hr_26) rfl (fun u_27 Ku_27 Hu_27 hRu_27 hleu_27 hfu_27 => ?_)
            obtain ⟨rfl, rfl, -⟩ := hRu_27
            refine JL.nil ?_
            refine hK _ _ _ (stab_of hleu_27 ⟨⟨0, rfl⟩, ⟨1, rfl⟩, trivial⟩) ?_
            refine JA.val ⟨by kernel_rfl, by kernel_rfl⟩ (calm_only _) (i := 7) rfl ⟨by kernel_rfl, by kernel_rfl, rfl⟩ ⟨_, _, rfl, rfl, rfl⟩ (stab_of hleu_27 ⟨⟨0, rfl⟩, ⟨1, rfl⟩, trivial⟩) (R.neq32 (a := x_25) (b := p_5.Sum) rfl rfl) rfl ?_
            refine JA.val ⟨by kernel_rfl, by kernel_rfl⟩ (calm_only _) (i := 8) rfl ⟨by kernel_rfl, by kernel_rfl, rfl⟩ trivial (stab_of hleu_27 ⟨⟨0, rfl⟩, ⟨1, rfl⟩, trivial⟩) (R.pickT rfl rfl) rfl ?_
            refine JA.doneN (by kernel_rfl) ?_
            refine JN.next ?_
            refine JC.condB rfl (fun c_28 => ?_) (fun c_28 => ?_)
            · replace hx := cond_t c_28 hx
              refine JC.region ?_
              refine JL.val rfl rfl (R.assign rfl) ?_
              refine JL.val rfl rfl (R.assign rfl) ?_
              refine JL.nil ?_
              obtain rfl := Option.some.inj hx
              refine JN.forget 1 ?_
              refine JN.forget 0 ?_
              exact JN.cut ⟨Hu_27, none, 0, 0, rfl, rfl, rfl, (hleu_27), (IsSlice.nil _ _ _)⟩ ⟨rfl, rfl, trivial⟩ rfl rfl
            · replace hx := cond_f c_28 hx
              refine JC.skip ?_
              obtain rfl := Option.some.inj hx
              refine JN.forget 1 ?_
              refine JN.forget 0 ?_
              exact JN.cut ⟨Hu_27, aoz_20, nz_20, capz_20, rfl, rfl, rfl, (hleu_27), (hz_20.mono RU8.mono (New.mono hleu_27))⟩ ⟨rfl, rfl, trivial⟩ rfl rfl
          · replace hx := cond_f c_24 hx
            refine JA.no ⟨by kernel_rfl, by kernel_rfl⟩ (calm_only _) (i := 3) rfl ⟨by kernel_rfl, by kernel_rfl, rfl⟩ rfl rfl rfl rfl (stab_of (Hle.refl _) ⟨⟨0, rfl⟩, ⟨1, rfl⟩, trivial⟩) rfl ?_
            refine JA.no ⟨by kernel_rfl, by kernel_rfl⟩ (calm_only _) (i := 4) rfl ⟨by kernel_rfl, by kernel_rfl, rfl⟩ rfl rfl rfl rfl (stab_of (Hle.refl _) ⟨⟨0, rfl⟩, ⟨1, rfl⟩, trivial⟩) rfl ?_
            refine JA.no ⟨by kernel_rfl, by kernel_rfl⟩ (calm_only _) (i := 5) rfl ⟨by kernel_rfl, by kernel_rfl, rfl⟩ rfl rfl rfl rfl (stab_of (Hle.refl _) ⟨⟨0, rfl⟩, ⟨1, rfl⟩, trivial⟩) rfl ?_
            refine JA.no ⟨by kernel_rfl, by kernel_rfl⟩ (calm_only _) (i := 6) rfl ⟨by kernel_rfl, by kernel_rfl, rfl⟩ rfl rfl rfl rfl (stab_of (Hle.refl _) ⟨⟨0, rfl⟩, ⟨1, rfl⟩, trivial⟩) rfl ?_
            refine JA.no ⟨by kernel_rfl, by kernel_rfl⟩ (calm_only _) (i := 7) rfl ⟨by kernel_rfl, by kernel_rfl, rfl⟩ rfl rfl rfl rfl (stab_of (Hle.refl _) ⟨⟨0, rfl⟩, ⟨1, rfl⟩, trivial⟩) rfl ?_
            refine JA.val ⟨by kernel_rfl, by kernel_rfl⟩ (calm_only _) (i := 8) rfl ⟨by kernel_rfl, by kernel_rfl, rfl⟩ trivial (stab_of (Hle.refl _) ⟨⟨0, rfl⟩, ⟨1, rfl⟩, trivial⟩) (R.pickF rfl rfl) rfl ?_
            refine JA.doneN (by kernel_rfl) ?_
            refine JN.next ?_
            refine JC.condF rfl ?_
            refine JC.skip ?_
            obtain rfl := Option.some.inj hx
            refine JN.forget 1 ?_
            refine JN.forget 0 ?_
            exact JN.cut ⟨Hu_19, aoz_20, nz_20, capz_20, rfl, rfl, rfl, (Hle.refl _), hz_20⟩ ⟨rfl, rfl, trivial⟩ rfl rfl

set_option maxHeartbeats 8000000 in
theorem seal_Open_ok (p_1 : List UInt8) (p_3 : UInt32) (p_4 : List UInt8) (p_6 : UInt32) (H : Heaplet) {aoa_2 : Option Addr} {na_2 : Nat} {capa_2 : Nat} {aoa_5 : Option Addr} {na_5 : Nat} {capa_5 : Nat} (ha_2 : IsSlice H RU8 1 (.slice aoa_2 na_2 capa_2) p_1) (ha_5 : IsSlice H RU8 1 (.slice aoa_5 na_5 capa_5) p_4) (r : List UInt8 × Int) (hx : seal_Open p_1 p_3 p_4 p_6 = some r) :
    Does Try.prog 62 #[.slice aoa_2 na_2 capa_2, .int .u32 (p_3.toNat : Int), .slice aoa_5 na_5 capa_5, .int .u32 (p_6.toNat : Int)] [] H (fun u K' H' => ∃ ao0 : Option Addr, ∃ n0 : Nat, ∃ cap0 : Nat, ∃ K0 : Own, u = .tuple #[.slice ao0 n0 cap0, .int .i64 r.2] ∧ K' = [K0] ∧ RowOf (New H H') RU8 0 5 1 (.slice ao0 n0 cap0) r.1 K0 ∧ (∀ p ∈ K0, p.1 ∉ ids (List.flatten [])) ∧ True) := by
  refine Does.enterL (vs := [.slice aoa_2 na_2 capa_2, .int .u32 (p_3.toNat : Int), .slice aoa_5 na_5 capa_5, .int .u32 (p_6.toNat : Int)]) (l := [(0, .slice aoa_2 na_2 capa_2), (1, .int .u32 (p_3.toNat : Int)), (2, .slice aoa_5 na_5 capa_5), (3, .int .u32 (p_6.toNat : Int))]) Try.func62 rfl rfl ⟨rfl, rfl, rfl, rfl, trivial⟩ (fun w hlt => ?_)
  unfold seal_Open at hx
  refine JC.seq ?_
  refine JC.region ?_
  refine JL.val rfl rfl (R.assign rfl) ?_
  refine JL.val rfl rfl (R.assign rfl) ?_
  refine JL.nil ?_
  refine JN.next ?_
  refine JC.seq ?_
  refine JC.region ?_
  refine JL.val rfl rfl (R.move rfl) ?_
  refine JL.val rfl rfl (R.move rfl) ?_
  refine JL.val rfl rfl (R.move rfl) ?_
  obtain ⟨x_7, hr_8, hx⟩ := bnd_some hx
  refine JL.callC (vs := [_, _, _]) (args := [_, _, _]) (K := []) (rst := []) E51 rfl rfl rfl picks0 (seal_turned_ok p_1 p_3 p_4 _ ha_2 ha_5 _ hr_8) rfl (fun u_9 Ku_9 Hu_9 hRu_9 hleu_9 hfu_9 => ?_)
  obtain ⟨aor_10, nr_10, capr_10, Kr_10, rfl, rfl, hr_10, hnewr_10, -⟩ := hRu_9
  replace hr_10 := (RowOf.base (RowOf.const (H2 := New H Hu_9) RU8.const hr_10) (fun p hp => (hfu_9 p (mem_seg 0 rfl hp)).resolve_left (hnewr_10 p hp)))
  refine JL.val rfl rfl (R.move rfl) ?_
  refine JL.val rfl rfl (R.extract rfl rfl) ?_
  refine JL.val rfl rfl (R.extract rfl rfl) ?_
  refine JL.val rfl rfl (R.assign rfl) ?_
  refine JL.val rfl rfl (R.assign rfl) ?_
  refine JL.nil ?_
  refine JN.next ?_
  refine JC.seq ?_
  refine JC.seq ?_
  refine JC.region ?_
  refine JL.val rfl rfl (R.move rfl) ?_
  refine JL.val rfl rfl (R.neq_i rfl rfl) ?_
  refine JL.nil ?_
  refine JN.next ?_
  refine JC.condB rfl (fun c_11 => ?_) (fun c_11 => ?_)
  · replace hx := cond_t c_11 hx
    refine JC.seq ?_
    refine JC.region ?_
    refine JL.val rfl rfl (R.move rfl) ?_
    refine JL.val rfl rfl (R.assign rfl) ?_
    refine JL.val rfl rfl (R.assign rfl) ?_
    refine JL.nil ?_
    refine JN.next ?_
    refine JC.ret ?_
    refine JN.passR ?_
    refine JN.seg0 ?_
    refine JN.outP (vs := [.slice none 0 0, .int .i64 x_7.2]) (K := [_]) (rst := [_]) (.inl rfl) rfl rfl (Res.tmp rfl (Res.tmp rfl rfl)) (picks 0 rfl picks0) ?_
    obtain rfl := Option.some.inj hx
    exact ⟨none, 0, 0, [], rfl, rfl, (RowOf.nil _ _ _ _ _), (fun p hp => by cases hp), trivial⟩
  · replace hx := cond_f c_11 hx
    refine JC.skip ?_
    refine JN.next ?_
    refine JC.seq ?_
    refine JC.seq ?_
    refine JC.region ?_
    refine JL.val rfl rfl (R.move rfl) ?_
    refine JL.val rfl rfl (R.move rfl) ?_
    refine JL.val rfl rfl (R.move rfl) ?_
    obtain ⟨x_12, hr_13, hx⟩ := bnd_some hx
    refine JL.callC (vs := [_, _, _]) (args := [_, _, _]) (K := []) (rst := [_]) E52 rfl rfl rfl picks0 (seal_tagged_ok p_1 p_3 p_4 _ (ha_2.mono RU8.mono hleu_9) (ha_5.mono RU8.mono hleu_9) _ hr_13) rfl (fun u_14 Ku_14 Hu_14 hRu_14 hleu_14 hfu_14 => ?_)
    obtain ⟨rfl, rfl, -⟩ := hRu_14
    refine JL.val rfl rfl (R.move rfl) ?_
    refine JL.val rfl rfl (R.extract rfl rfl) ?_
    refine JL.val rfl rfl (R.extract rfl rfl) ?_
    refine JL.val rfl rfl (R.assign rfl) ?_
    refine JL.val rfl rfl (R.assign rfl) ?_
    refine JL.nil ?_
    refine JN.next ?_
    refine JC.seq ?_
    refine JC.region ?_
    refine JL.val rfl rfl (R.move rfl) ?_
    refine JL.val rfl rfl (R.neq_i rfl rfl) ?_
    refine JL.val rfl rfl (R.move rfl) ?_
    refine JL.gSplit (t := 33) rfl (fun c_15 => ?_) (fun c_15 => ?_)
    · replace hx := cond_t c_15 hx
      refine JL.gNo rfl rfl rfl rfl rfl ?_
      refine JL.gNo rfl rfl rfl rfl rfl ?_
      refine JL.gNo rfl rfl rfl rfl rfl ?_
      refine JL.val rfl rfl (R.pickT rfl rfl) ?_
      refine JL.nil ?_
      refine JN.next ?_
      refine JC.condT rfl ?_
      refine JC.seq ?_
      refine JC.region ?_
      refine JL.val rfl rfl (R.assign rfl) ?_
      refine JL.val rfl rfl (R.assign rfl) ?_
      refine JL.nil ?_
      refine JN.next ?_
      refine JC.ret ?_
      refine JN.passR ?_
      refine JN.seg0 ?_
      refine JN.outP (vs := [.slice none 0 0, .int .i64 131]) (K := [_]) (rst := [_]) (.inl rfl) rfl rfl (Res.tmp rfl (Res.tmp rfl rfl)) (picks 0 rfl picks0) ?_
      obtain rfl := Option.some.inj hx
      exact ⟨none, 0, 0, [], rfl, rfl, (RowOf.nil _ _ _ _ _), (fun p hp => by cases hp), trivial⟩
    · replace hx := cond_f c_15 hx
      refine JL.gYes rfl rfl rfl ?_
      refine JL.val rfl rfl (R.move rfl) ?_
      refine JL.gYes rfl rfl rfl ?_
      refine JL.val rfl rfl (R.move rfl) ?_
      refine JL.gYes rfl rfl rfl ?_
      refine JL.val rfl rfl (R.neq32 (a := x_12.1) (b := p_6) rfl rfl) ?_
      refine JL.val rfl rfl (R.pickF rfl rfl) ?_
      refine JL.nil ?_
      refine JN.next ?_
      refine JC.condB rfl (fun c_16 => ?_) (fun c_16 => ?_)
      · replace hx := cond_t c_16 hx
        refine JC.seq ?_
        refine JC.region ?_
        refine JL.val rfl rfl (R.assign rfl) ?_
        refine JL.val rfl rfl (R.assign rfl) ?_
        refine JL.nil ?_
        refine JN.next ?_
        refine JC.ret ?_
        refine JN.passR ?_
        refine JN.seg0 ?_
        refine JN.outP (vs := [.slice none 0 0, .int .i64 131]) (K := [_]) (rst := [_]) (.inl rfl) rfl rfl (Res.tmp rfl (Res.tmp rfl rfl)) (picks 0 rfl picks0) ?_
        obtain rfl := Option.some.inj hx
        exact ⟨none, 0, 0, [], rfl, rfl, (RowOf.nil _ _ _ _ _), (fun p hp => by cases hp), trivial⟩
      · replace hx := cond_f c_16 hx
        refine JC.skip ?_
        refine JN.next ?_
        refine JC.seq ?_
        refine JC.region ?_
        refine JL.val rfl rfl (R.move rfl) ?_
        refine JL.val rfl rfl (R.assign rfl) ?_
        refine JL.val rfl rfl (R.assign rfl) ?_
        refine JL.nil ?_
        refine JN.next ?_
        refine JC.ret ?_
        refine JN.outP (vs := [.slice aor_10 nr_10 capr_10, .int .i64 0]) (K := [_]) (rst := []) (.inl rfl) rfl rfl (Res.tmp rfl (Res.tmp rfl rfl)) (picks 0 rfl picks0) ?_
        obtain rfl := Option.some.inj hx
        exact ⟨aor_10, nr_10, capr_10, Kr_10, rfl, rfl, (RowOf.weak (Nat.zero_le _) (hr_10.mono RU8.mono (New.mono hleu_14))), (new_ids (hr_10.mono RU8.mono (New.mono hleu_14)) hlt), trivial⟩

set_option maxHeartbeats 8000000 in
theorem store_Open_ok (p_1 : Store) (p_5 : Ptr) (p_6 : List UInt8) (H : Heaplet) {aoa_2 : Option Addr} {na_2 : Nat} {capa_2 : Nat} {aoa_3 : Option Addr} {na_3 : Nat} {capa_3 : Nat} {aoa_4 : Option Addr} {na_4 : Nat} {capa_4 : Nat} {aoa_7 : Option Addr} {na_7 : Nat} {capa_7 : Nat} (ha_2 : IsSlice H (RSl RU8 1) 1 (.slice aoa_2 na_2 capa_2) p_1.Disk.Blocks) (ha_3 : IsSlice H R_Write 2 (.slice aoa_3 na_3 capa_3) p_1.Disk.Waits) (ha_4 : IsSlice H RU8 1 (.slice aoa_4 na_4 capa_4) p_1.Space) (ha_7 : IsSlice H RU8 1 (.slice aoa_7 na_7 capa_7) p_6) (r : List UInt8 × Int) (hx : store_Open p_1 p_5 p_6 = some r) :
    Does Try.prog 35 #[.agg #[.slice aoa_2 na_2 capa_2, .slice aoa_3 na_3 capa_3, .slice aoa_4 na_4 capa_4, .int .u32 (p_1.Epoch.toNat : Int), .int .u32 (p_1.Count.toNat : Int)], .agg #[.int .i64 p_5.At, .int .u32 (p_5.Birth.toNat : Int), .int .u32 (p_5.Iv.toNat : Int), .int .u32 (p_5.Tag.toNat : Int), .int .u32 (p_5.Sum.toNat : Int)], .slice aoa_7 na_7 capa_7] [] H (fun u K' H' => ∃ ao0 : Option Addr, ∃ n0 : Nat, ∃ cap0 : Nat, ∃ K0 : Own, u = .tuple #[.slice ao0 n0 cap0, .int .i64 r.2] ∧ K' = [K0] ∧ RowOf (New H H') RU8 0 5 1 (.slice ao0 n0 cap0) r.1 K0 ∧ (∀ p ∈ K0, p.1 ∉ ids (List.flatten [])) ∧ True) := by
  refine Does.enterL (vs := [.agg #[.slice aoa_2 na_2 capa_2, .slice aoa_3 na_3 capa_3, .slice aoa_4 na_4 capa_4, .int .u32 (p_1.Epoch.toNat : Int), .int .u32 (p_1.Count.toNat : Int)], .agg #[.int .i64 p_5.At, .int .u32 (p_5.Birth.toNat : Int), .int .u32 (p_5.Iv.toNat : Int), .int .u32 (p_5.Tag.toNat : Int), .int .u32 (p_5.Sum.toNat : Int)], .slice aoa_7 na_7 capa_7]) (l := [(0, .agg #[.slice aoa_2 na_2 capa_2, .slice aoa_3 na_3 capa_3, .slice aoa_4 na_4 capa_4, .int .u32 (p_1.Epoch.toNat : Int), .int .u32 (p_1.Count.toNat : Int)]), (1, .agg #[.int .i64 p_5.At, .int .u32 (p_5.Birth.toNat : Int), .int .u32 (p_5.Iv.toNat : Int), .int .u32 (p_5.Tag.toNat : Int), .int .u32 (p_5.Sum.toNat : Int)]), (2, .slice aoa_7 na_7 capa_7)]) Try.func35 rfl rfl ⟨rfl, rfl, rfl, trivial⟩ (fun w hlt => ?_)
  unfold store_Open at hx
  refine JC.seq ?_
  refine JC.region ?_
  refine JL.box rfl rfl (fun b_8 hb_8 => ?_)
  refine JL.box rfl rfl (fun b_9 hb_9 => ?_)
  refine JL.val rfl rfl (R.assign rfl) ?_
  refine JL.val rfl rfl (R.assign rfl) ?_
  refine JL.nil ?_
  refine JN.next ?_
  refine JC.seq ?_
  refine JC.region ?_
  refine JL.val rfl rfl (R.ldoN 1 (vs := [.slice aoa_2 na_2 capa_2, .slice aoa_3 na_3 capa_3, .slice aoa_4 na_4 capa_4, .int .u32 (p_1.Epoch.toNat : Int), .int .u32 (p_1.Count.toNat : Int)]) S29 rfl rfl rfl rfl) ?_
  refine JL.val rfl rfl (R.ldoN 0 (vs := [.int .i64 p_5.At, .int .u32 (p_5.Birth.toNat : Int), .int .u32 (p_5.Iv.toNat : Int), .int .u32 (p_5.Tag.toNat : Int), .int .u32 (p_5.Sum.toNat : Int)]) S33 rfl rfl rfl rfl) ?_
  obtain ⟨x_10, hr_11, hx⟩ := bnd_some hx
  refine JL.callC (vs := [_, _]) (args := [_, _]) (K := []) (rst := [_, _]) E20 rfl rfl rfl picks0 (store_Look_ok p_1 p_5 _ ha_2 ha_3 ha_4 _ hr_11) rfl (fun u_12 Ku_12 Hu_12 hRu_12 hleu_12 hfu_12 => ?_)
  obtain ⟨aoz_13, nz_13, capz_13, rfl, rfl, hz_13, -⟩ := hRu_12
  replace hz_13 := IsSlice.mono RU8.mono (New.call (Hle.refl _)) hz_13
  refine JL.val rfl rfl (R.move rfl) ?_
  refine JL.val rfl rfl (R.extract rfl rfl) ?_
  refine JL.val rfl rfl (R.extract rfl rfl) ?_
  refine JL.val rfl rfl (R.assign rfl) ?_
  refine JL.val rfl rfl (R.assign rfl) ?_
  refine JL.nil ?_
  refine JN.next ?_
  refine JC.seq ?_
  refine JC.seq ?_
  refine JC.region ?_
  refine JL.val rfl rfl (R.move rfl) ?_
  refine JL.val rfl rfl (R.neq_i rfl rfl) ?_
  refine JL.nil ?_
  refine JN.next ?_
  refine JC.condB rfl (fun c_14 => ?_) (fun c_14 => ?_)
  · replace hx := cond_t c_14 hx
    refine JC.seq ?_
    refine JC.region ?_
    refine JL.val rfl rfl (R.move rfl) ?_
    refine JL.val rfl rfl (R.assign rfl) ?_
    refine JL.val rfl rfl (R.assign rfl) ?_
    refine JL.nil ?_
    refine JN.next ?_
    refine JC.ret ?_
    refine JN.passR ?_
    refine JN.seg0 ?_
    refine JN.outP (vs := [.slice none 0 0, .int .i64 x_10.2]) (K := [_]) (rst := [_, _]) (.inl rfl) rfl rfl (Res.tmp rfl (Res.tmp rfl rfl)) (picks 0 rfl picks0) ?_
    obtain rfl := Option.some.inj hx
    exact ⟨none, 0, 0, [], rfl, rfl, (RowOf.nil _ _ _ _ _), (fun p hp => by cases hp), trivial⟩
  · replace hx := cond_f c_14 hx
    refine JC.skip ?_
    refine JN.next ?_
    refine JC.seq ?_
    refine JC.seq ?_
    refine JC.region ?_
    refine JL.val rfl rfl (R.move rfl) ?_
    refine JL.val rfl rfl (R.lenL U26 rfl (IsSlice.long ha_7)) ?_
    refine JL.val rfl rfl (R.neq_i rfl rfl) ?_
    refine JL.nil ?_
    refine JN.next ?_
    refine JC.condB rfl (fun c_15 => ?_) (fun c_15 => ?_)
    · replace hx := cond_t c_15 hx
      refine JC.seq ?_
      refine JC.region ?_
      refine JL.val rfl rfl (R.assign rfl) ?_
      refine JL.val rfl rfl (R.assign rfl) ?_
      refine JL.nil ?_
      refine JN.next ?_
      refine JC.ret ?_
      refine JN.passR ?_
      refine JN.seg0 ?_
      refine JN.outP (vs := [.slice none 0 0, .int .i64 3]) (K := [_]) (rst := [_, _]) (.inl rfl) rfl rfl (Res.tmp rfl (Res.tmp rfl rfl)) (picks 0 rfl picks0) ?_
      obtain rfl := Option.some.inj hx
      exact ⟨none, 0, 0, [], rfl, rfl, (RowOf.nil _ _ _ _ _), (fun p hp => by cases hp), trivial⟩
    · replace hx := cond_f c_15 hx
      refine JC.skip ?_
      refine JN.next ?_
      refine JC.seq ?_
      refine JC.region ?_
      refine JL.val rfl rfl (R.move rfl) ?_
      refine JL.val rfl rfl (R.fa F33_2 rfl) ?_
      refine JL.val rfl rfl (R.ldo 0 S27 rfl rfl rfl) ?_
      refine JL.val rfl rfl (R.move rfl) ?_
      refine JL.val rfl rfl (R.fa F33_3 rfl) ?_
      refine JL.val rfl rfl (R.ldo 0 S27 rfl rfl rfl) ?_
      obtain ⟨x_16, hr_17, hx⟩ := bnd_some hx
      refine JL.callC (vs := [_, _, _, _]) (args := [_, _, _, _]) (K := []) (rst := [_, _]) E62 rfl rfl rfl picks0 (seal_Open_ok p_6 p_5.Iv x_10.1 p_5.Tag _ (ha_7.mono RU8.mono hleu_12) (hz_13.old RU8.mono) _ hr_17) rfl (fun u_18 Ku_18 Hu_18 hRu_18 hleu_18 hfu_18 => ?_)
      obtain ⟨aor_19, nr_19, capr_19, Kr_19, rfl, rfl, hr_19, hnewr_19, -⟩ := hRu_18
      replace hr_19 := (RowOf.base (RowOf.const (H2 := New H Hu_18) RU8.const hr_19) (fun p hp => (hfu_18 p (mem_seg 0 rfl hp)).resolve_left (hnewr_19 p hp)))
      refine JL.val rfl rfl (R.move rfl) ?_
      refine JL.val rfl rfl (R.extract rfl rfl) ?_
      refine JL.val rfl rfl (R.extract rfl rfl) ?_
      refine JL.val rfl rfl (R.assign rfl) ?_
      refine JL.val rfl rfl (R.assign rfl) ?_
      refine JL.nil ?_
      refine JN.next ?_
      refine JC.seq ?_
      refine JC.seq ?_
      refine JC.region ?_
      refine JL.val rfl rfl (R.move rfl) ?_
      refine JL.val rfl rfl (R.neq_i rfl rfl) ?_
      refine JL.nil ?_
      refine JN.next ?_
      refine JC.condB rfl (fun c_20 => ?_) (fun c_20 => ?_)
      · replace hx := cond_t c_20 hx
        refine JC.seq ?_
        refine JC.region ?_
        refine JL.val rfl rfl (R.assign rfl) ?_
        refine JL.val rfl rfl (R.assign rfl) ?_
        refine JL.nil ?_
        refine JN.next ?_
        refine JC.ret ?_
        refine JN.passR ?_
        refine JN.seg0 ?_
        refine JN.outP (vs := [.slice none 0 0, .int .i64 131]) (K := [_]) (rst := [_, _, _]) (.inl rfl) rfl rfl (Res.tmp rfl (Res.tmp rfl rfl)) (picks 0 rfl picks0) ?_
        obtain rfl := Option.some.inj hx
        exact ⟨none, 0, 0, [], rfl, rfl, (RowOf.nil _ _ _ _ _), (fun p hp => by cases hp), trivial⟩
      · replace hx := cond_f c_20 hx
        refine JC.skip ?_
        refine JN.next ?_
        refine JC.seq ?_
        refine JC.region ?_
        refine JL.val rfl rfl (R.move rfl) ?_
        refine JL.val rfl rfl (R.assign rfl) ?_
        refine JL.val rfl rfl (R.assign rfl) ?_
        refine JL.nil ?_
        refine JN.next ?_
        refine JC.ret ?_
        refine JN.outP (vs := [.slice aor_19 nr_19 capr_19, .int .i64 0]) (K := [_]) (rst := [_, _]) (.inl rfl) rfl rfl (Res.tmp rfl (Res.tmp rfl rfl)) (picks 0 rfl picks0) ?_
        obtain rfl := Option.some.inj hx
        exact ⟨aor_19, nr_19, capr_19, Kr_19, rfl, rfl, (RowOf.weak (Nat.zero_le _) hr_19), (new_ids hr_19 hlt), trivial⟩

set_option maxHeartbeats 8000000 in
theorem law13_alive_ok (H : Heaplet) (r : Bool) (hx : law13_alive = some r) :
    Does Try.prog 18 #[] [] H (fun u K' H' => u = .bool r ∧ K' = [] ∧ True) := by
  refine Does.enterL (vs := []) (l := []) Try.func18 rfl rfl trivial (fun w hlt => ?_)
  unfold law13_alive at hx
  refine JC.seq ?_
  refine JC.region ?_
  refine JL.val rfl rfl (R.assign rfl) ?_
  refine JL.nil ?_
  refine JN.next ?_
  refine JC.seq ?_
  obtain ⟨t_1, ht_3, hx⟩ := bnd_some hx
  refine JC.cut (fun l o g => ∃ aor_12 : Option Addr, ∃ nr_12 : Nat, ∃ capr_12 : Nat, ∃ Kr_12 : Own, ∃ aor_13 : Option Addr, ∃ nr_13 : Nat, ∃ capr_13 : Nat, ∃ Kr_13 : Own, l = [(1, .slice aor_12 nr_12 capr_12), (2, .slice aor_13 nr_13 capr_13)] ∧ o = [Kr_12, Kr_13] ∧ H = g ∧ RowOf (New H H) RU8 w.heap.size 5 1 (.slice aor_12 nr_12 capr_12) t_1.1 Kr_12 ∧ RowOf (New H H) RU8 w.heap.size 5 1 (.slice aor_13 nr_13 capr_13) t_1.2 Kr_13) ?_ ?_
  · rintro _ _ _ ⟨aor_12, nr_12, capr_12, Kr_12, aor_13, nr_13, capr_13, Kr_13, rfl, rfl, rfl, hr_12, hr_13⟩
    refine JN.next ?_
    refine JC.seq ?_
    refine JC.region ?_
    obtain ⟨x_14, hr_15, hx⟩ := bnd_some hx
    refine JL.callC (vs := []) (args := []) (K := []) (rst := [_, _]) E19 rfl rfl rfl picks0 (store_New_ok _ _ hr_15) rfl (fun u_16 Ku_16 Hu_16 hRu_16 hleu_16 hfu_16 => ?_)
    obtain ⟨aor_17, nr_17, capr_17, Kr_17, aoz_18, nz_18, aor_19, nr_19, capr_19, Kr_19, rfl, rfl, hr_17, hnewr_17, hz_18, hr_19, hnewr_19, -⟩ := hRu_16
    replace hr_17 := (Pcs.base hr_17 (fun p hp => (hfu_16 p (mem_seg 0 rfl hp)).resolve_left (hnewr_17 p hp)))
    replace hr_19 := (RowOf.base (RowOf.const (H2 := New H Hu_16) RU8.const hr_19) (fun p hp => (hfu_16 p (mem_seg 1 rfl hp)).resolve_left (hnewr_19 p hp)))
    replace hz_18 := IsSlice.mono R_Write.mono (New.call (Hle.refl _)) hz_18
    refine JL.val rfl rfl (R.move rfl) ?_
    refine JL.val rfl rfl (R.move rfl) ?_
    refine JL.pubPcs 0  rfl hr_17 (Nat.le_refl _) (fun H_20 hleH_20 hsH_20 => ?_)
    refine JL.forget 0 ?_
    refine JL.pubN 0 RU8.mono rfl (hr_19.mono RU8.mono (New.mono hleH_20)) (Nat.le_refl _) (fun H_21 hleH_21 hsH_21 => ?_)
    refine JL.forget 0 ?_
    refine JL.pubN 1 RU8.mono rfl (hr_13.mono RU8.mono (New.mono (hleu_16.trans (hleH_20.trans hleH_21)))) (Nat.le_refl _) (fun H_22 hleH_22 hsH_22 => ?_)
    refine JL.forget 1 ?_
    refine JL.pubN 0 RU8.mono rfl (hr_12.mono RU8.mono (New.mono (hleu_16.trans (hleH_20.trans (hleH_21.trans hleH_22))))) (Nat.le_refl _) (fun H_23 hleH_23 hsH_23 => ?_)
    refine JL.forget 0 ?_
    obtain ⟨x_24, hr_25, hx⟩ := bnd_some hx
    refine JL.callC (vs := [_, _, _, _]) (args := [_, _, _, _]) (K := []) (rst := []) E12 rfl rfl rfl picks0 (store_Seal_ok x_14 (1 : UInt32) t_1.2 t_1.1 _ ((hsH_20.mono (RSl.mono RU8.mono) (New.mono (hleH_21.trans (hleH_22.trans hleH_23)))).old (RSl.mono RU8.mono)) ((hz_18.mono R_Write.mono (New.mono (hleH_20.trans (hleH_21.trans (hleH_22.trans hleH_23))))).old R_Write.mono) ((hsH_21.mono RU8.mono (New.mono (hleH_22.trans hleH_23))).old RU8.mono) ((hsH_22.mono RU8.mono (New.mono hleH_23)).old RU8.mono) (hsH_23.old RU8.mono) _ hr_25) rfl (fun u_26 Ku_26 Hu_26 hRu_26 hleu_26 hfu_26 => ?_)
    obtain ⟨aoz_27, nz_27, capz_27, aor_28, nr_28, capr_28, Kr_28, aor_29, nr_29, capr_29, Kr_29, rfl, rfl, hz_27, hr_28, hnewr_28, hr_29, hnewr_29, -⟩ := hRu_26
    replace hr_28 := (RowOf.base (RowOf.mono R_Write.mono (New.call (hleu_16.trans (hleH_20.trans (hleH_21.trans (hleH_22.trans hleH_23))))) hr_28) (fun p hp => (hfu_26 p (mem_seg 0 rfl hp)).resolve_left (hnewr_28 p hp)))
    replace hr_29 := (RowOf.base (RowOf.const (H2 := New H Hu_26) RU8.const hr_29) (fun p hp => (hfu_26 p (mem_seg 1 rfl hp)).resolve_left (hnewr_29 p hp)))
    replace hz_27 := IsSlice.mono (RSl.mono RU8.mono) (New.call (hleu_16.trans (hleH_20.trans (hleH_21.trans (hleH_22.trans hleH_23))))) hz_27
    refine JL.val rfl rfl (R.move rfl) ?_
    refine JL.val rfl rfl (R.extract rfl rfl) ?_
    refine JL.val rfl rfl (R.extract rfl rfl) ?_
    refine JL.val rfl rfl (R.extract rfl rfl) ?_
    refine JL.alloc Z29 rfl (fun b_30 hb_30 => ?_)
    refine JL.alloc Z33 rfl (fun b_31 hb_31 => ?_)
    refine JL.store 1 S29 rfl rfl rfl rfl rfl (Nat.le_of_ble_eq_true rfl) ?_
    refine JL.store 0 S33 rfl rfl rfl rfl rfl (Nat.le_of_ble_eq_true rfl) ?_
    refine JL.val rfl rfl (R.assign rfl) ?_
    refine JL.nil ?_
    refine JN.next ?_
    refine JC.seq ?_
    refine JC.region ?_
    refine JL.val rfl rfl (R.ldoN 1 (vs := [.slice aoz_27 nz_27 capz_27, .slice aor_28 nr_28 capr_28, .slice aor_29 nr_29 capr_29, .int .u32 (x_24.1.Epoch.toNat : Int), .int .u32 (x_24.1.Count.toNat : Int)]) S29 rfl rfl rfl rfl) ?_
    refine JL.val rfl rfl (R.ldoN 0 (vs := [.int .i64 x_24.2.1.At, .int .u32 (x_24.2.1.Birth.toNat : Int), .int .u32 (x_24.2.1.Iv.toNat : Int), .int .u32 (x_24.2.1.Tag.toNat : Int), .int .u32 (x_24.2.1.Sum.toNat : Int)]) S33 rfl rfl rfl rfl) ?_
    refine JL.val rfl rfl (R.move rfl) ?_
    obtain ⟨x_35, hr_36, hx⟩ := bnd_some hx
    refine JL.callL3 (vs := [_, _, _]) E35 rfl rfl (fun H_34 hle_33 hl_32 => store_Open_ok x_24.1 x_24.2.1 t_1.2 _ (IsSlice.mono (RSl.mono RU8.mono) hle_33 (hz_27.old (RSl.mono RU8.mono))) (Lent.row' 2 hl_32 R_Write.mono hle_33 rfl (hr_28.old R_Write.mono)) (Lent.row' 3 hl_32 RU8.mono hle_33 rfl (hr_29.old RU8.mono)) (IsSlice.mono RU8.mono hle_33 ((hsH_22.mono RU8.mono (New.mono (hleH_23.trans hleu_26))).old RU8.mono)) _ hr_36) rfl (fun _ _ _ _ hR_38 hf_39 => ?_)
    obtain ⟨aor_37, nr_37, capr_37, Kr_37, rfl, rfl, hr_37, -, -⟩ := hR_38
    replace hr_37 := RowOf.base (RowOf.const (H2 := New H Hu_26) RU8.const hr_37) (fun p hp => hf_39 p (mem_seg 0 rfl hp))
    refine JL.val rfl rfl (R.move rfl) ?_
    refine JL.val rfl rfl (R.extract rfl rfl) ?_
    refine JL.val rfl rfl (R.extract rfl rfl) ?_
    refine JL.val rfl rfl (R.assign rfl) ?_
    refine JL.val rfl rfl (R.assign rfl) ?_
    refine JL.nil ?_
    refine JN.next ?_
    refine JC.seq ?_
    obtain ⟨t_40, ht_42, hx⟩ := bnd_some hx
    refine JC.cut (fun l o g => ∃ H_49 : Heaplet, l = [(0, .bool t_40)] ∧ o = [] ∧ H_49 = g ∧ Hle Hu_26 H_49) ?_ ?_
    · rintro _ _ _ ⟨H_49, rfl, rfl, rfl, hleH_49⟩
      refine JN.next ?_
      refine JC.ret ?_
      refine JN.outP (vs := [.bool t_40]) (K := []) (rst := []) (.inl rfl) rfl rfl (Res.tmp rfl rfl) picks0 ?_
      obtain rfl := Option.some.inj hx
      exact ⟨rfl, rfl, trivial⟩
    · have hxo_41 := hx; clear hx; have hx := ht_42; clear ht_42
      refine JC.region ?_
      refine JL.val rfl rfl (R.move rfl) ?_
      refine JL.val rfl rfl (R.eql_i rfl rfl) ?_
      refine JL.val rfl rfl (R.move rfl) ?_
      refine JL.gSplit (t := 27) rfl (fun c_43 => ?_) (fun c_43 => ?_)
      · replace hx := cond_t c_43 hx
        refine JL.gYes rfl rfl rfl ?_
        refine JL.val rfl rfl (R.fa F33_0 rfl) ?_
        refine JL.gYes rfl rfl rfl ?_
        refine JL.val rfl rfl (R.ldo 1 S3 rfl rfl rfl) ?_
        refine JL.gYes rfl rfl rfl ?_
        refine JL.val rfl rfl (R.eql_i rfl rfl) ?_
        refine JL.val rfl rfl (R.pickT rfl rfl) ?_
        refine JL.val rfl rfl (R.move rfl) ?_
        refine JL.gSplit (t := 32) rfl (fun c_44 => ?_) (fun c_44 => ?_)
        · replace hx := cond_t c_44 hx
          refine JL.gYes rfl rfl rfl ?_
          refine JL.val rfl rfl (R.fa F33_2 rfl) ?_
          refine JL.gYes rfl rfl rfl ?_
          refine JL.val rfl rfl (R.ldo 1 S27 rfl rfl rfl) ?_
          refine JL.gYes rfl rfl rfl ?_
          refine JL.val rfl rfl (R.eql32 (a := x_24.2.1.Iv) (b := (65537 : UInt32)) rfl rfl) ?_
          refine JL.val rfl rfl (R.pickT rfl rfl) ?_
          refine JL.val rfl rfl (R.move rfl) ?_
          refine JL.gSplit (t := 37) rfl (fun c_45 => ?_) (fun c_45 => ?_)
          · replace hx := cond_t c_45 hx
            refine JL.gYes rfl rfl rfl ?_
            refine JL.val rfl rfl (R.fa F29_3 rfl) ?_
            refine JL.gYes rfl rfl rfl ?_
            refine JL.val rfl rfl (R.ldo 2 S27 rfl rfl rfl) ?_
            refine JL.gYes rfl rfl rfl ?_
            refine JL.val rfl rfl (R.eql32 (a := x_24.1.Count) (b := (1 : UInt32)) rfl rfl) ?_
            refine JL.val rfl rfl (R.pickT rfl rfl) ?_
            refine JL.val rfl rfl (R.move rfl) ?_
            refine JL.gSplit (t := 42) rfl (fun c_46 => ?_) (fun c_46 => ?_)
            · replace hx := cond_t c_46 hx
              refine JL.gYes rfl rfl rfl ?_
              refine JL.val rfl rfl (R.move rfl) ?_
              refine JL.gYes rfl rfl rfl ?_
              refine JL.val rfl rfl (R.eql_i rfl rfl) ?_
              refine JL.val rfl rfl (R.pickT rfl rfl) ?_
              refine JL.val rfl rfl (R.move rfl) ?_
              refine JL.gSplit (t := 46) rfl (fun c_47 => ?_) (fun c_47 => ?_)
              · replace hx := cond_t c_47 hx
                refine JL.gYes rfl rfl rfl ?_
                refine JL.val rfl rfl (R.move rfl) ?_
                refine JL.gYes rfl rfl rfl ?_
                refine JL.pubN 0 RU8.mono rfl hr_37 (Nat.le_refl _) (fun H_48 hleH_48 hsH_48 => ?_)
                refine JL.forget 0 ?_
                refine JL.val rfl rfl (R.toStr U26 U5 U9 rfl (hsH_48.old RU8.mono)) ?_
                refine JL.gYes rfl rfl rfl ?_
                refine JL.val rfl rfl (R.move rfl) ?_
                refine JL.gYes rfl rfl rfl ?_
                refine JL.val rfl rfl (R.toStr U26 U5 U9 rfl ((hsH_23.mono RU8.mono (New.mono (hleu_26.trans hleH_48))).old RU8.mono)) ?_
                refine JL.gYes rfl rfl rfl ?_
                refine JL.val rfl rfl (R.eqlStr (a := x_35.1) (b := t_1.1) rfl rfl) ?_
                refine JL.val rfl rfl (R.pickT rfl rfl) ?_
                refine JL.val rfl rfl (R.assign rfl) ?_
                refine JL.nil ?_
                obtain rfl := Option.some.inj hx
                refine JN.forget 3 ?_
                refine JN.forget 2 ?_
                refine JN.forget 1 ?_
                refine JN.forget 0 ?_
                exact JN.cut ⟨H_48, rfl, rfl, rfl, (hleH_48)⟩ ⟨rfl, trivial⟩ rfl rfl
              · replace hx := cond_f c_47 hx
                refine JL.gNo rfl rfl rfl rfl rfl ?_
                refine JL.gNo rfl rfl rfl rfl rfl ?_
                refine JL.gNo rfl rfl rfl rfl rfl ?_
                refine JL.gNo rfl rfl rfl rfl rfl ?_
                refine JL.gNo rfl rfl rfl rfl rfl ?_
                refine JL.val rfl rfl (R.pickF rfl rfl) ?_
                refine JL.val rfl rfl (R.assign rfl) ?_
                refine JL.nil ?_
                obtain rfl := Option.some.inj hx
                refine JN.forget 4 ?_
                refine JN.forget 3 ?_
                refine JN.forget 2 ?_
                refine JN.forget 1 ?_
                refine JN.forget 0 ?_
                exact JN.cut ⟨Hu_26, rfl, rfl, rfl, (Hle.refl _)⟩ ⟨rfl, trivial⟩ rfl rfl
            · replace hx := cond_f c_46 hx
              refine JL.gNo rfl rfl rfl rfl rfl ?_
              refine JL.gNo rfl rfl rfl rfl rfl ?_
              refine JL.val rfl rfl (R.pickF rfl rfl) ?_
              refine JL.val rfl rfl (R.move rfl) ?_
              refine JL.gNo rfl rfl rfl rfl rfl ?_
              refine JL.gNo rfl rfl rfl rfl rfl ?_
              refine JL.gNo rfl rfl rfl rfl rfl ?_
              refine JL.gNo rfl rfl rfl rfl rfl ?_
              refine JL.gNo rfl rfl rfl rfl rfl ?_
              refine JL.val rfl rfl (R.pickF rfl rfl) ?_
              refine JL.val rfl rfl (R.assign rfl) ?_
              refine JL.nil ?_
              obtain rfl := Option.some.inj hx
              refine JN.forget 4 ?_
              refine JN.forget 3 ?_
              refine JN.forget 2 ?_
              refine JN.forget 1 ?_
              refine JN.forget 0 ?_
              exact JN.cut ⟨Hu_26, rfl, rfl, rfl, (Hle.refl _)⟩ ⟨rfl, trivial⟩ rfl rfl
          · replace hx := cond_f c_45 hx
            refine JL.gNo rfl rfl rfl rfl rfl ?_
            refine JL.gNo rfl rfl rfl rfl rfl ?_
            refine JL.gNo rfl rfl rfl rfl rfl ?_
            refine JL.val rfl rfl (R.pickF rfl rfl) ?_
            refine JL.val rfl rfl (R.move rfl) ?_
            refine JL.gNo rfl rfl rfl rfl rfl ?_
            refine JL.gNo rfl rfl rfl rfl rfl ?_
            refine JL.val rfl rfl (R.pickF rfl rfl) ?_
            refine JL.val rfl rfl (R.move rfl) ?_
            refine JL.gNo rfl rfl rfl rfl rfl ?_
            refine JL.gNo rfl rfl rfl rfl rfl ?_
            refine JL.gNo rfl rfl rfl rfl rfl ?_
            refine JL.gNo rfl rfl rfl rfl rfl ?_
            refine JL.gNo rfl rfl rfl rfl rfl ?_
            refine JL.val rfl rfl (R.pickF rfl rfl) ?_
            refine JL.val rfl rfl (R.assign rfl) ?_
            refine JL.nil ?_
            obtain rfl := Option.some.inj hx
            refine JN.forget 4 ?_
            refine JN.forget 3 ?_
            refine JN.forget 2 ?_
            refine JN.forget 1 ?_
            refine JN.forget 0 ?_
            exact JN.cut ⟨Hu_26, rfl, rfl, rfl, (Hle.refl _)⟩ ⟨rfl, trivial⟩ rfl rfl
        · replace hx := cond_f c_44 hx
          refine JL.gNo rfl rfl rfl rfl rfl ?_
          refine JL.gNo rfl rfl rfl rfl rfl ?_
          refine JL.gNo rfl rfl rfl rfl rfl ?_
          refine JL.val rfl rfl (R.pickF rfl rfl) ?_
          refine JL.val rfl rfl (R.move rfl) ?_
          refine JL.gNo rfl rfl rfl rfl rfl ?_
          refine JL.gNo rfl rfl rfl rfl rfl ?_
          refine JL.gNo rfl rfl rfl rfl rfl ?_
          refine JL.val rfl rfl (R.pickF rfl rfl) ?_
          refine JL.val rfl rfl (R.move rfl) ?_
          refine JL.gNo rfl rfl rfl rfl rfl ?_
          refine JL.gNo rfl rfl rfl rfl rfl ?_
          refine JL.val rfl rfl (R.pickF rfl rfl) ?_
          refine JL.val rfl rfl (R.move rfl) ?_
          refine JL.gNo rfl rfl rfl rfl rfl ?_
          refine JL.gNo rfl rfl rfl rfl rfl ?_
          refine JL.gNo rfl rfl rfl rfl rfl ?_
          refine JL.gNo rfl rfl rfl rfl rfl ?_
          refine JL.gNo rfl rfl rfl rfl rfl ?_
          refine JL.val rfl rfl (R.pickF rfl rfl) ?_
          refine JL.val rfl rfl (R.assign rfl) ?_
          refine JL.nil ?_
          obtain rfl := Option.some.inj hx
          refine JN.forget 4 ?_
          refine JN.forget 3 ?_
          refine JN.forget 2 ?_
          refine JN.forget 1 ?_
          refine JN.forget 0 ?_
          exact JN.cut ⟨Hu_26, rfl, rfl, rfl, (Hle.refl _)⟩ ⟨rfl, trivial⟩ rfl rfl
      · replace hx := cond_f c_43 hx
        refine JL.gNo rfl rfl rfl rfl rfl ?_
        refine JL.gNo rfl rfl rfl rfl rfl ?_
        refine JL.gNo rfl rfl rfl rfl rfl ?_
        refine JL.val rfl rfl (R.pickF rfl rfl) ?_
        refine JL.val rfl rfl (R.move rfl) ?_
        refine JL.gNo rfl rfl rfl rfl rfl ?_
        refine JL.gNo rfl rfl rfl rfl rfl ?_
        refine JL.gNo rfl rfl rfl rfl rfl ?_
        refine JL.val rfl rfl (R.pickF rfl rfl) ?_
        refine JL.val rfl rfl (R.move rfl) ?_
        refine JL.gNo rfl rfl rfl rfl rfl ?_
        refine JL.gNo rfl rfl rfl rfl rfl ?_
        refine JL.gNo rfl rfl rfl rfl rfl ?_
        refine JL.val rfl rfl (R.pickF rfl rfl) ?_
        refine JL.val rfl rfl (R.move rfl) ?_
        refine JL.gNo rfl rfl rfl rfl rfl ?_
        refine JL.gNo rfl rfl rfl rfl rfl ?_
        refine JL.val rfl rfl (R.pickF rfl rfl) ?_
        refine JL.val rfl rfl (R.move rfl) ?_
        refine JL.gNo rfl rfl rfl rfl rfl ?_
        refine JL.gNo rfl rfl rfl rfl rfl ?_
        refine JL.gNo rfl rfl rfl rfl rfl ?_
        refine JL.gNo rfl rfl rfl rfl rfl ?_
        refine JL.gNo rfl rfl rfl rfl rfl ?_
        refine JL.val rfl rfl (R.pickF rfl rfl) ?_
        refine JL.val rfl rfl (R.assign rfl) ?_
        refine JL.nil ?_
        obtain rfl := Option.some.inj hx
        refine JN.forget 4 ?_
        refine JN.forget 3 ?_
        refine JN.forget 2 ?_
        refine JN.forget 1 ?_
        refine JN.forget 0 ?_
        exact JN.cut ⟨Hu_26, rfl, rfl, rfl, (Hle.refl _)⟩ ⟨rfl, trivial⟩ rfl rfl
  · have hxo_2 := hx; clear hx; have hx := ht_3; clear ht_3
    refine JC.draw (so := []) 4 rfl Mixed trivial ?_
    obtain ⟨x_6, hm_5, hc_4, hx⟩ := mks_some hx
    obtain ⟨x_10, hm_9, hc_8, hx⟩ := mks_some hx
    refine JA.two (i := 0) (j := 1) (by kernel_rfl) ?_ ?_
    · refine JO.step rfl trivial rfl (fun K hK => ?_)
      refine JL.mkF (HF := New H H) (R := RU8) (y := (0 : UInt8)) (n := 256) U26 I5 rfl rfl (fun _ => rfl) RU8.one hm_5 hc_4 rfl rfl (fun vr_7 Kr_7 hr_7 => ?_)
      obtain ⟨aor_7, capr_7, rfl⟩ := RowOf.val hr_7
      refine JL.nil ?_
      refine hK _ _ _ (stab_of (Hle.refl _) trivial) ?_
      refine JA.val ⟨by kernel_rfl, by kernel_rfl⟩ (calm_only _) (i := 2) rfl ⟨by kernel_rfl, by kernel_rfl, rfl⟩ trivial (stab_of (Hle.refl _) trivial) (R.assign rfl) rfl ?_
      refine JA.one (i := 1) (by kernel_rfl) ?_
      refine JO.step rfl trivial rfl (fun K hK => ?_)
      refine JL.mkF (HF := New H H) (R := RU8) (y := (0 : UInt8)) (n := 16) U26 I5 rfl rfl (fun _ => rfl) RU8.one hm_9 hc_8 rfl rfl (fun vr_11 Kr_11 hr_11 => ?_)
      obtain ⟨aor_11, capr_11, rfl⟩ := RowOf.val hr_11
      refine JL.nil ?_
      refine hK _ _ _ (stab_of (Hle.refl _) trivial) ?_
      refine JA.val ⟨by kernel_rfl, by kernel_rfl⟩ (calm_only _) (i := 3) rfl ⟨by kernel_rfl, by kernel_rfl, rfl⟩ trivial (stab_of (Hle.refl _) trivial) (R.assign rfl) rfl ?_
      refine JA.doneN (by kernel_rfl) ?_
      obtain rfl := Option.some.inj hx
      refine JN.front 1 rfl ?_
      exact JN.cut ⟨aor_7, x_6.length, capr_7, Kr_7, aor_11, x_10.length, capr_11, Kr_11, rfl, rfl, rfl, hr_7, hr_11⟩ ⟨rfl, rfl, trivial⟩ rfl rfl
    · refine JO.step rfl trivial rfl (fun K hK => ?_)
      refine JL.mkF (HF := New H H) (R := RU8) (y := (0 : UInt8)) (n := 16) U26 I5 rfl rfl (fun _ => rfl) RU8.one hm_9 hc_8 rfl rfl (fun vr_11 Kr_11 hr_11 => ?_)
      obtain ⟨aor_11, capr_11, rfl⟩ := RowOf.val hr_11
      refine JL.nil ?_
      refine hK _ _ _ (stab_of (Hle.refl _) trivial) ?_
      refine JA.one (i := 0) (by kernel_rfl) ?_
      refine JO.step rfl trivial rfl (fun K hK => ?_)
      refine JL.mkF (HF := New H H) (R := RU8) (y := (0 : UInt8)) (n := 256) U26 I5 rfl rfl (fun _ => rfl) RU8.one hm_5 hc_4 rfl rfl (fun vr_7 Kr_7 hr_7 => ?_)
      obtain ⟨aor_7, capr_7, rfl⟩ := RowOf.val hr_7
      refine JL.nil ?_
      refine hK _ _ _ (stab_of (Hle.refl _) trivial) ?_
      refine JA.val ⟨by kernel_rfl, by kernel_rfl⟩ (calm_only _) (i := 2) rfl ⟨by kernel_rfl, by kernel_rfl, rfl⟩ trivial (stab_of (Hle.refl _) trivial) (R.assign rfl) rfl ?_
      refine JA.val ⟨by kernel_rfl, by kernel_rfl⟩ (calm_only _) (i := 3) rfl ⟨by kernel_rfl, by kernel_rfl, rfl⟩ trivial (stab_of (Hle.refl _) trivial) (R.assign rfl) rfl ?_
      refine JA.doneN (by kernel_rfl) ?_
      obtain rfl := Option.some.inj hx
      refine JN.front 1 rfl ?_
      refine JN.front 1 rfl ?_
      exact JN.cut ⟨aor_7, x_6.length, capr_7, Kr_7, aor_11, x_10.length, capr_11, Kr_11, rfl, rfl, rfl, hr_7, hr_11⟩ ⟨rfl, rfl, trivial⟩ rfl rfl

set_option maxHeartbeats 8000000 in
theorem ref09_Great_ok (p_1 : Disk) (H : Heaplet) {aoa_2 : Option Addr} {na_2 : Nat} {capa_2 : Nat} {aoa_3 : Option Addr} {na_3 : Nat} {capa_3 : Nat} (ha_2 : IsSlice H (RSl RU8 1) 1 (.slice aoa_2 na_2 capa_2) p_1.Blocks) (ha_3 : IsSlice H R_Write 2 (.slice aoa_3 na_3 capa_3) p_1.Waits) (r : Bool) (hx : ref09_Great p_1 = some r) :
    Does Try.prog 26 #[.agg #[.slice aoa_2 na_2 capa_2, .slice aoa_3 na_3 capa_3]] [] H (fun u K' H' => u = .bool r ∧ K' = [] ∧ H = H' ∧ True) := by
  refine Does.enterL (vs := [.agg #[.slice aoa_2 na_2 capa_2, .slice aoa_3 na_3 capa_3]]) (l := [(0, .agg #[.slice aoa_2 na_2 capa_2, .slice aoa_3 na_3 capa_3])]) Try.func26 rfl rfl ⟨rfl, trivial⟩ (fun w hlt => ?_)
  unfold ref09_Great at hx
  refine JC.seq ?_
  refine JC.region ?_
  refine JL.box rfl rfl (fun b_4 hb_4 => ?_)
  refine JL.val rfl rfl (R.assign rfl) ?_
  refine JL.nil ?_
  refine JN.next ?_
  refine JC.seq ?_
  obtain ⟨t_5, ht_7, hx⟩ := bnd_some hx
  refine JC.cut (fun l o g => ∃ t_5a : Unit, l = [(1, .pointer (some ⟨b_4, 0, none⟩))] ∧ o = [[(b_4, .cells #[.slice aoa_2 na_2 capa_2, .slice aoa_3 na_3 capa_3] 25 (0, 0))]] ∧ H = g ∧ t_5 = .inl t_5a) ?_ ?_
  · rintro _ _ _ ⟨t_5a, rfl, rfl, rfl, rfl⟩
    simp only [Sum.elim_inl] at hx
    refine JN.next ?_
    refine JC.seq ?_
    refine JC.region ?_
    refine JL.val rfl rfl (R.assign rfl) ?_
    refine JL.nil ?_
    refine JN.next ?_
    refine JC.seq ?_
    refine JC.seq ?_
    refine JC.region ?_
    refine JL.val rfl rfl (R.assign rfl) ?_
    refine JL.nil ?_
    refine JN.next ?_
    obtain ⟨t_13, ht_15, hx⟩ := bnd_some hx
    refine JC.cut (fun l o g => l = [(1, .pointer (some ⟨b_4, 0, none⟩)), (3, .int .i64 t_13)] ∧ o = [[(b_4, .cells #[.slice aoa_2 na_2 capa_2, .slice aoa_3 na_3 capa_3] 25 (0, 0))]] ∧ H = g) ?_ ?_
    · rintro _ _ _ ⟨rfl, rfl, rfl⟩
      refine JN.next ?_
      refine JC.seq ?_
      refine JC.seq ?_
      refine JC.region ?_
      refine JL.val rfl rfl (R.assign rfl) ?_
      refine JL.nil ?_
      refine JN.next ?_
      obtain ⟨t_19, ht_21, hx⟩ := bnd_some hx
      refine JC.cut (fun l o g => l = [(3, .int .i64 t_19)] ∧ o = [] ∧ H = g) ?_ ?_
      · rintro _ _ _ ⟨rfl, rfl, rfl⟩
        refine JN.next ?_
        refine JC.seq ?_
        refine JC.region ?_
        refine JL.val rfl rfl (R.move rfl) ?_
        refine JL.val rfl rfl (R.geq_i rfl rfl) ?_
        refine JL.val rfl rfl (R.assign rfl) ?_
        refine JL.nil ?_
        refine JN.next ?_
        refine JC.ret ?_
        refine JN.outP (vs := [.bool (decide (2000000 ≤ t_19))]) (K := []) (rst := []) (.inl rfl) rfl rfl (Res.tmp rfl rfl) picks0 ?_
        obtain rfl := Option.some.inj hx
        exact ⟨rfl, rfl, rfl, trivial⟩
      · have hxo_20 := hx; clear hx; have hx := ht_21; clear ht_21
        refine JC.block ?_
        refine JC.loopI (fun n l o g => ∃ s_22 : Int × Nat, l = [(1, .pointer (some ⟨b_4, 0, none⟩)), (3, .int .i64 s_22.1), (5, .int .i64 ((s_22.2 : Nat) : Int))] ∧ o = [[(b_4, .cells #[.slice aoa_2 na_2 capa_2, .slice aoa_3 na_3 capa_3] 25 (0, 0))]] ∧ H = g ∧ run (ref09_Great_l2 p_1) n s_22 = some t_19) FUEL ?_ ⟨(t_13, 0), rfl, rfl, rfl, hx⟩ ⟨rfl, rfl, rfl, trivial⟩ ?_
        · rintro _ _ _ ⟨s_22, rfl, rfl, rfl, hn_23⟩
          exact run_zero hn_23
        · rintro n_24 _ _ _ ⟨s_22, rfl, rfl, rfl, hn_23⟩
          clear hx; obtain ⟨oo_26, hx, hd_25⟩ := run_some hn_23
          unfold ref09_Great_l2 at hx
          refine JC.seq ?_
          refine JC.seq ?_
          refine JC.region ?_
          refine JL.val rfl rfl (R.move rfl) ?_
          refine JL.val rfl rfl (R.fa F25_1 rfl) ?_
          refine JL.val rfl rfl (R.ldo 0 S23 rfl rfl rfl) ?_
          refine JL.val rfl rfl (R.lenL U23 rfl (IsSlice.long ha_3)) ?_
          refine JL.val rfl rfl (R.lss_i rfl rfl) ?_
          refine JL.val rfl rfl (R.move rfl) ?_
          refine JL.gSplit (t := 52) rfl (fun c_25 => ?_) (fun c_25 => ?_)
          · replace hx := cond_t c_25 hx
            refine JL.gYes rfl rfl rfl ?_
            refine JL.val rfl rfl (R.move rfl) ?_
            refine JL.gYes rfl rfl rfl ?_
            refine JL.val rfl rfl (R.lss_i rfl rfl) ?_
            refine JL.val rfl rfl (R.pickT rfl rfl) ?_
            refine JL.nil ?_
            refine JN.next ?_
            refine JC.condB rfl (fun c_26 => ?_) (fun c_26 => ?_)
            · replace hx := cond_t c_26 hx
              refine JC.skip ?_
              refine JN.next ?_
              refine JC.seq ?_
              refine JC.block ?_
              refine JC.region ?_
              refine JL.val rfl rfl (R.move rfl) ?_
              refine JL.val rfl rfl (R.fa F25_1 rfl) ?_
              refine JL.val rfl rfl (R.ldo 0 S23 rfl rfl rfl) ?_
              refine JL.val rfl rfl (R.move rfl) ?_
              obtain ⟨y_27, hN_28, hx⟩ := idx_some hx
              obtain ⟨b_29, o_30, cs_31, hE_32, hR_33, hl_34, hc_35⟩ := IsSlice.elem ha_3 hN_28
              obtain ⟨v_36, rfl, hs_37⟩ := hR_33
              obtain ⟨aov_36, capv_36, rfl⟩ := IsSlice.val hs_37
              refine JL.val rfl rfl (R.ix U23 S72 rfl rfl hE_32) ?_
              refine JL.val rfl rfl (R.fa F72_1 rfl) ?_
              refine JL.val rfl rfl (R.ldH S26 rfl (hc_35 1 _ rfl)) ?_
              refine JL.val rfl rfl (R.lenL U26 rfl (IsSlice.long hs_37)) ?_
              refine JL.val rfl rfl (R.add_i rfl rfl) ?_
              refine JL.val rfl rfl (R.assign rfl) ?_
              refine JL.nil ?_
              refine JN.blkN ?_
              refine JN.next ?_
              refine JC.region ?_
              refine JL.val rfl rfl (R.move rfl) ?_
              refine JL.val rfl rfl (R.inc rfl rfl (of_decide_eq_true c_25) (IsSlice.lenI ha_3)) ?_
              refine JL.val rfl rfl (R.assign rfl) ?_
              refine JL.nil ?_
              replace hx := run_next hd_25 hx
              exact JN.cut ⟨(w64 (s_22.1 + (y_27.Data.length : Int)), s_22.2 + 1), rfl, rfl, rfl, hx⟩ ⟨rfl, rfl, rfl, trivial⟩ rfl rfl
            · replace hx := cond_f c_26 hx
              refine JC.exit ?_
              refine JN.passX ?_
              obtain rfl := run_done hd_25 hx
              refine JN.passX ?_
              refine JN.exitSame ?_
              refine JN.forget 0 ?_
              exact JN.cut ⟨rfl, rfl, rfl⟩ ⟨rfl, trivial⟩ rfl rfl
          · replace hx := cond_f c_25 hx
            refine JL.gNo rfl rfl rfl rfl rfl ?_
            refine JL.gNo rfl rfl rfl rfl rfl ?_
            refine JL.val rfl rfl (R.pickF rfl rfl) ?_
            refine JL.nil ?_
            refine JN.next ?_
            refine JC.condF rfl ?_
            refine JC.exit ?_
            refine JN.passX ?_
            obtain rfl := run_done hd_25 hx
            refine JN.passX ?_
            refine JN.exitSame ?_
            refine JN.forget 0 ?_
            exact JN.cut ⟨rfl, rfl, rfl⟩ ⟨rfl, trivial⟩ rfl rfl
    · have hxo_14 := hx; clear hx; have hx := ht_15; clear ht_15
      refine JC.block ?_
      refine JC.loopI (fun n l o g => ∃ s_16 : Int × Nat, l = [(1, .pointer (some ⟨b_4, 0, none⟩)), (3, .int .i64 s_16.1), (4, .int .i64 ((s_16.2 : Nat) : Int))] ∧ o = [[(b_4, .cells #[.slice aoa_2 na_2 capa_2, .slice aoa_3 na_3 capa_3] 25 (0, 0))]] ∧ H = g ∧ run (ref09_Great_l1 p_1) n s_16 = some t_13) FUEL ?_ ⟨(0, 0), rfl, rfl, rfl, hx⟩ ⟨rfl, rfl, rfl, trivial⟩ ?_
      · rintro _ _ _ ⟨s_16, rfl, rfl, rfl, hn_17⟩
        exact run_zero hn_17
      · rintro n_18 _ _ _ ⟨s_16, rfl, rfl, rfl, hn_17⟩
        clear hx; obtain ⟨oo_20, hx, hd_19⟩ := run_some hn_17
        unfold ref09_Great_l1 at hx
        refine JC.seq ?_
        refine JC.seq ?_
        refine JC.region ?_
        refine JL.val rfl rfl (R.move rfl) ?_
        refine JL.val rfl rfl (R.fa F25_0 rfl) ?_
        refine JL.val rfl rfl (R.ldo 0 S22 rfl rfl rfl) ?_
        refine JL.val rfl rfl (R.lenL U22 rfl (IsSlice.long ha_2)) ?_
        refine JL.val rfl rfl (R.lss_i rfl rfl) ?_
        refine JL.val rfl rfl (R.move rfl) ?_
        refine JL.gSplit (t := 33) rfl (fun c_19 => ?_) (fun c_19 => ?_)
        · replace hx := cond_t c_19 hx
          refine JL.gYes rfl rfl rfl ?_
          refine JL.val rfl rfl (R.move rfl) ?_
          refine JL.gYes rfl rfl rfl ?_
          refine JL.val rfl rfl (R.lss_i rfl rfl) ?_
          refine JL.val rfl rfl (R.pickT rfl rfl) ?_
          refine JL.nil ?_
          refine JN.next ?_
          refine JC.condB rfl (fun c_20 => ?_) (fun c_20 => ?_)
          · replace hx := cond_t c_20 hx
            refine JC.skip ?_
            refine JN.next ?_
            refine JC.seq ?_
            refine JC.block ?_
            refine JC.region ?_
            refine JL.val rfl rfl (R.move rfl) ?_
            refine JL.val rfl rfl (R.fa F25_0 rfl) ?_
            refine JL.val rfl rfl (R.ldo 0 S22 rfl rfl rfl) ?_
            refine JL.val rfl rfl (R.move rfl) ?_
            obtain ⟨y_21, hN_22, hx⟩ := idx_some hx
            obtain ⟨b_23, o_24, cs_25, hE_26, hR_27, hl_28, hc_29⟩ := IsSlice.elem ha_2 hN_22
            obtain ⟨v_30, rfl, hs_31⟩ := hR_27
            obtain ⟨aov_30, capv_30, rfl⟩ := IsSlice.val hs_31
            refine JL.val rfl rfl (R.ix U22 S26 rfl rfl hE_26) ?_
            refine JL.val rfl rfl (R.ldH S26 rfl (hc_29 0 _ rfl)) ?_
            refine JL.val rfl rfl (R.lenL U26 rfl (IsSlice.long hs_31)) ?_
            refine JL.val rfl rfl (R.add_i rfl rfl) ?_
            refine JL.val rfl rfl (R.assign rfl) ?_
            refine JL.nil ?_
            refine JN.blkN ?_
            refine JN.next ?_
            refine JC.region ?_
            refine JL.val rfl rfl (R.move rfl) ?_
            refine JL.val rfl rfl (R.inc rfl rfl (of_decide_eq_true c_19) (IsSlice.lenI ha_2)) ?_
            refine JL.val rfl rfl (R.assign rfl) ?_
            refine JL.nil ?_
            replace hx := run_next hd_19 hx
            exact JN.cut ⟨(w64 (s_16.1 + (y_21.length : Int)), s_16.2 + 1), rfl, rfl, rfl, hx⟩ ⟨rfl, rfl, rfl, trivial⟩ rfl rfl
          · replace hx := cond_f c_20 hx
            refine JC.exit ?_
            refine JN.passX ?_
            obtain rfl := run_done hd_19 hx
            refine JN.passX ?_
            refine JN.exitSame ?_
            exact JN.cut ⟨rfl, rfl, rfl⟩ ⟨rfl, rfl, trivial⟩ rfl rfl
        · replace hx := cond_f c_19 hx
          refine JL.gNo rfl rfl rfl rfl rfl ?_
          refine JL.gNo rfl rfl rfl rfl rfl ?_
          refine JL.val rfl rfl (R.pickF rfl rfl) ?_
          refine JL.nil ?_
          refine JN.next ?_
          refine JC.condF rfl ?_
          refine JC.exit ?_
          refine JN.passX ?_
          obtain rfl := run_done hd_19 hx
          refine JN.passX ?_
          refine JN.exitSame ?_
          exact JN.cut ⟨rfl, rfl, rfl⟩ ⟨rfl, rfl, trivial⟩ rfl rfl
  · have hxo_6 := hx; clear hx; have hx := ht_7; clear ht_7
    refine JC.seq ?_
    refine JC.region ?_
    refine JL.val rfl rfl (R.fa F25_0 rfl) ?_
    refine JL.val rfl rfl (R.ldo 0 S22 rfl rfl rfl) ?_
    refine JL.val rfl rfl (R.lenL U22 rfl (IsSlice.long ha_2)) ?_
    refine JL.val rfl rfl (R.gtr_i rfl rfl) ?_
    refine JL.val rfl rfl (R.move rfl) ?_
    refine JL.gSplit (t := 10) rfl (fun c_8 => ?_) (fun c_8 => ?_)
    · replace hx := cond_t c_8 hx
      refine JL.gNo rfl rfl rfl rfl rfl ?_
      refine JL.gNo rfl rfl rfl rfl rfl ?_
      refine JL.gNo rfl rfl rfl rfl rfl ?_
      refine JL.gNo rfl rfl rfl rfl rfl ?_
      refine JL.gNo rfl rfl rfl rfl rfl ?_
      refine JL.gNoU rfl rfl rfl rfl ?_
      refine JL.gNoU rfl rfl rfl rfl ?_
      refine JL.gNoU rfl rfl rfl rfl ?_
      refine JL.gNoU rfl rfl rfl rfl ?_
      refine JL.gNo rfl rfl rfl rfl rfl ?_
      refine JL.val rfl rfl (R.pickT rfl rfl) ?_
      refine JL.val rfl rfl (R.move rfl) ?_
      refine JL.gNo rfl rfl rfl rfl rfl ?_
      refine JL.gNo rfl rfl rfl rfl rfl ?_
      refine JL.gNo rfl rfl rfl rfl rfl ?_
      refine JL.gNo rfl rfl rfl rfl rfl ?_
      refine JL.val rfl rfl (R.pickT rfl rfl) ?_
      refine JL.nil ?_
      refine JN.next ?_
      refine JC.condT rfl ?_
      refine JC.seq ?_
      refine JC.region ?_
      refine JL.val rfl rfl (R.assign rfl) ?_
      refine JL.nil ?_
      refine JN.next ?_
      refine JC.ret ?_
      obtain rfl := Option.some.inj hx
      clear hx; have hx := hxo_6
      simp only [Sum.elim_inl, Sum.elim_inr] at hx
      refine JN.passR ?_
      refine JN.passR ?_
      refine JN.outP (vs := [.bool true]) (K := []) (rst := [_]) (.inl rfl) rfl rfl (Res.tmp rfl rfl) picks0 ?_
      obtain rfl := Option.some.inj hx
      exact ⟨rfl, rfl, rfl, trivial⟩
    · replace hx := cond_f c_8 hx
      refine JL.gYes rfl rfl rfl ?_
      refine JL.val rfl rfl (R.fa F25_1 rfl) ?_
      refine JL.gYes rfl rfl rfl ?_
      refine JL.val rfl rfl (R.ldo 0 S23 rfl rfl rfl) ?_
      refine JL.gYes rfl rfl rfl ?_
      refine JL.val rfl rfl (R.lenL U23 rfl (IsSlice.long ha_3)) ?_
      refine JL.gYes rfl rfl rfl ?_
      refine JL.val rfl rfl (R.gtr_i rfl rfl) ?_
      refine JL.gYes rfl rfl rfl ?_
      refine JL.val rfl rfl (R.move rfl) ?_
      refine JL.gSplit (t := 15) rfl (fun c_9 => ?_) (fun c_9 => ?_)
      · replace hx := cond_t c_9 hx
        refine JL.gYes rfl rfl rfl ?_
        refine JL.val rfl rfl (R.fa F25_1 rfl) ?_
        refine JL.gYes rfl rfl rfl ?_
        refine JL.val rfl rfl (R.ldo 0 S23 rfl rfl rfl) ?_
        refine JL.gYes rfl rfl rfl ?_
        refine JL.val rfl rfl (R.lenL U23 rfl (IsSlice.long ha_3)) ?_
        refine JL.gYes rfl rfl rfl ?_
        refine JL.val rfl rfl (R.lss_i rfl rfl) ?_
        refine JL.gYes rfl rfl rfl ?_
        refine JL.val rfl rfl (R.pickT rfl rfl) ?_
        refine JL.val rfl rfl (R.pickF rfl rfl) ?_
        refine JL.val rfl rfl (R.move rfl) ?_
        refine JL.gSplit (t := 22) rfl (fun c_10 => ?_) (fun c_10 => ?_)
        · replace hx := cond_t c_10 hx
          refine JL.gNo rfl rfl rfl rfl rfl ?_
          refine JL.gNo rfl rfl rfl rfl rfl ?_
          refine JL.gNo rfl rfl rfl rfl rfl ?_
          refine JL.gNo rfl rfl rfl rfl rfl ?_
          refine JL.val rfl rfl (R.pickT rfl rfl) ?_
          refine JL.nil ?_
          refine JN.next ?_
          refine JC.condT rfl ?_
          refine JC.seq ?_
          refine JC.region ?_
          refine JL.val rfl rfl (R.assign rfl) ?_
          refine JL.nil ?_
          refine JN.next ?_
          refine JC.ret ?_
          obtain rfl := Option.some.inj hx
          clear hx; have hx := hxo_6
          simp only [Sum.elim_inl, Sum.elim_inr] at hx
          refine JN.passR ?_
          refine JN.passR ?_
          refine JN.outP (vs := [.bool true]) (K := []) (rst := [_]) (.inl rfl) rfl rfl (Res.tmp rfl rfl) picks0 ?_
          obtain rfl := Option.some.inj hx
          exact ⟨rfl, rfl, rfl, trivial⟩
        · replace hx := cond_f c_10 hx
          refine JL.gYes rfl rfl rfl ?_
          refine JL.val rfl rfl (R.fa F25_1 rfl) ?_
          refine JL.gYes rfl rfl rfl ?_
          refine JL.val rfl rfl (R.ldo 0 S23 rfl rfl rfl) ?_
          refine JL.gYes rfl rfl rfl ?_
          refine JL.val rfl rfl (R.lenL U23 rfl (IsSlice.long ha_3)) ?_
          refine JL.gYes rfl rfl rfl ?_
          refine JL.val rfl rfl (R.gtr_i rfl rfl) ?_
          refine JL.val rfl rfl (R.pickF rfl rfl) ?_
          refine JL.nil ?_
          refine JN.next ?_
          refine JC.condB rfl (fun c_11 => ?_) (fun c_11 => ?_)
          · replace hx := cond_t c_11 hx
            refine JC.seq ?_
            refine JC.region ?_
            refine JL.val rfl rfl (R.assign rfl) ?_
            refine JL.nil ?_
            refine JN.next ?_
            refine JC.ret ?_
            obtain rfl := Option.some.inj hx
            clear hx; have hx := hxo_6
            simp only [Sum.elim_inl, Sum.elim_inr] at hx
            refine JN.passR ?_
            refine JN.passR ?_
            refine JN.outP (vs := [.bool true]) (K := []) (rst := [_]) (.inl rfl) rfl rfl (Res.tmp rfl rfl) picks0 ?_
            obtain rfl := Option.some.inj hx
            exact ⟨rfl, rfl, rfl, trivial⟩
          · replace hx := cond_f c_11 hx
            refine JC.skip ?_
            obtain rfl := Option.some.inj hx
            exact JN.cut ⟨(), rfl, rfl, rfl, rfl⟩ ⟨rfl, trivial⟩ rfl rfl
      · replace hx := cond_f c_9 hx
        refine JL.gNo rfl rfl rfl rfl rfl ?_
        refine JL.gNo rfl rfl rfl rfl rfl ?_
        refine JL.gNo rfl rfl rfl rfl rfl ?_
        refine JL.gNo rfl rfl rfl rfl rfl ?_
        refine JL.gYes rfl rfl rfl ?_
        refine JL.val rfl rfl (R.pickF rfl rfl) ?_
        refine JL.val rfl rfl (R.pickF rfl rfl) ?_
        refine JL.val rfl rfl (R.move rfl) ?_
        refine JL.gYes rfl rfl rfl ?_
        refine JL.val rfl rfl (R.fa F25_1 rfl) ?_
        refine JL.gYes rfl rfl rfl ?_
        refine JL.val rfl rfl (R.ldo 0 S23 rfl rfl rfl) ?_
        refine JL.gYes rfl rfl rfl ?_
        refine JL.val rfl rfl (R.lenL U23 rfl (IsSlice.long ha_3)) ?_
        refine JL.gYes rfl rfl rfl ?_
        refine JL.val rfl rfl (R.gtr_i rfl rfl) ?_
        refine JL.val rfl rfl (R.pickF rfl rfl) ?_
        refine JL.nil ?_
        refine JN.next ?_
        refine JC.condB rfl (fun c_12 => ?_) (fun c_12 => ?_)
        · replace hx := cond_t c_12 hx
          refine JC.seq ?_
          refine JC.region ?_
          refine JL.val rfl rfl (R.assign rfl) ?_
          refine JL.nil ?_
          refine JN.next ?_
          refine JC.ret ?_
          obtain rfl := Option.some.inj hx
          clear hx; have hx := hxo_6
          simp only [Sum.elim_inl, Sum.elim_inr] at hx
          refine JN.passR ?_
          refine JN.passR ?_
          refine JN.outP (vs := [.bool true]) (K := []) (rst := [_]) (.inl rfl) rfl rfl (Res.tmp rfl rfl) picks0 ?_
          obtain rfl := Option.some.inj hx
          exact ⟨rfl, rfl, rfl, trivial⟩
        · replace hx := cond_f c_12 hx
          refine JC.skip ?_
          obtain rfl := Option.some.inj hx
          exact JN.cut ⟨(), rfl, rfl, rfl, rfl⟩ ⟨rfl, trivial⟩ rfl rfl

set_option maxHeartbeats 8000000 in
theorem ref13_Great_ok (p_1 : Store) (H : Heaplet) {aoa_2 : Option Addr} {na_2 : Nat} {capa_2 : Nat} {aoa_3 : Option Addr} {na_3 : Nat} {capa_3 : Nat} {aoa_4 : Option Addr} {na_4 : Nat} {capa_4 : Nat} (ha_2 : IsSlice H (RSl RU8 1) 1 (.slice aoa_2 na_2 capa_2) p_1.Disk.Blocks) (ha_3 : IsSlice H R_Write 2 (.slice aoa_3 na_3 capa_3) p_1.Disk.Waits) (ha_4 : IsSlice H RU8 1 (.slice aoa_4 na_4 capa_4) p_1.Space) (r : Bool) (hx : ref13_Great p_1 = some r) :
    Does Try.prog 8 #[.agg #[.slice aoa_2 na_2 capa_2, .slice aoa_3 na_3 capa_3, .slice aoa_4 na_4 capa_4, .int .u32 (p_1.Epoch.toNat : Int), .int .u32 (p_1.Count.toNat : Int)]] [] H (fun u K' H' => u = .bool r ∧ K' = [] ∧ H = H' ∧ True) := by
  refine Does.enterL (vs := [.agg #[.slice aoa_2 na_2 capa_2, .slice aoa_3 na_3 capa_3, .slice aoa_4 na_4 capa_4, .int .u32 (p_1.Epoch.toNat : Int), .int .u32 (p_1.Count.toNat : Int)]]) (l := [(0, .agg #[.slice aoa_2 na_2 capa_2, .slice aoa_3 na_3 capa_3, .slice aoa_4 na_4 capa_4, .int .u32 (p_1.Epoch.toNat : Int), .int .u32 (p_1.Count.toNat : Int)])]) Try.func8 rfl rfl ⟨rfl, trivial⟩ (fun w hlt => ?_)
  unfold ref13_Great at hx
  refine JC.seq ?_
  refine JC.region ?_
  refine JL.box rfl rfl (fun b_5 hb_5 => ?_)
  refine JL.val rfl rfl (R.assign rfl) ?_
  refine JL.nil ?_
  refine JN.next ?_
  refine JC.seq ?_
  obtain ⟨t_6, ht_8, hx⟩ := bnd_some hx
  refine JC.cut (fun l o g => l = [(2, .bool t_6)] ∧ o = [] ∧ H = g) ?_ ?_
  · rintro _ _ _ ⟨rfl, rfl, rfl⟩
    refine JN.next ?_
    refine JC.ret ?_
    refine JN.outP (vs := [.bool t_6]) (K := []) (rst := []) (.inl rfl) rfl rfl (Res.tmp rfl rfl) picks0 ?_
    obtain rfl := Option.some.inj hx
    exact ⟨rfl, rfl, rfl, trivial⟩
  · have hxo_7 := hx; clear hx; have hx := ht_8; clear ht_8
    refine JC.region ?_
    refine JL.val rfl rfl (R.fa F29_0 rfl) ?_
    refine JL.val rfl rfl (R.ldoN 0 (vs := [.slice aoa_2 na_2 capa_2, .slice aoa_3 na_3 capa_3]) S25 rfl rfl rfl rfl) ?_
    obtain ⟨x_9, hr_10, hx⟩ := bnd_some hx
    refine JL.callC (vs := [_]) (args := [_]) (K := []) (rst := [_]) E26 rfl rfl rfl picks0 (ref09_Great_ok (Disk.mk p_1.Disk.Blocks p_1.Disk.Waits) _ ha_2 ha_3 _ hr_10) rfl (fun u_11 Ku_11 Hu_11 hRu_11 hleu_11 hfu_11 => ?_)
    obtain ⟨rfl, rfl, rfl, -⟩ := hRu_11
    refine JL.val rfl rfl (R.move rfl) ?_
    refine JL.gSplit (t := 6) rfl (fun c_12 => ?_) (fun c_12 => ?_)
    · replace hx := cond_t c_12 hx
      refine JL.gNo rfl rfl rfl rfl rfl ?_
      refine JL.gNo rfl rfl rfl rfl rfl ?_
      refine JL.gNo rfl rfl rfl rfl rfl ?_
      refine JL.gNo rfl rfl rfl rfl rfl ?_
      refine JL.val rfl rfl (R.pickT rfl rfl) ?_
      refine JL.val rfl rfl (R.assign rfl) ?_
      refine JL.nil ?_
      obtain rfl := Option.some.inj hx
      refine JN.forget 0 ?_
      exact JN.cut ⟨rfl, rfl, rfl⟩ ⟨rfl, trivial⟩ rfl rfl
    · replace hx := cond_f c_12 hx
      refine JL.gYes rfl rfl rfl ?_
      refine JL.val rfl rfl (R.fa F29_1 rfl) ?_
      refine JL.gYes rfl rfl rfl ?_
      refine JL.val rfl rfl (R.ldo 0 S26 rfl rfl rfl) ?_
      refine JL.gYes rfl rfl rfl ?_
      refine JL.val rfl rfl (R.lenL U26 rfl (IsSlice.long ha_4)) ?_
      refine JL.gYes rfl rfl rfl ?_
      refine JL.val rfl rfl (R.gtr_i rfl rfl) ?_
      refine JL.val rfl rfl (R.pickF rfl rfl) ?_
      refine JL.val rfl rfl (R.assign rfl) ?_
      refine JL.nil ?_
      obtain rfl := Option.some.inj hx
      refine JN.forget 0 ?_
      exact JN.cut ⟨rfl, rfl, rfl⟩ ⟨rfl, trivial⟩ rfl rfl

set_option maxHeartbeats 8000000 in
theorem space_Free_ok (p_1 : List UInt8) (H : Heaplet) {aoa_2 : Option Addr} {na_2 : Nat} {capa_2 : Nat} (ha_2 : IsSlice H RU8 1 (.slice aoa_2 na_2 capa_2) p_1) (r : List Int × Int) (hx : space_Free p_1 = some r) :
    Does Try.prog 25 #[.slice aoa_2 na_2 capa_2] [] H (fun u K' H' => ∃ ao0 : Option Addr, ∃ n0 : Nat, ∃ cap0 : Nat, ∃ K0 : Own, u = .tuple #[.slice ao0 n0 cap0, .int .i64 r.2] ∧ K' = [K0] ∧ H = H' ∧ RowOf (New H H) RInt 0 3 1 (.slice ao0 n0 cap0) r.1 K0 ∧ (∀ p ∈ K0, p.1 ∉ ids (List.flatten [])) ∧ True) := by
  refine Does.enterL (vs := [.slice aoa_2 na_2 capa_2]) (l := [(0, .slice aoa_2 na_2 capa_2)]) Try.func25 rfl rfl ⟨rfl, trivial⟩ (fun w hlt => ?_)
  unfold space_Free at hx
  refine JC.seq ?_
  refine JC.region ?_
  refine JL.val rfl rfl (R.assign rfl) ?_
  refine JL.val rfl rfl (R.assign rfl) ?_
  refine JL.nil ?_
  refine JN.next ?_
  refine JC.seq ?_
  refine JC.seq ?_
  refine JC.region ?_
  refine JL.val rfl rfl (R.move rfl) ?_
  obtain ⟨x_3, hr_4, hx⟩ := bnd_some hx
  refine JL.callC (vs := [_]) (args := [_]) (K := []) (rst := []) E49 rfl rfl rfl picks0 (space_Check_ok p_1 _ ha_2 _ hr_4) rfl (fun u_5 Ku_5 Hu_5 hRu_5 hleu_5 hfu_5 => ?_)
  obtain ⟨rfl, rfl, rfl, -⟩ := hRu_5
  refine JL.val rfl rfl (R.assign rfl) ?_
  refine JL.nil ?_
  refine JN.next ?_
  refine JC.seq ?_
  refine JC.region ?_
  refine JL.val rfl rfl (R.move rfl) ?_
  refine JL.val rfl rfl (R.neq_i rfl rfl) ?_
  refine JL.nil ?_
  refine JN.next ?_
  refine JC.condB rfl (fun c_6 => ?_) (fun c_6 => ?_)
  · replace hx := cond_t c_6 hx
    refine JC.seq ?_
    refine JC.region ?_
    refine JL.val rfl rfl (R.move rfl) ?_
    refine JL.val rfl rfl (R.assign rfl) ?_
    refine JL.val rfl rfl (R.assign rfl) ?_
    refine JL.nil ?_
    refine JN.next ?_
    refine JC.ret ?_
    refine JN.passR ?_
    refine JN.seg0 ?_
    refine JN.outP (vs := [.slice none 0 0, .int .i64 x_3]) (K := [_]) (rst := []) (.inl rfl) rfl rfl (Res.tmp rfl (Res.tmp rfl rfl)) (picks 0 rfl picks0) ?_
    obtain rfl := Option.some.inj hx
    exact ⟨none, 0, 0, [], rfl, rfl, rfl, (RowOf.nil _ _ _ _ _), (fun p hp => by cases hp), trivial⟩
  · replace hx := cond_f c_6 hx
    refine JC.skip ?_
    refine JN.next ?_
    refine JC.seq ?_
    refine JC.region ?_
    refine JL.val rfl rfl (R.move rfl) ?_
    obtain ⟨x_7, hr_8, hx⟩ := bnd_some hx
    refine JL.callC (vs := [_]) (args := [_]) (K := []) (rst := []) E50 rfl rfl rfl picks0 (space_free_ok p_1 _ ha_2 _ hr_8) rfl (fun u_9 Ku_9 Hu_9 hRu_9 hleu_9 hfu_9 => ?_)
    obtain ⟨b_10, b_11, aoz_12, nz_12, capz_12, rfl, rfl, rfl, hz_12, -⟩ := hRu_9
    have hb_10 := (hfu_9 _ (mem_seg 0 rfl (List.mem_singleton.2 rfl))).resolve_left (fun h => by cases h)
    have hb_11 := (hfu_9 _ (mem_seg 1 rfl (List.mem_singleton.2 rfl))).resolve_left (fun h => by cases h)
    refine JL.val rfl rfl (R.assign rfl) ?_
    refine JL.nil ?_
    refine JN.next ?_
    refine JC.seq ?_
    refine JC.seq ?_
    refine JC.region ?_
    refine JL.val rfl rfl (R.move rfl) ?_
    obtain ⟨x_13, hr_14, hx⟩ := bnd_some hx
    refine JL.callC (vs := []) (args := [_, _]) (K := [_, _]) (rst := []) E77 rfl rfl rfl (picks 0 rfl (picks 0 rfl picks0)) (space_free_1_ok x_7.1 x_7.2 _ hz_12 _ hr_14) rfl (fun u_15 Ku_15 Hu_15 hRu_15 hleu_15 hfu_15 => ?_)
    obtain ⟨aoz_16, nz_16, capz_16, rfl, rfl, rfl, hz_16, -⟩ := hRu_15
    refine JL.val rfl rfl (R.assign rfl) ?_
    refine JL.nil ?_
    refine JN.next ?_
    obtain ⟨t_17, ht_19, hx⟩ := bnd_some hx
    refine JC.cut (fun l o g => ∃ aor_25 : Option Addr, ∃ nr_25 : Nat, ∃ capr_25 : Nat, ∃ Kr_25 : Own, l = [(2, .slice aor_25 nr_25 capr_25)] ∧ o = [Kr_25] ∧ H = g ∧ RowOf (New H H) RInt w.heap.size 3 1 (.slice aor_25 nr_25 capr_25) t_17 Kr_25) ?_ ?_
    · rintro _ _ _ ⟨aor_25, nr_25, capr_25, Kr_25, rfl, rfl, rfl, hr_25⟩
      refine JN.next ?_
      refine JC.seq ?_
      refine JC.region ?_
      refine JL.val rfl rfl (R.move rfl) ?_
      refine JL.val rfl rfl (R.assign rfl) ?_
      refine JL.val rfl rfl (R.assign rfl) ?_
      refine JL.nil ?_
      refine JN.next ?_
      refine JC.ret ?_
      refine JN.outP (vs := [.slice aor_25 nr_25 capr_25, .int .i64 0]) (K := [_]) (rst := []) (.inl rfl) rfl rfl (Res.tmp rfl (Res.tmp rfl rfl)) (picks 0 rfl picks0) ?_
      obtain rfl := Option.some.inj hx
      exact ⟨aor_25, nr_25, capr_25, Kr_25, rfl, rfl, rfl, (RowOf.weak (Nat.zero_le _) hr_25), (new_ids hr_25 hlt), trivial⟩
    · have hxo_18 := hx; clear hx; have hx := ht_19; clear ht_19
      refine JC.block ?_
      refine JC.seg0 ?_
      refine JC.front 2 rfl ?_
      refine JC.front 2 rfl ?_
      refine JC.front 2 rfl ?_
      refine JC.loopI (fun n l o g => ∃ s_20 : List Int × Int × List UInt8 × Int, ∃ aor_23 : Option Addr, ∃ nr_23 : Nat, ∃ capr_23 : Nat, ∃ Kr_23 : Own, ∃ aoz_24 : Option Addr, ∃ nz_24 : Nat, ∃ capz_24 : Nat, l = [(2, .slice aor_23 nr_23 capr_23), (5, .func (.func 77) #[] #[.pointer (some ⟨b_10, 0, none⟩), .pointer (some ⟨b_11, 0, none⟩)]), (6, .int .i64 s_20.2.2.2)] ∧ o = [Kr_23, [(b_10, .cells #[.int .i64 s_20.2.1] 3 (0, 0))], [(b_11, .cells #[.slice aoz_24 nz_24 capz_24] 26 (0, 0))]] ∧ H = g ∧ run space_Free_l1 n s_20 = some t_17 ∧ RowOf (New H H) RInt w.heap.size 3 1 (.slice aor_23 nr_23 capr_23) s_20.1 Kr_23 ∧ IsSlice H RU8 1 (.slice aoz_24 nz_24 capz_24) s_20.2.2.1) FUEL ?_ ⟨(([] : List Int), x_13.2.1, x_13.2.2, x_13.1), none, 0, 0, [], aoz_16, nz_16, capz_16, rfl, rfl, rfl, hx, (RowOf.nil _ _ _ _ _), hz_16⟩ ⟨rfl, rfl, rfl, trivial⟩ ?_
      · rintro _ _ _ ⟨s_20, aor_23, nr_23, capr_23, Kr_23, aoz_24, nz_24, capz_24, rfl, rfl, rfl, hn_21, hr_23, hz_24⟩
        exact run_zero hn_21
      · rintro n_22 _ _ _ ⟨s_20, aor_23, nr_23, capr_23, Kr_23, aoz_24, nz_24, capz_24, rfl, rfl, rfl, hn_21, hr_23, hz_24⟩
        clear hx; obtain ⟨oo_26, hx, hd_25⟩ := run_some hn_21
        unfold space_Free_l1 at hx
        refine JC.seq ?_
        refine JC.seq ?_
        refine JC.region ?_
        refine JL.val rfl rfl (R.move rfl) ?_
        refine JL.val rfl rfl (R.geq_i rfl rfl) ?_
        refine JL.nil ?_
        refine JN.next ?_
        refine JC.condB rfl (fun c_25 => ?_) (fun c_25 => ?_)
        · replace hx := cond_t c_25 hx
          refine JC.skip ?_
          refine JN.next ?_
          refine JC.seq ?_
          refine JC.block ?_
          refine JC.region ?_
          refine JL.val rfl rfl (R.move rfl) ?_
          refine JL.val rfl rfl (R.move rfl) ?_
          refine JL.bslF (HF := (New H H)) (R := RInt) (ls := [s_20.2.2.2]) (vs := [.int .i64 s_20.2.2.2]) U58 I3 rfl rfl (⟨_, _, rfl, rfl, rfl, rfl⟩) RInt.one rfl rfl rfl (by simp [maxLen]) rfl (fun vr_26 Kr_26 hr_26 => ?_)
          obtain ⟨aor_26, capr_26, rfl⟩ := RowOf.val hr_26
          obtain ⟨q_27, hm_28, hl_29, hx⟩ := app_some hx
          refine JL.appF (HF := (New H H)) 1 U58 I3 rfl rfl hr_23 rfl (SrcF.row 0 U58 rfl hr_26) hm_28 hl_29 rfl (Nat.le_refl _) rfl (fun vr_30 Kr_30 hr_30 => ?_)
          obtain ⟨aor_30, capr_30, rfl⟩ := RowOf.val hr_30
          refine JL.val rfl rfl (R.assign rfl) ?_
          refine JL.nil ?_
          refine JN.blkN ?_
          refine JN.next ?_
          refine JC.region ?_
          refine JL.val rfl rfl (R.move rfl) ?_
          obtain ⟨x_31, hr_32, hx⟩ := bnd_some hx
          refine JL.callC (vs := []) (args := [_, _]) (K := [_, _]) (rst := [_, _]) E77 rfl rfl rfl (picks 2 rfl (picks 2 rfl picks0)) (space_free_1_ok s_20.2.1 s_20.2.2.1 _ hz_24 _ hr_32) rfl (fun u_33 Ku_33 Hu_33 hRu_33 hleu_33 hfu_33 => ?_)
          obtain ⟨aoz_34, nz_34, capz_34, rfl, rfl, rfl, hz_34, -⟩ := hRu_33
          refine JL.val rfl rfl (R.assign rfl) ?_
          refine JL.nil ?_
          replace hx := run_next hd_25 hx
          refine JN.forget 2 ?_
          refine JN.front 1 rfl ?_
          refine JN.front 1 rfl ?_
          refine JN.front 2 rfl ?_
          exact JN.cut ⟨(q_27, x_31.2.1, x_31.2.2, x_31.1), aor_30, q_27.length, capr_30, Kr_30, aoz_34, nz_34, capz_34, rfl, rfl, rfl, hx, hr_30, hz_34⟩ ⟨rfl, rfl, rfl, trivial⟩ rfl rfl
        · replace hx := cond_f c_25 hx
          refine JC.exit ?_
          refine JN.passX ?_
          obtain rfl := run_done hd_25 hx
          refine JN.passX ?_
          refine JN.exitSame ?_
          refine JN.forget 2 ?_
          refine JN.forget 1 ?_
          exact JN.cut ⟨aor_23, nr_23, capr_23, Kr_23, rfl, rfl, rfl, hr_23⟩ ⟨rfl, trivial⟩ rfl rfl

set_option maxHeartbeats 8000000 in
theorem store_Raw_ok (p_1 : Store) (p_5 : UInt32) (p_6 : UInt32) (p_7 : UInt32) (p_8 : List UInt8) (H : Heaplet) {aoa_2 : Option Addr} {na_2 : Nat} {capa_2 : Nat} {aoa_3 : Option Addr} {na_3 : Nat} {capa_3 : Nat} {aoa_4 : Option Addr} {na_4 : Nat} {capa_4 : Nat} {aoa_9 : Option Addr} {na_9 : Nat} {capa_9 : Nat} (ha_2 : IsSlice H (RSl RU8 1) 1 (.slice aoa_2 na_2 capa_2) p_1.Disk.Blocks) (ha_3 : IsSlice H R_Write 2 (.slice aoa_3 na_3 capa_3) p_1.Disk.Waits) (ha_4 : IsSlice H RU8 1 (.slice aoa_4 na_4 capa_4) p_1.Space) (ha_9 : IsSlice H RU8 1 (.slice aoa_9 na_9 capa_9) p_8) (r : Store × Ptr × Int) (hx : store_Raw p_1 p_5 p_6 p_7 p_8 = some r) :
    Does Try.prog 14 #[.agg #[.slice aoa_2 na_2 capa_2, .slice aoa_3 na_3 capa_3, .slice aoa_4 na_4 capa_4, .int .u32 (p_1.Epoch.toNat : Int), .int .u32 (p_1.Count.toNat : Int)], .int .u32 (p_5.toNat : Int), .int .u32 (p_6.toNat : Int), .int .u32 (p_7.toNat : Int), .slice aoa_9 na_9 capa_9] [] H (fun u K' H' => ∃ ao0 : Option Addr, ∃ n0 : Nat, ∃ cap0 : Nat, ∃ ao1 : Option Addr, ∃ n1 : Nat, ∃ cap1 : Nat, ∃ K1 : Own, ∃ ao2 : Option Addr, ∃ n2 : Nat, ∃ cap2 : Nat, ∃ K2 : Own, u = .tuple #[.agg #[.slice ao0 n0 cap0, .slice ao1 n1 cap1, .slice ao2 n2 cap2, .int .u32 (r.1.Epoch.toNat : Int), .int .u32 (r.1.Count.toNat : Int)], .agg #[.int .i64 r.2.1.At, .int .u32 (r.2.1.Birth.toNat : Int), .int .u32 (r.2.1.Iv.toNat : Int), .int .u32 (r.2.1.Tag.toNat : Int), .int .u32 (r.2.1.Sum.toNat : Int)], .int .i64 r.2.2] ∧ K' = [K1, K2] ∧ IsSlice (New H H') (RSl RU8 1) 1 (.slice ao0 n0 cap0) r.1.Disk.Blocks ∧ RowOf (New H H') R_Write 0 72 2 (.slice ao1 n1 cap1) r.1.Disk.Waits K1 ∧ (∀ p ∈ K1, p.1 ∉ ids (List.flatten [])) ∧ RowOf (New H H') RU8 0 5 1 (.slice ao2 n2 cap2) r.1.Space K2 ∧ (∀ p ∈ K2, p.1 ∉ ids (List.flatten [])) ∧ True) := by
  refine Does.enterL (vs := [.agg #[.slice aoa_2 na_2 capa_2, .slice aoa_3 na_3 capa_3, .slice aoa_4 na_4 capa_4, .int .u32 (p_1.Epoch.toNat : Int), .int .u32 (p_1.Count.toNat : Int)], .int .u32 (p_5.toNat : Int), .int .u32 (p_6.toNat : Int), .int .u32 (p_7.toNat : Int), .slice aoa_9 na_9 capa_9]) (l := [(0, .agg #[.slice aoa_2 na_2 capa_2, .slice aoa_3 na_3 capa_3, .slice aoa_4 na_4 capa_4, .int .u32 (p_1.Epoch.toNat : Int), .int .u32 (p_1.Count.toNat : Int)]), (1, .int .u32 (p_5.toNat : Int)), (2, .int .u32 (p_6.toNat : Int)), (3, .int .u32 (p_7.toNat : Int)), (4, .slice aoa_9 na_9 capa_9)]) Try.func14 rfl rfl ⟨rfl, rfl, rfl, rfl, rfl, trivial⟩ (fun w hlt => ?_)
  unfold store_Raw at hx
  refine JC.seq ?_
  refine JC.region ?_
  refine JL.box rfl rfl (fun b_10 hb_10 => ?_)
  refine JL.alloc Z29 rfl (fun b_11 hb_11 => ?_)
  refine JL.alloc Z33 rfl (fun b_12 hb_12 => ?_)
  refine JL.val rfl rfl (R.assign rfl) ?_
  refine JL.nil ?_
  refine JN.next ?_
  refine JC.seq ?_
  refine JC.seq ?_
  refine JC.region ?_
  refine JL.val rfl rfl (R.ldoN 2 (vs := [.slice aoa_2 na_2 capa_2, .slice aoa_3 na_3 capa_3, .slice aoa_4 na_4 capa_4, .int .u32 (p_1.Epoch.toNat : Int), .int .u32 (p_1.Count.toNat : Int)]) S29 rfl rfl rfl rfl) ?_
  refine JL.val rfl rfl (R.move rfl) ?_
  refine JL.val rfl rfl (R.move rfl) ?_
  refine JL.bslF (HF := H) (R := (RSl RU8 1)) (ls := [p_8]) (vs := [.slice aoa_9 na_9 capa_9]) U22 I26 rfl rfl (⟨_, _, rfl, rfl, ⟨_, rfl, ha_9⟩, rfl⟩) RSl.one rfl rfl rfl (by simp [maxLen]) rfl (fun vr_13 Kr_13 hr_13 => ?_)
  obtain ⟨aor_13, capr_13, rfl⟩ := RowOf.val hr_13
  obtain ⟨x_17, hr_18, hx⟩ := bnd_some hx
  refine JL.callL2 (vs := [_, _, _, _]) (v := .int .i64 x_17) E28 rfl rfl (fun H_16 hle_15 hl_14 => Does.mono (store_asked_ok p_1 p_5 256 ([p_8]) _ (IsSlice.mono (RSl.mono RU8.mono) hle_15 ha_2) (IsSlice.mono R_Write.mono hle_15 ha_3) (IsSlice.mono RU8.mono hle_15 ha_4) (Lent.row' 0 hl_14 (RSl.mono RU8.mono) hle_15 rfl hr_13) _ hr_18) (fun _ _ _ h => h.1)) rfl ?_
  refine JL.val rfl rfl (R.assign rfl) ?_
  refine JL.nil ?_
  refine JN.next ?_
  refine JC.seq ?_
  refine JC.region ?_
  refine JL.val rfl rfl (R.move rfl) ?_
  refine JL.val rfl rfl (R.neq_i rfl rfl) ?_
  refine JL.nil ?_
  refine JN.next ?_
  refine JC.condB rfl (fun c_19 => ?_) (fun c_19 => ?_)
  · replace hx := cond_t c_19 hx
    refine JC.ret ?_
    refine JN.passR ?_
    refine JN.seg0 ?_
    refine JN.seg0 ?_
    refine JN.outP (vs := [.agg #[.slice none 0 0, .slice none 0 0, .slice none 0 0, .int .u32 ((0 : UInt32).toNat : Int), .int .u32 ((0 : UInt32).toNat : Int)], .agg #[.int .i64 0, .int .u32 ((0 : UInt32).toNat : Int), .int .u32 ((0 : UInt32).toNat : Int), .int .u32 ((0 : UInt32).toNat : Int), .int .u32 ((0 : UInt32).toNat : Int)], .int .i64 x_17]) (K := [_, _]) (rst := [_, _, _, _]) (.inl rfl) rfl rfl (Res.cellN 4 rfl rfl S29 (Res.cellN 3 rfl rfl S33 (Res.tmp rfl rfl))) (picks 0 rfl (picks 0 rfl picks0)) ?_
    obtain rfl := Option.some.inj hx
    exact ⟨none, 0, 0, none, 0, 0, [], none, 0, 0, [], rfl, rfl, (IsSlice.nil _ _ _), (RowOf.nil _ _ _ _ _), (fun p hp => by cases hp), (RowOf.nil _ _ _ _ _), (fun p hp => by cases hp), trivial⟩
  · replace hx := cond_f c_19 hx
    refine JC.skip ?_
    refine JN.next ?_
    refine JC.seq ?_
    refine JC.region ?_
    refine JL.val rfl rfl (R.ldoN 3 (vs := [.slice aoa_2 na_2 capa_2, .slice aoa_3 na_3 capa_3, .slice aoa_4 na_4 capa_4, .int .u32 (p_1.Epoch.toNat : Int), .int .u32 (p_1.Count.toNat : Int)]) S29 rfl rfl rfl rfl) ?_
    refine JL.val rfl rfl (R.move rfl) ?_
    refine JL.val rfl rfl (R.move rfl) ?_
    refine JL.val rfl rfl (R.move rfl) ?_
    refine JL.val rfl rfl (R.bldP (vs := [(1, .int .u32 (p_5.toNat : Int)), (2, .int .u32 (p_6.toNat : Int)), (3, .int .u32 (p_7.toNat : Int))]) (cs := [.int .i64 0, .int .u32 (p_5.toNat : Int), .int .u32 (p_6.toNat : Int), .int .u32 (p_7.toNat : Int), .int .u32 ((0 : UInt32).toNat : Int)]) Z33 B33 rfl rfl rfl) ?_
    refine JL.val rfl rfl (R.move rfl) ?_
    obtain ⟨x_20, hr_21, hx⟩ := bnd_some hx
    refine JL.callC (vs := [_, _, _]) (args := [_, _, _]) (K := []) (rst := [_, _, _, _]) E30 rfl rfl rfl picks0 (store_put_ok p_1 (Ptr.mk 0 p_5 p_6 p_7 (0 : UInt32)) p_8 _ ha_2 ha_3 ha_4 ha_9 _ hr_21) rfl (fun u_22 Ku_22 Hu_22 hRu_22 hleu_22 hfu_22 => ?_)
    obtain ⟨aoz_23, nz_23, capz_23, aor_24, nr_24, capr_24, Kr_24, aor_25, nr_25, capr_25, Kr_25, rfl, rfl, hz_23, hr_24, hnewr_24, hr_25, hnewr_25, -⟩ := hRu_22
    replace hr_24 := (RowOf.base (RowOf.mono R_Write.mono (New.call (Hle.refl _)) hr_24) (fun p hp => (hfu_22 p (mem_seg 0 rfl hp)).resolve_left (hnewr_24 p hp)))
    replace hr_25 := (RowOf.base (RowOf.const (H2 := New H Hu_22) RU8.const hr_25) (fun p hp => (hfu_22 p (mem_seg 1 rfl hp)).resolve_left (hnewr_25 p hp)))
    replace hz_23 := IsSlice.mono (RSl.mono RU8.mono) (New.call (Hle.refl _)) hz_23
    refine JL.val rfl rfl (R.extract rfl rfl) ?_
    refine JL.val rfl rfl (R.extract rfl rfl) ?_
    refine JL.val rfl rfl (R.extract rfl rfl) ?_
    refine JL.store 4 S29 rfl rfl rfl rfl rfl (Nat.le_of_ble_eq_true rfl) ?_
    refine JL.store 3 S33 rfl rfl rfl rfl rfl (Nat.le_of_ble_eq_true rfl) ?_
    refine JL.val rfl rfl (R.assign rfl) ?_
    refine JL.nil ?_
    refine JN.next ?_
    refine JC.ret ?_
    refine JN.outP (vs := [.agg #[.slice aoz_23 nz_23 capz_23, .slice aor_24 nr_24 capr_24, .slice aor_25 nr_25 capr_25, .int .u32 (x_20.1.Epoch.toNat : Int), .int .u32 (x_20.1.Count.toNat : Int)], .agg #[.int .i64 x_20.2.1.At, .int .u32 (x_20.2.1.Birth.toNat : Int), .int .u32 (x_20.2.1.Iv.toNat : Int), .int .u32 (x_20.2.1.Tag.toNat : Int), .int .u32 (x_20.2.1.Sum.toNat : Int)], .int .i64 x_20.2.2]) (K := [_, _]) (rst := [_, _, _, _]) (.inl rfl) rfl rfl (Res.cellN 4 rfl rfl S29 (Res.cellN 3 rfl rfl S33 (Res.tmp rfl rfl))) (picks 0 rfl (picks 0 rfl picks0)) ?_
    obtain rfl := Option.some.inj hx
    exact ⟨aoz_23, nz_23, capz_23, aor_24, nr_24, capr_24, Kr_24, aor_25, nr_25, capr_25, Kr_25, rfl, rfl, hz_23, (RowOf.weak (Nat.zero_le _) hr_24), (new_ids hr_24 hlt), (RowOf.weak (Nat.zero_le _) hr_25), (new_ids hr_25 hlt), trivial⟩

set_option maxHeartbeats 8000000 in
theorem store_Lay_ok (p_1 : Store) (p_5 : UInt32) (p_6 : List UInt8) (H : Heaplet) {aoa_2 : Option Addr} {na_2 : Nat} {capa_2 : Nat} {aoa_3 : Option Addr} {na_3 : Nat} {capa_3 : Nat} {aoa_4 : Option Addr} {na_4 : Nat} {capa_4 : Nat} {aoa_7 : Option Addr} {na_7 : Nat} {capa_7 : Nat} (ha_2 : IsSlice H (RSl RU8 1) 1 (.slice aoa_2 na_2 capa_2) p_1.Disk.Blocks) (ha_3 : IsSlice H R_Write 2 (.slice aoa_3 na_3 capa_3) p_1.Disk.Waits) (ha_4 : IsSlice H RU8 1 (.slice aoa_4 na_4 capa_4) p_1.Space) (ha_7 : IsSlice H RU8 1 (.slice aoa_7 na_7 capa_7) p_6) (r : Store × Ptr × Int) (hx : store_Lay p_1 p_5 p_6 = some r) :
    Does Try.prog 10 #[.agg #[.slice aoa_2 na_2 capa_2, .slice aoa_3 na_3 capa_3, .slice aoa_4 na_4 capa_4, .int .u32 (p_1.Epoch.toNat : Int), .int .u32 (p_1.Count.toNat : Int)], .int .u32 (p_5.toNat : Int), .slice aoa_7 na_7 capa_7] [] H (fun u K' H' => ∃ ao0 : Option Addr, ∃ n0 : Nat, ∃ cap0 : Nat, ∃ ao1 : Option Addr, ∃ n1 : Nat, ∃ cap1 : Nat, ∃ K1 : Own, ∃ ao2 : Option Addr, ∃ n2 : Nat, ∃ cap2 : Nat, ∃ K2 : Own, u = .tuple #[.agg #[.slice ao0 n0 cap0, .slice ao1 n1 cap1, .slice ao2 n2 cap2, .int .u32 (r.1.Epoch.toNat : Int), .int .u32 (r.1.Count.toNat : Int)], .agg #[.int .i64 r.2.1.At, .int .u32 (r.2.1.Birth.toNat : Int), .int .u32 (r.2.1.Iv.toNat : Int), .int .u32 (r.2.1.Tag.toNat : Int), .int .u32 (r.2.1.Sum.toNat : Int)], .int .i64 r.2.2] ∧ K' = [K1, K2] ∧ IsSlice (New H H') (RSl RU8 1) 1 (.slice ao0 n0 cap0) r.1.Disk.Blocks ∧ RowOf (New H H') R_Write 0 72 2 (.slice ao1 n1 cap1) r.1.Disk.Waits K1 ∧ (∀ p ∈ K1, p.1 ∉ ids (List.flatten [])) ∧ RowOf (New H H') RU8 0 5 1 (.slice ao2 n2 cap2) r.1.Space K2 ∧ (∀ p ∈ K2, p.1 ∉ ids (List.flatten [])) ∧ True) := by
  refine Does.enterL (vs := [.agg #[.slice aoa_2 na_2 capa_2, .slice aoa_3 na_3 capa_3, .slice aoa_4 na_4 capa_4, .int .u32 (p_1.Epoch.toNat : Int), .int .u32 (p_1.Count.toNat : Int)], .int .u32 (p_5.toNat : Int), .slice aoa_7 na_7 capa_7]) (l := [(0, .agg #[.slice aoa_2 na_2 capa_2, .slice aoa_3 na_3 capa_3, .slice aoa_4 na_4 capa_4, .int .u32 (p_1.Epoch.toNat : Int), .int .u32 (p_1.Count.toNat : Int)]), (1, .int .u32 (p_5.toNat : Int)), (2, .slice aoa_7 na_7 capa_7)]) Try.func10 rfl rfl ⟨rfl, rfl, rfl, trivial⟩ (fun w hlt => ?_)
  unfold store_Lay at hx
  refine JC.seq ?_
  refine JC.region ?_
  refine JL.box rfl rfl (fun b_8 hb_8 => ?_)
  refine JL.alloc Z29 rfl (fun b_9 hb_9 => ?_)
  refine JL.alloc Z33 rfl (fun b_10 hb_10 => ?_)
  refine JL.val rfl rfl (R.assign rfl) ?_
  refine JL.nil ?_
  refine JN.next ?_
  refine JC.seq ?_
  refine JC.region ?_
  refine JL.val rfl rfl (R.ldoN 2 (vs := [.slice aoa_2 na_2 capa_2, .slice aoa_3 na_3 capa_3, .slice aoa_4 na_4 capa_4, .int .u32 (p_1.Epoch.toNat : Int), .int .u32 (p_1.Count.toNat : Int)]) S29 rfl rfl rfl rfl) ?_
  refine JL.val rfl rfl (R.move rfl) ?_
  refine JL.val rfl rfl (R.move rfl) ?_
  obtain ⟨x_11, hr_12, hx⟩ := bnd_some hx
  refine JL.callC (vs := [_, _, _, _, _]) (args := [_, _, _, _, _]) (K := []) (rst := [_, _, _]) E14 rfl rfl rfl picks0 (store_Raw_ok p_1 p_5 (0 : UInt32) (0 : UInt32) p_6 _ ha_2 ha_3 ha_4 ha_7 _ hr_12) rfl (fun u_13 Ku_13 Hu_13 hRu_13 hleu_13 hfu_13 => ?_)
  obtain ⟨aoz_14, nz_14, capz_14, aor_15, nr_15, capr_15, Kr_15, aor_16, nr_16, capr_16, Kr_16, rfl, rfl, hz_14, hr_15, hnewr_15, hr_16, hnewr_16, -⟩ := hRu_13
  replace hr_15 := (RowOf.base (RowOf.mono R_Write.mono (New.call (Hle.refl _)) hr_15) (fun p hp => (hfu_13 p (mem_seg 0 rfl hp)).resolve_left (hnewr_15 p hp)))
  replace hr_16 := (RowOf.base (RowOf.const (H2 := New H Hu_13) RU8.const hr_16) (fun p hp => (hfu_13 p (mem_seg 1 rfl hp)).resolve_left (hnewr_16 p hp)))
  replace hz_14 := IsSlice.mono (RSl.mono RU8.mono) (New.call (Hle.refl _)) hz_14
  refine JL.val rfl rfl (R.extract rfl rfl) ?_
  refine JL.val rfl rfl (R.extract rfl rfl) ?_
  refine JL.val rfl rfl (R.extract rfl rfl) ?_
  refine JL.store 3 S29 rfl rfl rfl rfl rfl (Nat.le_of_ble_eq_true rfl) ?_
  refine JL.store 2 S33 rfl rfl rfl rfl rfl (Nat.le_of_ble_eq_true rfl) ?_
  refine JL.val rfl rfl (R.assign rfl) ?_
  refine JL.nil ?_
  refine JN.next ?_
  refine JC.ret ?_
  refine JN.outP (vs := [.agg #[.slice aoz_14 nz_14 capz_14, .slice aor_15 nr_15 capr_15, .slice aor_16 nr_16 capr_16, .int .u32 (x_11.1.Epoch.toNat : Int), .int .u32 (x_11.1.Count.toNat : Int)], .agg #[.int .i64 x_11.2.1.At, .int .u32 (x_11.2.1.Birth.toNat : Int), .int .u32 (x_11.2.1.Iv.toNat : Int), .int .u32 (x_11.2.1.Tag.toNat : Int), .int .u32 (x_11.2.1.Sum.toNat : Int)], .int .i64 x_11.2.2]) (K := [_, _]) (rst := [_, _, _]) (.inl rfl) rfl rfl (Res.cellN 3 rfl rfl S29 (Res.cellN 2 rfl rfl S33 (Res.tmp rfl rfl))) (picks 0 rfl (picks 0 rfl picks0)) ?_
  obtain rfl := Option.some.inj hx
  exact ⟨aoz_14, nz_14, capz_14, aor_15, nr_15, capr_15, Kr_15, aor_16, nr_16, capr_16, Kr_16, rfl, rfl, hz_14, (RowOf.weak (Nat.zero_le _) hr_15), (new_ids hr_15 hlt), (RowOf.weak (Nat.zero_le _) hr_16), (new_ids hr_16 hlt), trivial⟩
end Go.Proofs.Ytdelcjkjkhcaoaa
