/- walks: what the code computes, function by function. -/
import Derived.Test.YtdelcjkjkhcaoaaW2p0
namespace Go.Proofs.Ytdelcjkjkhcaoaa
open Go.Ow Go.RowKit Go.Proofs
set_option linter.unusedVariables false
set_option linter.unusedSimpArgs false
set_option maxHeartbeats 8000000 in
theorem cipher_Stream_ok (p_1 : List UInt8) (p_3 : UInt32) (p_4 : Int) (H : Heaplet) {aoa_2 : Option Addr} {na_2 : Nat} {capa_2 : Nat} (ha_2 : IsSlice H RU8 1 (.slice aoa_2 na_2 capa_2) p_1) (r : List UInt8 × Int) (hx : cipher_Stream p_1 p_3 p_4 = some r) :
    Does Try.prog 97 #[.slice aoa_2 na_2 capa_2, .int .u32 (p_3.toNat : Int), .int .i64 p_4] [] H (fun u K' H' => ∃ ao0 : Option Addr, ∃ n0 : Nat, ∃ cap0 : Nat, ∃ K0 : Own, u = .tuple #[.slice ao0 n0 cap0, .int .i64 r.2] ∧ K' = [K0] ∧ RowOf (New H H') RU8 0 5 1 (.slice ao0 n0 cap0) r.1 K0 ∧ (∀ p ∈ K0, p.1 ∉ ids (List.flatten [])) ∧ True) := by
  refine Does.enterML (vs := [.slice aoa_2 na_2 capa_2, .int .u32 (p_3.toNat : Int), .int .i64 p_4]) (l := [(0, .slice aoa_2 na_2 capa_2), (1, .int .u32 (p_3.toNat : Int)), (2, .int .i64 p_4)]) Try.func97 rfl rfl ⟨rfl, rfl, rfl, trivial⟩ (fun w hlt => ?_)
  unfold cipher_Stream at hx
  refine JC.seq ?_
  refine JC.region ?_
  refine JL.box rfl rfl (fun b_5 hb_5 => ?_)
  refine JL.val rfl rfl (R.assign rfl) ?_
  refine JL.val rfl rfl (R.assign rfl) ?_
  refine JL.nil ?_
  refine JN.next ?_
  refine JC.seq ?_
  refine JC.seq ?_
  refine JC.region ?_
  refine JL.val rfl rfl (R.move rfl) ?_
  refine JL.val rfl rfl (R.lenL U26 rfl (IsSlice.long ha_2)) ?_
  refine JL.val rfl rfl (R.neq_i rfl rfl) ?_
  refine JL.val rfl rfl (R.move rfl) ?_
  refine JL.gSplit (t := 13) rfl (fun c_6 => ?_) (fun c_6 => ?_)
  · replace hx := cond_t c_6 hx
    refine JL.gNo rfl rfl rfl rfl rfl ?_
    refine JL.gNo rfl rfl rfl rfl rfl ?_
    refine JL.val rfl rfl (R.pickT rfl rfl) ?_
    refine JL.val rfl rfl (R.move rfl) ?_
    refine JL.gNo rfl rfl rfl rfl rfl ?_
    refine JL.gNo rfl rfl rfl rfl rfl ?_
    refine JL.val rfl rfl (R.pickT rfl rfl) ?_
    refine JL.nil ?_
    refine JN.next ?_
    refine JC.condT rfl ?_
    refine JC.seq ?_
    refine JC.region ?_
    refine JL.val rfl rfl (R.assign rfl) ?_
    refine JL.val rfl rfl (R.assign rfl) ?_
    refine JL.nil ?_
    refine JN.next ?_
    refine JC.ret ?_
    refine JN.passR ?_
    refine JN.seg0 ?_
    refine JN.outMP (vs := [.slice none 0 0, .int .i64 2]) (K := [_]) (rst := [_]) (own2 := [_, _]) [] (.inl rfl) ⟨rfl, rfl, rfl, rfl⟩ rfl rfl picks0 (Res.tmp rfl (Res.tmp rfl rfl)) (picks 0 rfl picks0) ?_
    obtain rfl := Option.some.inj hx
    exact ⟨none, 0, 0, [], rfl, rfl, (RowOf.nil _ _ _ _ _), (fun p hp => by cases hp), trivial⟩
  · replace hx := cond_f c_6 hx
    refine JL.gYes rfl rfl rfl ?_
    refine JL.val rfl rfl (R.ldo 0 S3 rfl rfl rfl) ?_
    refine JL.gYes rfl rfl rfl ?_
    refine JL.val rfl rfl (R.lss_i rfl rfl) ?_
    refine JL.val rfl rfl (R.pickF rfl rfl) ?_
    refine JL.val rfl rfl (R.move rfl) ?_
    refine JL.gSplit (t := 17) rfl (fun c_7 => ?_) (fun c_7 => ?_)
    · replace hx := cond_t c_7 hx
      refine JL.gNo rfl rfl rfl rfl rfl ?_
      refine JL.gNo rfl rfl rfl rfl rfl ?_
      refine JL.val rfl rfl (R.pickT rfl rfl) ?_
      refine JL.nil ?_
      refine JN.next ?_
      refine JC.condT rfl ?_
      refine JC.seq ?_
      refine JC.region ?_
      refine JL.val rfl rfl (R.assign rfl) ?_
      refine JL.val rfl rfl (R.assign rfl) ?_
      refine JL.nil ?_
      refine JN.next ?_
      refine JC.ret ?_
      refine JN.passR ?_
      refine JN.seg0 ?_
      refine JN.outMP (vs := [.slice none 0 0, .int .i64 2]) (K := [_]) (rst := [_]) (own2 := [_, _]) [] (.inl rfl) ⟨rfl, rfl, rfl, rfl⟩ rfl rfl picks0 (Res.tmp rfl (Res.tmp rfl rfl)) (picks 0 rfl picks0) ?_
      obtain rfl := Option.some.inj hx
      exact ⟨none, 0, 0, [], rfl, rfl, (RowOf.nil _ _ _ _ _), (fun p hp => by cases hp), trivial⟩
    · replace hx := cond_f c_7 hx
      refine JL.gYes rfl rfl rfl ?_
      refine JL.val rfl rfl (R.ldo 0 S3 rfl rfl rfl) ?_
      refine JL.gYes rfl rfl rfl ?_
      refine JL.val rfl rfl (R.gtr_i rfl rfl) ?_
      refine JL.val rfl rfl (R.pickF rfl rfl) ?_
      refine JL.nil ?_
      refine JN.next ?_
      refine JC.condB rfl (fun c_8 => ?_) (fun c_8 => ?_)
      · replace hx := cond_t c_8 hx
        refine JC.seq ?_
        refine JC.region ?_
        refine JL.val rfl rfl (R.assign rfl) ?_
        refine JL.val rfl rfl (R.assign rfl) ?_
        refine JL.nil ?_
        refine JN.next ?_
        refine JC.ret ?_
        refine JN.passR ?_
        refine JN.seg0 ?_
        refine JN.outMP (vs := [.slice none 0 0, .int .i64 2]) (K := [_]) (rst := [_]) (own2 := [_, _]) [] (.inl rfl) ⟨rfl, rfl, rfl, rfl⟩ rfl rfl picks0 (Res.tmp rfl (Res.tmp rfl rfl)) (picks 0 rfl picks0) ?_
        obtain rfl := Option.some.inj hx
        exact ⟨none, 0, 0, [], rfl, rfl, (RowOf.nil _ _ _ _ _), (fun p hp => by cases hp), trivial⟩
      · replace hx := cond_f c_8 hx
        refine JC.skip ?_
        refine JN.next ?_
        refine JC.seq ?_
        refine JC.region ?_
        refine JL.alloc Z26 rfl (fun b_9 hb_9 => ?_)
        refine JL.nil ?_
        refine JN.next ?_
        refine JC.seq ?_
        refine JC.seq ?_
        refine JC.region ?_
        refine JL.val rfl rfl (R.move rfl) ?_
        refine JL.val rfl rfl (R.move rfl) ?_
        obtain ⟨x_10, hr_11, hx⟩ := bnd_some hx
        refine JL.callC (vs := [_, _]) (args := [_, _]) (K := []) (rst := [_, _]) E117 rfl rfl rfl picks0 (cipher_pieces_ok p_1 p_3 _ ha_2 _ hr_11) rfl (fun u_12 Ku_12 Hu_12 hRu_12 hleu_12 hfu_12 => ?_)
        obtain ⟨b_13, aoz_14, nz_14, capz_14, b_15, aor_16, nr_16, capr_16, Kr_16, rfl, rfl, rfl, hz_14, hr_16, hnewr_16, -⟩ := hRu_12
        have hb_13 := (hfu_12 _ (mem_seg 0 rfl (List.mem_singleton.2 rfl))).resolve_left (fun h => by cases h)
        have hb_15 := (hfu_12 _ (mem_seg 1 rfl (List.mem_singleton.2 rfl))).resolve_left (fun h => by cases h)
        replace hr_16 := (RowOf.base (RowOf.const (H2 := New H H) RU8.const hr_16) (fun p hp => (hfu_12 p (mem_seg 2 rfl hp)).resolve_left (hnewr_16 p hp)))
        refine JL.nil ?_
        refine JN.next ?_
        obtain ⟨t_17, ht_19, hx⟩ := bnd_some hx
        refine JC.cutD (fun ds l o g => ∃ H_41 : Heaplet, ∃ D_42 : Nat, ∃ aor_43 : Option Addr, ∃ nr_43 : Nat, ∃ capr_43 : Nat, ∃ Kr_43 : Own, ds = [Go.Ow.mark D_42] ∧ l = [(5, .pointer (some ⟨b_5, 0, none⟩)), (8, .pointer (some ⟨b_9, 0, none⟩))] ∧ o = [[(D_42, Obj.deferred (some []))], [(b_5, .cells #[.int .i64 p_4] 3 (0, 0))], [(b_9, .cells #[.slice aor_43 nr_43 capr_43] 26 (0, 0))], Kr_43] ∧ H_41 = g ∧ Hle H H_41 ∧ RowOf (New H H_41) RU8 w.heap.size 5 1 (.slice aor_43 nr_43 capr_43) t_17 Kr_43) ?_ ?_
        · rintro _ _ _ _ ⟨H_41, D_42, aor_43, nr_43, capr_43, Kr_43, rfl, rfl, rfl, rfl, hleH_41, hr_43⟩
          refine JN.next ?_
          refine JC.seq ?_
          refine JC.region ?_
          refine JL.val rfl rfl (R.ldo 2 S26 rfl rfl rfl) ?_
          refine JL.val rfl rfl (R.ldo 1 S3 rfl rfl rfl) ?_
          refine JL.pubN 3 RU8.mono rfl hr_43 (Nat.le_refl _) (fun H_44 hleH_44 hsH_44 => ?_)
          refine JL.forget 3 ?_
          obtain ⟨m_45, hm_47, hb_46, hx⟩ := slc_some hx
          obtain ⟨vv_48, cv_48, h1v_48, h2v_48, h3v_48, hsv_48⟩ := IsSlice.cutv hsH_44 hm_47 hb_46
          refine JL.val rfl rfl (R.slc (cap := cv_48) (a := 0) (b := p_4) (c := (cv_48 : Int)) (m := t_17) (R := RU8) U26 S5 rfl rfl ⟨_, rfl⟩ (by obtain ⟨ao, n, e, _⟩ := h1v_48; exact ⟨ao, n, e, rfl⟩) ⟨hb_46.1, hb_46.2.1, h2v_48⟩ h3v_48 (.inl rfl)) ?_
          obtain ⟨aov_48, capv_48, rfl⟩ := IsSlice.val hsv_48
          obtain ⟨x_49, hr_50, hx⟩ := bnd_some hx
          refine JL.callC (vs := [_]) (args := [_]) (K := []) (rst := [_, _, _]) E71 rfl rfl rfl picks0 (slices_Clone_byte_ok m_45 _ (hsv_48.old RU8.mono) _ hr_50) rfl (fun u_51 Ku_51 Hu_51 hRu_51 hleu_51 hfu_51 => ?_)
          obtain ⟨aor_52, nr_52, capr_52, Kr_52, rfl, rfl, rfl, hr_52, hnewr_52, -⟩ := hRu_51
          replace hr_52 := (RowOf.base (RowOf.const (H2 := New H H_44) RU8.const hr_52) (fun p hp => (hfu_51 p (mem_seg 0 rfl hp)).resolve_left (hnewr_52 p hp)))
          refine JL.val rfl rfl (R.assign rfl) ?_
          refine JL.val rfl rfl (R.assign rfl) ?_
          refine JL.nil ?_
          refine JN.next ?_
          refine JC.ret ?_
          refine JN.outMP (vs := [.slice aor_52 nr_52 capr_52, .int .i64 0]) (K := [_]) (rst := [_, _]) (own2 := [_, _, _]) [D_42] (.inl rfl) ⟨rfl, rfl, rfl, rfl⟩ rfl rfl (picks 1 rfl picks0) (Res.tmp rfl (Res.tmp rfl rfl)) (picks 0 rfl picks0) ?_
          obtain rfl := Option.some.inj hx
          exact ⟨aor_52, nr_52, capr_52, Kr_52, rfl, rfl, (RowOf.weak (Nat.zero_le _) hr_52), (new_ids hr_52 hlt), trivial⟩
        · have hxo_18 := hx; clear hx; have hx := ht_19; clear ht_19
          refine JC.block ?_
          refine JC.pubN 2 RU8.mono rfl hr_16 (Nat.le_refl _) (fun H_20 hleH_20 hsH_20 => ?_)
          refine JC.forget 2 ?_
          refine JC.seg0 ?_
          refine JC.front 3 rfl ?_
          refine JC.front 4 rfl ?_
          refine JC.front 4 rfl ?_
          refine JC.front 4 rfl ?_
          obtain ⟨t_21, ht_23, hx⟩ := bnd_some hx
          refine JC.rangeG (RA := (fun (H : Heaplet) (args : Array Value) (y : List UInt8) => ∃ v0 : Value, args = #[v0] ∧ IsSlice H RU8 1 v0 y)) rfl (cipher_Stream_r1 p_4) ([] : List UInt8) t_21 (fun s_24 o g => ∃ H_34 : Heaplet, ∃ aor_35 : Option Addr, ∃ nr_35 : Nat, ∃ capr_35 : Nat, ∃ Kr_35 : Own, o = [[(b_5, .cells #[.int .i64 p_4] 3 (0, 0))], [(b_9, .cells #[.slice aor_35 nr_35 capr_35] 26 (0, 0))], Kr_35] ∧ H_34 = g ∧ Hle H_20 H_34 ∧ RowOf (New H H_34) RU8 w.heap.size 5 1 (.slice aor_35 nr_35 capr_35) s_24 Kr_35) (fun e c o g => (c = .exit 0 ∧ ∃ t_21e0 : List UInt8, e = t_21e0 ∧ ∃ H_36 : Heaplet, ∃ aor_37 : Option Addr, ∃ nr_37 : Nat, ∃ capr_37 : Nat, ∃ Kr_37 : Own, o = [[(b_5, .cells #[.int .i64 p_4] 3 (0, 0))], [(b_9, .cells #[.slice aor_37 nr_37 capr_37] 26 (0, 0))], Kr_37] ∧ H_36 = g ∧ Hle H_20 H_36 ∧ RowOf (New H H_36) RU8 w.heap.size 5 1 (.slice aor_37 nr_37 capr_37) t_21e0 Kr_37)) (fun mm g => mm = [[(b_13, .cells #[.slice aoz_14 nz_14 capz_14] 26 (0, 0))], [(b_15, .cells #[.slice aor_16 nr_16 capr_16] 26 (0, 0))]]) [_, _] [_, _, _] rfl E128 rfl (fun lr' I' X' O' hY' hI' => Does.mono (cipher_pieces_1_ok (cipher_Stream_r1 p_4) ([] : List UInt8) x_10.1 x_10.2 _ hY' hI' (hz_14.mono RU8.mono hleH_20) (hsH_20.old RU8.mono) _ ht_23) (fun u K' H' h => by obtain ⟨Oo, -, hK, hIX, -⟩ := h; exact ⟨_, _, hK, rfl, hIX⟩)) (fun _ _ _ h => by obtain ⟨_, rfl, _⟩ := h; first | rfl | (subst h; rfl)) rfl ⟨H_20, none, 0, 0, [], rfl, rfl, (Hle.refl _), (RowOf.nil _ _ _ _ _)⟩ ?_ ?_ ?_
          · rintro lr_26 y_25 s_24 args o g H_30 out_28 hleH_30 ⟨H_34, aor_35, nr_35, capr_35, Kr_35, rfl, rfl, hleH_34, hr_35⟩ hA hx2
            clear hx; have hx := hx2; clear hx2; unfold cipher_Stream_r1 at hx
            obtain ⟨vy_25_0, rfl, hsy_25_0⟩ := hA
            obtain ⟨aoy_25_0, capy_25_0, rfl⟩ := IsSlice.val hsy_25_0
            refine ⟨[(5, .pointer (some ⟨b_5, 0, none⟩)), (8, .pointer (some ⟨b_9, 0, none⟩)), (9, .slice aoy_25_0 y_25.length capy_25_0)], fun wb_27 hwb_27 => ?_, fun wb_27 hwb_27 => ?_⟩
            · refine JC.region ?_
              refine JL.val rfl rfl (R.assign rfl) ?_
              refine JL.nil ?_
              exact JN.assigned ⟨rfl, rfl, rfl, trivial⟩
            · refine JC.block ?_
              refine JC.seq ?_
              refine JC.seq ?_
              refine JC.region ?_
              refine JL.val rfl rfl (R.ldo 1 S26 rfl rfl rfl) ?_
              refine JL.val rfl rfl (R.lenL U26 rfl (RowOf.long hr_35)) ?_
              refine JL.val rfl rfl (R.ldo 0 S3 rfl rfl rfl) ?_
              refine JL.val rfl rfl (R.geq_i rfl rfl) ?_
              refine JL.nil ?_
              refine JN.next ?_
              refine JC.condB rfl (fun c_36 => ?_) (fun c_36 => ?_)
              · replace hx := cond_t c_36 hx
                refine JC.exit ?_
                refine JN.passX ?_
                refine JN.exitOther rfl ?_
                obtain rfl := Option.some.inj hx
                refine JN.front 2 rfl ?_
                refine JN.front 2 rfl ?_
                refine JN.front 2 rfl ?_
                exact JN.rX ⟨rfl, s_24, rfl, H_30, aor_35, nr_35, capr_35, Kr_35, rfl, rfl, ((hleH_34.trans hleH_30)), (hr_35.mono RU8.mono (New.mono hleH_30))⟩
              · replace hx := cond_f c_36 hx
                refine JC.skip ?_
                refine JN.next ?_
                refine JC.region ?_
                refine JL.val rfl rfl (R.ldo 1 S26 rfl rfl rfl) ?_
                refine JL.val rfl rfl (R.move rfl) ?_
                obtain ⟨q_37, hm_38, hl_39, hx⟩ := app_some hx
                refine JL.appF (HF := (New H H_30)) 2 U26 I5 rfl rfl (hr_35.mono RU8.mono (New.mono hleH_30)) rfl (SrcF.sliceC RU8.const RU8.one U26 hsy_25_0) hm_38 hl_39 rfl hwb_27 rfl (fun vr_40 Kr_40 hr_40 => ?_)
                obtain ⟨aor_40, capr_40, rfl⟩ := RowOf.val hr_40
                refine JL.store 1 S26 rfl rfl rfl rfl rfl (Nat.le_of_ble_eq_true rfl) ?_
                refine JL.nil ?_
                refine JN.blkN ?_
                obtain rfl := Option.some.inj hx
                refine JN.front 2 rfl ?_
                refine JN.front 2 rfl ?_
                refine JN.front 2 rfl ?_
                exact JN.rN ⟨H_30, aor_40, q_37.length, capr_40, Kr_40, rfl, rfl, ((hleH_34.trans hleH_30)), hr_40⟩
          · rintro D_29 s_24 m_31 o g H_30 hD_29 htt_32 hM_33 hleH_30 ⟨H_34, aor_35, nr_35, capr_35, Kr_35, rfl, rfl, hleH_34, hr_35⟩ hle2
            obtain rfl := hM_33
            rw [htt_32] at hx; simp only [Sum.elim_inl] at hx
            refine JN.blkN ?_
            obtain rfl := Option.some.inj hx
            refine JN.forget 2 ?_
            refine JN.forget 1 ?_
            refine JN.front 3 rfl ?_
            refine JN.front 3 rfl ?_
            refine JN.front 3 rfl ?_
            refine JN.front 3 rfl ?_
            exact JN.cutD ⟨H_30, D_29, aor_35, nr_35, capr_35, Kr_35, rfl, rfl, rfl, rfl, ((hleH_20.trans (hleH_34.trans hleH_30))), (hr_35.mono RU8.mono (New.mono hleH_30))⟩ rfl ⟨rfl, rfl, trivial⟩ rfl rfl
          · rintro D_29 c e m_31 o g H_30 hD_29 htt_32 hM_33 hleH_30 hX hle2
            obtain rfl := hM_33
            rcases hX with ⟨rfl, t_21e0, rfl, H_36, aor_37, nr_37, capr_37, Kr_37, rfl, rfl, hleH_36, hr_37⟩
            rw [htt_32] at hx; simp only [Sum.elim_inl, Sum.elim_inr] at hx
            refine JC.exit ?_
            refine JN.exitSame ?_
            obtain rfl := Option.some.inj hx
            refine JN.forget 2 ?_
            refine JN.forget 1 ?_
            refine JN.front 3 rfl ?_
            refine JN.front 3 rfl ?_
            refine JN.front 3 rfl ?_
            refine JN.front 3 rfl ?_
            exact JN.cutD ⟨H_30, D_29, aor_37, nr_37, capr_37, Kr_37, rfl, rfl, rfl, rfl, ((hleH_20.trans (hleH_36.trans hleH_30))), (hr_37.mono RU8.mono (New.mono hleH_30))⟩ rfl ⟨rfl, rfl, trivial⟩ rfl rfl

set_option maxHeartbeats 8000000 in
theorem cipher_Turn_ok (p_1 : List UInt8) (p_3 : UInt32) (p_4 : List UInt8) (H : Heaplet) {aoa_2 : Option Addr} {na_2 : Nat} {capa_2 : Nat} {aoa_5 : Option Addr} {na_5 : Nat} {capa_5 : Nat} (ha_2 : IsSlice H RU8 1 (.slice aoa_2 na_2 capa_2) p_1) (ha_5 : IsSlice H RU8 1 (.slice aoa_5 na_5 capa_5) p_4) (r : List UInt8 × Int) (hx : cipher_Turn p_1 p_3 p_4 = some r) :
    Does Try.prog 78 #[.slice aoa_2 na_2 capa_2, .int .u32 (p_3.toNat : Int), .slice aoa_5 na_5 capa_5] [] H (fun u K' H' => ∃ ao0 : Option Addr, ∃ n0 : Nat, ∃ cap0 : Nat, ∃ K0 : Own, u = .tuple #[.slice ao0 n0 cap0, .int .i64 r.2] ∧ K' = [K0] ∧ RowOf (New H H') RU8 0 5 1 (.slice ao0 n0 cap0) r.1 K0 ∧ (∀ p ∈ K0, p.1 ∉ ids (List.flatten [])) ∧ True) := by
  refine Does.enterL (vs := [.slice aoa_2 na_2 capa_2, .int .u32 (p_3.toNat : Int), .slice aoa_5 na_5 capa_5]) (l := [(0, .slice aoa_2 na_2 capa_2), (1, .int .u32 (p_3.toNat : Int)), (2, .slice aoa_5 na_5 capa_5)]) Try.func78 rfl rfl ⟨rfl, rfl, rfl, trivial⟩ (fun w hlt => ?_)
  unfold cipher_Turn at hx
  refine JC.seq ?_
  refine JC.region ?_
  refine JL.val rfl rfl (R.assign rfl) ?_
  refine JL.val rfl rfl (R.assign rfl) ?_
  refine JL.nil ?_
  refine JN.next ?_
  refine JC.seq ?_
  refine JC.block ?_
  refine JC.seq ?_
  refine JC.region ?_
  refine JL.val rfl rfl (R.move rfl) ?_
  refine JL.val rfl rfl (R.lenL U26 rfl (IsSlice.long ha_2)) ?_
  refine JL.val rfl rfl (R.neq_i rfl rfl) ?_
  refine JL.val rfl rfl (R.assign rfl) ?_
  refine JL.nil ?_
  refine JN.next ?_
  refine JC.condB rfl (fun c_6 => ?_) (fun c_6 => ?_)
  · replace hx := cond_t c_6 hx
    refine JC.seq ?_
    refine JC.region ?_
    refine JL.val rfl rfl (R.assign rfl) ?_
    refine JL.val rfl rfl (R.assign rfl) ?_
    refine JL.nil ?_
    refine JN.next ?_
    refine JC.ret ?_
    refine JN.blkR ?_
    refine JN.passR ?_
    refine JN.seg0 ?_
    refine JN.outP (vs := [.slice none 0 0, .int .i64 2]) (K := [_]) (rst := []) (.inl rfl) rfl rfl (Res.tmp rfl (Res.tmp rfl rfl)) (picks 0 rfl picks0) ?_
    obtain rfl := Option.some.inj hx
    exact ⟨none, 0, 0, [], rfl, rfl, (RowOf.nil _ _ _ _ _), (fun p hp => by cases hp), trivial⟩
  · replace hx := cond_f c_6 hx
    refine JC.seq ?_
    refine JC.region ?_
    refine JL.val rfl rfl (R.move rfl) ?_
    refine JL.val rfl rfl (R.lenL U26 rfl (IsSlice.long ha_5)) ?_
    refine JL.val rfl rfl (R.gtr_i rfl rfl) ?_
    refine JL.val rfl rfl (R.assign rfl) ?_
    refine JL.nil ?_
    refine JN.next ?_
    refine JC.condB rfl (fun c_7 => ?_) (fun c_7 => ?_)
    · replace hx := cond_t c_7 hx
      refine JC.seq ?_
      refine JC.region ?_
      refine JL.val rfl rfl (R.assign rfl) ?_
      refine JL.val rfl rfl (R.assign rfl) ?_
      refine JL.nil ?_
      refine JN.next ?_
      refine JC.ret ?_
      refine JN.blkR ?_
      refine JN.passR ?_
      refine JN.seg0 ?_
      refine JN.outP (vs := [.slice none 0 0, .int .i64 3]) (K := [_]) (rst := []) (.inl rfl) rfl rfl (Res.tmp rfl (Res.tmp rfl rfl)) (picks 0 rfl picks0) ?_
      obtain rfl := Option.some.inj hx
      exact ⟨none, 0, 0, [], rfl, rfl, (RowOf.nil _ _ _ _ _), (fun p hp => by cases hp), trivial⟩
    · replace hx := cond_f c_7 hx
      refine JC.skip ?_
      refine JN.blkN ?_
      refine JN.next ?_
      refine JC.seq ?_
      refine JC.region ?_
      refine JL.val rfl rfl (R.move rfl) ?_
      refine JL.val rfl rfl (R.move rfl) ?_
      refine JL.val rfl rfl (R.move rfl) ?_
      refine JL.val rfl rfl (R.lenL U26 rfl (IsSlice.long ha_5)) ?_
      obtain ⟨x_8, hr_9, hx⟩ := bnd_some hx
      refine JL.callC (vs := [_, _, _]) (args := [_, _, _]) (K := []) (rst := []) E97 rfl rfl rfl picks0 (cipher_Stream_ok p_1 p_3 (p_4.length : Int) _ ha_2 _ hr_9) rfl (fun u_10 Ku_10 Hu_10 hRu_10 hleu_10 hfu_10 => ?_)
      obtain ⟨aor_11, nr_11, capr_11, Kr_11, rfl, rfl, hr_11, hnewr_11, -⟩ := hRu_10
      replace hr_11 := (RowOf.base (RowOf.const (H2 := New H Hu_10) RU8.const hr_11) (fun p hp => (hfu_10 p (mem_seg 0 rfl hp)).resolve_left (hnewr_11 p hp)))
      refine JL.val rfl rfl (R.move rfl) ?_
      refine JL.val rfl rfl (R.extract rfl rfl) ?_
      refine JL.val rfl rfl (R.extract rfl rfl) ?_
      refine JL.val rfl rfl (R.assign rfl) ?_
      refine JL.val rfl rfl (R.assign rfl) ?_
      refine JL.nil ?_
      refine JN.next ?_
      refine JC.seq ?_
      refine JC.seq ?_
      refine JC.region ?_
      refine JL.val rfl rfl (R.move rfl) ?_
      refine JL.val rfl rfl (R.lenL U26 rfl (IsSlice.long ha_5)) ?_
      refine JL.val rfl rfl (R.move rfl) ?_
      refine JL.nil ?_
      refine JN.next ?_
      obtain ⟨t_12, ht_14, hx⟩ := bnd_some hx
      refine JC.cut (fun l o g => ∃ Kr_19 : Own, l = [(8, .slice aor_11 nr_11 capr_11), (9, .int .i64 x_8.2)] ∧ o = [Kr_19] ∧ Hu_10 = g ∧ RowOf (New H Hu_10) RU8 w.heap.size 5 1 (.slice aor_11 nr_11 capr_11) t_12 Kr_19) ?_ ?_
      · rintro _ _ _ ⟨Kr_19, rfl, rfl, rfl, hr_19⟩
        refine JN.next ?_
        refine JC.seq ?_
        refine JC.region ?_
        refine JL.val rfl rfl (R.move rfl) ?_
        refine JL.val rfl rfl (R.move rfl) ?_
        refine JL.val rfl rfl (R.assign rfl) ?_
        refine JL.val rfl rfl (R.assign rfl) ?_
        refine JL.nil ?_
        refine JN.next ?_
        refine JC.ret ?_
        refine JN.outP (vs := [.slice aor_11 nr_11 capr_11, .int .i64 x_8.2]) (K := [_]) (rst := []) (.inl rfl) rfl rfl (Res.tmp rfl (Res.tmp rfl rfl)) (picks 0 rfl picks0) ?_
        obtain rfl := Option.some.inj hx
        exact ⟨aor_11, nr_11, capr_11, Kr_19, rfl, rfl, (RowOf.weak (Nat.zero_le _) hr_19), (new_ids hr_19 hlt), trivial⟩
      · have hxo_13 := hx; clear hx; have hx := ht_14; clear ht_14
        refine JC.block ?_
        refine JC.loopI (fun n l o g => ∃ s_15 : List UInt8 × Nat, ∃ Kr_18 : Own, l = [(8, .slice aor_11 nr_11 capr_11), (9, .int .i64 x_8.2), (28, .slice aoa_5 na_5 capa_5), (29, .int .i64 (p_4.length : Int)), (30, .int .i64 ((s_15.2 : Nat) : Int))] ∧ o = [Kr_18] ∧ Hu_10 = g ∧ run (cipher_Turn_l1 p_4) n s_15 = some t_12 ∧ RowOf (New H Hu_10) RU8 w.heap.size 5 1 (.slice aor_11 nr_11 capr_11) s_15.1 Kr_18) FUEL ?_ ⟨(x_8.1, 0), Kr_11, rfl, rfl, rfl, hx, hr_11⟩ ⟨rfl, rfl, rfl, rfl, rfl, trivial⟩ ?_
        · rintro _ _ _ ⟨s_15, Kr_18, rfl, rfl, rfl, hn_16, hr_18⟩
          exact run_zero hn_16
        · rintro n_17 _ _ _ ⟨s_15, Kr_18, rfl, rfl, rfl, hn_16, hr_18⟩
          clear hx; obtain ⟨oo_20, hx, hd_19⟩ := run_some hn_16
          unfold cipher_Turn_l1 at hx
          refine JC.seq ?_
          refine JC.region ?_
          refine JL.val rfl rfl (R.lss_i rfl rfl) ?_
          refine JL.nil ?_
          refine JN.next ?_
          refine JC.seq ?_
          refine JC.condB rfl (fun c_19 => ?_) (fun c_19 => ?_)
          · replace hx := cond_t c_19 hx
            refine JC.skip ?_
            refine JN.next ?_
            refine JC.seq ?_
            refine JC.block ?_
            refine JC.seq ?_
            refine JC.region ?_
            refine JL.val rfl rfl (R.move rfl) ?_
            obtain ⟨y_20, hN_21, hx⟩ := idx_some hx
            obtain ⟨b_22, o_23, cs_24, hE_25, hR_26, hl_27, hc_28⟩ := IsSlice.elem (ha_5.mono RU8.mono hleu_10) hN_21
            obtain rfl := hR_26
            refine JL.val rfl rfl (R.ix U26 S5 rfl rfl hE_25) ?_
            refine JL.val rfl rfl (R.ldH S5 rfl (hc_28 0 _ rfl)) ?_
            refine JL.val rfl rfl (R.assign rfl) ?_
            refine JL.val rfl rfl (R.assign rfl) ?_
            refine JL.nil ?_
            refine JN.next ?_
            refine JC.region ?_
            refine JL.val rfl rfl (R.move rfl) ?_
            refine JL.val rfl rfl (R.move rfl) ?_
            obtain ⟨y_29, hN_30, hx⟩ := idx_some hx
            obtain ⟨b_31, o_32, cs_33, cur_38, hK_39, hE_34, hR_35, hl_36, hc_37⟩ := RowOf.elem hr_18 hN_30
            subst hK_39
            obtain rfl := hR_35
            refine JL.val rfl rfl (R.ix U26 S5 rfl rfl hE_34) ?_
            refine JL.val rfl rfl (R.ldo 0 S5 rfl rfl (hc_37 0 _ rfl)) ?_
            refine JL.val rfl rfl (R.move rfl) ?_
            refine JL.val rfl rfl (R.xor8 (a := y_29) (b := y_20) rfl rfl) ?_
            obtain ⟨hp_40, hx⟩ := chk_some hx
            obtain ⟨b_41, o_42, hE_43⟩ := RowOf.place hr_18 hp_40
            refine JL.val rfl rfl (R.ix U26 S5 rfl rfl hE_43) ?_
            obtain ⟨m_44, hm_45, hi_46, hx⟩ := setI_some hx
            refine JL.stE 0 (k := ((s_15.2 : Nat) : Int)) (y := (y_29 ^^^ y_20)) S5 rfl hr_18 rfl hE_43 rfl rfl (rfl) RU8.one hm_45 (fun Kr_47 hr_47 hlr_47 => ?_)
            refine JL.nil ?_
            refine JN.blkN ?_
            refine JN.next ?_
            refine JC.region ?_
            refine JL.val rfl rfl (R.inc rfl rfl (of_decide_eq_true c_19) (IsSlice.lenI ha_5)) ?_
            refine JL.val rfl rfl (R.move rfl) ?_
            refine JL.nil ?_
            replace hx := run_next hd_19 hx
            exact JN.cut ⟨(m_44, s_15.2 + 1), Kr_47, rfl, rfl, rfl, hx, hr_47⟩ ⟨rfl, rfl, rfl, rfl, rfl, trivial⟩ rfl rfl
          · replace hx := cond_f c_19 hx
            refine JC.exit ?_
            refine JN.passX ?_
            obtain rfl := run_done hd_19 hx
            refine JN.passX ?_
            refine JN.exitSame ?_
            exact JN.cut ⟨Kr_18, rfl, rfl, rfl, hr_18⟩ ⟨rfl, rfl, trivial⟩ rfl rfl

set_option maxHeartbeats 8000000 in
theorem seal_turned_ok (p_1 : List UInt8) (p_3 : UInt32) (p_4 : List UInt8) (H : Heaplet) {aoa_2 : Option Addr} {na_2 : Nat} {capa_2 : Nat} {aoa_5 : Option Addr} {na_5 : Nat} {capa_5 : Nat} (ha_2 : IsSlice H RU8 1 (.slice aoa_2 na_2 capa_2) p_1) (ha_5 : IsSlice H RU8 1 (.slice aoa_5 na_5 capa_5) p_4) (r : List UInt8 × Int) (hx : seal_turned p_1 p_3 p_4 = some r) :
    Does Try.prog 51 #[.slice aoa_2 na_2 capa_2, .int .u32 (p_3.toNat : Int), .slice aoa_5 na_5 capa_5] [] H (fun u K' H' => ∃ ao0 : Option Addr, ∃ n0 : Nat, ∃ cap0 : Nat, ∃ K0 : Own, u = .tuple #[.slice ao0 n0 cap0, .int .i64 r.2] ∧ K' = [K0] ∧ RowOf (New H H') RU8 0 5 1 (.slice ao0 n0 cap0) r.1 K0 ∧ (∀ p ∈ K0, p.1 ∉ ids (List.flatten [])) ∧ True) := by
  refine Does.enterL (vs := [.slice aoa_2 na_2 capa_2, .int .u32 (p_3.toNat : Int), .slice aoa_5 na_5 capa_5]) (l := [(0, .slice aoa_2 na_2 capa_2), (1, .int .u32 (p_3.toNat : Int)), (2, .slice aoa_5 na_5 capa_5)]) Try.func51 rfl rfl ⟨rfl, rfl, rfl, trivial⟩ (fun w hlt => ?_)
  unfold seal_turned at hx
  refine JC.seq ?_
  refine JC.region ?_
  refine JL.val rfl rfl (R.assign rfl) ?_
  refine JL.val rfl rfl (R.assign rfl) ?_
  refine JL.nil ?_
  refine JN.next ?_
  refine JC.seq ?_
  obtain ⟨t_6, ht_8, hx⟩ := bnd_some hx
  refine JC.cut (fun l o g => ∃ t_6a : Unit, l = [(0, .slice aoa_2 na_2 capa_2), (1, .int .u32 (p_3.toNat : Int)), (2, .slice aoa_5 na_5 capa_5)] ∧ o = [] ∧ H = g ∧ t_6 = .inl t_6a) ?_ ?_
  · rintro _ _ _ ⟨t_6a, rfl, rfl, rfl, rfl⟩
    simp only [Sum.elim_inl] at hx
    refine JN.next ?_
    refine JC.seq ?_
    refine JC.region ?_
    refine JL.val rfl rfl (R.move rfl) ?_
    refine JL.val rfl rfl (R.move rfl) ?_
    refine JL.val rfl rfl (R.move rfl) ?_
    obtain ⟨x_11, hr_12, hx⟩ := bnd_some hx
    refine JL.callC (vs := [_, _, _]) (args := [_, _, _]) (K := []) (rst := []) E78 rfl rfl rfl picks0 (cipher_Turn_ok p_1 p_3 p_4 _ ha_2 ha_5 _ hr_12) rfl (fun u_13 Ku_13 Hu_13 hRu_13 hleu_13 hfu_13 => ?_)
    obtain ⟨aor_14, nr_14, capr_14, Kr_14, rfl, rfl, hr_14, hnewr_14, -⟩ := hRu_13
    replace hr_14 := (RowOf.base (RowOf.const (H2 := New H Hu_13) RU8.const hr_14) (fun p hp => (hfu_13 p (mem_seg 0 rfl hp)).resolve_left (hnewr_14 p hp)))
    refine JL.val rfl rfl (R.extract rfl rfl) ?_
    refine JL.val rfl rfl (R.extract rfl rfl) ?_
    refine JL.val rfl rfl (R.assign rfl) ?_
    refine JL.val rfl rfl (R.assign rfl) ?_
    refine JL.nil ?_
    refine JN.next ?_
    refine JC.ret ?_
    refine JN.outP (vs := [.slice aor_14 nr_14 capr_14, .int .i64 x_11.2]) (K := [_]) (rst := []) (.inl rfl) rfl rfl (Res.tmp rfl (Res.tmp rfl rfl)) (picks 0 rfl picks0) ?_
    obtain rfl := Option.some.inj hx
    exact ⟨aor_14, nr_14, capr_14, Kr_14, rfl, rfl, (RowOf.weak (Nat.zero_le _) hr_14), (new_ids hr_14 hlt), trivial⟩
  · have hxo_7 := hx; clear hx; have hx := ht_8; clear ht_8
    refine JC.seq ?_
    refine JC.region ?_
    refine JL.val rfl rfl (R.move rfl) ?_
    refine JL.val rfl rfl (R.lenL U26 rfl (IsSlice.long ha_2)) ?_
    refine JL.val rfl rfl (R.eql_i rfl rfl) ?_
    refine JL.val rfl rfl (R.move rfl) ?_
    refine JL.gSplit (t := 11) rfl (fun c_9 => ?_) (fun c_9 => ?_)
    · replace hx := cond_t c_9 hx
      refine JL.gYes rfl rfl rfl ?_
      refine JL.val rfl rfl (R.move rfl) ?_
      refine JL.gYes rfl rfl rfl ?_
      refine JL.val rfl rfl (R.lenL U26 rfl (IsSlice.long ha_5)) ?_
      refine JL.gYes rfl rfl rfl ?_
      refine JL.val rfl rfl (R.gtr_i rfl rfl) ?_
      refine JL.val rfl rfl (R.pickT rfl rfl) ?_
      refine JL.nil ?_
      refine JN.next ?_
      refine JC.condB rfl (fun c_10 => ?_) (fun c_10 => ?_)
      · replace hx := cond_t c_10 hx
        refine JC.seq ?_
        refine JC.region ?_
        refine JL.val rfl rfl (R.assign rfl) ?_
        refine JL.nil ?_
        refine JN.next ?_
        refine JC.ret ?_
        obtain rfl := Option.some.inj hx
        clear hx; have hx := hxo_7
        simp only [Sum.elim_inl, Sum.elim_inr] at hx
        refine JN.passR ?_
        refine JN.passR ?_
        refine JN.seg0 ?_
        refine JN.outP (vs := [.slice none 0 0, .int .i64 3]) (K := [_]) (rst := []) (.inl rfl) rfl rfl (Res.tmp rfl (Res.tmp rfl rfl)) (picks 0 rfl picks0) ?_
        obtain rfl := Option.some.inj hx
        exact ⟨none, 0, 0, [], rfl, rfl, (RowOf.nil _ _ _ _ _), (fun p hp => by cases hp), trivial⟩
      · replace hx := cond_f c_10 hx
        refine JC.skip ?_
        obtain rfl := Option.some.inj hx
        exact JN.cut ⟨(), rfl, rfl, rfl, rfl⟩ ⟨rfl, rfl, rfl, trivial⟩ rfl rfl
    · replace hx := cond_f c_9 hx
      refine JL.gNo rfl rfl rfl rfl rfl ?_
      refine JL.gNo rfl rfl rfl rfl rfl ?_
      refine JL.gNo rfl rfl rfl rfl rfl ?_
      refine JL.val rfl rfl (R.pickF rfl rfl) ?_
      refine JL.nil ?_
      refine JN.next ?_
      refine JC.condF rfl ?_
      refine JC.skip ?_
      obtain rfl := Option.some.inj hx
      exact JN.cut ⟨(), rfl, rfl, rfl, rfl⟩ ⟨rfl, rfl, rfl, trivial⟩ rfl rfl

set_option maxHeartbeats 8000000 in
theorem mac_inner_ok (p_1 : List (List UInt8)) (H : Heaplet) {aoa_2 : Option Addr} {na_2 : Nat} {capa_2 : Nat} (ha_2 : IsSlice H (RSl RU8 1) 1 (.slice aoa_2 na_2 capa_2) p_1) (r : List UInt8) (hx : mac_inner p_1 = some r) :
    Does Try.prog 99 #[.slice aoa_2 na_2 capa_2] [] H (fun u K' H' => ∃ ao0 : Option Addr, ∃ n0 : Nat, ∃ cap0 : Nat, ∃ K0 : Own, u = .slice ao0 n0 cap0 ∧ K' = [K0] ∧ H = H' ∧ RowOf (New H H) RU8 0 5 1 (.slice ao0 n0 cap0) r K0 ∧ (∀ p ∈ K0, p.1 ∉ ids (List.flatten [])) ∧ True) := by
  refine Does.enterL (vs := [.slice aoa_2 na_2 capa_2]) (l := [(0, .slice aoa_2 na_2 capa_2)]) Try.func99 rfl rfl ⟨rfl, trivial⟩ (fun w hlt => ?_)
  unfold mac_inner at hx
  refine JC.seq ?_
  refine JC.region ?_
  refine JL.val rfl rfl (R.assign rfl) ?_
  refine JL.nil ?_
  refine JN.next ?_
  refine JC.seq ?_
  refine JC.region ?_
  refine JL.val rfl rfl (R.move rfl) ?_
  obtain ⟨x_3, hr_4, hx⟩ := bnd_some hx
  refine JL.callC (vs := [_]) (args := [_]) (K := []) (rst := []) E81 rfl rfl rfl picks0 (slices_Concat_byte_ok p_1 _ ha_2 _ hr_4) rfl (fun u_5 Ku_5 Hu_5 hRu_5 hleu_5 hfu_5 => ?_)
  obtain ⟨aor_6, nr_6, capr_6, Kr_6, rfl, rfl, rfl, hr_6, hnewr_6, -⟩ := hRu_5
  replace hr_6 := (RowOf.base (RowOf.const (H2 := New H H) RU8.const hr_6) (fun p hp => (hfu_5 p (mem_seg 0 rfl hp)).resolve_left (hnewr_6 p hp)))
  obtain ⟨x_10, hr_11, hx⟩ := bnd_some hx
  refine JL.callL3 (vs := [_]) E118 rfl rfl (fun H_9 hle_8 hl_7 => mix_Key_ok x_3 _ (Lent.row' 0 hl_7 RU8.mono hle_8 rfl (hr_6.old RU8.mono)) _ hr_11) rfl (fun _ _ _ _ hR_13 hf_14 => ?_)
  obtain ⟨aor_12, nr_12, capr_12, Kr_12, rfl, rfl, hr_12, -, -⟩ := hR_13
  replace hr_12 := RowOf.base (RowOf.const (H2 := New H H) RU8.const hr_12) (fun p hp => hf_14 p (mem_seg 0 rfl hp))
  refine JL.val rfl rfl (R.assign rfl) ?_
  refine JL.nil ?_
  refine JN.next ?_
  refine JC.ret ?_
  refine JN.outP (vs := [.slice aor_12 nr_12 capr_12]) (K := [_]) (rst := [_]) (.inl rfl) rfl rfl (Res.tmp rfl rfl) (picks 0 rfl picks0) ?_
  obtain rfl := Option.some.inj hx
  exact ⟨aor_12, nr_12, capr_12, Kr_12, rfl, rfl, rfl, (RowOf.weak (Nat.zero_le _) hr_12), (new_ids hr_12 hlt), trivial⟩

set_option maxHeartbeats 8000000 in
theorem mix_Sum_ok (p_1 : List UInt8) (H : Heaplet) {aoa_2 : Option Addr} {na_2 : Nat} {capa_2 : Nat} (ha_2 : IsSlice H RU8 1 (.slice aoa_2 na_2 capa_2) p_1) (r : UInt32) (hx : mix_Sum p_1 = some r) :
    Does Try.prog 23 #[.slice aoa_2 na_2 capa_2] [] H (fun u K' H' => u = .int .u32 (r.toNat : Int) ∧ K' = [] ∧ True) := by
  refine Does.enterL (vs := [.slice aoa_2 na_2 capa_2]) (l := [(0, .slice aoa_2 na_2 capa_2)]) Try.func23 rfl rfl ⟨rfl, trivial⟩ (fun w hlt => ?_)
  unfold mix_Sum at hx
  refine JC.seq ?_
  refine JC.region ?_
  refine JL.val rfl rfl (R.assign rfl) ?_
  refine JL.nil ?_
  refine JN.next ?_
  refine JC.seq ?_
  refine JC.region ?_
  refine JL.val rfl rfl (R.move rfl) ?_
  obtain ⟨x_3, hr_4, hx⟩ := bnd_some hx
  refine JL.callC (vs := [_]) (args := [_]) (K := []) (rst := []) E47 rfl rfl rfl picks0 (mix_four_ok p_1 _ ha_2 _ hr_4) rfl (fun u_5 Ku_5 Hu_5 hRu_5 hleu_5 hfu_5 => ?_)
  obtain ⟨rfl, rfl, -⟩ := hRu_5
  refine JL.val rfl rfl (R.idxAk 0 U82 S27 rfl rfl rfl rfl rfl) ?_
  refine JL.val rfl rfl (R.assign rfl) ?_
  refine JL.nil ?_
  refine JN.next ?_
  refine JC.ret ?_
  refine JN.outP (vs := [.int .u32 (x_3.e0.toNat : Int)]) (K := []) (rst := []) (.inl rfl) rfl rfl (Res.tmp rfl rfl) picks0 ?_
  obtain rfl := Option.some.inj hx
  exact ⟨rfl, rfl, trivial⟩

set_option maxHeartbeats 8000000 in
theorem mac_Tag_ok (p_1 : List UInt8) (p_3 : List UInt8) (H : Heaplet) {aoa_2 : Option Addr} {na_2 : Nat} {capa_2 : Nat} {aoa_4 : Option Addr} {na_4 : Nat} {capa_4 : Nat} (ha_2 : IsSlice H RU8 1 (.slice aoa_2 na_2 capa_2) p_1) (ha_4 : IsSlice H RU8 1 (.slice aoa_4 na_4 capa_4) p_3) (r : UInt32 × Int) (hx : mac_Tag p_1 p_3 = some r) :
    Does Try.prog 80 #[.slice aoa_2 na_2 capa_2, .slice aoa_4 na_4 capa_4] [] H (fun u K' H' => u = .tuple #[.int .u32 (r.1.toNat : Int), .int .i64 r.2] ∧ K' = [] ∧ True) := by
  refine Does.enterL (vs := [.slice aoa_2 na_2 capa_2, .slice aoa_4 na_4 capa_4]) (l := [(0, .slice aoa_2 na_2 capa_2), (1, .slice aoa_4 na_4 capa_4)]) Try.func80 rfl rfl ⟨rfl, rfl, trivial⟩ (fun w hlt => ?_)
  unfold mac_Tag at hx
  refine JC.seq ?_
  refine JC.region ?_
  refine JL.val rfl rfl (R.assign rfl) ?_
  refine JL.val rfl rfl (R.assign rfl) ?_
  refine JL.nil ?_
  refine JN.next ?_
  refine JC.seq ?_
  refine JC.seq ?_
  refine JC.region ?_
  refine JL.val rfl rfl (R.move rfl) ?_
  refine JL.val rfl rfl (R.lenL U26 rfl (IsSlice.long ha_2)) ?_
  refine JL.val rfl rfl (R.neq_i rfl rfl) ?_
  refine JL.nil ?_
  refine JN.next ?_
  refine JC.condB rfl (fun c_5 => ?_) (fun c_5 => ?_)
  · replace hx := cond_t c_5 hx
    refine JC.seq ?_
    refine JC.region ?_
    refine JL.val rfl rfl (R.assign rfl) ?_
    refine JL.val rfl rfl (R.assign rfl) ?_
    refine JL.nil ?_
    refine JN.next ?_
    refine JC.ret ?_
    refine JN.passR ?_
    refine JN.outP (vs := [.int .u32 ((0 : UInt32).toNat : Int), .int .i64 2]) (K := []) (rst := []) (.inl rfl) rfl rfl (Res.tmp rfl (Res.tmp rfl rfl)) picks0 ?_
    obtain rfl := Option.some.inj hx
    exact ⟨rfl, rfl, trivial⟩
  · replace hx := cond_f c_5 hx
    refine JC.skip ?_
    refine JN.next ?_
    refine JC.seq ?_
    refine JC.region ?_
    refine JL.val rfl rfl (R.move rfl) ?_
    refine JL.bslF (HF := (New H H)) (R := RU8) (ls := [(2 : UInt8)]) (vs := [.int .u8 ((2 : UInt8).toNat : Int)]) U26 I5 rfl rfl (⟨_, _, rfl, rfl, rfl, rfl⟩) RU8.one rfl rfl rfl (by simp [maxLen]) rfl (fun vr_6 Kr_6 hr_6 => ?_)
    obtain ⟨aor_6, capr_6, rfl⟩ := RowOf.val hr_6
    refine JL.val rfl rfl (R.move rfl) ?_
    refine JL.bslF (HF := (New H H)) (R := RU8) (ls := [(1 : UInt8)]) (vs := [.int .u8 ((1 : UInt8).toNat : Int)]) U26 I5 rfl rfl (⟨_, _, rfl, rfl, rfl, rfl⟩) RU8.one rfl rfl rfl (by simp [maxLen]) rfl (fun vr_7 Kr_7 hr_7 => ?_)
    obtain ⟨aor_7, capr_7, rfl⟩ := RowOf.val hr_7
    refine JL.val rfl rfl (R.move rfl) ?_
    refine JL.pubN 0 RU8.mono rfl hr_7 (Nat.le_refl _) (fun H_8 hleH_8 hsH_8 => ?_)
    refine JL.forget 0 ?_
    refine JL.bslF (HF := H_8) (R := (RSl RU8 1)) (ls := [p_1, [(1 : UInt8)], p_3]) (vs := [.slice aoa_2 na_2 capa_2, .slice aor_7 (([(1 : UInt8)]).length) capr_7, .slice aoa_4 na_4 capa_4]) U22 I26 rfl rfl (⟨_, _, rfl, rfl, ⟨_, rfl, (ha_2.mono RU8.mono hleH_8)⟩, ⟨_, _, rfl, rfl, ⟨_, rfl, (hsH_8.old RU8.mono)⟩, ⟨_, _, rfl, rfl, ⟨_, rfl, (ha_4.mono RU8.mono hleH_8)⟩, rfl⟩⟩⟩) RSl.one rfl rfl rfl (by simp [maxLen]) rfl (fun vr_9 Kr_9 hr_9 => ?_)
    obtain ⟨aor_9, capr_9, rfl⟩ := RowOf.val hr_9
    obtain ⟨x_13, hr_14, hx⟩ := bnd_some hx
    refine JL.callL3 (vs := [_]) E99 rfl rfl (fun H_12 hle_11 hl_10 => mac_inner_ok ([p_1, [(1 : UInt8)], p_3]) _ (Lent.row' 0 hl_10 (RSl.mono RU8.mono) hle_11 rfl hr_9) _ hr_14) rfl (fun _ _ _ _ hR_16 hf_17 => ?_)
    obtain ⟨aor_15, nr_15, capr_15, Kr_15, rfl, rfl, rfl, hr_15, -, -⟩ := hR_16
    replace hr_15 := RowOf.base (RowOf.const (H2 := New H H_8) RU8.const hr_15) (fun p hp => hf_17 p (mem_seg 0 rfl hp))
    refine JL.pubN 2 RU8.mono rfl (hr_6.mono RU8.mono (New.mono hleH_8)) (Nat.le_refl _) (fun H_18 hleH_18 hsH_18 => ?_)
    refine JL.forget 2 ?_
    refine JL.pubN 0 RU8.mono rfl (hr_15.mono RU8.mono (New.mono hleH_18)) (Nat.le_refl _) (fun H_19 hleH_19 hsH_19 => ?_)
    refine JL.forget 0 ?_
    refine JL.bslF (HF := H_19) (R := (RSl RU8 1)) (ls := [p_1, [(2 : UInt8)], x_13]) (vs := [.slice aoa_2 na_2 capa_2, .slice aor_6 (([(2 : UInt8)]).length) capr_6, .slice aor_15 nr_15 capr_15]) U22 I26 rfl rfl (⟨_, _, rfl, rfl, ⟨_, rfl, (ha_2.mono RU8.mono (hleH_8.trans (hleH_18.trans hleH_19)))⟩, ⟨_, _, rfl, rfl, ⟨_, rfl, ((hsH_18.mono RU8.mono (New.mono hleH_19)).old RU8.mono)⟩, ⟨_, _, rfl, rfl, ⟨_, rfl, (hsH_19.old RU8.mono)⟩, rfl⟩⟩⟩) RSl.one rfl rfl rfl (by simp [maxLen]) rfl (fun vr_20 Kr_20 hr_20 => ?_)
    obtain ⟨aor_20, capr_20, rfl⟩ := RowOf.val hr_20
    obtain ⟨x_24, hr_25, hx⟩ := bnd_some hx
    refine JL.callL3 (vs := [_]) E81 rfl rfl (fun H_23 hle_22 hl_21 => slices_Concat_byte_ok ([p_1, [(2 : UInt8)], x_13]) _ (Lent.row' 0 hl_21 (RSl.mono RU8.mono) hle_22 rfl hr_20) _ hr_25) rfl (fun _ _ _ _ hR_27 hf_28 => ?_)
    obtain ⟨aor_26, nr_26, capr_26, Kr_26, rfl, rfl, rfl, hr_26, -, -⟩ := hR_27
    replace hr_26 := RowOf.base (RowOf.const (H2 := New H H_19) RU8.const hr_26) (fun p hp => hf_28 p (mem_seg 0 rfl hp))
    obtain ⟨x_32, hr_33, hx⟩ := bnd_some hx
    refine JL.callL2 (vs := [_]) (v := .int .u32 (x_32.toNat : Int)) E23 rfl rfl (fun H_31 hle_30 hl_29 => Does.mono (mix_Sum_ok x_24 _ (Lent.row' 0 hl_29 RU8.mono hle_30 rfl (hr_26.old RU8.mono)) _ hr_33) (fun _ _ _ h => h.1)) rfl ?_
    refine JL.val rfl rfl (R.assign rfl) ?_
    refine JL.val rfl rfl (R.assign rfl) ?_
    refine JL.nil ?_
    refine JN.next ?_
    refine JC.ret ?_
    refine JN.outP (vs := [.int .u32 (x_32.toNat : Int), .int .i64 0]) (K := []) (rst := [_, _, _]) (.inl rfl) rfl rfl (Res.tmp rfl (Res.tmp rfl rfl)) picks0 ?_
    obtain rfl := Option.some.inj hx
    exact ⟨rfl, rfl, trivial⟩

set_option maxHeartbeats 8000000 in
theorem seal_tagged_ok (p_1 : List UInt8) (p_3 : UInt32) (p_4 : List UInt8) (H : Heaplet) {aoa_2 : Option Addr} {na_2 : Nat} {capa_2 : Nat} {aoa_5 : Option Addr} {na_5 : Nat} {capa_5 : Nat} (ha_2 : IsSlice H RU8 1 (.slice aoa_2 na_2 capa_2) p_1) (ha_5 : IsSlice H RU8 1 (.slice aoa_5 na_5 capa_5) p_4) (r : UInt32 × Int) (hx : seal_tagged p_1 p_3 p_4 = some r) :
    Does Try.prog 52 #[.slice aoa_2 na_2 capa_2, .int .u32 (p_3.toNat : Int), .slice aoa_5 na_5 capa_5] [] H (fun u K' H' => u = .tuple #[.int .u32 (r.1.toNat : Int), .int .i64 r.2] ∧ K' = [] ∧ True) := by
  refine Does.enterL (vs := [.slice aoa_2 na_2 capa_2, .int .u32 (p_3.toNat : Int), .slice aoa_5 na_5 capa_5]) (l := [(0, .slice aoa_2 na_2 capa_2), (1, .int .u32 (p_3.toNat : Int)), (2, .slice aoa_5 na_5 capa_5)]) Try.func52 rfl rfl ⟨rfl, rfl, rfl, trivial⟩ (fun w hlt => ?_)
  unfold seal_tagged at hx
  refine JC.seq ?_
  refine JC.region ?_
  refine JL.val rfl rfl (R.assign rfl) ?_
  refine JL.val rfl rfl (R.assign rfl) ?_
  refine JL.nil ?_
  refine JN.next ?_
  refine JC.seq ?_
  refine JC.region ?_
  refine JL.val rfl rfl (R.move rfl) ?_
  refine JL.val rfl rfl (R.cv_u32_i64 (a := p_3) U27 U3 rfl) ?_
  obtain ⟨x_6, hr_7, hx⟩ := bnd_some hx
  refine JL.callC (vs := [_, _]) (args := [_, _]) (K := []) (rst := []) E79 rfl rfl rfl picks0 (code_Put_ok (p_3.toNat : Int) 4 _ _ hr_7) rfl (fun u_8 Ku_8 Hu_8 hRu_8 hleu_8 hfu_8 => ?_)
  obtain ⟨aor_9, nr_9, capr_9, Kr_9, rfl, rfl, rfl, hr_9, hnewr_9, -⟩ := hRu_8
  replace hr_9 := (RowOf.base (RowOf.const (H2 := New H H) RU8.const hr_9) (fun p hp => (hfu_8 p (mem_seg 0 rfl hp)).resolve_left (hnewr_9 p hp)))
  refine JL.val rfl rfl (R.move rfl) ?_
  refine JL.val rfl rfl (R.extract rfl rfl) ?_
  refine JL.val rfl rfl (R.extract rfl rfl) ?_
  refine JL.val rfl rfl (R.assign rfl) ?_
  refine JL.val rfl rfl (R.assign rfl) ?_
  refine JL.nil ?_
  refine JN.next ?_
  refine JC.seq ?_
  refine JC.seq ?_
  refine JC.region ?_
  refine JL.val rfl rfl (R.move rfl) ?_
  refine JL.val rfl rfl (R.neq_i rfl rfl) ?_
  refine JL.nil ?_
  refine JN.next ?_
  refine JC.condB rfl (fun c_10 => ?_) (fun c_10 => ?_)
  · replace hx := cond_t c_10 hx
    refine JC.seq ?_
    refine JC.region ?_
    refine JL.val rfl rfl (R.move rfl) ?_
    refine JL.val rfl rfl (R.assign rfl) ?_
    refine JL.val rfl rfl (R.assign rfl) ?_
    refine JL.nil ?_
    refine JN.next ?_
    refine JC.ret ?_
    refine JN.passR ?_
    refine JN.outP (vs := [.int .u32 ((0 : UInt32).toNat : Int), .int .i64 x_6.2]) (K := []) (rst := [_]) (.inl rfl) rfl rfl (Res.tmp rfl (Res.tmp rfl rfl)) picks0 ?_
    obtain rfl := Option.some.inj hx
    exact ⟨rfl, rfl, trivial⟩
  · replace hx := cond_f c_10 hx
    refine JC.skip ?_
    refine JN.next ?_
    refine JC.seq ?_
    refine JC.region ?_
    refine JL.val rfl rfl (R.move rfl) ?_
    refine JL.val rfl rfl (R.move rfl) ?_
    refine JL.val rfl rfl (R.move rfl) ?_
    refine JL.pubN 0 RU8.mono rfl hr_9 (Nat.le_refl _) (fun H_11 hleH_11 hsH_11 => ?_)
    refine JL.forget 0 ?_
    refine JL.bslF (HF := H_11) (R := (RSl RU8 1)) (ls := [x_6.1, p_4]) (vs := [.slice aor_9 nr_9 capr_9, .slice aoa_5 na_5 capa_5]) U22 I26 rfl rfl (⟨_, _, rfl, rfl, ⟨_, rfl, (hsH_11.old RU8.mono)⟩, ⟨_, _, rfl, rfl, ⟨_, rfl, (ha_5.mono RU8.mono hleH_11)⟩, rfl⟩⟩) RSl.one rfl rfl rfl (by simp [maxLen]) rfl (fun vr_12 Kr_12 hr_12 => ?_)
    obtain ⟨aor_12, capr_12, rfl⟩ := RowOf.val hr_12
    obtain ⟨x_16, hr_17, hx⟩ := bnd_some hx
    refine JL.callL3 (vs := [_]) E81 rfl rfl (fun H_15 hle_14 hl_13 => slices_Concat_byte_ok ([x_6.1, p_4]) _ (Lent.row' 0 hl_13 (RSl.mono RU8.mono) hle_14 rfl hr_12) _ hr_17) rfl (fun _ _ _ _ hR_19 hf_20 => ?_)
    obtain ⟨aor_18, nr_18, capr_18, Kr_18, rfl, rfl, rfl, hr_18, -, -⟩ := hR_19
    replace hr_18 := RowOf.base (RowOf.const (H2 := New H H_11) RU8.const hr_18) (fun p hp => hf_20 p (mem_seg 0 rfl hp))
    obtain ⟨x_24, hr_25, hx⟩ := bnd_some hx
    refine JL.callL2 (vs := [_, _]) (v := .tuple #[.int .u32 (x_24.1.toNat : Int), .int .i64 x_24.2]) E80 rfl rfl (fun H_23 hle_22 hl_21 => Does.mono (mac_Tag_ok p_1 x_16 _ (IsSlice.mono RU8.mono hle_22 (ha_2.mono RU8.mono hleH_11)) (Lent.row' 0 hl_21 RU8.mono hle_22 rfl (hr_18.old RU8.mono)) _ hr_25) (fun _ _ _ h => h.1)) rfl ?_
    refine JL.val rfl rfl (R.extract rfl rfl) ?_
    refine JL.val rfl rfl (R.extract rfl rfl) ?_
    refine JL.val rfl rfl (R.assign rfl) ?_
    refine JL.val rfl rfl (R.assign rfl) ?_
    refine JL.nil ?_
    refine JN.next ?_
    refine JC.ret ?_
    refine JN.outP (vs := [.int .u32 (x_24.1.toNat : Int), .int .i64 x_24.2]) (K := []) (rst := [_, _]) (.inl rfl) rfl rfl (Res.tmp rfl (Res.tmp rfl rfl)) picks0 ?_
    obtain rfl := Option.some.inj hx
    exact ⟨rfl, rfl, trivial⟩

set_option maxHeartbeats 8000000 in
theorem seal_Seal_ok (p_1 : List UInt8) (p_3 : UInt32) (p_4 : List UInt8) (H : Heaplet) {aoa_2 : Option Addr} {na_2 : Nat} {capa_2 : Nat} {aoa_5 : Option Addr} {na_5 : Nat} {capa_5 : Nat} (ha_2 : IsSlice H RU8 1 (.slice aoa_2 na_2 capa_2) p_1) (ha_5 : IsSlice H RU8 1 (.slice aoa_5 na_5 capa_5) p_4) (r : List UInt8 × UInt32 × Int) (hx : seal_Seal p_1 p_3 p_4 = some r) :
    Does Try.prog 29 #[.slice aoa_2 na_2 capa_2, .int .u32 (p_3.toNat : Int), .slice aoa_5 na_5 capa_5] [] H (fun u K' H' => ∃ ao0 : Option Addr, ∃ n0 : Nat, ∃ cap0 : Nat, ∃ K0 : Own, u = .tuple #[.slice ao0 n0 cap0, .int .u32 (r.2.1.toNat : Int), .int .i64 r.2.2] ∧ K' = [K0] ∧ RowOf (New H H') RU8 0 5 1 (.slice ao0 n0 cap0) r.1 K0 ∧ (∀ p ∈ K0, p.1 ∉ ids (List.flatten [])) ∧ True) := by
  refine Does.enterL (vs := [.slice aoa_2 na_2 capa_2, .int .u32 (p_3.toNat : Int), .slice aoa_5 na_5 capa_5]) (l := [(0, .slice aoa_2 na_2 capa_2), (1, .int .u32 (p_3.toNat : Int)), (2, .slice aoa_5 na_5 capa_5)]) Try.func29 rfl rfl ⟨rfl, rfl, rfl, trivial⟩ (fun w hlt => ?_)
  unfold seal_Seal at hx
  refine JC.seq ?_
  refine JC.region ?_
  refine JL.val rfl rfl (R.assign rfl) ?_
  refine JL.val rfl rfl (R.assign rfl) ?_
  refine JL.val rfl rfl (R.assign rfl) ?_
  refine JL.nil ?_
  refine JN.next ?_
  refine JC.seq ?_
  refine JC.region ?_
  refine JL.val rfl rfl (R.move rfl) ?_
  refine JL.val rfl rfl (R.move rfl) ?_
  refine JL.val rfl rfl (R.move rfl) ?_
  obtain ⟨x_6, hr_7, hx⟩ := bnd_some hx
  refine JL.callC (vs := [_, _, _]) (args := [_, _, _]) (K := []) (rst := []) E51 rfl rfl rfl picks0 (seal_turned_ok p_1 p_3 p_4 _ ha_2 ha_5 _ hr_7) rfl (fun u_8 Ku_8 Hu_8 hRu_8 hleu_8 hfu_8 => ?_)
  obtain ⟨aor_9, nr_9, capr_9, Kr_9, rfl, rfl, hr_9, hnewr_9, -⟩ := hRu_8
  replace hr_9 := (RowOf.base (RowOf.const (H2 := New H Hu_8) RU8.const hr_9) (fun p hp => (hfu_8 p (mem_seg 0 rfl hp)).resolve_left (hnewr_9 p hp)))
  refine JL.val rfl rfl (R.move rfl) ?_
  refine JL.val rfl rfl (R.extract rfl rfl) ?_
  refine JL.val rfl rfl (R.extract rfl rfl) ?_
  refine JL.val rfl rfl (R.assign rfl) ?_
  refine JL.val rfl rfl (R.assign rfl) ?_
  refine JL.nil ?_
  refine JN.next ?_
  refine JC.seq ?_
  refine JC.seq ?_
  refine JC.region ?_
  refine JL.val rfl rfl (R.move rfl) ?_
  refine JL.val rfl rfl (R.neq_i rfl rfl) ?_
  refine JL.nil ?_
  refine JN.next ?_
  refine JC.condB rfl (fun c_10 => ?_) (fun c_10 => ?_)
  · replace hx := cond_t c_10 hx
    refine JC.seq ?_
    refine JC.region ?_
    refine JL.val rfl rfl (R.move rfl) ?_
    refine JL.val rfl rfl (R.assign rfl) ?_
    refine JL.val rfl rfl (R.assign rfl) ?_
    refine JL.val rfl rfl (R.assign rfl) ?_
    refine JL.nil ?_
    refine JN.next ?_
    refine JC.ret ?_
    refine JN.passR ?_
    refine JN.seg0 ?_
    refine JN.outP (vs := [.slice none 0 0, .int .u32 ((0 : UInt32).toNat : Int), .int .i64 x_6.2]) (K := [_]) (rst := [_]) (.inl rfl) rfl rfl (Res.tmp rfl (Res.tmp rfl (Res.tmp rfl rfl))) (picks 0 rfl picks0) ?_
    obtain rfl := Option.some.inj hx
    exact ⟨none, 0, 0, [], rfl, rfl, (RowOf.nil _ _ _ _ _), (fun p hp => by cases hp), trivial⟩
  · replace hx := cond_f c_10 hx
    refine JC.skip ?_
    refine JN.next ?_
    refine JC.seq ?_
    refine JC.region ?_
    refine JL.val rfl rfl (R.move rfl) ?_
    refine JL.val rfl rfl (R.move rfl) ?_
    refine JL.val rfl rfl (R.move rfl) ?_
    obtain ⟨x_14, hr_15, hx⟩ := bnd_some hx
    refine JL.callL2 (vs := [_, _, _]) (v := .tuple #[.int .u32 (x_14.1.toNat : Int), .int .i64 x_14.2]) E52 rfl rfl (fun H_13 hle_12 hl_11 => Does.mono (seal_tagged_ok p_1 p_3 x_6.1 _ (IsSlice.mono RU8.mono hle_12 (ha_2.mono RU8.mono hleu_8)) (Lent.row' 0 hl_11 RU8.mono hle_12 rfl (hr_9.old RU8.mono)) _ hr_15) (fun _ _ _ h => h.1)) rfl ?_
    refine JL.val rfl rfl (R.move rfl) ?_
    refine JL.val rfl rfl (R.extract rfl rfl) ?_
    refine JL.val rfl rfl (R.extract rfl rfl) ?_
    refine JL.val rfl rfl (R.assign rfl) ?_
    refine JL.val rfl rfl (R.assign rfl) ?_
    refine JL.nil ?_
    refine JN.next ?_
    refine JC.ret ?_
    refine JN.outP (vs := [.slice aor_9 nr_9 capr_9, .int .u32 (x_14.1.toNat : Int), .int .i64 x_14.2]) (K := [_]) (rst := []) (.inl rfl) rfl rfl (Res.tmp rfl (Res.tmp rfl (Res.tmp rfl rfl))) (picks 0 rfl picks0) ?_
    obtain rfl := Option.some.inj hx
    exact ⟨aor_9, nr_9, capr_9, Kr_9, rfl, rfl, (RowOf.weak (Nat.zero_le _) hr_9), (new_ids hr_9 hlt), trivial⟩

set_option maxHeartbeats 8000000 in
theorem space_free_ok (p_1 : List UInt8) (H : Heaplet) {aoa_2 : Option Addr} {na_2 : Nat} {capa_2 : Nat} (ha_2 : IsSlice H RU8 1 (.slice aoa_2 na_2 capa_2) p_1) (r : (Int × List UInt8)) (hx : space_free p_1 = some r) :
    Does Try.prog 50 #[.slice aoa_2 na_2 capa_2] [] H (fun u K' H' => ∃ b0 : Nat, ∃ b1 : Nat, ∃ ao2 : Option Addr, ∃ n2 : Nat, ∃ cap2 : Nat, u = .func (.func 77) #[] #[.pointer (some ⟨b0, 0, none⟩), .pointer (some ⟨b1, 0, none⟩)] ∧ K' = [[(b0, .cells #[.int .i64 r.1] 3 (0, 0))], [(b1, .cells #[.slice ao2 n2 cap2] 26 (0, 0))]] ∧ H = H' ∧ IsSlice H RU8 1 (.slice ao2 n2 cap2) r.2 ∧ True) := by
  refine Does.enterL (vs := [.slice aoa_2 na_2 capa_2]) (l := [(0, .slice aoa_2 na_2 capa_2)]) Try.func50 rfl rfl ⟨rfl, trivial⟩ (fun w hlt => ?_)
  unfold space_free at hx
  refine JC.seq ?_
  refine JC.region ?_
  refine JL.box rfl rfl (fun b_3 hb_3 => ?_)
  refine JL.val rfl rfl (R.assign rfl) ?_
  refine JL.nil ?_
  refine JN.next ?_
  refine JC.seq ?_
  refine JC.region ?_
  refine JL.alloc Z3 rfl (fun b_4 hb_4 => ?_)
  refine JL.store 0 S3 rfl rfl rfl rfl rfl (Nat.le_of_ble_eq_true rfl) ?_
  refine JL.nil ?_
  refine JN.next ?_
  refine JC.seq ?_
  refine JC.region ?_
  refine JL.val rfl rfl (R.func (vf := []) (vc := [_, _]) rfl rfl) ?_
  refine JL.val rfl rfl (R.assign rfl) ?_
  refine JL.nil ?_
  refine JN.next ?_
  refine JC.ret ?_
  refine JN.outP (vs := [.func (.func 77) #[] #[.pointer (some ⟨b_4, 0, none⟩), .pointer (some ⟨b_3, 0, none⟩)]]) (K := [_, _]) (rst := []) (.inl rfl) rfl rfl (Res.tmp rfl rfl) (picks 0 rfl (picks 0 rfl picks0)) ?_
  obtain rfl := Option.some.inj hx
  exact ⟨b_4, b_3, aoa_2, na_2, capa_2, rfl, rfl, rfl, ha_2, trivial⟩

set_option maxHeartbeats 8000000 in
theorem space_free_1_ok (p_2 : Int) (p_4 : List UInt8) (H : Heaplet) {b_1 : Nat} {b_3 : Nat} {aoa_5 : Option Addr} {na_5 : Nat} {capa_5 : Nat} (ha_5 : IsSlice H RU8 1 (.slice aoa_5 na_5 capa_5) p_4) (r : Int × Int × List UInt8) (hx : space_free_1 p_2 p_4 = some r) :
    Does Try.prog 77 #[.pointer (some ⟨b_1, 0, none⟩), .pointer (some ⟨b_3, 0, none⟩)] [[(b_1, .cells #[.int .i64 p_2] 3 (0, 0))], [(b_3, .cells #[.slice aoa_5 na_5 capa_5] 26 (0, 0))]] H (fun u K' H' => ∃ ao0 : Option Addr, ∃ n0 : Nat, ∃ cap0 : Nat, u = .int .i64 r.1 ∧ K' = [[(b_1, .cells #[.int .i64 r.2.1] 3 (0, 0))], [(b_3, .cells #[.slice ao0 n0 cap0] 26 (0, 0))]] ∧ H = H' ∧ IsSlice H RU8 1 (.slice ao0 n0 cap0) r.2.2 ∧ True) := by
  refine Does.enterL (vs := [.pointer (some ⟨b_1, 0, none⟩), .pointer (some ⟨b_3, 0, none⟩)]) (l := [(0, .pointer (some ⟨b_1, 0, none⟩)), (1, .pointer (some ⟨b_3, 0, none⟩))]) Try.func77 rfl rfl ⟨rfl, rfl, trivial⟩ (fun w hlt => ?_)
  unfold space_free_1 at hx
  refine JC.seq ?_
  refine JC.region ?_
  refine JL.val rfl rfl (R.assign rfl) ?_
  refine JL.nil ?_
  refine JN.next ?_
  refine JC.seq ?_
  refine JC.seq ?_
  refine JC.region ?_
  refine JL.val rfl rfl (R.ldo 0 S3 rfl rfl rfl) ?_
  refine JL.val rfl rfl (R.add_i rfl rfl) ?_
  refine JL.store 0 S3 rfl rfl rfl rfl rfl (Nat.le_of_ble_eq_true rfl) ?_
  refine JL.nil ?_
  refine JN.next ?_
  obtain ⟨t_6, ht_8, hx⟩ := bnd_some hx
  refine JC.cut (fun l o g => ∃ t_6a : Int, l = [(0, .pointer (some ⟨b_1, 0, none⟩)), (1, .pointer (some ⟨b_3, 0, none⟩))] ∧ o = [[(b_1, .cells #[.int .i64 t_6a] 3 (0, 0))], [(b_3, .cells #[.slice aoa_5 na_5 capa_5] 26 (0, 0))]] ∧ H = g ∧ t_6 = .inl t_6a) ?_ ?_
  · rintro _ _ _ ⟨t_6a, rfl, rfl, rfl, rfl⟩
    simp only [Sum.elim_inl] at hx
    refine JN.next ?_
    refine JC.seq ?_
    refine JC.region ?_
    refine JL.val rfl rfl (R.assign rfl) ?_
    refine JL.nil ?_
    refine JN.next ?_
    refine JC.ret ?_
    refine JN.outP (vs := [.int .i64 (-1)]) (K := [_, _]) (rst := []) (.inl rfl) rfl rfl (Res.tmp rfl rfl) (picks 0 rfl (picks 0 rfl picks0)) ?_
    obtain rfl := Option.some.inj hx
    exact ⟨aoa_5, na_5, capa_5, rfl, rfl, rfl, ha_5, trivial⟩
  · have hxo_7 := hx; clear hx; have hx := ht_8; clear ht_8
    refine JC.block ?_
    refine JC.front 1 rfl ?_
    refine JC.front 1 rfl ?_
    refine JC.loopI (fun n l o g => ∃ s_9 : Int, l = [(0, .pointer (some ⟨b_1, 0, none⟩)), (1, .pointer (some ⟨b_3, 0, none⟩))] ∧ o = [[(b_1, .cells #[.int .i64 s_9] 3 (0, 0))], [(b_3, .cells #[.slice aoa_5 na_5 capa_5] 26 (0, 0))]] ∧ H = g ∧ run (space_free_1_l1 p_4) n s_9 = some t_6) FUEL ?_ ⟨w64 (p_2 + 1), rfl, rfl, rfl, hx⟩ ⟨rfl, rfl, trivial⟩ ?_
    · rintro _ _ _ ⟨s_9, rfl, rfl, rfl, hn_10⟩
      exact run_zero hn_10
    · rintro n_11 _ _ _ ⟨s_9, rfl, rfl, rfl, hn_10⟩
      clear hx; obtain ⟨oo_13, hx, hd_12⟩ := run_some hn_10
      unfold space_free_1_l1 at hx
      refine JC.seq ?_
      refine JC.seq ?_
      refine JC.region ?_
      refine JL.val rfl rfl (R.ldo 0 S3 rfl rfl rfl) ?_
      refine JL.val rfl rfl (R.ldo 1 S26 rfl rfl rfl) ?_
      refine JL.val rfl rfl (R.lenL U26 rfl (IsSlice.long ha_5)) ?_
      refine JL.val rfl rfl (R.lss_i rfl rfl) ?_
      refine JL.nil ?_
      refine JN.next ?_
      refine JC.condB rfl (fun c_12 => ?_) (fun c_12 => ?_)
      · replace hx := cond_t c_12 hx
        refine JC.skip ?_
        refine JN.next ?_
        refine JC.seq ?_
        refine JC.block ?_
        refine JC.seq ?_
        refine JC.region ?_
        refine JL.val rfl rfl (R.ldo 1 S26 rfl rfl rfl) ?_
        refine JL.val rfl rfl (R.ldo 0 S3 rfl rfl rfl) ?_
        obtain ⟨y_13, hN_14, hx⟩ := idx_some hx
        obtain ⟨b_15, o_16, cs_17, hE_18, hR_19, hl_20, hc_21⟩ := IsSlice.elem ha_5 hN_14
        obtain rfl := hR_19
        refine JL.val rfl rfl (R.ix U26 S5 rfl rfl hE_18) ?_
        refine JL.val rfl rfl (R.ldH S5 rfl (hc_21 0 _ rfl)) ?_
        refine JL.val rfl rfl (R.eql8 (a := y_13) (b := (0 : UInt8)) rfl rfl) ?_
        refine JL.nil ?_
        refine JN.next ?_
        refine JC.condB rfl (fun c_22 => ?_) (fun c_22 => ?_)
        · replace hx := cond_t c_22 hx
          refine JC.seq ?_
          refine JC.region ?_
          refine JL.val rfl rfl (R.ldo 0 S3 rfl rfl rfl) ?_
          refine JL.val rfl rfl (R.assign rfl) ?_
          refine JL.nil ?_
          refine JN.next ?_
          refine JC.ret ?_
          refine JN.blkR ?_
          refine JN.passR ?_
          obtain rfl := run_done hd_12 hx
          refine JN.passR ?_
          refine JN.blkR ?_
          clear hx; have hx := hxo_7
          simp only [Sum.elim_inl, Sum.elim_inr] at hx
          refine JN.passR ?_
          refine JN.passR ?_
          refine JN.outP (vs := [.int .i64 s_9]) (K := [_, _]) (rst := []) (.inl rfl) rfl rfl (Res.tmp rfl rfl) (picks 0 rfl (picks 0 rfl picks0)) ?_
          obtain rfl := Option.some.inj hx
          exact ⟨aoa_5, na_5, capa_5, rfl, rfl, rfl, ha_5, trivial⟩
        · replace hx := cond_f c_22 hx
          refine JC.skip ?_
          refine JN.blkN ?_
          refine JN.next ?_
          refine JC.region ?_
          refine JL.val rfl rfl (R.ldo 0 S3 rfl rfl rfl) ?_
          refine JL.val rfl rfl (R.add_i rfl rfl) ?_
          refine JL.store 0 S3 rfl rfl rfl rfl rfl (Nat.le_of_ble_eq_true rfl) ?_
          refine JL.nil ?_
          replace hx := run_next hd_12 hx
          refine JN.front 1 rfl ?_
          refine JN.front 1 rfl ?_
          exact JN.cut ⟨w64 (s_9 + 1), rfl, rfl, rfl, hx⟩ ⟨rfl, rfl, trivial⟩ rfl rfl
      · replace hx := cond_f c_12 hx
        refine JC.exit ?_
        refine JN.passX ?_
        obtain rfl := run_done hd_12 hx
        refine JN.passX ?_
        refine JN.exitSame ?_
        refine JN.front 1 rfl ?_
        refine JN.front 1 rfl ?_
        exact JN.cut ⟨s_9, rfl, rfl, rfl, rfl⟩ ⟨rfl, rfl, trivial⟩ rfl rfl

theorem bytes_Clone_ok (p_1 : List UInt8) (H : Heaplet) {ao : Option Addr} {n cap : Nat} (hs : IsSlice H RU8 1 (.slice ao n cap) p_1) (r : List UInt8) (hx : bytes_Clone p_1 = some r) :
    Does Try.prog 69 #[.slice ao n cap] [] H (fun u K' H' => ∃ ao0 : Option Addr, ∃ n0 : Nat, ∃ cap0 : Nat, ∃ K0 : Own, u = .slice ao0 n0 cap0 ∧ K' = [K0] ∧ H = H' ∧ RowOf (New H H') RU8 0 5 1 (.slice ao0 n0 cap0) r K0 ∧ (∀ p ∈ K0, p.1 ∉ ids (List.flatten [])) ∧ True) := by
  rw [bytes_Clone.eq_1] at hx
  obtain ⟨q, hq, hl, hx⟩ := app_some hx
  obtain rfl := Option.some.inj hx
  refine Does.enter (vs := [.slice ao n cap]) (l := [(0, .slice ao n cap)]) Try.func69 rfl rfl ⟨rfl, trivial⟩ (fun w => ?_)
  refine JC.seq ?_
  refine JC.region ?_
  refine JL.val rfl rfl (R.assign rfl) ?_
  refine JL.nil ?_
  refine JN.next ?_
  refine JC.seq ?_
  refine JC.seq ?_
  refine JC.region ?_
  refine JL.val rfl rfl (R.move rfl) ?_
  refine JL.val rfl rfl (R.eqlNil U26 rfl rfl) ?_
  refine JL.nil ?_
  refine JN.next ?_
  cases ao with
  | none =>
    have hp := hs.none_nil
    subst hp
    simp only [List.append_nil] at hq
    subst hq
    refine JC.condT rfl ?_
    refine JC.seq ?_
    refine JC.region ?_
    refine JL.val rfl rfl (R.assign rfl) ?_
    refine JL.nil ?_
    refine JN.next ?_
    refine JC.ret ?_
    refine JN.passR ?_
    refine JN.seg0 ?_
    refine JN.outP (vs := [.slice none 0 0]) (K := [_]) (rst := []) (.inl rfl) rfl rfl (Res.tmp rfl rfl) (picks 0 rfl picks0) ?_
    exact ⟨none, 0, 0, [], rfl, rfl, rfl, RowOf.nil _ _ _ _ _, (fun p hp => by cases hp), trivial⟩
  | some a =>
    refine JC.condF rfl ?_
    refine JC.skip ?_
    refine JN.next ?_
    refine JC.seq ?_
    refine JC.region ?_
    refine JL.bslF (HF := New H H) (R := RU8) (ls := []) (vs := []) U26 I5 rfl rfl rfl RU8.one rfl rfl rfl (by simp [maxLen]) rfl (fun v1 K1 h1 => ?_)
    obtain ⟨ao1, cap1, rfl⟩ := RowOf.val h1
    refine JL.val rfl rfl (R.move rfl) ?_
    refine JL.appF (HF := New H H) 0 U26 I5 rfl rfl h1 rfl (SrcF.sliceC RU8.const RU8.one U26 hs) hq hl rfl (Nat.le_refl _) rfl (fun v2 K2 h2 => ?_)
    obtain ⟨ao2, cap2, rfl⟩ := RowOf.val h2
    refine JL.val rfl rfl (R.assign rfl) ?_
    refine JL.nil ?_
    refine JN.next ?_
    refine JC.ret ?_
    refine JN.outP (vs := [.slice ao2 _ cap2]) (K := [_]) (rst := []) (.inl rfl) rfl rfl (Res.tmp rfl rfl) (picks 0 rfl picks0) ?_
    exact ⟨_, _, _, _, rfl, rfl, rfl, RowOf.weak (Nat.zero_le _) h2, (fun p hp hm => by cases hm), trivial⟩

set_option maxHeartbeats 8000000 in
theorem space_Take_ok (p_1 : List UInt8) (H : Heaplet) {aoa_2 : Option Addr} {na_2 : Nat} {capa_2 : Nat} (ha_2 : IsSlice H RU8 1 (.slice aoa_2 na_2 capa_2) p_1) (r : List UInt8 × Int × Int) (hx : space_Take p_1 = some r) :
    Does Try.prog 53 #[.slice aoa_2 na_2 capa_2] [] H (fun u K' H' => ∃ ao0 : Option Addr, ∃ n0 : Nat, ∃ cap0 : Nat, ∃ K0 : Own, u = .tuple #[.slice ao0 n0 cap0, .int .i64 r.2.1, .int .i64 r.2.2] ∧ K' = [K0] ∧ H = H' ∧ RowOf (New H H) RU8 0 5 1 (.slice ao0 n0 cap0) r.1 K0 ∧ (∀ p ∈ K0, p.1 ∉ ids (List.flatten [])) ∧ True) := by
  refine Does.enterL (vs := [.slice aoa_2 na_2 capa_2]) (l := [(0, .slice aoa_2 na_2 capa_2)]) Try.func53 rfl rfl ⟨rfl, trivial⟩ (fun w hlt => ?_)
  unfold space_Take at hx
  refine JC.seq ?_
  refine JC.region ?_
  refine JL.val rfl rfl (R.assign rfl) ?_
  refine JL.val rfl rfl (R.assign rfl) ?_
  refine JL.val rfl rfl (R.assign rfl) ?_
  refine JL.nil ?_
  refine JN.next ?_
  refine JC.seq ?_
  refine JC.seq ?_
  refine JC.region ?_
  refine JL.val rfl rfl (R.move rfl) ?_
  obtain ⟨x_3, hr_4, hx⟩ := bnd_some hx
  refine JL.callC (vs := [_]) (args := [_]) (K := []) (rst := []) E49 rfl rfl rfl picks0 (space_Check_ok p_1 _ ha_2 _ hr_4) rfl (fun u_5 Ku_5 Hu_5 hRu_5 hleu_5 hfu_5 => ?_)
  obtain ⟨rfl, rfl, rfl, -⟩ := hRu_5
  refine JL.val rfl rfl (R.assign rfl) ?_
  refine JL.nil ?_
  refine JN.next ?_
  refine JC.seq ?_
  refine JC.region ?_
  refine JL.val rfl rfl (R.move rfl) ?_
  refine JL.val rfl rfl (R.neq_i rfl rfl) ?_
  refine JL.nil ?_
  refine JN.next ?_
  refine JC.condB rfl (fun c_6 => ?_) (fun c_6 => ?_)
  · replace hx := cond_t c_6 hx
    refine JC.seq ?_
    refine JC.region ?_
    refine JL.val rfl rfl (R.move rfl) ?_
    refine JL.val rfl rfl (R.assign rfl) ?_
    refine JL.val rfl rfl (R.assign rfl) ?_
    refine JL.val rfl rfl (R.assign rfl) ?_
    refine JL.nil ?_
    refine JN.next ?_
    refine JC.ret ?_
    refine JN.passR ?_
    refine JN.seg0 ?_
    refine JN.outP (vs := [.slice none 0 0, .int .i64 0, .int .i64 x_3]) (K := [_]) (rst := []) (.inl rfl) rfl rfl (Res.tmp rfl (Res.tmp rfl (Res.tmp rfl rfl))) (picks 0 rfl picks0) ?_
    obtain rfl := Option.some.inj hx
    exact ⟨none, 0, 0, [], rfl, rfl, rfl, (RowOf.nil _ _ _ _ _), (fun p hp => by cases hp), trivial⟩
  · replace hx := cond_f c_6 hx
    refine JC.skip ?_
    refine JN.next ?_
    refine JC.seq ?_
    refine JC.seq ?_
    refine JC.region ?_
    refine JL.val rfl rfl (R.move rfl) ?_
    obtain ⟨x_7, hr_8, hx⟩ := bnd_some hx
    refine JL.callC (vs := [_]) (args := [_]) (K := []) (rst := []) E50 rfl rfl rfl picks0 (space_free_ok p_1 _ ha_2 _ hr_8) rfl (fun u_9 Ku_9 Hu_9 hRu_9 hleu_9 hfu_9 => ?_)
    obtain ⟨b_10, b_11, aoz_12, nz_12, capz_12, rfl, rfl, rfl, hz_12, -⟩ := hRu_9
    have hb_10 := (hfu_9 _ (mem_seg 0 rfl (List.mem_singleton.2 rfl))).resolve_left (fun h => by cases h)
    have hb_11 := (hfu_9 _ (mem_seg 1 rfl (List.mem_singleton.2 rfl))).resolve_left (fun h => by cases h)
    obtain ⟨x_13, hr_14, hx⟩ := bnd_some hx
    refine JL.callC (vs := []) (args := [_, _]) (K := [_, _]) (rst := []) E77 rfl rfl rfl (picks 0 rfl (picks 0 rfl picks0)) (space_free_1_ok x_7.1 x_7.2 _ hz_12 _ hr_14) rfl (fun u_15 Ku_15 Hu_15 hRu_15 hleu_15 hfu_15 => ?_)
    obtain ⟨aoz_16, nz_16, capz_16, rfl, rfl, rfl, hz_16, -⟩ := hRu_15
    refine JL.val rfl rfl (R.assign rfl) ?_
    refine JL.nil ?_
    refine JN.next ?_
    refine JC.seq ?_
    refine JC.region ?_
    refine JL.val rfl rfl (R.move rfl) ?_
    refine JL.val rfl rfl (R.lss_i rfl rfl) ?_
    refine JL.nil ?_
    refine JN.next ?_
    refine JC.condB rfl (fun c_17 => ?_) (fun c_17 => ?_)
    · replace hx := cond_t c_17 hx
      refine JC.seq ?_
      refine JC.region ?_
      refine JL.val rfl rfl (R.assign rfl) ?_
      refine JL.val rfl rfl (R.assign rfl) ?_
      refine JL.val rfl rfl (R.assign rfl) ?_
      refine JL.nil ?_
      refine JN.next ?_
      refine JC.ret ?_
      refine JN.passR ?_
      refine JN.seg0 ?_
      refine JN.outP (vs := [.slice none 0 0, .int .i64 0, .int .i64 9]) (K := [_]) (rst := [_, _]) (.inl rfl) rfl rfl (Res.tmp rfl (Res.tmp rfl (Res.tmp rfl rfl))) (picks 0 rfl picks0) ?_
      obtain rfl := Option.some.inj hx
      exact ⟨none, 0, 0, [], rfl, rfl, rfl, (RowOf.nil _ _ _ _ _), (fun p hp => by cases hp), trivial⟩
    · replace hx := cond_f c_17 hx
      refine JC.skip ?_
      refine JN.next ?_
      refine JC.seq ?_
      refine JC.region ?_
      refine JL.val rfl rfl (R.move rfl) ?_
      obtain ⟨x_18, hr_19, hx⟩ := bnd_some hx
      refine JL.callC (vs := [_]) (args := [_]) (K := []) (rst := [_, _]) E69 rfl rfl rfl picks0 (bytes_Clone_ok p_1 _ ha_2 _ hr_19) rfl (fun u_20 Ku_20 Hu_20 hRu_20 hleu_20 hfu_20 => ?_)
      obtain ⟨aor_21, nr_21, capr_21, Kr_21, rfl, rfl, rfl, hr_21, hnewr_21, -⟩ := hRu_20
      replace hr_21 := (RowOf.base (RowOf.const (H2 := New H H) RU8.const hr_21) (fun p hp => (hfu_20 p (mem_seg 0 rfl hp)).resolve_left (hnewr_21 p hp)))
      refine JL.val rfl rfl (R.assign rfl) ?_
      refine JL.nil ?_
      refine JN.next ?_
      refine JC.seq ?_
      refine JC.region ?_
      refine JL.val rfl rfl (R.move rfl) ?_
      refine JL.val rfl rfl (R.move rfl) ?_
      obtain ⟨hp_22, hx⟩ := chk_some hx
      obtain ⟨b_23, o_24, hE_25⟩ := RowOf.place hr_21 hp_22
      refine JL.val rfl rfl (R.ix U26 S5 rfl rfl hE_25) ?_
      obtain ⟨m_26, hm_27, hi_28, hx⟩ := setI_some hx
      refine JL.stE 0 (k := x_13.1) (y := (1 : UInt8)) S5 rfl hr_21 rfl hE_25 rfl rfl (rfl) RU8.one hm_27 (fun Kr_29 hr_29 hlr_29 => ?_)
      refine JL.nil ?_
      refine JN.next ?_
      refine JC.seq ?_
      refine JC.region ?_
      refine JL.val rfl rfl (R.move rfl) ?_
      refine JL.val rfl rfl (R.move rfl) ?_
      refine JL.val rfl rfl (R.assign rfl) ?_
      refine JL.val rfl rfl (R.assign rfl) ?_
      refine JL.val rfl rfl (R.assign rfl) ?_
      refine JL.nil ?_
      refine JN.next ?_
      refine JC.ret ?_
      refine JN.outP (vs := [.slice aor_21 nr_21 capr_21, .int .i64 x_13.1, .int .i64 0]) (K := [_]) (rst := [_, _]) (.inl rfl) rfl rfl (Res.tmp rfl (Res.tmp rfl (Res.tmp rfl rfl))) (picks 0 rfl picks0) ?_
      obtain rfl := Option.some.inj hx
      exact ⟨aor_21, nr_21, capr_21, Kr_29, rfl, rfl, rfl, (RowOf.weak (Nat.zero_le _) hr_29), (new_ids hr_29 hlt), trivial⟩

set_option maxHeartbeats 8000000 in
theorem dev_Write_1_ok (p_2 : Disk) (H : Heaplet) {b_1 : Nat} {aoa_3 : Option Addr} {na_3 : Nat} {capa_3 : Nat} {aoa_4 : Option Addr} {na_4 : Nat} {capa_4 : Nat} (ha_3 : IsSlice H (RSl RU8 1) 1 (.slice aoa_3 na_3 capa_3) p_2.Blocks) (ha_4 : IsSlice H R_Write 2 (.slice aoa_4 na_4 capa_4) p_2.Waits) (r : Disk × Disk) (hx : dev_Write_1 p_2 = some r) :
    Does Try.prog 82 #[.pointer (some ⟨b_1, 0, none⟩)] [[(b_1, .cells #[.slice aoa_3 na_3 capa_3, .slice aoa_4 na_4 capa_4] 25 (0, 0))]] H (fun u K' H' => ∃ ao0 : Option Addr, ∃ n0 : Nat, ∃ cap0 : Nat, ∃ ao1 : Option Addr, ∃ n1 : Nat, ∃ cap1 : Nat, ∃ ao2 : Option Addr, ∃ n2 : Nat, ∃ cap2 : Nat, ∃ ao3 : Option Addr, ∃ n3 : Nat, ∃ cap3 : Nat, u = .agg #[.slice ao2 n2 cap2, .slice ao3 n3 cap3] ∧ K' = [[(b_1, .cells #[.slice ao0 n0 cap0, .slice ao1 n1 cap1] 25 (0, 0))]] ∧ H = H' ∧ IsSlice H (RSl RU8 1) 1 (.slice ao0 n0 cap0) r.2.Blocks ∧ IsSlice H R_Write 2 (.slice ao1 n1 cap1) r.2.Waits ∧ IsSlice H (RSl RU8 1) 1 (.slice ao2 n2 cap2) r.1.Blocks ∧ IsSlice H R_Write 2 (.slice ao3 n3 cap3) r.1.Waits ∧ True) := by
  refine Does.enterL (vs := [.pointer (some ⟨b_1, 0, none⟩)]) (l := [(0, .pointer (some ⟨b_1, 0, none⟩))]) Try.func82 rfl rfl ⟨rfl, trivial⟩ (fun w hlt => ?_)
  unfold dev_Write_1 at hx
  refine JC.seq ?_
  refine JC.region ?_
  refine JL.alloc Z25 rfl (fun b_5 hb_5 => ?_)
  refine JL.nil ?_
  refine JN.next ?_
  refine JC.seq ?_
  refine JC.region ?_
  refine JL.val rfl rfl (R.ldoN 1 (vs := [.slice aoa_3 na_3 capa_3, .slice aoa_4 na_4 capa_4]) S25 rfl rfl rfl rfl) ?_
  refine JL.store 0 S25 rfl rfl rfl rfl rfl (Nat.le_of_ble_eq_true rfl) ?_
  refine JL.nil ?_
  refine JN.next ?_
  refine JC.ret ?_
  refine JN.outP (vs := [.agg #[.slice aoa_3 na_3 capa_3, .slice aoa_4 na_4 capa_4]]) (K := [_]) (rst := [_]) (.inl rfl) rfl rfl (Res.cellN 0 rfl rfl S25 rfl) (picks 1 rfl picks0) ?_
  obtain rfl := Option.some.inj hx
  exact ⟨aoa_3, na_3, capa_3, aoa_4, na_4, capa_4, aoa_3, na_3, capa_3, aoa_4, na_4, capa_4, rfl, rfl, rfl, ha_3, ha_4, ha_3, ha_4, trivial⟩

set_option maxHeartbeats 8000000 in
theorem dev_guarded_ok (p_1 : Disk) (p_4 : Bool) (p_6 : Disk) (H : Heaplet) {aoa_2 : Option Addr} {na_2 : Nat} {capa_2 : Nat} {aoa_3 : Option Addr} {na_3 : Nat} {capa_3 : Nat} {b_5 : Nat} {aoa_7 : Option Addr} {na_7 : Nat} {capa_7 : Nat} {aoa_8 : Option Addr} {na_8 : Nat} {capa_8 : Nat} (ha_2 : IsSlice H (RSl RU8 1) 1 (.slice aoa_2 na_2 capa_2) p_1.Blocks) (ha_3 : IsSlice H R_Write 2 (.slice aoa_3 na_3 capa_3) p_1.Waits) (ha_7 : IsSlice H (RSl RU8 1) 1 (.slice aoa_7 na_7 capa_7) p_6.Blocks) (ha_8 : IsSlice H R_Write 2 (.slice aoa_8 na_8 capa_8) p_6.Waits) (r : Disk × Int × Disk) (hx : dev_guarded p_1 p_4 p_6 = some r) :
    Does Try.prog 40 #[.agg #[.slice aoa_2 na_2 capa_2, .slice aoa_3 na_3 capa_3], .bool p_4, .func (.func 82) #[] #[.pointer (some ⟨b_5, 0, none⟩)]] [[(b_5, .cells #[.slice aoa_7 na_7 capa_7, .slice aoa_8 na_8 capa_8] 25 (0, 0))]] H (fun u K' H' => ∃ ao0 : Option Addr, ∃ n0 : Nat, ∃ cap0 : Nat, ∃ ao1 : Option Addr, ∃ n1 : Nat, ∃ cap1 : Nat, ∃ ao2 : Option Addr, ∃ n2 : Nat, ∃ cap2 : Nat, ∃ ao3 : Option Addr, ∃ n3 : Nat, ∃ cap3 : Nat, u = .tuple #[.agg #[.slice ao2 n2 cap2, .slice ao3 n3 cap3], .int .i64 r.2.1] ∧ K' = [[(b_5, .cells #[.slice ao0 n0 cap0, .slice ao1 n1 cap1] 25 (0, 0))]] ∧ H = H' ∧ IsSlice H (RSl RU8 1) 1 (.slice ao0 n0 cap0) r.2.2.Blocks ∧ IsSlice H R_Write 2 (.slice ao1 n1 cap1) r.2.2.Waits ∧ IsSlice H (RSl RU8 1) 1 (.slice ao2 n2 cap2) r.1.Blocks ∧ IsSlice H R_Write 2 (.slice ao3 n3 cap3) r.1.Waits ∧ True) := by
  refine Does.enterL (vs := [.agg #[.slice aoa_2 na_2 capa_2, .slice aoa_3 na_3 capa_3], .bool p_4, .func (.func 82) #[] #[.pointer (some ⟨b_5, 0, none⟩)]]) (l := [(0, .agg #[.slice aoa_2 na_2 capa_2, .slice aoa_3 na_3 capa_3]), (1, .bool p_4), (2, .func (.func 82) #[] #[.pointer (some ⟨b_5, 0, none⟩)])]) Try.func40 rfl rfl ⟨rfl, rfl, rfl, trivial⟩ (fun w hlt => ?_)
  unfold dev_guarded at hx
  refine JC.seq ?_
  refine JC.region ?_
  refine JL.box rfl rfl (fun b_9 hb_9 => ?_)
  refine JL.alloc Z25 rfl (fun b_10 hb_10 => ?_)
  refine JL.val rfl rfl (R.assign rfl) ?_
  refine JL.nil ?_
  refine JN.next ?_
  refine JC.seq ?_
  refine JC.region ?_
  refine JL.val rfl rfl (R.ldoN 1 (vs := [.slice aoa_2 na_2 capa_2, .slice aoa_3 na_3 capa_3]) S25 rfl rfl rfl rfl) ?_
  obtain ⟨x_11, hr_12, hx⟩ := bnd_some hx
  refine JL.callC (vs := [_]) (args := [_]) (K := []) (rst := [_, _, _]) E48 rfl rfl rfl picks0 (dev_Check_ok p_1 _ ha_2 ha_3 _ hr_12) rfl (fun u_13 Ku_13 Hu_13 hRu_13 hleu_13 hfu_13 => ?_)
  obtain ⟨rfl, rfl, rfl, -⟩ := hRu_13
  refine JL.val rfl rfl (R.assign rfl) ?_
  refine JL.nil ?_
  refine JN.next ?_
  refine JC.seq ?_
  refine JC.block ?_
  refine JC.seq ?_
  refine JC.region ?_
  refine JL.val rfl rfl (R.move rfl) ?_
  refine JL.val rfl rfl (R.neq_i rfl rfl) ?_
  refine JL.val rfl rfl (R.assign rfl) ?_
  refine JL.nil ?_
  refine JN.next ?_
  refine JC.condB rfl (fun c_14 => ?_) (fun c_14 => ?_)
  · replace hx := cond_t c_14 hx
    refine JC.seq ?_
    refine JC.region ?_
    refine JL.val rfl rfl (R.bldP (vs := []) (cs := [.slice none 0 0, .slice none 0 0]) Z25 B25 rfl rfl rfl) ?_
    refine JL.val rfl rfl (R.move rfl) ?_
    refine JL.store 0 S25 rfl rfl rfl rfl rfl (Nat.le_of_ble_eq_true rfl) ?_
    refine JL.val rfl rfl (R.assign rfl) ?_
    refine JL.nil ?_
    refine JN.next ?_
    refine JC.ret ?_
    refine JN.blkR ?_
    refine JN.passR ?_
    refine JN.outP (vs := [.agg #[.slice none 0 0, .slice none 0 0], .int .i64 x_11]) (K := [_]) (rst := [_, _]) (.inl rfl) rfl rfl (Res.cellN 0 rfl rfl S25 (Res.tmp rfl rfl)) (picks 2 rfl picks0) ?_
    obtain rfl := Option.some.inj hx
    exact ⟨aoa_7, na_7, capa_7, aoa_8, na_8, capa_8, none, 0, 0, none, 0, 0, rfl, rfl, rfl, ha_7, ha_8, (IsSlice.nil _ _ _), (IsSlice.nil _ _ _), trivial⟩
  · replace hx := cond_f c_14 hx
    refine JC.seq ?_
    refine JC.region ?_
    refine JL.val rfl rfl (R.move rfl) ?_
    refine JL.val rfl rfl (R.not rfl) ?_
    refine JL.val rfl rfl (R.assign rfl) ?_
    refine JL.nil ?_
    refine JN.next ?_
    refine JC.condB rfl (fun c_15 => ?_) (fun c_15 => ?_)
    · replace hx := cond_t c_15 hx
      refine JC.seq ?_
      refine JC.region ?_
      refine JL.val rfl rfl (R.bldP (vs := []) (cs := [.slice none 0 0, .slice none 0 0]) Z25 B25 rfl rfl rfl) ?_
      refine JL.store 0 S25 rfl rfl rfl rfl rfl (Nat.le_of_ble_eq_true rfl) ?_
      refine JL.val rfl rfl (R.assign rfl) ?_
      refine JL.nil ?_
      refine JN.next ?_
      refine JC.ret ?_
      refine JN.blkR ?_
      refine JN.passR ?_
      refine JN.outP (vs := [.agg #[.slice none 0 0, .slice none 0 0], .int .i64 2]) (K := [_]) (rst := [_, _]) (.inl rfl) rfl rfl (Res.cellN 0 rfl rfl S25 (Res.tmp rfl rfl)) (picks 2 rfl picks0) ?_
      obtain rfl := Option.some.inj hx
      exact ⟨aoa_7, na_7, capa_7, aoa_8, na_8, capa_8, none, 0, 0, none, 0, 0, rfl, rfl, rfl, ha_7, ha_8, (IsSlice.nil _ _ _), (IsSlice.nil _ _ _), trivial⟩
    · replace hx := cond_f c_15 hx
      refine JC.skip ?_
      refine JN.blkN ?_
      refine JN.next ?_
      refine JC.seq ?_
      refine JC.region ?_
      refine JL.val rfl rfl (R.move rfl) ?_
      obtain ⟨x_16, hr_17, hx⟩ := bnd_some hx
      refine JL.callC (vs := []) (args := [_]) (K := [_]) (rst := [_, _]) E82 rfl rfl rfl (picks 2 rfl picks0) (dev_Write_1_ok p_6 _ ha_7 ha_8 _ hr_17) rfl (fun u_18 Ku_18 Hu_18 hRu_18 hleu_18 hfu_18 => ?_)
      obtain ⟨aoz_19, nz_19, capz_19, aoz_20, nz_20, capz_20, aoz_21, nz_21, capz_21, aoz_22, nz_22, capz_22, rfl, rfl, rfl, hz_19, hz_20, hz_21, hz_22, -⟩ := hRu_18
      refine JL.store 1 S25 rfl rfl rfl rfl rfl (Nat.le_of_ble_eq_true rfl) ?_
      refine JL.val rfl rfl (R.assign rfl) ?_
      refine JL.nil ?_
      refine JN.next ?_
      refine JC.ret ?_
      refine JN.outP (vs := [.agg #[.slice aoz_21 nz_21 capz_21, .slice aoz_22 nz_22 capz_22], .int .i64 0]) (K := [_]) (rst := [_, _]) (.inl rfl) rfl rfl (Res.cellN 1 rfl rfl S25 (Res.tmp rfl rfl)) (picks 0 rfl picks0) ?_
      obtain rfl := Option.some.inj hx
      exact ⟨aoz_19, nz_19, capz_19, aoz_20, nz_20, capz_20, aoz_21, nz_21, capz_21, aoz_22, nz_22, capz_22, rfl, rfl, rfl, hz_19, hz_20, hz_21, hz_22, trivial⟩

set_option maxHeartbeats 8000000 in
theorem slices_Clip_Write_ok (p_1 : List Write) (H : Heaplet) {aoa_2 : Option Addr} {na_2 : Nat} {capa_2 : Nat} (ha_2 : IsSlice H R_Write 2 (.slice aoa_2 na_2 capa_2) p_1) (r : List Write) (hx : slices_Clip_Write p_1 = some r) :
    Does Try.prog 83 #[.slice aoa_2 na_2 capa_2] [] H (fun u K' H' => ∃ ao0 : Option Addr, ∃ n0 : Nat, u = .slice ao0 n0 n0 ∧ K' = [] ∧ H = H' ∧ IsSlice H R_Write 2 (.slice ao0 n0 n0) r ∧ True) := by
  refine Does.enterL (vs := [.slice aoa_2 na_2 capa_2]) (l := [(0, .slice aoa_2 na_2 capa_2)]) Try.func83 rfl rfl ⟨rfl, trivial⟩ (fun w hlt => ?_)
  unfold slices_Clip_Write at hx
  refine JC.seq ?_
  refine JC.region ?_
  refine JL.val rfl rfl (R.assign rfl) ?_
  refine JL.nil ?_
  refine JN.next ?_
  refine JC.seq ?_
  refine JC.region ?_
  refine JL.val rfl rfl (R.move rfl) ?_
  refine JL.val rfl rfl (R.move rfl) ?_
  refine JL.val rfl rfl (R.lenL U23 rfl (IsSlice.long ha_2)) ?_
  refine JL.val rfl rfl (R.move rfl) ?_
  refine JL.val rfl rfl (R.lenL U23 rfl (IsSlice.long ha_2)) ?_
  obtain ⟨m_3, hm_5, hb_4, hx⟩ := slc_some hx
  obtain ⟨vv_6, cv_6, aov_6, h1v_6, h2v_6, hsv_6⟩ := IsSlice.cutc ha_2 hm_5 hb_4
  refine JL.val rfl rfl (R.slc (cap := cv_6) (a := 0) (b := (p_1.length : Int)) (c := (p_1.length : Int)) (m := p_1) (R := R_Write) U23 S72 rfl rfl ⟨_, rfl⟩ ⟨_, rfl⟩ ⟨hb_4.1, hb_4.2.1, Int.le_refl _⟩ h1v_6 (.inr (fun h => by cases h))) ?_
  subst h2v_6
  refine JL.val rfl rfl (R.assign rfl) ?_
  refine JL.nil ?_
  refine JN.next ?_
  refine JC.ret ?_
  refine JN.outP (vs := [.slice aov_6 m_3.length m_3.length]) (K := []) (rst := []) (.inl rfl) rfl rfl (Res.tmp rfl rfl) picks0 ?_
  obtain rfl := Option.some.inj hx
  exact ⟨aov_6, m_3.length, rfl, rfl, rfl, hsv_6, trivial⟩

set_option maxHeartbeats 8000000 in
theorem dev_Twin_ok (p_1 : Disk) (H : Heaplet) {aoa_2 : Option Addr} {na_2 : Nat} {capa_2 : Nat} {aoa_3 : Option Addr} {na_3 : Nat} {capa_3 : Nat} (ha_2 : IsSlice H (RSl RU8 1) 1 (.slice aoa_2 na_2 capa_2) p_1.Blocks) (ha_3 : IsSlice H R_Write 2 (.slice aoa_3 na_3 capa_3) p_1.Waits) (r : Disk) (hx : dev_Twin p_1 = some r) :
    Does Try.prog 46 #[.agg #[.slice aoa_2 na_2 capa_2, .slice aoa_3 na_3 capa_3]] [] H (fun u K' H' => ∃ ao0 : Option Addr, ∃ n0 : Nat, ∃ cap0 : Nat, ∃ K0 : Own, ∃ ao1 : Option Addr, ∃ n1 : Nat, ∃ cap1 : Nat, ∃ K1 : Own, u = .agg #[.slice ao0 n0 cap0, .slice ao1 n1 cap1] ∧ K' = [K0, K1] ∧ Pcs 0 5 26 (.slice ao0 n0 cap0) r.Blocks K0 ∧ (∀ p ∈ K0, p.1 ∉ ids (List.flatten [])) ∧ RowOf (New H H') R_Write 0 72 2 (.slice ao1 n1 cap1) r.Waits K1 ∧ (∀ p ∈ K1, p.1 ∉ ids (List.flatten [])) ∧ True) := by
  refine Does.enterL (vs := [.agg #[.slice aoa_2 na_2 capa_2, .slice aoa_3 na_3 capa_3]]) (l := [(0, .agg #[.slice aoa_2 na_2 capa_2, .slice aoa_3 na_3 capa_3])]) Try.func46 rfl rfl ⟨rfl, trivial⟩ (fun w hlt => ?_)
  unfold dev_Twin at hx
  refine JC.seq ?_
  refine JC.region ?_
  refine JL.box rfl rfl (fun b_4 hb_4 => ?_)
  refine JL.alloc Z25 rfl (fun b_5 hb_5 => ?_)
  refine JL.nil ?_
  refine JN.next ?_
  refine JC.seq ?_
  refine JC.region ?_
  refine JL.val rfl rfl (R.assign rfl) ?_
  refine JL.nil ?_
  refine JN.next ?_
  refine JC.seq ?_
  refine JC.seq ?_
  refine JC.region ?_
  refine JL.val rfl rfl (R.fa F25_0 rfl) ?_
  refine JL.val rfl rfl (R.ldo 1 S22 rfl rfl rfl) ?_
  refine JL.val rfl rfl (R.lenL U22 rfl (IsSlice.long ha_2)) ?_
  refine JL.val rfl rfl (R.move rfl) ?_
  refine JL.nil ?_
  refine JN.next ?_
  obtain ⟨t_6, ht_8, hx⟩ := bnd_some hx
  refine JC.cut (fun l o g => ∃ aor_13 : Option Addr, ∃ nr_13 : Nat, ∃ capr_13 : Nat, ∃ Kr_13 : Own, l = [(1, .pointer (some ⟨b_4, 0, none⟩)), (2, .pointer (some ⟨b_5, 0, none⟩)), (3, .slice aor_13 nr_13 capr_13)] ∧ o = [[(b_4, .cells #[.slice aoa_2 na_2 capa_2, .slice aoa_3 na_3 capa_3] 25 (0, 0))], [(b_5, .cells #[.slice none 0 0, .slice none 0 0] 25 (0, 0))], Kr_13] ∧ H = g ∧ RowOf (New H H) RInt w.heap.size 3 1 (.slice aor_13 nr_13 capr_13) t_6 Kr_13) ?_ ?_
  · rintro _ _ _ ⟨aor_13, nr_13, capr_13, Kr_13, rfl, rfl, rfl, hr_13⟩
    refine JN.next ?_
    refine JC.seq ?_
    refine JC.region ?_
    refine JL.val rfl rfl (R.move rfl) ?_
    refine JL.pubN 2 RInt.mono rfl hr_13 (Nat.le_refl _) (fun H_14 hleH_14 hsH_14 => ?_)
    refine JL.forget 2 ?_
    obtain ⟨x_15, hr_16, hx⟩ := bnd_some hx
    refine JL.callC (vs := [_]) (args := [_]) (K := []) (rst := [_, _]) E63 rfl rfl rfl picks0 (dev_cut_ok t_6 _ (hsH_14.old RInt.mono) _ hr_16) rfl (fun u_17 Ku_17 Hu_17 hRu_17 hleu_17 hfu_17 => ?_)
    obtain ⟨aor_18, nr_18, capr_18, Kr_18, rfl, rfl, rfl, hr_18, hnewr_18, -⟩ := hRu_17
    replace hr_18 := (Pcs.base hr_18 (fun p hp => (hfu_17 p (mem_seg 0 rfl hp)).resolve_left (hnewr_18 p hp)))
    refine JL.val rfl rfl (R.fa F25_0 rfl) ?_
    refine JL.store 2 S22 rfl rfl rfl rfl rfl (Nat.le_of_ble_eq_true rfl) ?_
    refine JL.nil ?_
    refine JN.next ?_
    refine JC.seq ?_
    refine JC.seq ?_
    refine JC.region ?_
    refine JL.val rfl rfl (R.fa F25_0 rfl) ?_
    refine JL.val rfl rfl (R.ldo 1 S22 rfl rfl rfl) ?_
    refine JL.val rfl rfl (R.lenL U22 rfl (IsSlice.long ha_2)) ?_
    refine JL.val rfl rfl (R.move rfl) ?_
    refine JL.nil ?_
    refine JN.next ?_
    obtain ⟨t_19, ht_21, hx⟩ := bnd_some hx
    refine JC.cut (fun l o g => ∃ Kr_26 : Own, l = [(1, .pointer (some ⟨b_4, 0, none⟩)), (2, .pointer (some ⟨b_5, 0, none⟩))] ∧ o = [[(b_4, .cells #[.slice aoa_2 na_2 capa_2, .slice aoa_3 na_3 capa_3] 25 (0, 0))], [(b_5, .cells #[.slice aor_18 nr_18 capr_18, .slice none 0 0] 25 (0, 0))], Kr_26] ∧ H_14 = g ∧ Pcs w.heap.size 5 26 (.slice aor_18 nr_18 capr_18) t_19 Kr_26) ?_ ?_
    · rintro _ _ _ ⟨Kr_26, rfl, rfl, rfl, hr_26⟩
      refine JN.next ?_
      refine JC.seq ?_
      refine JC.seq ?_
      refine JC.region ?_
      refine JL.val rfl rfl (R.fa F25_1 rfl) ?_
      refine JL.val rfl rfl (R.ldo 0 S23 rfl rfl rfl) ?_
      refine JL.val rfl rfl (R.lenL U23 rfl (IsSlice.long ha_3)) ?_
      refine JL.val rfl rfl (R.move rfl) ?_
      refine JL.nil ?_
      refine JN.next ?_
      obtain ⟨t_27, ht_29, hx⟩ := bnd_some hx
      refine JC.cut (fun l o g => ∃ H_35 : Heaplet, ∃ aor_36 : Option Addr, ∃ nr_36 : Nat, ∃ capr_36 : Nat, ∃ Kr_36 : Own, l = [(2, .pointer (some ⟨b_5, 0, none⟩))] ∧ o = [[(b_5, .cells #[.slice aor_18 nr_18 capr_18, .slice aor_36 nr_36 capr_36] 25 (0, 0))], Kr_26, Kr_36] ∧ H_35 = g ∧ Hle H_14 H_35 ∧ RowOf (New H H_35) R_Write w.heap.size 72 2 (.slice aor_36 nr_36 capr_36) t_27 Kr_36) ?_ ?_
      · rintro _ _ _ ⟨H_35, aor_36, nr_36, capr_36, Kr_36, rfl, rfl, rfl, hleH_35, hr_36⟩
        refine JN.next ?_
        refine JC.ret ?_
        refine JN.outP (vs := [.agg #[.slice aor_18 nr_18 capr_18, .slice aor_36 nr_36 capr_36]]) (K := [_, _]) (rst := [_]) (.inl rfl) rfl rfl (Res.cellN 0 rfl rfl S25 rfl) (picks 1 rfl (picks 1 rfl picks0)) ?_
        obtain rfl := Option.some.inj hx
        exact ⟨aor_18, nr_18, capr_18, Kr_26, aor_36, nr_36, capr_36, Kr_36, rfl, rfl, (Pcs.weak (Nat.zero_le _) hr_26), (newP_ids hr_26 hlt), (RowOf.weak (Nat.zero_le _) hr_36), (new_ids hr_36 hlt), trivial⟩
      · have hxo_28 := hx; clear hx; have hx := ht_29; clear ht_29
        refine JC.block ?_
        refine JC.seg0 ?_
        refine JC.forget 1 ?_
        refine JC.front 2 rfl ?_
        refine JC.front 2 rfl ?_
        refine JC.loopI (fun n l o g => ∃ s_30 : List Write × Nat, ∃ H_33 : Heaplet, ∃ aor_34 : Option Addr, ∃ nr_34 : Nat, ∃ capr_34 : Nat, ∃ Kr_34 : Own, l = [(2, .pointer (some ⟨b_5, 0, none⟩)), (43, .slice aoa_3 na_3 capa_3), (44, .int .i64 (p_1.Waits.length : Int)), (45, .int .i64 ((s_30.2 : Nat) : Int))] ∧ o = [[(b_5, .cells #[.slice aor_18 nr_18 capr_18, .slice aor_34 nr_34 capr_34] 25 (0, 0))], Kr_26, Kr_34] ∧ H_33 = g ∧ run (dev_Twin_l3 p_1) n s_30 = some t_27 ∧ Hle H_14 H_33 ∧ RowOf (New H H_33) R_Write w.heap.size 72 2 (.slice aor_34 nr_34 capr_34) s_30.1 Kr_34) FUEL ?_ ⟨(([] : List Write), 0), H_14, none, 0, 0, [], rfl, rfl, rfl, hx, (Hle.refl _), (RowOf.nil _ _ _ _ _)⟩ ⟨rfl, rfl, rfl, rfl, trivial⟩ ?_
        · rintro _ _ _ ⟨s_30, H_33, aor_34, nr_34, capr_34, Kr_34, rfl, rfl, rfl, hn_31, hleH_33, hr_34⟩
          exact run_zero hn_31
        · rintro n_32 _ _ _ ⟨s_30, H_33, aor_34, nr_34, capr_34, Kr_34, rfl, rfl, rfl, hn_31, hleH_33, hr_34⟩
          clear hx; obtain ⟨oo_36, hx, hd_35⟩ := run_some hn_31
          unfold dev_Twin_l3 at hx
          refine JC.seq ?_
          refine JC.region ?_
          refine JL.val rfl rfl (R.lss_i rfl rfl) ?_
          refine JL.nil ?_
          refine JN.next ?_
          refine JC.seq ?_
          refine JC.condB rfl (fun c_35 => ?_) (fun c_35 => ?_)
          · replace hx := cond_t c_35 hx
            refine JC.skip ?_
            refine JN.next ?_
            refine JC.seq ?_
            refine JC.block ?_
            refine JC.seq ?_
            refine JC.region ?_
            obtain ⟨y_36, hN_37, hx⟩ := idx_some hx
            obtain ⟨b_38, o_39, cs_40, hE_41, hR_42, hl_43, hc_44⟩ := IsSlice.elem (ha_3.mono R_Write.mono (hleH_14.trans hleH_33)) hN_37
            obtain ⟨v_45, rfl, hs_46⟩ := hR_42
            obtain ⟨aov_45, capv_45, rfl⟩ := IsSlice.val hs_46
            refine JL.val rfl rfl (R.ix U23 S72 rfl rfl hE_41) ?_
            refine JL.val rfl rfl (R.ldHE (cs := [.int .i64 y_36.At, .slice aov_45 y_36.Data.length capv_45]) (k := 0) (vs := [.int .i64 y_36.At, .slice aov_45 y_36.Data.length capv_45]) S72 rfl hc_44 rfl rfl) ?_
            refine JL.alloc Z72 rfl (fun b_47 hb_47 => ?_)
            refine JL.store 0 S72 rfl rfl rfl rfl rfl (Nat.le_of_ble_eq_true rfl) ?_
            refine JL.nil ?_
            refine JN.next ?_
            refine JC.draw (so := [_, _]) 12 rfl Mixed ⟨⟨0, rfl⟩, ⟨2, rfl⟩, trivial⟩ ?_
            refine JA.val ⟨by kernel_rfl, by kernel_rfl⟩ (calm_only _) (i := 0) rfl ⟨by kernel_rfl, by kernel_rfl, rfl⟩ trivial (stab_of (Hle.refl _) ⟨⟨0, rfl⟩, ⟨2, rfl⟩, trivial⟩) (R.fa F25_1 rfl) rfl ?_
            refine JA.val ⟨by kernel_rfl, by kernel_rfl⟩ (calm_only _) (i := 2) rfl ⟨by kernel_rfl, by kernel_rfl, rfl⟩ trivial (stab_of (Hle.refl _) ⟨⟨0, rfl⟩, ⟨2, rfl⟩, trivial⟩) (R.fa F72_0 rfl) rfl ?_
            refine JA.val ⟨by kernel_rfl, by kernel_rfl⟩ (calm_only _) (i := 3) rfl ⟨by kernel_rfl, by kernel_rfl, rfl⟩ trivial (stab_of (Hle.refl _) ⟨⟨0, rfl⟩, ⟨2, rfl⟩, trivial⟩) (R.ldo 0 S3 rfl rfl rfl) rfl ?_
            refine JA.val ⟨by kernel_rfl, by kernel_rfl⟩ (calm_only _) (i := 4) rfl ⟨by kernel_rfl, by kernel_rfl, rfl⟩ trivial (stab_of (Hle.refl _) ⟨⟨0, rfl⟩, ⟨2, rfl⟩, trivial⟩) (R.fa F72_1 rfl) rfl ?_
            refine JA.val ⟨by kernel_rfl, by kernel_rfl⟩ (calm_only _) (i := 5) rfl ⟨by kernel_rfl, by kernel_rfl, rfl⟩ trivial (stab_of (Hle.refl _) ⟨⟨0, rfl⟩, ⟨2, rfl⟩, trivial⟩) (R.ldo 0 S26 rfl rfl rfl) rfl ?_
            obtain ⟨x_48, hr_49, hx⟩ := bnd_some hx
            obtain ⟨q_54, hm_55, hl_56, hx⟩ := app_some hx
            refine JA.two (i := 1) (j := 6) (by kernel_rfl) ?_ ?_
            · refine JO.step rfl trivial rfl (fun K hK => ?_)
              refine JL.val rfl rfl (R.ldo 1 S23 rfl rfl rfl) ?_
              refine JL.nil ?_
              refine hK _ _ _ (stab_of (Hle.refl _) ⟨⟨0, rfl⟩, ⟨2, rfl⟩, trivial⟩) ?_
              refine JA.one (i := 6) (by kernel_rfl) ?_
              refine JO.step rfl trivial rfl (fun K hK => ?_)
              refine JL.callC (vs := [_]) (args := [_]) (K := []) (rst := [_, _, _, _]) E69 rfl rfl rfl picks0 (bytes_Clone_ok y_36.Data _ hs_46 _ hr_49) rfl (fun u_50 Ku_50 Hu_50 hRu_50 hleu_50 hfu_50 => ?_)
              obtain ⟨aor_51, nr_51, capr_51, Kr_51, rfl, rfl, rfl, hr_51, hnewr_51, -⟩ := hRu_50
              replace hr_51 := (RowOf.base (RowOf.const (H2 := New H H_33) RU8.const hr_51) (fun p hp => (hfu_50 p (mem_seg 0 rfl hp)).resolve_left (hnewr_51 p hp)))
              refine JL.nil ?_
              refine hK _ _ _ (stab_of (Hle.refl _) ⟨⟨1, rfl⟩, ⟨3, rfl⟩, trivial⟩) ?_
              refine JA.one (i := 7) (by kernel_rfl) ?_
              refine JO.step rfl trivial rfl (fun K hK => ?_)
              refine JL.val rfl rfl (R.bldP (vs := [(0, .int .i64 y_36.At), (1, .slice aor_51 nr_51 capr_51)]) (cs := [.int .i64 y_36.At, .slice aor_51 nr_51 capr_51]) Z72 B72 rfl rfl rfl) ?_
              refine JL.nil ?_
              refine hK _ _ _ (stab_of (Hle.refl _) ⟨⟨1, rfl⟩, ⟨3, rfl⟩, trivial⟩) ?_
              refine JA.one (i := 8) (by kernel_rfl) ?_
              refine JO.step rfl trivial rfl (fun K hK => ?_)
              refine JL.pubN 0 RU8.mono rfl hr_51 (Nat.le_refl _) (fun H_52 hleH_52 hsH_52 => ?_)
              refine JL.forget 0 ?_
              refine JL.bslF (HF := (New H H_52)) (R := R_Write) (ls := [Write.mk y_36.At x_48]) (vs := [.agg #[.int .i64 y_36.At, .slice aor_51 nr_51 capr_51]]) U23 I72 rfl rfl (⟨_, _, rfl, rfl, ⟨_, rfl, hsH_52⟩, rfl⟩) R_Write.one rfl rfl rfl (by simp [maxLen]) rfl (fun vr_53 Kr_53 hr_53 => ?_)
              obtain ⟨aor_53, capr_53, rfl⟩ := RowOf.val hr_53
              refine JL.nil ?_
              refine hK _ _ _ (stab_of hleH_52 ⟨⟨1, rfl⟩, ⟨3, rfl⟩, trivial⟩) ?_
              refine JA.one (i := 9) (by kernel_rfl) ?_
              refine JO.step rfl trivial rfl (fun K hK => ?_)
              refine JL.appF (HF := (New H H_52)) 4 U23 I72 rfl rfl (hr_34.mono R_Write.mono (New.mono hleH_52)) rfl (SrcF.row 0 U23 rfl hr_53) hm_55 hl_56 rfl (Nat.le_refl _) rfl (fun vr_57 Kr_57 hr_57 => ?_)
              obtain ⟨aor_57, capr_57, rfl⟩ := RowOf.val hr_57
              refine JL.nil ?_
              refine hK _ _ _ (stab_of hleH_52 ⟨⟨1, rfl⟩, ⟨3, rfl⟩, trivial⟩) ?_
              refine JA.val ⟨by kernel_rfl, by kernel_rfl⟩ (calm_only _) (i := 10) rfl ⟨by kernel_rfl, by kernel_rfl, rfl⟩ trivial (stab_of hleH_52 ⟨⟨1, rfl⟩, ⟨3, rfl⟩, trivial⟩) (R.fa F25_1 rfl) rfl ?_
              refine JA.one (i := 11) (by kernel_rfl) ?_
              refine JO.step rfl trivial rfl (fun K hK => ?_)
              refine JL.store 2 S23 rfl rfl rfl rfl rfl (Nat.le_of_ble_eq_true rfl) ?_
              refine JL.nil ?_
              refine hK _ _ _ (stab_of hleH_52 ⟨⟨1, rfl⟩, ⟨3, rfl⟩, trivial⟩) ?_
              refine JA.doneN (by kernel_rfl) ?_
              refine JN.blkN ?_
              refine JN.next ?_
              refine JC.region ?_
              refine JL.val rfl rfl (R.inc rfl rfl (of_decide_eq_true c_35) (IsSlice.lenI ha_3)) ?_
              refine JL.val rfl rfl (R.move rfl) ?_
              refine JL.nil ?_
              replace hx := run_next hd_35 hx
              refine JN.forget 1 ?_
              refine JN.forget 0 ?_
              refine JN.front 2 rfl ?_
              refine JN.front 2 rfl ?_
              refine JN.front 2 rfl ?_
              exact JN.cut ⟨(q_54, s_30.2 + 1), H_52, aor_57, q_54.length, capr_57, Kr_57, rfl, rfl, rfl, hx, ((hleH_33.trans hleH_52)), hr_57⟩ ⟨rfl, rfl, rfl, rfl, trivial⟩ rfl rfl
            · refine JO.step rfl trivial rfl (fun K hK => ?_)
              refine JL.callC (vs := [_]) (args := [_]) (K := []) (rst := [_, _, _, _]) E69 rfl rfl rfl picks0 (bytes_Clone_ok y_36.Data _ hs_46 _ hr_49) rfl (fun u_50 Ku_50 Hu_50 hRu_50 hleu_50 hfu_50 => ?_)
              obtain ⟨aor_51, nr_51, capr_51, Kr_51, rfl, rfl, rfl, hr_51, hnewr_51, -⟩ := hRu_50
              replace hr_51 := (RowOf.base (RowOf.const (H2 := New H H_33) RU8.const hr_51) (fun p hp => (hfu_50 p (mem_seg 0 rfl hp)).resolve_left (hnewr_51 p hp)))
              refine JL.nil ?_
              refine hK _ _ _ (stab_of (Hle.refl _) ⟨⟨1, rfl⟩, ⟨3, rfl⟩, trivial⟩) ?_
              refine JA.two (i := 1) (j := 7) (by kernel_rfl) ?_ ?_
              · refine JO.step rfl trivial rfl (fun K hK => ?_)
                refine JL.val rfl rfl (R.ldo 2 S23 rfl rfl rfl) ?_
                refine JL.nil ?_
                refine hK _ _ _ (stab_of (Hle.refl _) ⟨⟨1, rfl⟩, ⟨3, rfl⟩, trivial⟩) ?_
                refine JA.one (i := 7) (by kernel_rfl) ?_
                refine JO.step rfl trivial rfl (fun K hK => ?_)
                refine JL.val rfl rfl (R.bldP (vs := [(0, .int .i64 y_36.At), (1, .slice aor_51 nr_51 capr_51)]) (cs := [.int .i64 y_36.At, .slice aor_51 nr_51 capr_51]) Z72 B72 rfl rfl rfl) ?_
                refine JL.nil ?_
                refine hK _ _ _ (stab_of (Hle.refl _) ⟨⟨1, rfl⟩, ⟨3, rfl⟩, trivial⟩) ?_
                refine JA.one (i := 8) (by kernel_rfl) ?_
                refine JO.step rfl trivial rfl (fun K hK => ?_)
                refine JL.pubN 0 RU8.mono rfl hr_51 (Nat.le_refl _) (fun H_52 hleH_52 hsH_52 => ?_)
                refine JL.forget 0 ?_
                refine JL.bslF (HF := (New H H_52)) (R := R_Write) (ls := [Write.mk y_36.At x_48]) (vs := [.agg #[.int .i64 y_36.At, .slice aor_51 nr_51 capr_51]]) U23 I72 rfl rfl (⟨_, _, rfl, rfl, ⟨_, rfl, hsH_52⟩, rfl⟩) R_Write.one rfl rfl rfl (by simp [maxLen]) rfl (fun vr_53 Kr_53 hr_53 => ?_)
                obtain ⟨aor_53, capr_53, rfl⟩ := RowOf.val hr_53
                refine JL.nil ?_
                refine hK _ _ _ (stab_of hleH_52 ⟨⟨1, rfl⟩, ⟨3, rfl⟩, trivial⟩) ?_
                refine JA.one (i := 9) (by kernel_rfl) ?_
                refine JO.step rfl trivial rfl (fun K hK => ?_)
                refine JL.appF (HF := (New H H_52)) 4 U23 I72 rfl rfl (hr_34.mono R_Write.mono (New.mono hleH_52)) rfl (SrcF.row 0 U23 rfl hr_53) hm_55 hl_56 rfl (Nat.le_refl _) rfl (fun vr_57 Kr_57 hr_57 => ?_)
                obtain ⟨aor_57, capr_57, rfl⟩ := RowOf.val hr_57
                refine JL.nil ?_
                refine hK _ _ _ (stab_of hleH_52 ⟨⟨1, rfl⟩, ⟨3, rfl⟩, trivial⟩) ?_
                refine JA.val ⟨by kernel_rfl, by kernel_rfl⟩ (calm_only _) (i := 10) rfl ⟨by kernel_rfl, by kernel_rfl, rfl⟩ trivial (stab_of hleH_52 ⟨⟨1, rfl⟩, ⟨3, rfl⟩, trivial⟩) (R.fa F25_1 rfl) rfl ?_
                refine JA.one (i := 11) (by kernel_rfl) ?_
                refine JO.step rfl trivial rfl (fun K hK => ?_)
                refine JL.store 2 S23 rfl rfl rfl rfl rfl (Nat.le_of_ble_eq_true rfl) ?_
                refine JL.nil ?_
                refine hK _ _ _ (stab_of hleH_52 ⟨⟨1, rfl⟩, ⟨3, rfl⟩, trivial⟩) ?_
                refine JA.doneN (by kernel_rfl) ?_
                refine JN.blkN ?_
                refine JN.next ?_
                refine JC.region ?_
                refine JL.val rfl rfl (R.inc rfl rfl (of_decide_eq_true c_35) (IsSlice.lenI ha_3)) ?_
                refine JL.val rfl rfl (R.move rfl) ?_
                refine JL.nil ?_
                replace hx := run_next hd_35 hx
                refine JN.forget 1 ?_
                refine JN.forget 0 ?_
                refine JN.front 2 rfl ?_
                refine JN.front 2 rfl ?_
                refine JN.front 2 rfl ?_
                exact JN.cut ⟨(q_54, s_30.2 + 1), H_52, aor_57, q_54.length, capr_57, Kr_57, rfl, rfl, rfl, hx, ((hleH_33.trans hleH_52)), hr_57⟩ ⟨rfl, rfl, rfl, rfl, trivial⟩ rfl rfl
              · refine JO.step rfl trivial rfl (fun K hK => ?_)
                refine JL.val rfl rfl (R.bldP (vs := [(0, .int .i64 y_36.At), (1, .slice aor_51 nr_51 capr_51)]) (cs := [.int .i64 y_36.At, .slice aor_51 nr_51 capr_51]) Z72 B72 rfl rfl rfl) ?_
                refine JL.nil ?_
                refine hK _ _ _ (stab_of (Hle.refl _) ⟨⟨1, rfl⟩, ⟨3, rfl⟩, trivial⟩) ?_
                refine JA.two (i := 1) (j := 8) (by kernel_rfl) ?_ ?_
                · refine JO.step rfl trivial rfl (fun K hK => ?_)
                  refine JL.val rfl rfl (R.ldo 2 S23 rfl rfl rfl) ?_
                  refine JL.nil ?_
                  refine hK _ _ _ (stab_of (Hle.refl _) ⟨⟨1, rfl⟩, ⟨3, rfl⟩, trivial⟩) ?_
                  refine JA.one (i := 8) (by kernel_rfl) ?_
                  refine JO.step rfl trivial rfl (fun K hK => ?_)
                  refine JL.pubN 0 RU8.mono rfl hr_51 (Nat.le_refl _) (fun H_52 hleH_52 hsH_52 => ?_)
                  refine JL.forget 0 ?_
                  refine JL.bslF (HF := (New H H_52)) (R := R_Write) (ls := [Write.mk y_36.At x_48]) (vs := [.agg #[.int .i64 y_36.At, .slice aor_51 nr_51 capr_51]]) U23 I72 rfl rfl (⟨_, _, rfl, rfl, ⟨_, rfl, hsH_52⟩, rfl⟩) R_Write.one rfl rfl rfl (by simp [maxLen]) rfl (fun vr_53 Kr_53 hr_53 => ?_)
                  obtain ⟨aor_53, capr_53, rfl⟩ := RowOf.val hr_53
                  refine JL.nil ?_
                  refine hK _ _ _ (stab_of hleH_52 ⟨⟨1, rfl⟩, ⟨3, rfl⟩, trivial⟩) ?_
                  refine JA.one (i := 9) (by kernel_rfl) ?_
                  refine JO.step rfl trivial rfl (fun K hK => ?_)
                  refine JL.appF (HF := (New H H_52)) 4 U23 I72 rfl rfl (hr_34.mono R_Write.mono (New.mono hleH_52)) rfl (SrcF.row 0 U23 rfl hr_53) hm_55 hl_56 rfl (Nat.le_refl _) rfl (fun vr_57 Kr_57 hr_57 => ?_)
                  obtain ⟨aor_57, capr_57, rfl⟩ := RowOf.val hr_57
                  refine JL.nil ?_
                  refine hK _ _ _ (stab_of hleH_52 ⟨⟨1, rfl⟩, ⟨3, rfl⟩, trivial⟩) ?_
                  refine JA.val ⟨by kernel_rfl, by kernel_rfl⟩ (calm_only _) (i := 10) rfl ⟨by kernel_rfl, by kernel_rfl, rfl⟩ trivial (stab_of hleH_52 ⟨⟨1, rfl⟩, ⟨3, rfl⟩, trivial⟩) (R.fa F25_1 rfl) rfl ?_
                  refine JA.one (i := 11) (by kernel_rfl) ?_
                  refine JO.step rfl trivial rfl (fun K hK => ?_)
                  refine JL.store 2 S23 rfl rfl rfl rfl rfl (Nat.le_of_ble_eq_true rfl) ?_
                  refine JL.nil ?_
                  refine hK _ _ _ (stab_of hleH_52 ⟨⟨1, rfl⟩, ⟨3, rfl⟩, trivial⟩) ?_
                  refine JA.doneN (by kernel_rfl) ?_
                  refine JN.blkN ?_
                  refine JN.next ?_
                  refine JC.region ?_
                  refine JL.val rfl rfl (R.inc rfl rfl (of_decide_eq_true c_35) (IsSlice.lenI ha_3)) ?_
                  refine JL.val rfl rfl (R.move rfl) ?_
                  refine JL.nil ?_
                  replace hx := run_next hd_35 hx
                  refine JN.forget 1 ?_
                  refine JN.forget 0 ?_
                  refine JN.front 2 rfl ?_
                  refine JN.front 2 rfl ?_
                  refine JN.front 2 rfl ?_
                  exact JN.cut ⟨(q_54, s_30.2 + 1), H_52, aor_57, q_54.length, capr_57, Kr_57, rfl, rfl, rfl, hx, ((hleH_33.trans hleH_52)), hr_57⟩ ⟨rfl, rfl, rfl, rfl, trivial⟩ rfl rfl
                · refine JO.step rfl trivial rfl (fun K hK => ?_)
                  refine JL.pubN 0 RU8.mono rfl hr_51 (Nat.le_refl _) (fun H_52 hleH_52 hsH_52 => ?_)
                  refine JL.forget 0 ?_
                  refine JL.bslF (HF := (New H H_52)) (R := R_Write) (ls := [Write.mk y_36.At x_48]) (vs := [.agg #[.int .i64 y_36.At, .slice aor_51 nr_51 capr_51]]) U23 I72 rfl rfl (⟨_, _, rfl, rfl, ⟨_, rfl, hsH_52⟩, rfl⟩) R_Write.one rfl rfl rfl (by simp [maxLen]) rfl (fun vr_53 Kr_53 hr_53 => ?_)
                  obtain ⟨aor_53, capr_53, rfl⟩ := RowOf.val hr_53
                  refine JL.nil ?_
                  refine hK _ _ _ (stab_of hleH_52 ⟨⟨1, rfl⟩, ⟨3, rfl⟩, trivial⟩) ?_
                  refine JA.one (i := 1) (by kernel_rfl) ?_
                  refine JO.step rfl trivial rfl (fun K hK => ?_)
                  refine JL.val rfl rfl (R.ldo 2 S23 rfl rfl rfl) ?_
                  refine JL.nil ?_
                  refine hK _ _ _ (stab_of hleH_52 ⟨⟨1, rfl⟩, ⟨3, rfl⟩, trivial⟩) ?_
                  refine JA.one (i := 9) (by kernel_rfl) ?_
                  refine JO.step rfl trivial rfl (fun K hK => ?_)
                  refine JL.appF (HF := (New H H_52)) 4 U23 I72 rfl rfl (hr_34.mono R_Write.mono (New.mono hleH_52)) rfl (SrcF.row 0 U23 rfl hr_53) hm_55 hl_56 rfl (Nat.le_refl _) rfl (fun vr_57 Kr_57 hr_57 => ?_)
                  obtain ⟨aor_57, capr_57, rfl⟩ := RowOf.val hr_57
                  refine JL.nil ?_
                  refine hK _ _ _ (stab_of hleH_52 ⟨⟨1, rfl⟩, ⟨3, rfl⟩, trivial⟩) ?_
                  refine JA.val ⟨by kernel_rfl, by kernel_rfl⟩ (calm_only _) (i := 10) rfl ⟨by kernel_rfl, by kernel_rfl, rfl⟩ trivial (stab_of hleH_52 ⟨⟨1, rfl⟩, ⟨3, rfl⟩, trivial⟩) (R.fa F25_1 rfl) rfl ?_
                  refine JA.one (i := 11) (by kernel_rfl) ?_
                  refine JO.step rfl trivial rfl (fun K hK => ?_)
                  refine JL.store 2 S23 rfl rfl rfl rfl rfl (Nat.le_of_ble_eq_true rfl) ?_
                  refine JL.nil ?_
                  refine hK _ _ _ (stab_of hleH_52 ⟨⟨1, rfl⟩, ⟨3, rfl⟩, trivial⟩) ?_
                  refine JA.doneN (by kernel_rfl) ?_
                  refine JN.blkN ?_
                  refine JN.next ?_
                  refine JC.region ?_
                  refine JL.val rfl rfl (R.inc rfl rfl (of_decide_eq_true c_35) (IsSlice.lenI ha_3)) ?_
                  refine JL.val rfl rfl (R.move rfl) ?_
                  refine JL.nil ?_
                  replace hx := run_next hd_35 hx
                  refine JN.forget 1 ?_
                  refine JN.forget 0 ?_
                  refine JN.front 2 rfl ?_
                  refine JN.front 2 rfl ?_
                  refine JN.front 2 rfl ?_
                  exact JN.cut ⟨(q_54, s_30.2 + 1), H_52, aor_57, q_54.length, capr_57, Kr_57, rfl, rfl, rfl, hx, ((hleH_33.trans hleH_52)), hr_57⟩ ⟨rfl, rfl, rfl, rfl, trivial⟩ rfl rfl
          · replace hx := cond_f c_35 hx
            refine JC.exit ?_
            refine JN.passX ?_
            obtain rfl := run_done hd_35 hx
            refine JN.passX ?_
            refine JN.exitSame ?_
            refine JN.front 2 rfl ?_
            refine JN.front 2 rfl ?_
            refine JN.front 2 rfl ?_
            exact JN.cut ⟨H_33, aor_34, nr_34, capr_34, Kr_34, rfl, rfl, rfl, (hleH_33), hr_34⟩ ⟨rfl, trivial⟩ rfl rfl
    · have hxo_20 := hx; clear hx; have hx := ht_21; clear ht_21
      refine JC.block ?_
      refine JC.front 2 rfl ?_
      refine JC.front 2 rfl ?_
      refine JC.loopI (fun n l o g => ∃ s_22 : List (List UInt8) × Nat, ∃ Kr_25 : Own, l = [(1, .pointer (some ⟨b_4, 0, none⟩)), (2, .pointer (some ⟨b_5, 0, none⟩)), (27, .slice aoa_2 na_2 capa_2), (28, .int .i64 (p_1.Blocks.length : Int)), (29, .int .i64 ((s_22.2 : Nat) : Int))] ∧ o = [[(b_4, .cells #[.slice aoa_2 na_2 capa_2, .slice aoa_3 na_3 capa_3] 25 (0, 0))], [(b_5, .cells #[.slice aor_18 nr_18 capr_18, .slice none 0 0] 25 (0, 0))], Kr_25] ∧ H_14 = g ∧ run (dev_Twin_l2 p_1) n s_22 = some t_19 ∧ Pcs w.heap.size 5 26 (.slice aor_18 nr_18 capr_18) s_22.1 Kr_25) FUEL ?_ ⟨(x_15, 0), Kr_18, rfl, rfl, rfl, hx, hr_18⟩ ⟨rfl, rfl, rfl, rfl, rfl, trivial⟩ ?_
      · rintro _ _ _ ⟨s_22, Kr_25, rfl, rfl, rfl, hn_23, hr_25⟩
        exact run_zero hn_23
      · rintro n_24 _ _ _ ⟨s_22, Kr_25, rfl, rfl, rfl, hn_23, hr_25⟩
        clear hx; obtain ⟨oo_27, hx, hd_26⟩ := run_some hn_23
        unfold dev_Twin_l2 at hx
        refine JC.seq ?_
        refine JC.region ?_
        refine JL.val rfl rfl (R.lss_i rfl rfl) ?_
        refine JL.nil ?_
        refine JN.next ?_
        refine JC.seq ?_
        refine JC.condB rfl (fun c_26 => ?_) (fun c_26 => ?_)
        · replace hx := cond_t c_26 hx
          refine JC.skip ?_
          refine JN.next ?_
          refine JC.seq ?_
          refine JC.block ?_
          refine JC.seq ?_
          refine JC.region ?_
          refine JL.val rfl rfl (R.move rfl) ?_
          obtain ⟨y_27, hN_28, hx⟩ := idx_some hx
          obtain ⟨b_29, o_30, cs_31, hE_32, hR_33, hl_34, hc_35⟩ := IsSlice.elem (ha_2.mono (RSl.mono RU8.mono) hleH_14) hN_28
          obtain ⟨v_36, rfl, hs_37⟩ := hR_33
          obtain ⟨aov_36, capv_36, rfl⟩ := IsSlice.val hs_37
          refine JL.val rfl rfl (R.ix U22 S26 rfl rfl hE_32) ?_
          refine JL.val rfl rfl (R.ldH S26 rfl (hc_35 0 _ rfl)) ?_
          refine JL.val rfl rfl (R.assign rfl) ?_
          refine JL.val rfl rfl (R.assign rfl) ?_
          refine JL.nil ?_
          refine JN.next ?_
          refine JC.region ?_
          refine JL.val rfl rfl (R.fa F25_0 rfl) ?_
          refine JL.val rfl rfl (R.ldo 1 S22 rfl rfl rfl) ?_
          refine JL.val rfl rfl (R.move rfl) ?_
          obtain ⟨y_38, hN_39, hx⟩ := idx_some hx
          obtain ⟨b_41, o_40, cur_42, pv_43, hE_44, hm_45, hc_46, hA_47⟩ := Pcs.at hr_25 hN_39
          refine JL.val rfl rfl (R.ix U22 S26 rfl rfl hE_44) ?_
          refine JL.val rfl rfl (R.ldM 2 S26 rfl rfl hm_45 hc_46) ?_
          refine JL.val rfl rfl (R.move rfl) ?_
          obtain ⟨hl_48, hx⟩ := chk_some hx
          obtain ⟨m_51, hm_49, hi_50, hx⟩ := setI_some hx
          refine JL.copyP 2 U26 S5 rfl hr_25 hN_39 hA_47 rfl rfl (Hle.refl _) hs_37 hl_48 rfl (fun Kr_52 hr_52 => ?_)
          rw [← hm_49] at hr_52
          refine JL.nil ?_
          refine JN.blkN ?_
          refine JN.next ?_
          refine JC.region ?_
          refine JL.val rfl rfl (R.inc rfl rfl (of_decide_eq_true c_26) (IsSlice.lenI ha_2)) ?_
          refine JL.val rfl rfl (R.move rfl) ?_
          refine JL.nil ?_
          replace hx := run_next hd_26 hx
          refine JN.front 2 rfl ?_
          refine JN.front 2 rfl ?_
          refine JN.front 2 rfl ?_
          exact JN.cut ⟨(m_51, s_22.2 + 1), Kr_52, rfl, rfl, rfl, hx, hr_52⟩ ⟨rfl, rfl, rfl, rfl, rfl, trivial⟩ rfl rfl
        · replace hx := cond_f c_26 hx
          refine JC.exit ?_
          refine JN.passX ?_
          obtain rfl := run_done hd_26 hx
          refine JN.passX ?_
          refine JN.exitSame ?_
          refine JN.front 2 rfl ?_
          refine JN.front 2 rfl ?_
          refine JN.front 2 rfl ?_
          exact JN.cut ⟨Kr_25, rfl, rfl, rfl, hr_25⟩ ⟨rfl, rfl, trivial⟩ rfl rfl
  · have hxo_7 := hx; clear hx; have hx := ht_8; clear ht_8
    refine JC.block ?_
    refine JC.seg0 ?_
    refine JC.front 1 rfl ?_
    refine JC.front 2 rfl ?_
    refine JC.loopI (fun n l o g => ∃ s_9 : List Int × Nat, ∃ aor_12 : Option Addr, ∃ nr_12 : Nat, ∃ capr_12 : Nat, ∃ Kr_12 : Own, l = [(1, .pointer (some ⟨b_4, 0, none⟩)), (2, .pointer (some ⟨b_5, 0, none⟩)), (3, .slice aor_12 nr_12 capr_12), (11, .slice aoa_2 na_2 capa_2), (12, .int .i64 (p_1.Blocks.length : Int)), (13, .int .i64 ((s_9.2 : Nat) : Int))] ∧ o = [[(b_4, .cells #[.slice aoa_2 na_2 capa_2, .slice aoa_3 na_3 capa_3] 25 (0, 0))], [(b_5, .cells #[.slice none 0 0, .slice none 0 0] 25 (0, 0))], Kr_12] ∧ H = g ∧ run (dev_Twin_l1 p_1) n s_9 = some t_6 ∧ RowOf (New H H) RInt w.heap.size 3 1 (.slice aor_12 nr_12 capr_12) s_9.1 Kr_12) FUEL ?_ ⟨(([] : List Int), 0), none, 0, 0, [], rfl, rfl, rfl, hx, (RowOf.nil _ _ _ _ _)⟩ ⟨rfl, rfl, rfl, rfl, rfl, rfl, trivial⟩ ?_
    · rintro _ _ _ ⟨s_9, aor_12, nr_12, capr_12, Kr_12, rfl, rfl, rfl, hn_10, hr_12⟩
      exact run_zero hn_10
    · rintro n_11 _ _ _ ⟨s_9, aor_12, nr_12, capr_12, Kr_12, rfl, rfl, rfl, hn_10, hr_12⟩
      clear hx; obtain ⟨oo_14, hx, hd_13⟩ := run_some hn_10
      unfold dev_Twin_l1 at hx
      refine JC.seq ?_
      refine JC.region ?_
      refine JL.val rfl rfl (R.lss_i rfl rfl) ?_
      refine JL.nil ?_
      refine JN.next ?_
      refine JC.seq ?_
      refine JC.condB rfl (fun c_13 => ?_) (fun c_13 => ?_)
      · replace hx := cond_t c_13 hx
        refine JC.skip ?_
        refine JN.next ?_
        refine JC.seq ?_
        refine JC.block ?_
        refine JC.seq ?_
        refine JC.region ?_
        obtain ⟨y_14, hN_15, hx⟩ := idx_some hx
        obtain ⟨b_16, o_17, cs_18, hE_19, hR_20, hl_21, hc_22⟩ := IsSlice.elem ha_2 hN_15
        obtain ⟨v_23, rfl, hs_24⟩ := hR_20
        obtain ⟨aov_23, capv_23, rfl⟩ := IsSlice.val hs_24
        refine JL.val rfl rfl (R.ix U22 S26 rfl rfl hE_19) ?_
        refine JL.val rfl rfl (R.ldH S26 rfl (hc_22 0 _ rfl)) ?_
        refine JL.val rfl rfl (R.assign rfl) ?_
        refine JL.nil ?_
        refine JN.next ?_
        refine JC.region ?_
        refine JL.val rfl rfl (R.move rfl) ?_
        refine JL.val rfl rfl (R.move rfl) ?_
        refine JL.val rfl rfl (R.lenL U26 rfl (IsSlice.long hs_24)) ?_
        refine JL.bslF (HF := (New H H)) (R := RInt) (ls := [(y_14.length : Int)]) (vs := [.int .i64 (y_14.length : Int)]) U58 I3 rfl rfl (⟨_, _, rfl, rfl, rfl, rfl⟩) RInt.one rfl rfl rfl (by simp [maxLen]) rfl (fun vr_25 Kr_25 hr_25 => ?_)
        obtain ⟨aor_25, capr_25, rfl⟩ := RowOf.val hr_25
        obtain ⟨q_26, hm_27, hl_28, hx⟩ := app_some hx
        refine JL.appF (HF := (New H H)) 3 U58 I3 rfl rfl hr_12 rfl (SrcF.row 0 U58 rfl hr_25) hm_27 hl_28 rfl (Nat.le_refl _) rfl (fun vr_29 Kr_29 hr_29 => ?_)
        obtain ⟨aor_29, capr_29, rfl⟩ := RowOf.val hr_29
        refine JL.val rfl rfl (R.assign rfl) ?_
        refine JL.nil ?_
        refine JN.blkN ?_
        refine JN.next ?_
        refine JC.region ?_
        refine JL.val rfl rfl (R.inc rfl rfl (of_decide_eq_true c_13) (IsSlice.lenI ha_2)) ?_
        refine JL.val rfl rfl (R.move rfl) ?_
        refine JL.nil ?_
        replace hx := run_next hd_13 hx
        refine JN.forget 0 ?_
        refine JN.front 2 rfl ?_
        refine JN.front 2 rfl ?_
        refine JN.front 2 rfl ?_
        exact JN.cut ⟨(q_26, s_9.2 + 1), aor_29, q_26.length, capr_29, Kr_29, rfl, rfl, rfl, hx, hr_29⟩ ⟨rfl, rfl, rfl, rfl, rfl, rfl, trivial⟩ rfl rfl
      · replace hx := cond_f c_13 hx
        refine JC.exit ?_
        refine JN.passX ?_
        obtain rfl := run_done hd_13 hx
        refine JN.passX ?_
        refine JN.exitSame ?_
        refine JN.front 2 rfl ?_
        refine JN.front 2 rfl ?_
        refine JN.front 2 rfl ?_
        exact JN.cut ⟨aor_12, nr_12, capr_12, Kr_12, rfl, rfl, rfl, hr_12⟩ ⟨rfl, rfl, rfl, trivial⟩ rfl rfl

set_option maxHeartbeats 8000000 in
theorem dev_Write_ok (p_1 : Disk) (p_4 : Int) (p_5 : List UInt8) (H : Heaplet) {aoa_2 : Option Addr} {na_2 : Nat} {capa_2 : Nat} {aoa_3 : Option Addr} {na_3 : Nat} {capa_3 : Nat} {aoa_6 : Option Addr} {na_6 : Nat} {capa_6 : Nat} (ha_2 : IsSlice H (RSl RU8 1) 1 (.slice aoa_2 na_2 capa_2) p_1.Blocks) (ha_3 : IsSlice H R_Write 2 (.slice aoa_3 na_3 capa_3) p_1.Waits) (ha_6 : IsSlice H RU8 1 (.slice aoa_6 na_6 capa_6) p_5) (r : Disk × Int) (hx : dev_Write p_1 p_4 p_5 = some r) :
    Does Try.prog 54 #[.agg #[.slice aoa_2 na_2 capa_2, .slice aoa_3 na_3 capa_3], .int .i64 p_4, .slice aoa_6 na_6 capa_6] [] H (fun u K' H' => ∃ ao0 : Option Addr, ∃ n0 : Nat, ∃ cap0 : Nat, ∃ ao1 : Option Addr, ∃ n1 : Nat, ∃ cap1 : Nat, ∃ K1 : Own, u = .tuple #[.agg #[.slice ao0 n0 cap0, .slice ao1 n1 cap1], .int .i64 r.2] ∧ K' = [K1] ∧ IsSlice (New H H') (RSl RU8 1) 1 (.slice ao0 n0 cap0) r.1.Blocks ∧ RowOf (New H H') R_Write 0 72 2 (.slice ao1 n1 cap1) r.1.Waits K1 ∧ (∀ p ∈ K1, p.1 ∉ ids (List.flatten [])) ∧ True) := by
  refine Does.enterL (vs := [.agg #[.slice aoa_2 na_2 capa_2, .slice aoa_3 na_3 capa_3], .int .i64 p_4, .slice aoa_6 na_6 capa_6]) (l := [(0, .agg #[.slice aoa_2 na_2 capa_2, .slice aoa_3 na_3 capa_3]), (1, .int .i64 p_4), (2, .slice aoa_6 na_6 capa_6)]) Try.func54 rfl rfl ⟨rfl, rfl, rfl, trivial⟩ (fun w hlt => ?_)
  unfold dev_Write at hx
  refine JC.seq ?_
  refine JC.region ?_
  refine JL.box rfl rfl (fun b_7 hb_7 => ?_)
  refine JL.alloc Z25 rfl (fun b_8 hb_8 => ?_)
  refine JL.val rfl rfl (R.assign rfl) ?_
  refine JL.nil ?_
  refine JN.next ?_
  refine JC.seq ?_
  refine JC.seq ?_
  obtain ⟨t_9, ht_11, hx⟩ := bnd_some hx
  refine JC.cut (fun l o g => ∃ aoz_23 : Option Addr, ∃ nz_23 : Nat, ∃ capz_23 : Nat, ∃ aoz_24 : Option Addr, ∃ nz_24 : Nat, ∃ capz_24 : Nat, l = [(1, .int .i64 p_4), (2, .slice aoa_6 na_6 capa_6), (3, .pointer (some ⟨b_7, 0, none⟩)), (6, .pointer (some ⟨b_8, 0, none⟩)), (9, .int .i64 t_9.2.2)] ∧ o = [[(b_7, .cells #[.slice aoz_23 nz_23 capz_23, .slice aoz_24 nz_24 capz_24] 25 (0, 0))], [(b_8, .cells #[.slice none 0 0, .slice none 0 0] 25 (0, 0))]] ∧ H = g ∧ IsSlice H (RSl RU8 1) 1 (.slice aoz_23 nz_23 capz_23) t_9.1 ∧ IsSlice H R_Write 2 (.slice aoz_24 nz_24 capz_24) t_9.2.1) ?_ ?_
  · rintro _ _ _ ⟨aoz_23, nz_23, capz_23, aoz_24, nz_24, capz_24, rfl, rfl, rfl, hz_23, hz_24⟩
    refine JN.next ?_
    refine JC.seq ?_
    refine JC.region ?_
    refine JL.val rfl rfl (R.move rfl) ?_
    refine JL.val rfl rfl (R.neq_i rfl rfl) ?_
    refine JL.nil ?_
    refine JN.next ?_
    refine JC.condB rfl (fun c_25 => ?_) (fun c_25 => ?_)
    · replace hx := cond_t c_25 hx
      refine JC.seq ?_
      refine JC.region ?_
      refine JL.val rfl rfl (R.bldP (vs := []) (cs := [.slice none 0 0, .slice none 0 0]) Z25 B25 rfl rfl rfl) ?_
      refine JL.val rfl rfl (R.move rfl) ?_
      refine JL.store 1 S25 rfl rfl rfl rfl rfl (Nat.le_of_ble_eq_true rfl) ?_
      refine JL.val rfl rfl (R.assign rfl) ?_
      refine JL.nil ?_
      refine JN.next ?_
      refine JC.ret ?_
      refine JN.passR ?_
      refine JN.seg0 ?_
      refine JN.outP (vs := [.agg #[.slice none 0 0, .slice none 0 0], .int .i64 t_9.2.2]) (K := [_]) (rst := [_, _]) (.inl rfl) rfl rfl (Res.cellN 2 rfl rfl S25 (Res.tmp rfl rfl)) (picks 0 rfl picks0) ?_
      obtain rfl := Option.some.inj hx
      exact ⟨none, 0, 0, none, 0, 0, [], rfl, rfl, (IsSlice.nil _ _ _), (RowOf.nil _ _ _ _ _), (fun p hp => by cases hp), trivial⟩
    · replace hx := cond_f c_25 hx
      refine JC.skip ?_
      refine JN.next ?_
      refine JC.seq ?_
      refine JC.block ?_
      refine JC.seq ?_
      refine JC.region ?_
      refine JL.val rfl rfl (R.move rfl) ?_
      refine JL.val rfl rfl (R.lenL U26 rfl (IsSlice.long ha_6)) ?_
      refine JL.val rfl rfl (R.neq_i rfl rfl) ?_
      refine JL.val rfl rfl (R.assign rfl) ?_
      refine JL.nil ?_
      refine JN.next ?_
      refine JC.condB rfl (fun c_26 => ?_) (fun c_26 => ?_)
      · replace hx := cond_t c_26 hx
        refine JC.seq ?_
        refine JC.region ?_
        refine JL.val rfl rfl (R.bldP (vs := []) (cs := [.slice none 0 0, .slice none 0 0]) Z25 B25 rfl rfl rfl) ?_
        refine JL.store 1 S25 rfl rfl rfl rfl rfl (Nat.le_of_ble_eq_true rfl) ?_
        refine JL.val rfl rfl (R.assign rfl) ?_
        refine JL.nil ?_
        refine JN.next ?_
        refine JC.ret ?_
        refine JN.blkR ?_
        refine JN.passR ?_
        refine JN.seg0 ?_
        refine JN.outP (vs := [.agg #[.slice none 0 0, .slice none 0 0], .int .i64 3]) (K := [_]) (rst := [_, _]) (.inl rfl) rfl rfl (Res.cellN 2 rfl rfl S25 (Res.tmp rfl rfl)) (picks 0 rfl picks0) ?_
        obtain rfl := Option.some.inj hx
        exact ⟨none, 0, 0, none, 0, 0, [], rfl, rfl, (IsSlice.nil _ _ _), (RowOf.nil _ _ _ _ _), (fun p hp => by cases hp), trivial⟩
      · replace hx := cond_f c_26 hx
        refine JC.seq ?_
        refine JC.region ?_
        refine JL.val rfl rfl (R.fa F25_1 rfl) ?_
        refine JL.val rfl rfl (R.ldo 0 S23 rfl rfl rfl) ?_
        refine JL.val rfl rfl (R.lenL U23 rfl (IsSlice.long hz_24)) ?_
        refine JL.val rfl rfl (R.eql_i rfl rfl) ?_
        refine JL.val rfl rfl (R.assign rfl) ?_
        refine JL.nil ?_
        refine JN.next ?_
        refine JC.condB rfl (fun c_27 => ?_) (fun c_27 => ?_)
        · replace hx := cond_t c_27 hx
          refine JC.seq ?_
          refine JC.region ?_
          refine JL.val rfl rfl (R.bldP (vs := []) (cs := [.slice none 0 0, .slice none 0 0]) Z25 B25 rfl rfl rfl) ?_
          refine JL.store 1 S25 rfl rfl rfl rfl rfl (Nat.le_of_ble_eq_true rfl) ?_
          refine JL.val rfl rfl (R.assign rfl) ?_
          refine JL.nil ?_
          refine JN.next ?_
          refine JC.ret ?_
          refine JN.blkR ?_
          refine JN.passR ?_
          refine JN.seg0 ?_
          refine JN.outP (vs := [.agg #[.slice none 0 0, .slice none 0 0], .int .i64 9]) (K := [_]) (rst := [_, _]) (.inl rfl) rfl rfl (Res.cellN 2 rfl rfl S25 (Res.tmp rfl rfl)) (picks 0 rfl picks0) ?_
          obtain rfl := Option.some.inj hx
          exact ⟨none, 0, 0, none, 0, 0, [], rfl, rfl, (IsSlice.nil _ _ _), (RowOf.nil _ _ _ _ _), (fun p hp => by cases hp), trivial⟩
        · replace hx := cond_f c_27 hx
          refine JC.skip ?_
          refine JN.blkN ?_
          refine JN.next ?_
          refine JC.seq ?_
          obtain ⟨t_28, ht_30, hx⟩ := bnd_some hx
          refine JC.cut (fun l o g => ∃ H_46 : Heaplet, ∃ aor_47 : Option Addr, ∃ nr_47 : Nat, ∃ capr_47 : Nat, ∃ Kr_47 : Own, ∃ aor_48 : Option Addr, ∃ nr_48 : Nat, ∃ capr_48 : Nat, ∃ Kr_48 : Own, l = [(6, .pointer (some ⟨b_8, 0, none⟩)), (7, .int .i64 0)] ∧ o = [[(b_8, .cells #[.slice aor_47 nr_47 capr_47, .slice aor_48 nr_48 capr_48] 25 (0, 0))], Kr_47, Kr_48] ∧ H_46 = g ∧ Hle H H_46 ∧ Pcs w.heap.size 5 26 (.slice aor_47 nr_47 capr_47) t_28.1 Kr_47 ∧ RowOf (New H H_46) R_Write w.heap.size 72 2 (.slice aor_48 nr_48 capr_48) t_28.2 Kr_48) ?_ ?_
          · rintro _ _ _ ⟨H_46, aor_47, nr_47, capr_47, Kr_47, aor_48, nr_48, capr_48, Kr_48, rfl, rfl, rfl, hleH_46, hr_47, hr_48⟩
            refine JN.next ?_
            refine JC.ret ?_
            refine JN.pubPcs 1  rfl hr_47 (Nat.le_refl _) (fun H_49 hleH_49 hsH_49 => ?_)
            refine JN.forget 1 ?_
            refine JN.outP (vs := [.agg #[.slice aor_47 nr_47 capr_47, .slice aor_48 nr_48 capr_48], .int .i64 0]) (K := [_]) (rst := [_]) (.inl rfl) rfl rfl (Res.cellN 0 rfl rfl S25 (Res.tmp rfl rfl)) (picks 1 rfl picks0) ?_
            obtain rfl := Option.some.inj hx
            exact ⟨aor_47, nr_47, capr_47, aor_48, nr_48, capr_48, Kr_48, rfl, rfl, hsH_49, (RowOf.weak (Nat.zero_le _) (hr_48.mono R_Write.mono (New.mono hleH_49))), (new_ids (hr_48.mono R_Write.mono (New.mono hleH_49)) hlt), trivial⟩
          · have hxo_29 := hx; clear hx; have hx := ht_30; clear ht_30
            refine JC.draw (so := [_]) 14 rfl Mixed ⟨⟨0, rfl⟩, trivial⟩ ?_
            refine JA.val ⟨by kernel_rfl, by kernel_rfl⟩ (calm_only _) (i := 0) rfl ⟨by kernel_rfl, by kernel_rfl, rfl⟩ trivial (stab_of (Hle.refl _) ⟨⟨0, rfl⟩, trivial⟩) (R.fa F25_0 rfl) rfl ?_
            refine JA.val ⟨by kernel_rfl, by kernel_rfl⟩ (calm_only _) (i := 1) rfl ⟨by kernel_rfl, by kernel_rfl, rfl⟩ trivial (stab_of (Hle.refl _) ⟨⟨0, rfl⟩, trivial⟩) (R.ldo 0 S22 rfl rfl rfl) rfl ?_
            refine JA.val ⟨by kernel_rfl, by kernel_rfl⟩ (calm_only _) (i := 2) rfl ⟨by kernel_rfl, by kernel_rfl, rfl⟩ trivial (stab_of (Hle.refl _) ⟨⟨0, rfl⟩, trivial⟩) (R.fa F25_1 rfl) rfl ?_
            refine JA.val ⟨by kernel_rfl, by kernel_rfl⟩ (calm_only _) (i := 3) rfl ⟨by kernel_rfl, by kernel_rfl, rfl⟩ trivial (stab_of (Hle.refl _) ⟨⟨0, rfl⟩, trivial⟩) (R.ldo 0 S23 rfl rfl rfl) rfl ?_
            refine JA.val ⟨by kernel_rfl, by kernel_rfl⟩ (calm_only _) (i := 5) rfl ⟨by kernel_rfl, by kernel_rfl, rfl⟩ trivial (stab_of (Hle.refl _) ⟨⟨0, rfl⟩, trivial⟩) (R.move rfl) rfl ?_
            refine JA.val ⟨by kernel_rfl, by kernel_rfl⟩ (calm_only _) (i := 6) rfl ⟨by kernel_rfl, by kernel_rfl, rfl⟩ trivial (stab_of (Hle.refl _) ⟨⟨0, rfl⟩, trivial⟩) (R.move rfl) rfl ?_
            obtain ⟨x_31, hr_32, hx⟩ := bnd_some hx
            obtain ⟨q_36, hm_37, hl_38, hx⟩ := app_some hx
            obtain ⟨x_41, hr_42, hx⟩ := bnd_some hx
            refine JA.two (i := 4) (j := 7) (by kernel_rfl) ?_ ?_
            · refine JO.step rfl trivial rfl (fun K hK => ?_)
              refine JL.callC (vs := [_]) (args := [_]) (K := []) (rst := [_, _]) E83 rfl rfl rfl picks0 (slices_Clip_Write_ok t_9.2.1 _ hz_24 _ hr_32) rfl (fun u_33 Ku_33 Hu_33 hRu_33 hleu_33 hfu_33 => ?_)
              obtain ⟨aoz_34, nz_34, rfl, rfl, rfl, hz_34, -⟩ := hRu_33
              refine JL.nil ?_
              refine hK _ _ _ (stab_of (Hle.refl _) ⟨⟨0, rfl⟩, trivial⟩) ?_
              refine JA.one (i := 7) (by kernel_rfl) ?_
              refine JO.step rfl trivial rfl (fun K hK => ?_)
              refine JL.val rfl rfl (R.bldP (vs := [(0, .int .i64 p_4), (1, .slice aoa_6 na_6 capa_6)]) (cs := [.int .i64 p_4, .slice aoa_6 na_6 capa_6]) Z72 B72 rfl rfl rfl) ?_
              refine JL.nil ?_
              refine hK _ _ _ (stab_of (Hle.refl _) ⟨⟨0, rfl⟩, trivial⟩) ?_
              refine JA.one (i := 8) (by kernel_rfl) ?_
              refine JO.step rfl trivial rfl (fun K hK => ?_)
              refine JL.bslF (HF := H) (R := R_Write) (ls := [Write.mk p_4 p_5]) (vs := [.agg #[.int .i64 p_4, .slice aoa_6 na_6 capa_6]]) U23 I72 rfl rfl (⟨_, _, rfl, rfl, ⟨_, rfl, ha_6⟩, rfl⟩) R_Write.one rfl rfl rfl (by simp [maxLen]) rfl (fun vr_35 Kr_35 hr_35 => ?_)
              obtain ⟨aor_35, capr_35, rfl⟩ := RowOf.val hr_35
              refine JL.nil ?_
              refine hK _ _ _ (stab_of (Hle.refl _) ⟨⟨1, rfl⟩, trivial⟩) ?_
              refine JA.one (i := 9) (by kernel_rfl) ?_
              refine JO.step rfl trivial rfl (fun K hK => ?_)
              refine JL.appC (HF := H) U23 I72 rfl R_Write.one (Hle.refl _) hz_34 (fun _ _ h => h) rfl (SrcF.row 0 U23 rfl hr_35) (List.cons_ne_nil _ _) hm_37 hl_38 rfl rfl (fun vr_39 Kr_39 hr_39 => ?_)
              obtain ⟨aor_39, capr_39, rfl⟩ := RowOf.val hr_39
              refine JL.nil ?_
              refine hK _ _ _ (stab_of (Hle.refl _) ⟨⟨2, rfl⟩, trivial⟩) ?_
              refine JA.one (i := 10) (by kernel_rfl) ?_
              refine JO.step rfl trivial rfl (fun K hK => ?_)
              refine JL.val rfl rfl (R.bldP (vs := [(0, .slice aoz_23 nz_23 capz_23), (1, .slice aor_39 q_36.length capr_39)]) (cs := [.slice aoz_23 nz_23 capz_23, .slice aor_39 q_36.length capr_39]) Z25 B25 rfl rfl rfl) ?_
              refine JL.nil ?_
              refine hK _ _ _ (stab_of (Hle.refl _) ⟨⟨2, rfl⟩, trivial⟩) ?_
              refine JA.one (i := 11) (by kernel_rfl) ?_
              refine JO.step rfl trivial rfl (fun K hK => ?_)
              refine JL.pub 0 R_Write.mono rfl hr_39 (Nat.le_refl _) (fun H_40 hleH_40 hsH_40 => ?_)
              refine JL.forget 0 ?_
              refine JL.callC (vs := [_]) (args := [_]) (K := []) (rst := [_, _, _]) E46 rfl rfl rfl picks0 (dev_Twin_ok (Disk.mk t_9.1 q_36) _ (hz_23.mono (RSl.mono RU8.mono) hleH_40) hsH_40 _ hr_42) rfl (fun u_43 Ku_43 Hu_43 hRu_43 hleu_43 hfu_43 => ?_)
              obtain ⟨aor_44, nr_44, capr_44, Kr_44, aor_45, nr_45, capr_45, Kr_45, rfl, rfl, hr_44, hnewr_44, hr_45, hnewr_45, -⟩ := hRu_43
              replace hr_44 := (Pcs.base hr_44 (fun p hp => (hfu_43 p (mem_seg 0 rfl hp)).resolve_left (hnewr_44 p hp)))
              replace hr_45 := (RowOf.base (RowOf.mono R_Write.mono (New.call hleH_40) hr_45) (fun p hp => (hfu_43 p (mem_seg 1 rfl hp)).resolve_left (hnewr_45 p hp)))
              refine JL.nil ?_
              refine hK _ _ _ (stab_of (hleH_40.trans hleu_43) ⟨⟨3, rfl⟩, trivial⟩) ?_
              refine JA.one (i := 12) (by kernel_rfl) ?_
              refine JO.step rfl trivial rfl (fun K hK => ?_)
              refine JL.store 4 S25 rfl rfl rfl rfl rfl (Nat.le_of_ble_eq_true rfl) ?_
              refine JL.nil ?_
              refine hK _ _ _ (stab_of (hleH_40.trans hleu_43) ⟨⟨3, rfl⟩, trivial⟩) ?_
              refine JA.val ⟨by kernel_rfl, by kernel_rfl⟩ (calm_only _) (i := 13) rfl ⟨by kernel_rfl, by kernel_rfl, rfl⟩ trivial (stab_of (hleH_40.trans hleu_43) ⟨⟨3, rfl⟩, trivial⟩) (R.assign rfl) rfl ?_
              refine JA.doneN (by kernel_rfl) ?_
              obtain rfl := Option.some.inj hx
              refine JN.forget 3 ?_
              refine JN.forget 2 ?_
              refine JN.front 1 rfl ?_
              refine JN.front 1 rfl ?_
              refine JN.front 2 rfl ?_
              exact JN.cut ⟨Hu_43, aor_44, nr_44, capr_44, Kr_44, aor_45, nr_45, capr_45, Kr_45, rfl, rfl, rfl, ((hleH_40.trans hleu_43)), hr_44, hr_45⟩ ⟨rfl, rfl, trivial⟩ rfl rfl
            · refine JO.step rfl trivial rfl (fun K hK => ?_)
              refine JL.val rfl rfl (R.bldP (vs := [(0, .int .i64 p_4), (1, .slice aoa_6 na_6 capa_6)]) (cs := [.int .i64 p_4, .slice aoa_6 na_6 capa_6]) Z72 B72 rfl rfl rfl) ?_
              refine JL.nil ?_
              refine hK _ _ _ (stab_of (Hle.refl _) ⟨⟨0, rfl⟩, trivial⟩) ?_
              refine JA.two (i := 4) (j := 8) (by kernel_rfl) ?_ ?_
              · refine JO.step rfl trivial rfl (fun K hK => ?_)
                refine JL.callC (vs := [_]) (args := [_]) (K := []) (rst := [_, _]) E83 rfl rfl rfl picks0 (slices_Clip_Write_ok t_9.2.1 _ hz_24 _ hr_32) rfl (fun u_33 Ku_33 Hu_33 hRu_33 hleu_33 hfu_33 => ?_)
                obtain ⟨aoz_34, nz_34, rfl, rfl, rfl, hz_34, -⟩ := hRu_33
                refine JL.nil ?_
                refine hK _ _ _ (stab_of (Hle.refl _) ⟨⟨0, rfl⟩, trivial⟩) ?_
                refine JA.one (i := 8) (by kernel_rfl) ?_
                refine JO.step rfl trivial rfl (fun K hK => ?_)
                refine JL.bslF (HF := H) (R := R_Write) (ls := [Write.mk p_4 p_5]) (vs := [.agg #[.int .i64 p_4, .slice aoa_6 na_6 capa_6]]) U23 I72 rfl rfl (⟨_, _, rfl, rfl, ⟨_, rfl, ha_6⟩, rfl⟩) R_Write.one rfl rfl rfl (by simp [maxLen]) rfl (fun vr_35 Kr_35 hr_35 => ?_)
                obtain ⟨aor_35, capr_35, rfl⟩ := RowOf.val hr_35
                refine JL.nil ?_
                refine hK _ _ _ (stab_of (Hle.refl _) ⟨⟨1, rfl⟩, trivial⟩) ?_
                refine JA.one (i := 9) (by kernel_rfl) ?_
                refine JO.step rfl trivial rfl (fun K hK => ?_)
                refine JL.appC (HF := H) U23 I72 rfl R_Write.one (Hle.refl _) hz_34 (fun _ _ h => h) rfl (SrcF.row 0 U23 rfl hr_35) (List.cons_ne_nil _ _) hm_37 hl_38 rfl rfl (fun vr_39 Kr_39 hr_39 => ?_)
                obtain ⟨aor_39, capr_39, rfl⟩ := RowOf.val hr_39
                refine JL.nil ?_
                refine hK _ _ _ (stab_of (Hle.refl _) ⟨⟨2, rfl⟩, trivial⟩) ?_
                refine JA.one (i := 10) (by kernel_rfl) ?_
                refine JO.step rfl trivial rfl (fun K hK => ?_)
                refine JL.val rfl rfl (R.bldP (vs := [(0, .slice aoz_23 nz_23 capz_23), (1, .slice aor_39 q_36.length capr_39)]) (cs := [.slice aoz_23 nz_23 capz_23, .slice aor_39 q_36.length capr_39]) Z25 B25 rfl rfl rfl) ?_
                refine JL.nil ?_
                refine hK _ _ _ (stab_of (Hle.refl _) ⟨⟨2, rfl⟩, trivial⟩) ?_
                refine JA.one (i := 11) (by kernel_rfl) ?_
                refine JO.step rfl trivial rfl (fun K hK => ?_)
                refine JL.pub 0 R_Write.mono rfl hr_39 (Nat.le_refl _) (fun H_40 hleH_40 hsH_40 => ?_)
                refine JL.forget 0 ?_
                refine JL.callC (vs := [_]) (args := [_]) (K := []) (rst := [_, _, _]) E46 rfl rfl rfl picks0 (dev_Twin_ok (Disk.mk t_9.1 q_36) _ (hz_23.mono (RSl.mono RU8.mono) hleH_40) hsH_40 _ hr_42) rfl (fun u_43 Ku_43 Hu_43 hRu_43 hleu_43 hfu_43 => ?_)
                obtain ⟨aor_44, nr_44, capr_44, Kr_44, aor_45, nr_45, capr_45, Kr_45, rfl, rfl, hr_44, hnewr_44, hr_45, hnewr_45, -⟩ := hRu_43
                replace hr_44 := (Pcs.base hr_44 (fun p hp => (hfu_43 p (mem_seg 0 rfl hp)).resolve_left (hnewr_44 p hp)))
                replace hr_45 := (RowOf.base (RowOf.mono R_Write.mono (New.call hleH_40) hr_45) (fun p hp => (hfu_43 p (mem_seg 1 rfl hp)).resolve_left (hnewr_45 p hp)))
                refine JL.nil ?_
                refine hK _ _ _ (stab_of (hleH_40.trans hleu_43) ⟨⟨3, rfl⟩, trivial⟩) ?_
                refine JA.one (i := 12) (by kernel_rfl) ?_
                refine JO.step rfl trivial rfl (fun K hK => ?_)
                refine JL.store 4 S25 rfl rfl rfl rfl rfl (Nat.le_of_ble_eq_true rfl) ?_
                refine JL.nil ?_
                refine hK _ _ _ (stab_of (hleH_40.trans hleu_43) ⟨⟨3, rfl⟩, trivial⟩) ?_
                refine JA.val ⟨by kernel_rfl, by kernel_rfl⟩ (calm_only _) (i := 13) rfl ⟨by kernel_rfl, by kernel_rfl, rfl⟩ trivial (stab_of (hleH_40.trans hleu_43) ⟨⟨3, rfl⟩, trivial⟩) (R.assign rfl) rfl ?_
                refine JA.doneN (by kernel_rfl) ?_
                obtain rfl := Option.some.inj hx
                refine JN.forget 3 ?_
                refine JN.forget 2 ?_
                refine JN.front 1 rfl ?_
                refine JN.front 1 rfl ?_
                refine JN.front 2 rfl ?_
                exact JN.cut ⟨Hu_43, aor_44, nr_44, capr_44, Kr_44, aor_45, nr_45, capr_45, Kr_45, rfl, rfl, rfl, ((hleH_40.trans hleu_43)), hr_44, hr_45⟩ ⟨rfl, rfl, trivial⟩ rfl rfl
              · refine JO.step rfl trivial rfl (fun K hK => ?_)
                refine JL.bslF (HF := H) (R := R_Write) (ls := [Write.mk p_4 p_5]) (vs := [.agg #[.int .i64 p_4, .slice aoa_6 na_6 capa_6]]) U23 I72 rfl rfl (⟨_, _, rfl, rfl, ⟨_, rfl, ha_6⟩, rfl⟩) R_Write.one rfl rfl rfl (by simp [maxLen]) rfl (fun vr_35 Kr_35 hr_35 => ?_)
                obtain ⟨aor_35, capr_35, rfl⟩ := RowOf.val hr_35
                refine JL.nil ?_
                refine hK _ _ _ (stab_of (Hle.refl _) ⟨⟨1, rfl⟩, trivial⟩) ?_
                refine JA.one (i := 4) (by kernel_rfl) ?_
                refine JO.step rfl trivial rfl (fun K hK => ?_)
                refine JL.callC (vs := [_]) (args := [_]) (K := []) (rst := [_, _, _]) E83 rfl rfl rfl picks0 (slices_Clip_Write_ok t_9.2.1 _ hz_24 _ hr_32) rfl (fun u_33 Ku_33 Hu_33 hRu_33 hleu_33 hfu_33 => ?_)
                obtain ⟨aoz_34, nz_34, rfl, rfl, rfl, hz_34, -⟩ := hRu_33
                refine JL.nil ?_
                refine hK _ _ _ (stab_of (Hle.refl _) ⟨⟨1, rfl⟩, trivial⟩) ?_
                refine JA.one (i := 9) (by kernel_rfl) ?_
                refine JO.step rfl trivial rfl (fun K hK => ?_)
                refine JL.appC (HF := H) U23 I72 rfl R_Write.one (Hle.refl _) hz_34 (fun _ _ h => h) rfl (SrcF.row 0 U23 rfl hr_35) (List.cons_ne_nil _ _) hm_37 hl_38 rfl rfl (fun vr_39 Kr_39 hr_39 => ?_)
                obtain ⟨aor_39, capr_39, rfl⟩ := RowOf.val hr_39
                refine JL.nil ?_
                refine hK _ _ _ (stab_of (Hle.refl _) ⟨⟨2, rfl⟩, trivial⟩) ?_
                refine JA.one (i := 10) (by kernel_rfl) ?_
                refine JO.step rfl trivial rfl (fun K hK => ?_)
                refine JL.val rfl rfl (R.bldP (vs := [(0, .slice aoz_23 nz_23 capz_23), (1, .slice aor_39 q_36.length capr_39)]) (cs := [.slice aoz_23 nz_23 capz_23, .slice aor_39 q_36.length capr_39]) Z25 B25 rfl rfl rfl) ?_
                refine JL.nil ?_
                refine hK _ _ _ (stab_of (Hle.refl _) ⟨⟨2, rfl⟩, trivial⟩) ?_
                refine JA.one (i := 11) (by kernel_rfl) ?_
                refine JO.step rfl trivial rfl (fun K hK => ?_)
                refine JL.pub 0 R_Write.mono rfl hr_39 (Nat.le_refl _) (fun H_40 hleH_40 hsH_40 => ?_)
                refine JL.forget 0 ?_
                refine JL.callC (vs := [_]) (args := [_]) (K := []) (rst := [_, _, _]) E46 rfl rfl rfl picks0 (dev_Twin_ok (Disk.mk t_9.1 q_36) _ (hz_23.mono (RSl.mono RU8.mono) hleH_40) hsH_40 _ hr_42) rfl (fun u_43 Ku_43 Hu_43 hRu_43 hleu_43 hfu_43 => ?_)
                obtain ⟨aor_44, nr_44, capr_44, Kr_44, aor_45, nr_45, capr_45, Kr_45, rfl, rfl, hr_44, hnewr_44, hr_45, hnewr_45, -⟩ := hRu_43
                replace hr_44 := (Pcs.base hr_44 (fun p hp => (hfu_43 p (mem_seg 0 rfl hp)).resolve_left (hnewr_44 p hp)))
                replace hr_45 := (RowOf.base (RowOf.mono R_Write.mono (New.call hleH_40) hr_45) (fun p hp => (hfu_43 p (mem_seg 1 rfl hp)).resolve_left (hnewr_45 p hp)))
                refine JL.nil ?_
                refine hK _ _ _ (stab_of (hleH_40.trans hleu_43) ⟨⟨3, rfl⟩, trivial⟩) ?_
                refine JA.one (i := 12) (by kernel_rfl) ?_
                refine JO.step rfl trivial rfl (fun K hK => ?_)
                refine JL.store 4 S25 rfl rfl rfl rfl rfl (Nat.le_of_ble_eq_true rfl) ?_
                refine JL.nil ?_
                refine hK _ _ _ (stab_of (hleH_40.trans hleu_43) ⟨⟨3, rfl⟩, trivial⟩) ?_
                refine JA.val ⟨by kernel_rfl, by kernel_rfl⟩ (calm_only _) (i := 13) rfl ⟨by kernel_rfl, by kernel_rfl, rfl⟩ trivial (stab_of (hleH_40.trans hleu_43) ⟨⟨3, rfl⟩, trivial⟩) (R.assign rfl) rfl ?_
                refine JA.doneN (by kernel_rfl) ?_
                obtain rfl := Option.some.inj hx
                refine JN.forget 3 ?_
                refine JN.forget 2 ?_
                refine JN.front 1 rfl ?_
                refine JN.front 1 rfl ?_
                refine JN.front 2 rfl ?_
                exact JN.cut ⟨Hu_43, aor_44, nr_44, capr_44, Kr_44, aor_45, nr_45, capr_45, Kr_45, rfl, rfl, rfl, ((hleH_40.trans hleu_43)), hr_44, hr_45⟩ ⟨rfl, rfl, trivial⟩ rfl rfl
  · have hxo_10 := hx; clear hx; have hx := ht_11; clear ht_11
    refine JC.draw (so := [_]) 11 rfl Mixed ⟨⟨0, rfl⟩, trivial⟩ ?_
    refine JA.val ⟨by kernel_rfl, by kernel_rfl⟩ (calm_only _) (i := 1) rfl ⟨by kernel_rfl, by kernel_rfl, rfl⟩ trivial (stab_of (Hle.refl _) ⟨⟨0, rfl⟩, trivial⟩) (R.move rfl) rfl ?_
    refine JA.val ⟨by kernel_rfl, by kernel_rfl⟩ (calm_only _) (i := 3) rfl ⟨by kernel_rfl, by kernel_rfl, rfl⟩ trivial (stab_of (Hle.refl _) ⟨⟨0, rfl⟩, trivial⟩) (R.func (vf := []) (vc := [_]) rfl rfl) rfl ?_
    obtain ⟨x_12, hr_13, hx⟩ := bnd_some hx
    obtain ⟨x_15, hr_16, hx⟩ := bnd_some hx
    refine JA.three (i := 0) (j := 2) (m := 8) (by kernel_rfl) ?_ ?_ ?_
    · refine JO.step rfl trivial rfl (fun K hK => ?_)
      refine JL.val rfl rfl (R.ldoN 1 (vs := [.slice aoa_2 na_2 capa_2, .slice aoa_3 na_3 capa_3]) S25 rfl rfl rfl rfl) ?_
      refine JL.nil ?_
      refine hK _ _ _ (stab_of (Hle.refl _) ⟨⟨0, rfl⟩, trivial⟩) ?_
      refine JA.two (i := 2) (j := 8) (by kernel_rfl) ?_ ?_
      · refine JO.step rfl trivial rfl (fun K hK => ?_)
        refine JL.callC (vs := [_]) (args := [_]) (K := []) (rst := [_, _]) E44 rfl rfl rfl picks0 (dev_place_ok p_4 _ _ hr_13) rfl (fun u_14 Ku_14 Hu_14 hRu_14 hleu_14 hfu_14 => ?_)
        obtain ⟨rfl, rfl, rfl, -⟩ := hRu_14
        refine JL.nil ?_
        refine hK _ _ _ (stab_of (Hle.refl _) ⟨⟨0, rfl⟩, trivial⟩) ?_
        refine JA.two (i := 4) (j := 8) (by kernel_rfl) ?_ ?_
        · refine JO.step rfl trivial rfl (fun K hK => ?_)
          refine JL.callC (vs := [_, _, _]) (args := [_, _, _]) (K := [_]) (rst := [_]) E40 rfl rfl rfl (picks 1 rfl picks0) (dev_guarded_ok p_1 x_12 p_1 _ ha_2 ha_3 ha_2 ha_3 _ hr_16) rfl (fun u_17 Ku_17 Hu_17 hRu_17 hleu_17 hfu_17 => ?_)
          obtain ⟨aoz_18, nz_18, capz_18, aoz_19, nz_19, capz_19, aoz_20, nz_20, capz_20, aoz_21, nz_21, capz_21, rfl, rfl, rfl, hz_18, hz_19, hz_20, hz_21, -⟩ := hRu_17
          refine JL.nil ?_
          refine hK _ _ _ (stab_of (Hle.refl _) ⟨⟨1, rfl⟩, trivial⟩) ?_
          refine JA.val ⟨by kernel_rfl, by kernel_rfl⟩ (calm_only _) (i := 5) rfl ⟨by kernel_rfl, by kernel_rfl, rfl⟩ trivial (stab_of (Hle.refl _) ⟨⟨1, rfl⟩, trivial⟩) (R.move rfl) rfl ?_
          refine JA.val ⟨by kernel_rfl, by kernel_rfl⟩ (calm_only _) (i := 6) rfl ⟨by kernel_rfl, by kernel_rfl, rfl⟩ trivial (stab_of (Hle.refl _) ⟨⟨1, rfl⟩, trivial⟩) (R.extract rfl rfl) rfl ?_
          refine JA.val ⟨by kernel_rfl, by kernel_rfl⟩ (calm_only _) (i := 7) rfl ⟨by kernel_rfl, by kernel_rfl, rfl⟩ trivial (stab_of (Hle.refl _) ⟨⟨1, rfl⟩, trivial⟩) (R.extract rfl rfl) rfl ?_
          refine JA.one (i := 8) (by kernel_rfl) ?_
          refine JO.step rfl trivial rfl (fun K hK => ?_)
          refine JL.alloc Z25 rfl (fun b_22 hb_22 => ?_)
          refine JL.nil ?_
          refine hK _ _ _ (stab_of (Hle.refl _) ⟨⟨2, rfl⟩, trivial⟩) ?_
          refine JA.one (i := 9) (by kernel_rfl) ?_
          refine JO.step rfl trivial rfl (fun K hK => ?_)
          refine JL.store 0 S25 rfl rfl rfl rfl rfl (Nat.le_of_ble_eq_true rfl) ?_
          refine JL.nil ?_
          refine hK _ _ _ (stab_of (Hle.refl _) ⟨⟨2, rfl⟩, trivial⟩) ?_
          refine JA.val ⟨by kernel_rfl, by kernel_rfl⟩ (calm_only _) (i := 10) rfl ⟨by kernel_rfl, by kernel_rfl, rfl⟩ trivial (stab_of (Hle.refl _) ⟨⟨2, rfl⟩, trivial⟩) (R.assign rfl) rfl ?_
          refine JA.doneN (by kernel_rfl) ?_
          obtain rfl := Option.some.inj hx
          refine JN.forget 0 ?_
          refine JN.front 1 rfl ?_
          refine JN.front 1 rfl ?_
          exact JN.cut ⟨aoz_18, nz_18, capz_18, aoz_19, nz_19, capz_19, rfl, rfl, rfl, hz_18, hz_19⟩ ⟨rfl, rfl, rfl, rfl, rfl, trivial⟩ rfl rfl
        · refine JO.step rfl trivial rfl (fun K hK => ?_)
          refine JL.alloc Z25 rfl (fun b_22 hb_22 => ?_)
          refine JL.nil ?_
          refine hK _ _ _ (stab_of (Hle.refl _) ⟨⟨1, rfl⟩, trivial⟩) ?_
          refine JA.one (i := 4) (by kernel_rfl) ?_
          refine JO.step rfl trivial rfl (fun K hK => ?_)
          refine JL.callC (vs := [_, _, _]) (args := [_, _, _]) (K := [_]) (rst := [_, _]) E40 rfl rfl rfl (picks 2 rfl picks0) (dev_guarded_ok p_1 x_12 p_1 _ ha_2 ha_3 ha_2 ha_3 _ hr_16) rfl (fun u_17 Ku_17 Hu_17 hRu_17 hleu_17 hfu_17 => ?_)
          obtain ⟨aoz_18, nz_18, capz_18, aoz_19, nz_19, capz_19, aoz_20, nz_20, capz_20, aoz_21, nz_21, capz_21, rfl, rfl, rfl, hz_18, hz_19, hz_20, hz_21, -⟩ := hRu_17
          refine JL.nil ?_
          refine hK _ _ _ (stab_of (Hle.refl _) ⟨⟨2, rfl⟩, trivial⟩) ?_
          refine JA.val ⟨by kernel_rfl, by kernel_rfl⟩ (calm_only _) (i := 5) rfl ⟨by kernel_rfl, by kernel_rfl, rfl⟩ trivial (stab_of (Hle.refl _) ⟨⟨2, rfl⟩, trivial⟩) (R.move rfl) rfl ?_
          refine JA.val ⟨by kernel_rfl, by kernel_rfl⟩ (calm_only _) (i := 6) rfl ⟨by kernel_rfl, by kernel_rfl, rfl⟩ trivial (stab_of (Hle.refl _) ⟨⟨2, rfl⟩, trivial⟩) (R.extract rfl rfl) rfl ?_
          refine JA.val ⟨by kernel_rfl, by kernel_rfl⟩ (calm_only _) (i := 7) rfl ⟨by kernel_rfl, by kernel_rfl, rfl⟩ trivial (stab_of (Hle.refl _) ⟨⟨2, rfl⟩, trivial⟩) (R.extract rfl rfl) rfl ?_
          refine JA.one (i := 9) (by kernel_rfl) ?_
          refine JO.step rfl trivial rfl (fun K hK => ?_)
          refine JL.store 1 S25 rfl rfl rfl rfl rfl (Nat.le_of_ble_eq_true rfl) ?_
          refine JL.nil ?_
          refine hK _ _ _ (stab_of (Hle.refl _) ⟨⟨2, rfl⟩, trivial⟩) ?_
          refine JA.val ⟨by kernel_rfl, by kernel_rfl⟩ (calm_only _) (i := 10) rfl ⟨by kernel_rfl, by kernel_rfl, rfl⟩ trivial (stab_of (Hle.refl _) ⟨⟨2, rfl⟩, trivial⟩) (R.assign rfl) rfl ?_
          refine JA.doneN (by kernel_rfl) ?_
          obtain rfl := Option.some.inj hx
          refine JN.forget 1 ?_
          refine JN.front 1 rfl ?_
          refine JN.front 1 rfl ?_
          exact JN.cut ⟨aoz_18, nz_18, capz_18, aoz_19, nz_19, capz_19, rfl, rfl, rfl, hz_18, hz_19⟩ ⟨rfl, rfl, rfl, rfl, rfl, trivial⟩ rfl rfl
      · refine JO.step rfl trivial rfl (fun K hK => ?_)
        refine JL.alloc Z25 rfl (fun b_22 hb_22 => ?_)
        refine JL.nil ?_
        refine hK _ _ _ (stab_of (Hle.refl _) ⟨⟨1, rfl⟩, trivial⟩) ?_
        refine JA.one (i := 2) (by kernel_rfl) ?_
        refine JO.step rfl trivial rfl (fun K hK => ?_)
        refine JL.callC (vs := [_]) (args := [_]) (K := []) (rst := [_, _, _]) E44 rfl rfl rfl picks0 (dev_place_ok p_4 _ _ hr_13) rfl (fun u_14 Ku_14 Hu_14 hRu_14 hleu_14 hfu_14 => ?_)
        obtain ⟨rfl, rfl, rfl, -⟩ := hRu_14
        refine JL.nil ?_
        refine hK _ _ _ (stab_of (Hle.refl _) ⟨⟨1, rfl⟩, trivial⟩) ?_
        refine JA.one (i := 4) (by kernel_rfl) ?_
        refine JO.step rfl trivial rfl (fun K hK => ?_)
        refine JL.callC (vs := [_, _, _]) (args := [_, _, _]) (K := [_]) (rst := [_, _]) E40 rfl rfl rfl (picks 2 rfl picks0) (dev_guarded_ok p_1 x_12 p_1 _ ha_2 ha_3 ha_2 ha_3 _ hr_16) rfl (fun u_17 Ku_17 Hu_17 hRu_17 hleu_17 hfu_17 => ?_)
        obtain ⟨aoz_18, nz_18, capz_18, aoz_19, nz_19, capz_19, aoz_20, nz_20, capz_20, aoz_21, nz_21, capz_21, rfl, rfl, rfl, hz_18, hz_19, hz_20, hz_21, -⟩ := hRu_17
        refine JL.nil ?_
        refine hK _ _ _ (stab_of (Hle.refl _) ⟨⟨2, rfl⟩, trivial⟩) ?_
        refine JA.val ⟨by kernel_rfl, by kernel_rfl⟩ (calm_only _) (i := 5) rfl ⟨by kernel_rfl, by kernel_rfl, rfl⟩ trivial (stab_of (Hle.refl _) ⟨⟨2, rfl⟩, trivial⟩) (R.move rfl) rfl ?_
        refine JA.val ⟨by kernel_rfl, by kernel_rfl⟩ (calm_only _) (i := 6) rfl ⟨by kernel_rfl, by kernel_rfl, rfl⟩ trivial (stab_of (Hle.refl _) ⟨⟨2, rfl⟩, trivial⟩) (R.extract rfl rfl) rfl ?_
        refine JA.val ⟨by kernel_rfl, by kernel_rfl⟩ (calm_only _) (i := 7) rfl ⟨by kernel_rfl, by kernel_rfl, rfl⟩ trivial (stab_of (Hle.refl _) ⟨⟨2, rfl⟩, trivial⟩) (R.extract rfl rfl) rfl ?_
        refine JA.one (i := 9) (by kernel_rfl) ?_
        refine JO.step rfl trivial rfl (fun K hK => ?_)
        refine JL.store 1 S25 rfl rfl rfl rfl rfl (Nat.le_of_ble_eq_true rfl) ?_
        refine JL.nil ?_
        refine hK _ _ _ (stab_of (Hle.refl _) ⟨⟨2, rfl⟩, trivial⟩) ?_
        refine JA.val ⟨by kernel_rfl, by kernel_rfl⟩ (calm_only _) (i := 10) rfl ⟨by kernel_rfl, by kernel_rfl, rfl⟩ trivial (stab_of (Hle.refl _) ⟨⟨2, rfl⟩, trivial⟩) (R.assign rfl) rfl ?_
        refine JA.doneN (by kernel_rfl) ?_
        obtain rfl := Option.some.inj hx
        refine JN.forget 1 ?_
        refine JN.front 1 rfl ?_
        refine JN.front 1 rfl ?_
        exact JN.cut ⟨aoz_18, nz_18, capz_18, aoz_19, nz_19, capz_19, rfl, rfl, rfl, hz_18, hz_19⟩ ⟨rfl, rfl, rfl, rfl, rfl, trivial⟩ rfl rfl
    · refine JO.step rfl trivial rfl (fun K hK => ?_)
      refine JL.callC (vs := [_]) (args := [_]) (K := []) (rst := [_, _]) E44 rfl rfl rfl picks0 (dev_place_ok p_4 _ _ hr_13) rfl (fun u_14 Ku_14 Hu_14 hRu_14 hleu_14 hfu_14 => ?_)
      obtain ⟨rfl, rfl, rfl, -⟩ := hRu_14
      refine JL.nil ?_
      refine hK _ _ _ (stab_of (Hle.refl _) ⟨⟨0, rfl⟩, trivial⟩) ?_
      refine JA.two (i := 0) (j := 8) (by kernel_rfl) ?_ ?_
      · refine JO.step rfl trivial rfl (fun K hK => ?_)
        refine JL.val rfl rfl (R.ldoN 1 (vs := [.slice aoa_2 na_2 capa_2, .slice aoa_3 na_3 capa_3]) S25 rfl rfl rfl rfl) ?_
        refine JL.nil ?_
        refine hK _ _ _ (stab_of (Hle.refl _) ⟨⟨0, rfl⟩, trivial⟩) ?_
        refine JA.two (i := 4) (j := 8) (by kernel_rfl) ?_ ?_
        · refine JO.step rfl trivial rfl (fun K hK => ?_)
          refine JL.callC (vs := [_, _, _]) (args := [_, _, _]) (K := [_]) (rst := [_]) E40 rfl rfl rfl (picks 1 rfl picks0) (dev_guarded_ok p_1 x_12 p_1 _ ha_2 ha_3 ha_2 ha_3 _ hr_16) rfl (fun u_17 Ku_17 Hu_17 hRu_17 hleu_17 hfu_17 => ?_)
          obtain ⟨aoz_18, nz_18, capz_18, aoz_19, nz_19, capz_19, aoz_20, nz_20, capz_20, aoz_21, nz_21, capz_21, rfl, rfl, rfl, hz_18, hz_19, hz_20, hz_21, -⟩ := hRu_17
          refine JL.nil ?_
          refine hK _ _ _ (stab_of (Hle.refl _) ⟨⟨1, rfl⟩, trivial⟩) ?_
          refine JA.val ⟨by kernel_rfl, by kernel_rfl⟩ (calm_only _) (i := 5) rfl ⟨by kernel_rfl, by kernel_rfl, rfl⟩ trivial (stab_of (Hle.refl _) ⟨⟨1, rfl⟩, trivial⟩) (R.move rfl) rfl ?_
          refine JA.val ⟨by kernel_rfl, by kernel_rfl⟩ (calm_only _) (i := 6) rfl ⟨by kernel_rfl, by kernel_rfl, rfl⟩ trivial (stab_of (Hle.refl _) ⟨⟨1, rfl⟩, trivial⟩) (R.extract rfl rfl) rfl ?_
          refine JA.val ⟨by kernel_rfl, by kernel_rfl⟩ (calm_only _) (i := 7) rfl ⟨by kernel_rfl, by kernel_rfl, rfl⟩ trivial (stab_of (Hle.refl _) ⟨⟨1, rfl⟩, trivial⟩) (R.extract rfl rfl) rfl ?_
          refine JA.one (i := 8) (by kernel_rfl) ?_
          refine JO.step rfl trivial rfl (fun K hK => ?_)
          refine JL.alloc Z25 rfl (fun b_22 hb_22 => ?_)
          refine JL.nil ?_
          refine hK _ _ _ (stab_of (Hle.refl _) ⟨⟨2, rfl⟩, trivial⟩) ?_
          refine JA.one (i := 9) (by kernel_rfl) ?_
          refine JO.step rfl trivial rfl (fun K hK => ?_)
          refine JL.store 0 S25 rfl rfl rfl rfl rfl (Nat.le_of_ble_eq_true rfl) ?_
          refine JL.nil ?_
          refine hK _ _ _ (stab_of (Hle.refl _) ⟨⟨2, rfl⟩, trivial⟩) ?_
          refine JA.val ⟨by kernel_rfl, by kernel_rfl⟩ (calm_only _) (i := 10) rfl ⟨by kernel_rfl, by kernel_rfl, rfl⟩ trivial (stab_of (Hle.refl _) ⟨⟨2, rfl⟩, trivial⟩) (R.assign rfl) rfl ?_
          refine JA.doneN (by kernel_rfl) ?_
          obtain rfl := Option.some.inj hx
          refine JN.forget 0 ?_
          refine JN.front 1 rfl ?_
          refine JN.front 1 rfl ?_
          exact JN.cut ⟨aoz_18, nz_18, capz_18, aoz_19, nz_19, capz_19, rfl, rfl, rfl, hz_18, hz_19⟩ ⟨rfl, rfl, rfl, rfl, rfl, trivial⟩ rfl rfl
        · refine JO.step rfl trivial rfl (fun K hK => ?_)
          refine JL.alloc Z25 rfl (fun b_22 hb_22 => ?_)
          refine JL.nil ?_
          refine hK _ _ _ (stab_of (Hle.refl _) ⟨⟨1, rfl⟩, trivial⟩) ?_
          refine JA.one (i := 4) (by kernel_rfl) ?_
          refine JO.step rfl trivial rfl (fun K hK => ?_)
          refine JL.callC (vs := [_, _, _]) (args := [_, _, _]) (K := [_]) (rst := [_, _]) E40 rfl rfl rfl (picks 2 rfl picks0) (dev_guarded_ok p_1 x_12 p_1 _ ha_2 ha_3 ha_2 ha_3 _ hr_16) rfl (fun u_17 Ku_17 Hu_17 hRu_17 hleu_17 hfu_17 => ?_)
          obtain ⟨aoz_18, nz_18, capz_18, aoz_19, nz_19, capz_19, aoz_20, nz_20, capz_20, aoz_21, nz_21, capz_21, rfl, rfl, rfl, hz_18, hz_19, hz_20, hz_21, -⟩ := hRu_17
          refine JL.nil ?_
          refine hK _ _ _ (stab_of (Hle.refl _) ⟨⟨2, rfl⟩, trivial⟩) ?_
          refine JA.val ⟨by kernel_rfl, by kernel_rfl⟩ (calm_only _) (i := 5) rfl ⟨by kernel_rfl, by kernel_rfl, rfl⟩ trivial (stab_of (Hle.refl _) ⟨⟨2, rfl⟩, trivial⟩) (R.move rfl) rfl ?_
          refine JA.val ⟨by kernel_rfl, by kernel_rfl⟩ (calm_only _) (i := 6) rfl ⟨by kernel_rfl, by kernel_rfl, rfl⟩ trivial (stab_of (Hle.refl _) ⟨⟨2, rfl⟩, trivial⟩) (R.extract rfl rfl) rfl ?_
          refine JA.val ⟨by kernel_rfl, by kernel_rfl⟩ (calm_only _) (i := 7) rfl ⟨by kernel_rfl, by kernel_rfl, rfl⟩ trivial (stab_of (Hle.refl _) ⟨⟨2, rfl⟩, trivial⟩) (R.extract rfl rfl) rfl ?_
          refine JA.one (i := 9) (by kernel_rfl) ?_
          refine JO.step rfl trivial rfl (fun K hK => ?_)
          refine JL.store 1 S25 rfl rfl rfl rfl rfl (Nat.le_of_ble_eq_true rfl) ?_
          refine JL.nil ?_
          refine hK _ _ _ (stab_of (Hle.refl _) ⟨⟨2, rfl⟩, trivial⟩) ?_
          refine JA.val ⟨by kernel_rfl, by kernel_rfl⟩ (calm_only _) (i := 10) rfl ⟨by kernel_rfl, by kernel_rfl, rfl⟩ trivial (stab_of (Hle.refl _) ⟨⟨2, rfl⟩, trivial⟩) (R.assign rfl) rfl ?_
          refine JA.doneN (by kernel_rfl) ?_
          obtain rfl := Option.some.inj hx
          refine JN.forget 1 ?_
          refine JN.front 1 rfl ?_
          refine JN.front 1 rfl ?_
          exact JN.cut ⟨aoz_18, nz_18, capz_18, aoz_19, nz_19, capz_19, rfl, rfl, rfl, hz_18, hz_19⟩ ⟨rfl, rfl, rfl, rfl, rfl, trivial⟩ rfl rfl
      · refine JO.step rfl trivial rfl (fun K hK => ?_)
        refine JL.alloc Z25 rfl (fun b_22 hb_22 => ?_)
        refine JL.nil ?_
        refine hK _ _ _ (stab_of (Hle.refl _) ⟨⟨1, rfl⟩, trivial⟩) ?_
        refine JA.one (i := 0) (by kernel_rfl) ?_
        refine JO.step rfl trivial rfl (fun K hK => ?_)
        refine JL.val rfl rfl (R.ldoN 2 (vs := [.slice aoa_2 na_2 capa_2, .slice aoa_3 na_3 capa_3]) S25 rfl rfl rfl rfl) ?_
        refine JL.nil ?_
        refine hK _ _ _ (stab_of (Hle.refl _) ⟨⟨1, rfl⟩, trivial⟩) ?_
        refine JA.one (i := 4) (by kernel_rfl) ?_
        refine JO.step rfl trivial rfl (fun K hK => ?_)
        refine JL.callC (vs := [_, _, _]) (args := [_, _, _]) (K := [_]) (rst := [_, _]) E40 rfl rfl rfl (picks 2 rfl picks0) (dev_guarded_ok p_1 x_12 p_1 _ ha_2 ha_3 ha_2 ha_3 _ hr_16) rfl (fun u_17 Ku_17 Hu_17 hRu_17 hleu_17 hfu_17 => ?_)
        obtain ⟨aoz_18, nz_18, capz_18, aoz_19, nz_19, capz_19, aoz_20, nz_20, capz_20, aoz_21, nz_21, capz_21, rfl, rfl, rfl, hz_18, hz_19, hz_20, hz_21, -⟩ := hRu_17
        refine JL.nil ?_
        refine hK _ _ _ (stab_of (Hle.refl _) ⟨⟨2, rfl⟩, trivial⟩) ?_
        refine JA.val ⟨by kernel_rfl, by kernel_rfl⟩ (calm_only _) (i := 5) rfl ⟨by kernel_rfl, by kernel_rfl, rfl⟩ trivial (stab_of (Hle.refl _) ⟨⟨2, rfl⟩, trivial⟩) (R.move rfl) rfl ?_
        refine JA.val ⟨by kernel_rfl, by kernel_rfl⟩ (calm_only _) (i := 6) rfl ⟨by kernel_rfl, by kernel_rfl, rfl⟩ trivial (stab_of (Hle.refl _) ⟨⟨2, rfl⟩, trivial⟩) (R.extract rfl rfl) rfl ?_
        refine JA.val ⟨by kernel_rfl, by kernel_rfl⟩ (calm_only _) (i := 7) rfl ⟨by kernel_rfl, by kernel_rfl, rfl⟩ trivial (stab_of (Hle.refl _) ⟨⟨2, rfl⟩, trivial⟩) (R.extract rfl rfl) rfl ?_
        refine JA.one (i := 9) (by kernel_rfl) ?_
        refine JO.step rfl trivial rfl (fun K hK => ?_)
        refine JL.store 1 S25 rfl rfl rfl rfl rfl (Nat.le_of_ble_eq_true rfl) ?_
        refine JL.nil ?_
        refine hK _ _ _ (stab_of (Hle.refl _) ⟨⟨2, rfl⟩, trivial⟩) ?_
        refine JA.val ⟨by kernel_rfl, by kernel_rfl⟩ (calm_only _) (i := 10) rfl ⟨by kernel_rfl, by kernel_rfl, rfl⟩ trivial (stab_of (Hle.refl _) ⟨⟨2, rfl⟩, trivial⟩) (R.assign rfl) rfl ?_
        refine JA.doneN (by kernel_rfl) ?_
        obtain rfl := Option.some.inj hx
        refine JN.forget 1 ?_
        refine JN.front 1 rfl ?_
        refine JN.front 1 rfl ?_
        exact JN.cut ⟨aoz_18, nz_18, capz_18, aoz_19, nz_19, capz_19, rfl, rfl, rfl, hz_18, hz_19⟩ ⟨rfl, rfl, rfl, rfl, rfl, trivial⟩ rfl rfl
    · refine JO.step rfl trivial rfl (fun K hK => ?_)
      refine JL.alloc Z25 rfl (fun b_22 hb_22 => ?_)
      refine JL.nil ?_
      refine hK _ _ _ (stab_of (Hle.refl _) ⟨⟨1, rfl⟩, trivial⟩) ?_
      refine JA.two (i := 0) (j := 2) (by kernel_rfl) ?_ ?_
      · refine JO.step rfl trivial rfl (fun K hK => ?_)
        refine JL.val rfl rfl (R.ldoN 2 (vs := [.slice aoa_2 na_2 capa_2, .slice aoa_3 na_3 capa_3]) S25 rfl rfl rfl rfl) ?_
        refine JL.nil ?_
        refine hK _ _ _ (stab_of (Hle.refl _) ⟨⟨1, rfl⟩, trivial⟩) ?_
        refine JA.one (i := 2) (by kernel_rfl) ?_
        refine JO.step rfl trivial rfl (fun K hK => ?_)
        refine JL.callC (vs := [_]) (args := [_]) (K := []) (rst := [_, _, _]) E44 rfl rfl rfl picks0 (dev_place_ok p_4 _ _ hr_13) rfl (fun u_14 Ku_14 Hu_14 hRu_14 hleu_14 hfu_14 => ?_)
        obtain ⟨rfl, rfl, rfl, -⟩ := hRu_14
        refine JL.nil ?_
        refine hK _ _ _ (stab_of (Hle.refl _) ⟨⟨1, rfl⟩, trivial⟩) ?_
        refine JA.one (i := 4) (by kernel_rfl) ?_
        refine JO.step rfl trivial rfl (fun K hK => ?_)
        refine JL.callC (vs := [_, _, _]) (args := [_, _, _]) (K := [_]) (rst := [_, _]) E40 rfl rfl rfl (picks 2 rfl picks0) (dev_guarded_ok p_1 x_12 p_1 _ ha_2 ha_3 ha_2 ha_3 _ hr_16) rfl (fun u_17 Ku_17 Hu_17 hRu_17 hleu_17 hfu_17 => ?_)
        obtain ⟨aoz_18, nz_18, capz_18, aoz_19, nz_19, capz_19, aoz_20, nz_20, capz_20, aoz_21, nz_21, capz_21, rfl, rfl, rfl, hz_18, hz_19, hz_20, hz_21, -⟩ := hRu_17
        refine JL.nil ?_
        refine hK _ _ _ (stab_of (Hle.refl _) ⟨⟨2, rfl⟩, trivial⟩) ?_
        refine JA.val ⟨by kernel_rfl, by kernel_rfl⟩ (calm_only _) (i := 5) rfl ⟨by kernel_rfl, by kernel_rfl, rfl⟩ trivial (stab_of (Hle.refl _) ⟨⟨2, rfl⟩, trivial⟩) (R.move rfl) rfl ?_
        refine JA.val ⟨by kernel_rfl, by kernel_rfl⟩ (calm_only _) (i := 6) rfl ⟨by kernel_rfl, by kernel_rfl, rfl⟩ trivial (stab_of (Hle.refl _) ⟨⟨2, rfl⟩, trivial⟩) (R.extract rfl rfl) rfl ?_
        refine JA.val ⟨by kernel_rfl, by kernel_rfl⟩ (calm_only _) (i := 7) rfl ⟨by kernel_rfl, by kernel_rfl, rfl⟩ trivial (stab_of (Hle.refl _) ⟨⟨2, rfl⟩, trivial⟩) (R.extract rfl rfl) rfl ?_
        refine JA.one (i := 9) (by kernel_rfl) ?_
        refine JO.step rfl trivial rfl (fun K hK => ?_)
        refine JL.store 1 S25 rfl rfl rfl rfl rfl (Nat.le_of_ble_eq_true rfl) ?_
        refine JL.nil ?_
        refine hK _ _ _ (stab_of (Hle.refl _) ⟨⟨2, rfl⟩, trivial⟩) ?_
        refine JA.val ⟨by kernel_rfl, by kernel_rfl⟩ (calm_only _) (i := 10) rfl ⟨by kernel_rfl, by kernel_rfl, rfl⟩ trivial (stab_of (Hle.refl _) ⟨⟨2, rfl⟩, trivial⟩) (R.assign rfl) rfl ?_
        refine JA.doneN (by kernel_rfl) ?_
        obtain rfl := Option.some.inj hx
        refine JN.forget 1 ?_
        refine JN.front 1 rfl ?_
        refine JN.front 1 rfl ?_
        exact JN.cut ⟨aoz_18, nz_18, capz_18, aoz_19, nz_19, capz_19, rfl, rfl, rfl, hz_18, hz_19⟩ ⟨rfl, rfl, rfl, rfl, rfl, trivial⟩ rfl rfl
      · refine JO.step rfl trivial rfl (fun K hK => ?_)
        refine JL.callC (vs := [_]) (args := [_]) (K := []) (rst := [_, _, _]) E44 rfl rfl rfl picks0 (dev_place_ok p_4 _ _ hr_13) rfl (fun u_14 Ku_14 Hu_14 hRu_14 hleu_14 hfu_14 => ?_)
        obtain ⟨rfl, rfl, rfl, -⟩ := hRu_14
        refine JL.nil ?_
        refine hK _ _ _ (stab_of (Hle.refl _) ⟨⟨1, rfl⟩, trivial⟩) ?_
        refine JA.one (i := 0) (by kernel_rfl) ?_
        refine JO.step rfl trivial rfl (fun K hK => ?_)
        refine JL.val rfl rfl (R.ldoN 2 (vs := [.slice aoa_2 na_2 capa_2, .slice aoa_3 na_3 capa_3]) S25 rfl rfl rfl rfl) ?_
        refine JL.nil ?_
        refine hK _ _ _ (stab_of (Hle.refl _) ⟨⟨1, rfl⟩, trivial⟩) ?_
        refine JA.one (i := 4) (by kernel_rfl) ?_
        refine JO.step rfl trivial rfl (fun K hK => ?_)
        refine JL.callC (vs := [_, _, _]) (args := [_, _, _]) (K := [_]) (rst := [_, _]) E40 rfl rfl rfl (picks 2 rfl picks0) (dev_guarded_ok p_1 x_12 p_1 _ ha_2 ha_3 ha_2 ha_3 _ hr_16) rfl (fun u_17 Ku_17 Hu_17 hRu_17 hleu_17 hfu_17 => ?_)
        obtain ⟨aoz_18, nz_18, capz_18, aoz_19, nz_19, capz_19, aoz_20, nz_20, capz_20, aoz_21, nz_21, capz_21, rfl, rfl, rfl, hz_18, hz_19, hz_20, hz_21, -⟩ := hRu_17
        refine JL.nil ?_
        refine hK _ _ _ (stab_of (Hle.refl _) ⟨⟨2, rfl⟩, trivial⟩) ?_
        refine JA.val ⟨by kernel_rfl, by kernel_rfl⟩ (calm_only _) (i := 5) rfl ⟨by kernel_rfl, by kernel_rfl, rfl⟩ trivial (stab_of (Hle.refl _) ⟨⟨2, rfl⟩, trivial⟩) (R.move rfl) rfl ?_
        refine JA.val ⟨by kernel_rfl, by kernel_rfl⟩ (calm_only _) (i := 6) rfl ⟨by kernel_rfl, by kernel_rfl, rfl⟩ trivial (stab_of (Hle.refl _) ⟨⟨2, rfl⟩, trivial⟩) (R.extract rfl rfl) rfl ?_
        refine JA.val ⟨by kernel_rfl, by kernel_rfl⟩ (calm_only _) (i := 7) rfl ⟨by kernel_rfl, by kernel_rfl, rfl⟩ trivial (stab_of (Hle.refl _) ⟨⟨2, rfl⟩, trivial⟩) (R.extract rfl rfl) rfl ?_
        refine JA.one (i := 9) (by kernel_rfl) ?_
        refine JO.step rfl trivial rfl (fun K hK => ?_)
        refine JL.store 1 S25 rfl rfl rfl rfl rfl (Nat.le_of_ble_eq_true rfl) ?_
        refine JL.nil ?_
        refine hK _ _ _ (stab_of (Hle.refl _) ⟨⟨2, rfl⟩, trivial⟩) ?_
        refine JA.val ⟨by kernel_rfl, by kernel_rfl⟩ (calm_only _) (i := 10) rfl ⟨by kernel_rfl, by kernel_rfl, rfl⟩ trivial (stab_of (Hle.refl _) ⟨⟨2, rfl⟩, trivial⟩) (R.assign rfl) rfl ?_
        refine JA.doneN (by kernel_rfl) ?_
        obtain rfl := Option.some.inj hx
        refine JN.forget 1 ?_
        refine JN.front 1 rfl ?_
        refine JN.front 1 rfl ?_
        exact JN.cut ⟨aoz_18, nz_18, capz_18, aoz_19, nz_19, capz_19, rfl, rfl, rfl, hz_18, hz_19⟩ ⟨rfl, rfl, rfl, rfl, rfl, trivial⟩ rfl rfl

set_option maxHeartbeats 8000000 in
theorem store_put_ok (p_1 : Store) (p_5 : Ptr) (p_6 : List UInt8) (H : Heaplet) {aoa_2 : Option Addr} {na_2 : Nat} {capa_2 : Nat} {aoa_3 : Option Addr} {na_3 : Nat} {capa_3 : Nat} {aoa_4 : Option Addr} {na_4 : Nat} {capa_4 : Nat} {aoa_7 : Option Addr} {na_7 : Nat} {capa_7 : Nat} (ha_2 : IsSlice H (RSl RU8 1) 1 (.slice aoa_2 na_2 capa_2) p_1.Disk.Blocks) (ha_3 : IsSlice H R_Write 2 (.slice aoa_3 na_3 capa_3) p_1.Disk.Waits) (ha_4 : IsSlice H RU8 1 (.slice aoa_4 na_4 capa_4) p_1.Space) (ha_7 : IsSlice H RU8 1 (.slice aoa_7 na_7 capa_7) p_6) (r : Store × Ptr × Int) (hx : store_put p_1 p_5 p_6 = some r) :
    Does Try.prog 30 #[.agg #[.slice aoa_2 na_2 capa_2, .slice aoa_3 na_3 capa_3, .slice aoa_4 na_4 capa_4, .int .u32 (p_1.Epoch.toNat : Int), .int .u32 (p_1.Count.toNat : Int)], .agg #[.int .i64 p_5.At, .int .u32 (p_5.Birth.toNat : Int), .int .u32 (p_5.Iv.toNat : Int), .int .u32 (p_5.Tag.toNat : Int), .int .u32 (p_5.Sum.toNat : Int)], .slice aoa_7 na_7 capa_7] [] H (fun u K' H' => ∃ ao0 : Option Addr, ∃ n0 : Nat, ∃ cap0 : Nat, ∃ ao1 : Option Addr, ∃ n1 : Nat, ∃ cap1 : Nat, ∃ K1 : Own, ∃ ao2 : Option Addr, ∃ n2 : Nat, ∃ cap2 : Nat, ∃ K2 : Own, u = .tuple #[.agg #[.slice ao0 n0 cap0, .slice ao1 n1 cap1, .slice ao2 n2 cap2, .int .u32 (r.1.Epoch.toNat : Int), .int .u32 (r.1.Count.toNat : Int)], .agg #[.int .i64 r.2.1.At, .int .u32 (r.2.1.Birth.toNat : Int), .int .u32 (r.2.1.Iv.toNat : Int), .int .u32 (r.2.1.Tag.toNat : Int), .int .u32 (r.2.1.Sum.toNat : Int)], .int .i64 r.2.2] ∧ K' = [K1, K2] ∧ IsSlice (New H H') (RSl RU8 1) 1 (.slice ao0 n0 cap0) r.1.Disk.Blocks ∧ RowOf (New H H') R_Write 0 72 2 (.slice ao1 n1 cap1) r.1.Disk.Waits K1 ∧ (∀ p ∈ K1, p.1 ∉ ids (List.flatten [])) ∧ RowOf (New H H') RU8 0 5 1 (.slice ao2 n2 cap2) r.1.Space K2 ∧ (∀ p ∈ K2, p.1 ∉ ids (List.flatten [])) ∧ True) := by
  refine Does.enterL (vs := [.agg #[.slice aoa_2 na_2 capa_2, .slice aoa_3 na_3 capa_3, .slice aoa_4 na_4 capa_4, .int .u32 (p_1.Epoch.toNat : Int), .int .u32 (p_1.Count.toNat : Int)], .agg #[.int .i64 p_5.At, .int .u32 (p_5.Birth.toNat : Int), .int .u32 (p_5.Iv.toNat : Int), .int .u32 (p_5.Tag.toNat : Int), .int .u32 (p_5.Sum.toNat : Int)], .slice aoa_7 na_7 capa_7]) (l := [(0, .agg #[.slice aoa_2 na_2 capa_2, .slice aoa_3 na_3 capa_3, .slice aoa_4 na_4 capa_4, .int .u32 (p_1.Epoch.toNat : Int), .int .u32 (p_1.Count.toNat : Int)]), (1, .agg #[.int .i64 p_5.At, .int .u32 (p_5.Birth.toNat : Int), .int .u32 (p_5.Iv.toNat : Int), .int .u32 (p_5.Tag.toNat : Int), .int .u32 (p_5.Sum.toNat : Int)]), (2, .slice aoa_7 na_7 capa_7)]) Try.func30 rfl rfl ⟨rfl, rfl, rfl, trivial⟩ (fun w hlt => ?_)
  unfold store_put at hx
  refine JC.seq ?_
  refine JC.region ?_
  refine JL.box rfl rfl (fun b_8 hb_8 => ?_)
  refine JL.box rfl rfl (fun b_9 hb_9 => ?_)
  refine JL.alloc Z29 rfl (fun b_10 hb_10 => ?_)
  refine JL.alloc Z33 rfl (fun b_11 hb_11 => ?_)
  refine JL.val rfl rfl (R.assign rfl) ?_
  refine JL.nil ?_
  refine JN.next ?_
  refine JC.seq ?_
  refine JC.seq ?_
  refine JC.region ?_
  refine JL.val rfl rfl (R.fa F29_1 rfl) ?_
  refine JL.val rfl rfl (R.ldo 3 S26 rfl rfl rfl) ?_
  obtain ⟨x_12, hr_13, hx⟩ := bnd_some hx
  refine JL.callC (vs := [_]) (args := [_]) (K := []) (rst := [_, _, _, _]) E53 rfl rfl rfl picks0 (space_Take_ok p_1.Space _ ha_4 _ hr_13) rfl (fun u_14 Ku_14 Hu_14 hRu_14 hleu_14 hfu_14 => ?_)
  obtain ⟨aor_15, nr_15, capr_15, Kr_15, rfl, rfl, rfl, hr_15, hnewr_15, -⟩ := hRu_14
  replace hr_15 := (RowOf.base (RowOf.const (H2 := New H H) RU8.const hr_15) (fun p hp => (hfu_14 p (mem_seg 0 rfl hp)).resolve_left (hnewr_15 p hp)))
  refine JL.val rfl rfl (R.move rfl) ?_
  refine JL.val rfl rfl (R.extract rfl rfl) ?_
  refine JL.val rfl rfl (R.extract rfl rfl) ?_
  refine JL.val rfl rfl (R.extract rfl rfl) ?_
  refine JL.val rfl rfl (R.fa F29_1 rfl) ?_
  refine JL.store 2 S26 rfl rfl rfl rfl rfl (Nat.le_of_ble_eq_true rfl) ?_
  refine JL.val rfl rfl (R.fa F33_0 rfl) ?_
  refine JL.store 3 S3 rfl rfl rfl rfl rfl (Nat.le_of_ble_eq_true rfl) ?_
  refine JL.val rfl rfl (R.assign rfl) ?_
  refine JL.nil ?_
  refine JN.next ?_
  refine JC.seq ?_
  refine JC.region ?_
  refine JL.val rfl rfl (R.move rfl) ?_
  refine JL.val rfl rfl (R.neq_i rfl rfl) ?_
  refine JL.nil ?_
  refine JN.next ?_
  refine JC.condB rfl (fun c_16 => ?_) (fun c_16 => ?_)
  · replace hx := cond_t c_16 hx
    refine JC.seq ?_
    refine JC.region ?_
    refine JL.val rfl rfl (R.bldP (vs := []) (cs := [.slice none 0 0, .slice none 0 0, .slice none 0 0, .int .u32 ((0 : UInt32).toNat : Int), .int .u32 ((0 : UInt32).toNat : Int)]) Z29 B29 rfl rfl rfl) ?_
    refine JL.val rfl rfl (R.bldP (vs := []) (cs := [.int .i64 0, .int .u32 ((0 : UInt32).toNat : Int), .int .u32 ((0 : UInt32).toNat : Int), .int .u32 ((0 : UInt32).toNat : Int), .int .u32 ((0 : UInt32).toNat : Int)]) Z33 B33 rfl rfl rfl) ?_
    refine JL.val rfl rfl (R.move rfl) ?_
    refine JL.store 2 S29 rfl rfl rfl rfl rfl (Nat.le_of_ble_eq_true rfl) ?_
    refine JL.store 1 S33 rfl rfl rfl rfl rfl (Nat.le_of_ble_eq_true rfl) ?_
    refine JL.val rfl rfl (R.assign rfl) ?_
    refine JL.nil ?_
    refine JN.next ?_
    refine JC.ret ?_
    refine JN.passR ?_
    refine JN.seg0 ?_
    refine JN.seg0 ?_
    refine JN.outP (vs := [.agg #[.slice none 0 0, .slice none 0 0, .slice none 0 0, .int .u32 ((0 : UInt32).toNat : Int), .int .u32 ((0 : UInt32).toNat : Int)], .agg #[.int .i64 0, .int .u32 ((0 : UInt32).toNat : Int), .int .u32 ((0 : UInt32).toNat : Int), .int .u32 ((0 : UInt32).toNat : Int), .int .u32 ((0 : UInt32).toNat : Int)], .int .i64 x_12.2.2]) (K := [_, _]) (rst := [_, _, _, _, _]) (.inl rfl) rfl rfl (Res.cellN 4 rfl rfl S29 (Res.cellN 3 rfl rfl S33 (Res.tmp rfl rfl))) (picks 0 rfl (picks 0 rfl picks0)) ?_
    obtain rfl := Option.some.inj hx
    exact ⟨none, 0, 0, none, 0, 0, [], none, 0, 0, [], rfl, rfl, (IsSlice.nil _ _ _), (RowOf.nil _ _ _ _ _), (fun p hp => by cases hp), (RowOf.nil _ _ _ _ _), (fun p hp => by cases hp), trivial⟩
  · replace hx := cond_f c_16 hx
    refine JC.skip ?_
    refine JN.next ?_
    refine JC.seq ?_
    refine JC.seq ?_
    refine JC.region ?_
    refine JL.val rfl rfl (R.fa F29_0 rfl) ?_
    refine JL.val rfl rfl (R.ldoN 4 (vs := [.slice aoa_2 na_2 capa_2, .slice aoa_3 na_3 capa_3]) S25 rfl rfl rfl rfl) ?_
    refine JL.val rfl rfl (R.fa F33_0 rfl) ?_
    refine JL.val rfl rfl (R.ldo 3 S3 rfl rfl rfl) ?_
    refine JL.val rfl rfl (R.move rfl) ?_
    obtain ⟨x_17, hr_18, hx⟩ := bnd_some hx
    refine JL.callC (vs := [_, _, _]) (args := [_, _, _]) (K := []) (rst := [_, _, _, _, _]) E54 rfl rfl rfl picks0 (dev_Write_ok (Disk.mk p_1.Disk.Blocks p_1.Disk.Waits) x_12.2.1 p_6 _ ha_2 ha_3 ha_7 _ hr_18) rfl (fun u_19 Ku_19 Hu_19 hRu_19 hleu_19 hfu_19 => ?_)
    obtain ⟨aoz_20, nz_20, capz_20, aor_21, nr_21, capr_21, Kr_21, rfl, rfl, hz_20, hr_21, hnewr_21, -⟩ := hRu_19
    replace hr_21 := (RowOf.base (RowOf.mono R_Write.mono (New.call (Hle.refl _)) hr_21) (fun p hp => (hfu_19 p (mem_seg 0 rfl hp)).resolve_left (hnewr_21 p hp)))
    replace hz_20 := IsSlice.mono (RSl.mono RU8.mono) (New.call (Hle.refl _)) hz_20
    refine JL.val rfl rfl (R.move rfl) ?_
    refine JL.val rfl rfl (R.extract rfl rfl) ?_
    refine JL.val rfl rfl (R.extract rfl rfl) ?_
    refine JL.val rfl rfl (R.fa F29_0 rfl) ?_
    refine JL.store 3 S25 rfl rfl rfl rfl rfl (Nat.le_of_ble_eq_true rfl) ?_
    refine JL.val rfl rfl (R.assign rfl) ?_
    refine JL.nil ?_
    refine JN.next ?_
    refine JC.seq ?_
    refine JC.region ?_
    refine JL.val rfl rfl (R.move rfl) ?_
    refine JL.val rfl rfl (R.neq_i rfl rfl) ?_
    refine JL.nil ?_
    refine JN.next ?_
    refine JC.condB rfl (fun c_22 => ?_) (fun c_22 => ?_)
    · replace hx := cond_t c_22 hx
      refine JC.seq ?_
      refine JC.region ?_
      refine JL.val rfl rfl (R.bldP (vs := []) (cs := [.slice none 0 0, .slice none 0 0, .slice none 0 0, .int .u32 ((0 : UInt32).toNat : Int), .int .u32 ((0 : UInt32).toNat : Int)]) Z29 B29 rfl rfl rfl) ?_
      refine JL.val rfl rfl (R.bldP (vs := []) (cs := [.int .i64 0, .int .u32 ((0 : UInt32).toNat : Int), .int .u32 ((0 : UInt32).toNat : Int), .int .u32 ((0 : UInt32).toNat : Int), .int .u32 ((0 : UInt32).toNat : Int)]) Z33 B33 rfl rfl rfl) ?_
      refine JL.val rfl rfl (R.move rfl) ?_
      refine JL.store 3 S29 rfl rfl rfl rfl rfl (Nat.le_of_ble_eq_true rfl) ?_
      refine JL.store 2 S33 rfl rfl rfl rfl rfl (Nat.le_of_ble_eq_true rfl) ?_
      refine JL.val rfl rfl (R.assign rfl) ?_
      refine JL.nil ?_
      refine JN.next ?_
      refine JC.ret ?_
      refine JN.passR ?_
      refine JN.seg0 ?_
      refine JN.seg0 ?_
      refine JN.outP (vs := [.agg #[.slice none 0 0, .slice none 0 0, .slice none 0 0, .int .u32 ((0 : UInt32).toNat : Int), .int .u32 ((0 : UInt32).toNat : Int)], .agg #[.int .i64 0, .int .u32 ((0 : UInt32).toNat : Int), .int .u32 ((0 : UInt32).toNat : Int), .int .u32 ((0 : UInt32).toNat : Int), .int .u32 ((0 : UInt32).toNat : Int)], .int .i64 x_17.2]) (K := [_, _]) (rst := [_, _, _, _, _, _]) (.inl rfl) rfl rfl (Res.cellN 5 rfl rfl S29 (Res.cellN 4 rfl rfl S33 (Res.tmp rfl rfl))) (picks 0 rfl (picks 0 rfl picks0)) ?_
      obtain rfl := Option.some.inj hx
      exact ⟨none, 0, 0, none, 0, 0, [], none, 0, 0, [], rfl, rfl, (IsSlice.nil _ _ _), (RowOf.nil _ _ _ _ _), (fun p hp => by cases hp), (RowOf.nil _ _ _ _ _), (fun p hp => by cases hp), trivial⟩
    · replace hx := cond_f c_22 hx
      refine JC.skip ?_
      refine JN.next ?_
      refine JC.seq ?_
      refine JC.draw (so := [_, _, _, _, _]) 8 rfl Mixed ⟨⟨0, rfl⟩, ⟨1, rfl⟩, ⟨2, rfl⟩, ⟨4, rfl⟩, ⟨5, rfl⟩, trivial⟩ ?_
      refine JA.val ⟨by kernel_rfl, by kernel_rfl⟩ (calm_only _) (i := 0) rfl ⟨by kernel_rfl, by kernel_rfl, rfl⟩ trivial (stab_of (Hle.refl _) ⟨⟨0, rfl⟩, ⟨1, rfl⟩, ⟨2, rfl⟩, ⟨4, rfl⟩, ⟨5, rfl⟩, trivial⟩) (R.fa F29_2 rfl) rfl ?_
      refine JA.val ⟨by kernel_rfl, by kernel_rfl⟩ (calm_only _) (i := 1) rfl ⟨by kernel_rfl, by kernel_rfl, rfl⟩ trivial (stab_of (Hle.refl _) ⟨⟨0, rfl⟩, ⟨1, rfl⟩, ⟨2, rfl⟩, ⟨4, rfl⟩, ⟨5, rfl⟩, trivial⟩) (R.ldo 4 S27 rfl rfl rfl) rfl ?_
      refine JA.val ⟨by kernel_rfl, by kernel_rfl⟩ (calm_only _) (i := 2) rfl ⟨by kernel_rfl, by kernel_rfl, rfl⟩ trivial (stab_of (Hle.refl _) ⟨⟨0, rfl⟩, ⟨1, rfl⟩, ⟨2, rfl⟩, ⟨4, rfl⟩, ⟨5, rfl⟩, trivial⟩) (R.fa F29_3 rfl) rfl ?_
      refine JA.val ⟨by kernel_rfl, by kernel_rfl⟩ (calm_only _) (i := 3) rfl ⟨by kernel_rfl, by kernel_rfl, rfl⟩ trivial (stab_of (Hle.refl _) ⟨⟨0, rfl⟩, ⟨1, rfl⟩, ⟨2, rfl⟩, ⟨4, rfl⟩, ⟨5, rfl⟩, trivial⟩) (R.ldo 4 S27 rfl rfl rfl) rfl ?_
      refine JA.val ⟨by kernel_rfl, by kernel_rfl⟩ (calm_only _) (i := 4) rfl ⟨by kernel_rfl, by kernel_rfl, rfl⟩ trivial (stab_of (Hle.refl _) ⟨⟨0, rfl⟩, ⟨1, rfl⟩, ⟨2, rfl⟩, ⟨4, rfl⟩, ⟨5, rfl⟩, trivial⟩) (R.fa F29_2 rfl) rfl ?_
      refine JA.one (i := 5) (by kernel_rfl) ?_
      refine JO.step rfl trivial rfl (fun K hK => ?_)
      refine JL.store 3 S27 rfl rfl rfl rfl rfl (Nat.le_of_ble_eq_true rfl) ?_
      refine JL.nil ?_
      refine hK _ _ _ (stab_of (Hle.refl _) ⟨⟨0, rfl⟩, ⟨1, rfl⟩, ⟨2, rfl⟩, ⟨4, rfl⟩, ⟨5, rfl⟩, trivial⟩) ?_
      refine JA.val ⟨by kernel_rfl, by kernel_rfl⟩ (calm_only _) (i := 6) rfl ⟨by kernel_rfl, by kernel_rfl, rfl⟩ trivial (stab_of (Hle.refl _) ⟨⟨0, rfl⟩, ⟨1, rfl⟩, ⟨2, rfl⟩, ⟨4, rfl⟩, ⟨5, rfl⟩, trivial⟩) (R.fa F29_3 rfl) rfl ?_
      refine JA.one (i := 7) (by kernel_rfl) ?_
      refine JO.step rfl trivial rfl (fun K hK => ?_)
      refine JL.store 3 S27 rfl rfl rfl rfl rfl (Nat.le_of_ble_eq_true rfl) ?_
      refine JL.nil ?_
      refine hK _ _ _ (stab_of (Hle.refl _) ⟨⟨0, rfl⟩, ⟨1, rfl⟩, ⟨2, rfl⟩, ⟨4, rfl⟩, ⟨5, rfl⟩, trivial⟩) ?_
      refine JA.doneN (by kernel_rfl) ?_
      refine JN.next ?_
      refine JC.seq ?_
      refine JC.region ?_
      refine JL.val rfl rfl (R.move rfl) ?_
      obtain ⟨x_23, hr_24, hx⟩ := bnd_some hx
      refine JL.callC (vs := [_]) (args := [_]) (K := []) (rst := [_, _, _, _, _, _]) E23 rfl rfl rfl picks0 (mix_Sum_ok p_6 _ (ha_7.mono RU8.mono hleu_19) _ hr_24) rfl (fun u_25 Ku_25 Hu_25 hRu_25 hleu_25 hfu_25 => ?_)
      obtain ⟨rfl, rfl, -⟩ := hRu_25
      refine JL.val rfl rfl (R.fa F33_4 rfl) ?_
      refine JL.store 4 S27 rfl rfl rfl rfl rfl (Nat.le_of_ble_eq_true rfl) ?_
      refine JL.nil ?_
      refine JN.next ?_
      refine JC.seq ?_
      refine JC.draw (so := [_, _, _, _]) 5 rfl Mixed ⟨⟨0, rfl⟩, ⟨1, rfl⟩, ⟨4, rfl⟩, ⟨5, rfl⟩, trivial⟩ ?_
      refine JA.val ⟨by kernel_rfl, by kernel_rfl⟩ (calm_only _) (i := 1) rfl ⟨by kernel_rfl, by kernel_rfl, rfl⟩ trivial (stab_of (Hle.refl _) ⟨⟨0, rfl⟩, ⟨1, rfl⟩, ⟨4, rfl⟩, ⟨5, rfl⟩, trivial⟩) (R.ldoN 2 (vs := [.int .i64 x_12.2.1, .int .u32 (p_5.Birth.toNat : Int), .int .u32 (p_5.Iv.toNat : Int), .int .u32 (p_5.Tag.toNat : Int), .int .u32 (x_23.toNat : Int)]) S33 rfl rfl rfl rfl) rfl ?_
      refine JA.one (i := 0) (by kernel_rfl) ?_
      refine JO.step rfl trivial rfl (fun K hK => ?_)
      refine JL.val rfl rfl (R.ldoN 3 (vs := [.slice aoz_20 nz_20 capz_20, .slice aor_21 nr_21 capr_21, .slice aor_15 nr_15 capr_15, .int .u32 (p_1.Epoch.toNat : Int), .int .u32 (p_1.Count.toNat : Int)]) S29 rfl rfl rfl rfl) ?_
      refine JL.nil ?_
      refine hK _ _ _ (stab_of (Hle.refl _) ⟨⟨0, rfl⟩, ⟨1, rfl⟩, ⟨4, rfl⟩, ⟨5, rfl⟩, trivial⟩) ?_
      refine JA.one (i := 2) (by kernel_rfl) ?_
      refine JO.step rfl trivial rfl (fun K hK => ?_)
      refine JL.store 3 S29 rfl rfl rfl rfl rfl (Nat.le_of_ble_eq_true rfl) ?_
      refine JL.nil ?_
      refine hK _ _ _ (stab_of (Hle.refl _) ⟨⟨0, rfl⟩, ⟨1, rfl⟩, ⟨4, rfl⟩, ⟨5, rfl⟩, trivial⟩) ?_
      refine JA.one (i := 3) (by kernel_rfl) ?_
      refine JO.step rfl trivial rfl (fun K hK => ?_)
      refine JL.store 2 S33 rfl rfl rfl rfl rfl (Nat.le_of_ble_eq_true rfl) ?_
      refine JL.nil ?_
      refine hK _ _ _ (stab_of (Hle.refl _) ⟨⟨0, rfl⟩, ⟨1, rfl⟩, ⟨4, rfl⟩, ⟨5, rfl⟩, trivial⟩) ?_
      refine JA.val ⟨by kernel_rfl, by kernel_rfl⟩ (calm_only _) (i := 4) rfl ⟨by kernel_rfl, by kernel_rfl, rfl⟩ trivial (stab_of (Hle.refl _) ⟨⟨0, rfl⟩, ⟨1, rfl⟩, ⟨4, rfl⟩, ⟨5, rfl⟩, trivial⟩) (R.assign rfl) rfl ?_
      refine JA.doneN (by kernel_rfl) ?_
      refine JN.next ?_
      refine JC.ret ?_
      refine JN.outP (vs := [.agg #[.slice aoz_20 nz_20 capz_20, .slice aor_21 nr_21 capr_21, .slice aor_15 nr_15 capr_15, .int .u32 (p_1.Epoch.toNat : Int), .int .u32 (p_1.Count.toNat : Int)], .agg #[.int .i64 x_12.2.1, .int .u32 (p_5.Birth.toNat : Int), .int .u32 (p_5.Iv.toNat : Int), .int .u32 (p_5.Tag.toNat : Int), .int .u32 (x_23.toNat : Int)], .int .i64 0]) (K := [_, _]) (rst := [_, _, _, _]) (.inl rfl) rfl rfl (Res.cellN 3 rfl rfl S29 (Res.cellN 2 rfl rfl S33 (Res.tmp rfl rfl))) (picks 0 rfl (picks 0 rfl picks0)) ?_
      obtain rfl := Option.some.inj hx
      exact ⟨aoz_20, nz_20, capz_20, aor_21, nr_21, capr_21, Kr_21, aor_15, nr_15, capr_15, Kr_15, rfl, rfl, (hz_20.mono (RSl.mono RU8.mono) (New.mono hleu_25)), (RowOf.weak (Nat.zero_le _) (hr_21.mono R_Write.mono (New.mono hleu_25))), (new_ids (hr_21.mono R_Write.mono (New.mono hleu_25)) hlt), (RowOf.weak (Nat.zero_le _) (hr_15.mono RU8.mono (New.mono (hleu_19.trans hleu_25)))), (new_ids (hr_15.mono RU8.mono (New.mono (hleu_19.trans hleu_25))) hlt), trivial⟩

set_option maxHeartbeats 8000000 in
theorem store_Seal_ok (p_1 : Store) (p_5 : UInt32) (p_6 : List UInt8) (p_8 : List UInt8) (H : Heaplet) {aoa_2 : Option Addr} {na_2 : Nat} {capa_2 : Nat} {aoa_3 : Option Addr} {na_3 : Nat} {capa_3 : Nat} {aoa_4 : Option Addr} {na_4 : Nat} {capa_4 : Nat} {aoa_7 : Option Addr} {na_7 : Nat} {capa_7 : Nat} {aoa_9 : Option Addr} {na_9 : Nat} {capa_9 : Nat} (ha_2 : IsSlice H (RSl RU8 1) 1 (.slice aoa_2 na_2 capa_2) p_1.Disk.Blocks) (ha_3 : IsSlice H R_Write 2 (.slice aoa_3 na_3 capa_3) p_1.Disk.Waits) (ha_4 : IsSlice H RU8 1 (.slice aoa_4 na_4 capa_4) p_1.Space) (ha_7 : IsSlice H RU8 1 (.slice aoa_7 na_7 capa_7) p_6) (ha_9 : IsSlice H RU8 1 (.slice aoa_9 na_9 capa_9) p_8) (r : Store × Ptr × Int) (hx : store_Seal p_1 p_5 p_6 p_8 = some r) :
    Does Try.prog 12 #[.agg #[.slice aoa_2 na_2 capa_2, .slice aoa_3 na_3 capa_3, .slice aoa_4 na_4 capa_4, .int .u32 (p_1.Epoch.toNat : Int), .int .u32 (p_1.Count.toNat : Int)], .int .u32 (p_5.toNat : Int), .slice aoa_7 na_7 capa_7, .slice aoa_9 na_9 capa_9] [] H (fun u K' H' => ∃ ao0 : Option Addr, ∃ n0 : Nat, ∃ cap0 : Nat, ∃ ao1 : Option Addr, ∃ n1 : Nat, ∃ cap1 : Nat, ∃ K1 : Own, ∃ ao2 : Option Addr, ∃ n2 : Nat, ∃ cap2 : Nat, ∃ K2 : Own, u = .tuple #[.agg #[.slice ao0 n0 cap0, .slice ao1 n1 cap1, .slice ao2 n2 cap2, .int .u32 (r.1.Epoch.toNat : Int), .int .u32 (r.1.Count.toNat : Int)], .agg #[.int .i64 r.2.1.At, .int .u32 (r.2.1.Birth.toNat : Int), .int .u32 (r.2.1.Iv.toNat : Int), .int .u32 (r.2.1.Tag.toNat : Int), .int .u32 (r.2.1.Sum.toNat : Int)], .int .i64 r.2.2] ∧ K' = [K1, K2] ∧ IsSlice (New H H') (RSl RU8 1) 1 (.slice ao0 n0 cap0) r.1.Disk.Blocks ∧ RowOf (New H H') R_Write 0 72 2 (.slice ao1 n1 cap1) r.1.Disk.Waits K1 ∧ (∀ p ∈ K1, p.1 ∉ ids (List.flatten [])) ∧ RowOf (New H H') RU8 0 5 1 (.slice ao2 n2 cap2) r.1.Space K2 ∧ (∀ p ∈ K2, p.1 ∉ ids (List.flatten [])) ∧ True) := by
  refine Does.enterL (vs := [.agg #[.slice aoa_2 na_2 capa_2, .slice aoa_3 na_3 capa_3, .slice aoa_4 na_4 capa_4, .int .u32 (p_1.Epoch.toNat : Int), .int .u32 (p_1.Count.toNat : Int)], .int .u32 (p_5.toNat : Int), .slice aoa_7 na_7 capa_7, .slice aoa_9 na_9 capa_9]) (l := [(0, .agg #[.slice aoa_2 na_2 capa_2, .slice aoa_3 na_3 capa_3, .slice aoa_4 na_4 capa_4, .int .u32 (p_1.Epoch.toNat : Int), .int .u32 (p_1.Count.toNat : Int)]), (1, .int .u32 (p_5.toNat : Int)), (2, .slice aoa_7 na_7 capa_7), (3, .slice aoa_9 na_9 capa_9)]) Try.func12 rfl rfl ⟨rfl, rfl, rfl, rfl, trivial⟩ (fun w hlt => ?_)
  unfold store_Seal at hx
  refine JC.seq ?_
  refine JC.region ?_
  refine JL.box rfl rfl (fun b_10 hb_10 => ?_)
  refine JL.alloc Z29 rfl (fun b_11 hb_11 => ?_)
  refine JL.alloc Z33 rfl (fun b_12 hb_12 => ?_)
  refine JL.val rfl rfl (R.assign rfl) ?_
  refine JL.nil ?_
  refine JN.next ?_
  refine JC.seq ?_
  refine JC.seq ?_
  refine JC.region ?_
  refine JL.val rfl rfl (R.ldoN 2 (vs := [.slice aoa_2 na_2 capa_2, .slice aoa_3 na_3 capa_3, .slice aoa_4 na_4 capa_4, .int .u32 (p_1.Epoch.toNat : Int), .int .u32 (p_1.Count.toNat : Int)]) S29 rfl rfl rfl rfl) ?_
  refine JL.val rfl rfl (R.move rfl) ?_
  refine JL.val rfl rfl (R.move rfl) ?_
  refine JL.val rfl rfl (R.move rfl) ?_
  refine JL.bslF (HF := H) (R := (RSl RU8 1)) (ls := [p_6, p_8]) (vs := [.slice aoa_7 na_7 capa_7, .slice aoa_9 na_9 capa_9]) U22 I26 rfl rfl (⟨_, _, rfl, rfl, ⟨_, rfl, ha_7⟩, ⟨_, _, rfl, rfl, ⟨_, rfl, ha_9⟩, rfl⟩⟩) RSl.one rfl rfl rfl (by simp [maxLen]) rfl (fun vr_13 Kr_13 hr_13 => ?_)
  obtain ⟨aor_13, capr_13, rfl⟩ := RowOf.val hr_13
  obtain ⟨x_17, hr_18, hx⟩ := bnd_some hx
  refine JL.callL2 (vs := [_, _, _, _]) (v := .int .i64 x_17) E28 rfl rfl (fun H_16 hle_15 hl_14 => Does.mono (store_asked_ok p_1 p_5 16 ([p_6, p_8]) _ (IsSlice.mono (RSl.mono RU8.mono) hle_15 ha_2) (IsSlice.mono R_Write.mono hle_15 ha_3) (IsSlice.mono RU8.mono hle_15 ha_4) (Lent.row' 0 hl_14 (RSl.mono RU8.mono) hle_15 rfl hr_13) _ hr_18) (fun _ _ _ h => h.1)) rfl ?_
  refine JL.val rfl rfl (R.assign rfl) ?_
  refine JL.nil ?_
  refine JN.next ?_
  refine JC.seq ?_
  refine JC.region ?_
  refine JL.val rfl rfl (R.move rfl) ?_
  refine JL.val rfl rfl (R.neq_i rfl rfl) ?_
  refine JL.nil ?_
  refine JN.next ?_
  refine JC.condB rfl (fun c_19 => ?_) (fun c_19 => ?_)
  · replace hx := cond_t c_19 hx
    refine JC.ret ?_
    refine JN.passR ?_
    refine JN.seg0 ?_
    refine JN.seg0 ?_
    refine JN.outP (vs := [.agg #[.slice none 0 0, .slice none 0 0, .slice none 0 0, .int .u32 ((0 : UInt32).toNat : Int), .int .u32 ((0 : UInt32).toNat : Int)], .agg #[.int .i64 0, .int .u32 ((0 : UInt32).toNat : Int), .int .u32 ((0 : UInt32).toNat : Int), .int .u32 ((0 : UInt32).toNat : Int), .int .u32 ((0 : UInt32).toNat : Int)], .int .i64 x_17]) (K := [_, _]) (rst := [_, _, _, _]) (.inl rfl) rfl rfl (Res.cellN 4 rfl rfl S29 (Res.cellN 3 rfl rfl S33 (Res.tmp rfl rfl))) (picks 0 rfl (picks 0 rfl picks0)) ?_
    obtain rfl := Option.some.inj hx
    exact ⟨none, 0, 0, none, 0, 0, [], none, 0, 0, [], rfl, rfl, (IsSlice.nil _ _ _), (RowOf.nil _ _ _ _ _), (fun p hp => by cases hp), (RowOf.nil _ _ _ _ _), (fun p hp => by cases hp), trivial⟩
  · replace hx := cond_f c_19 hx
    refine JC.skip ?_
    refine JN.next ?_
    refine JC.seq ?_
    refine JC.seq ?_
    refine JC.region ?_
    refine JL.val rfl rfl (R.fa F29_3 rfl) ?_
    refine JL.val rfl rfl (R.ldo 3 S27 rfl rfl rfl) ?_
    refine JL.val rfl rfl (R.eql32 (a := p_1.Count) (b := (65535 : UInt32)) rfl rfl) ?_
    refine JL.nil ?_
    refine JN.next ?_
    refine JC.condB rfl (fun c_20 => ?_) (fun c_20 => ?_)
    · replace hx := cond_t c_20 hx
      refine JC.seq ?_
      refine JC.region ?_
      refine JL.val rfl rfl (R.assign rfl) ?_
      refine JL.nil ?_
      refine JN.next ?_
      refine JC.ret ?_
      refine JN.passR ?_
      refine JN.seg0 ?_
      refine JN.seg0 ?_
      refine JN.outP (vs := [.agg #[.slice none 0 0, .slice none 0 0, .slice none 0 0, .int .u32 ((0 : UInt32).toNat : Int), .int .u32 ((0 : UInt32).toNat : Int)], .agg #[.int .i64 0, .int .u32 ((0 : UInt32).toNat : Int), .int .u32 ((0 : UInt32).toNat : Int), .int .u32 ((0 : UInt32).toNat : Int), .int .u32 ((0 : UInt32).toNat : Int)], .int .i64 132]) (K := [_, _]) (rst := [_, _, _, _]) (.inl rfl) rfl rfl (Res.cellN 4 rfl rfl S29 (Res.cellN 3 rfl rfl S33 (Res.tmp rfl rfl))) (picks 0 rfl (picks 0 rfl picks0)) ?_
      obtain rfl := Option.some.inj hx
      exact ⟨none, 0, 0, none, 0, 0, [], none, 0, 0, [], rfl, rfl, (IsSlice.nil _ _ _), (RowOf.nil _ _ _ _ _), (fun p hp => by cases hp), (RowOf.nil _ _ _ _ _), (fun p hp => by cases hp), trivial⟩
    · replace hx := cond_f c_20 hx
      refine JC.skip ?_
      refine JN.next ?_
      refine JC.seq ?_
      refine JC.region ?_
      refine JL.val rfl rfl (R.fa F29_3 rfl) ?_
      refine JL.val rfl rfl (R.ldo 3 S27 rfl rfl rfl) ?_
      refine JL.val rfl rfl (R.add32 (a := p_1.Count) (b := (1 : UInt32)) rfl rfl) ?_
      refine JL.val rfl rfl (R.fa F29_3 rfl) ?_
      refine JL.store 3 S27 rfl rfl rfl rfl rfl (Nat.le_of_ble_eq_true rfl) ?_
      refine JL.nil ?_
      refine JN.next ?_
      refine JC.seq ?_
      refine JC.region ?_
      refine JL.val rfl rfl (R.fa F29_2 rfl) ?_
      refine JL.val rfl rfl (R.ldo 3 S27 rfl rfl rfl) ?_
      refine JL.val rfl rfl (R.shl32 (n := ((16 : UInt64).toNat : Int)) (a := p_1.Epoch) rfl rfl (by decide)) ?_
      refine JL.val rfl rfl (R.fa F29_3 rfl) ?_
      refine JL.val rfl rfl (R.ldo 3 S27 rfl rfl rfl) ?_
      refine JL.val rfl rfl (R.or32 (a := sl32 p_1.Epoch (((16 : UInt64).toNat : Int)).toNat) (b := p_1.Count + (1 : UInt32)) rfl rfl) ?_
      refine JL.val rfl rfl (R.assign rfl) ?_
      refine JL.nil ?_
      refine JN.next ?_
      refine JC.seq ?_
      refine JC.region ?_
      refine JL.val rfl rfl (R.move rfl) ?_
      refine JL.val rfl rfl (R.move rfl) ?_
      refine JL.val rfl rfl (R.move rfl) ?_
      obtain ⟨x_21, hr_22, hx⟩ := bnd_some hx
      refine JL.callC (vs := [_, _, _]) (args := [_, _, _]) (K := []) (rst := [_, _, _, _]) E29 rfl rfl rfl picks0 (seal_Seal_ok p_6 ((sl32 p_1.Epoch (((16 : UInt64).toNat : Int)).toNat) ||| (p_1.Count + (1 : UInt32))) p_8 _ ha_7 ha_9 _ hr_22) rfl (fun u_23 Ku_23 Hu_23 hRu_23 hleu_23 hfu_23 => ?_)
      obtain ⟨aor_24, nr_24, capr_24, Kr_24, rfl, rfl, hr_24, hnewr_24, -⟩ := hRu_23
      replace hr_24 := (RowOf.base (RowOf.const (H2 := New H Hu_23) RU8.const hr_24) (fun p hp => (hfu_23 p (mem_seg 0 rfl hp)).resolve_left (hnewr_24 p hp)))
      refine JL.val rfl rfl (R.move rfl) ?_
      refine JL.val rfl rfl (R.extract rfl rfl) ?_
      refine JL.val rfl rfl (R.extract rfl rfl) ?_
      refine JL.val rfl rfl (R.extract rfl rfl) ?_
      refine JL.val rfl rfl (R.assign rfl) ?_
      refine JL.val rfl rfl (R.assign rfl) ?_
      refine JL.val rfl rfl (R.assign rfl) ?_
      refine JL.nil ?_
      refine JN.next ?_
      refine JC.seq ?_
      refine JC.seq ?_
      refine JC.region ?_
      refine JL.val rfl rfl (R.move rfl) ?_
      refine JL.val rfl rfl (R.neq_i rfl rfl) ?_
      refine JL.nil ?_
      refine JN.next ?_
      refine JC.condB rfl (fun c_25 => ?_) (fun c_25 => ?_)
      · replace hx := cond_t c_25 hx
        refine JC.seq ?_
        refine JC.region ?_
        refine JL.val rfl rfl (R.bldP (vs := []) (cs := [.slice none 0 0, .slice none 0 0, .slice none 0 0, .int .u32 ((0 : UInt32).toNat : Int), .int .u32 ((0 : UInt32).toNat : Int)]) Z29 B29 rfl rfl rfl) ?_
        refine JL.val rfl rfl (R.bldP (vs := []) (cs := [.int .i64 0, .int .u32 ((0 : UInt32).toNat : Int), .int .u32 ((0 : UInt32).toNat : Int), .int .u32 ((0 : UInt32).toNat : Int), .int .u32 ((0 : UInt32).toNat : Int)]) Z33 B33 rfl rfl rfl) ?_
        refine JL.val rfl rfl (R.move rfl) ?_
        refine JL.store 3 S29 rfl rfl rfl rfl rfl (Nat.le_of_ble_eq_true rfl) ?_
        refine JL.store 2 S33 rfl rfl rfl rfl rfl (Nat.le_of_ble_eq_true rfl) ?_
        refine JL.val rfl rfl (R.assign rfl) ?_
        refine JL.nil ?_
        refine JN.next ?_
        refine JC.ret ?_
        refine JN.passR ?_
        refine JN.seg0 ?_
        refine JN.seg0 ?_
        refine JN.outP (vs := [.agg #[.slice none 0 0, .slice none 0 0, .slice none 0 0, .int .u32 ((0 : UInt32).toNat : Int), .int .u32 ((0 : UInt32).toNat : Int)], .agg #[.int .i64 0, .int .u32 ((0 : UInt32).toNat : Int), .int .u32 ((0 : UInt32).toNat : Int), .int .u32 ((0 : UInt32).toNat : Int), .int .u32 ((0 : UInt32).toNat : Int)], .int .i64 x_21.2.2]) (K := [_, _]) (rst := [_, _, _, _, _]) (.inl rfl) rfl rfl (Res.cellN 5 rfl rfl S29 (Res.cellN 4 rfl rfl S33 (Res.tmp rfl rfl))) (picks 0 rfl (picks 0 rfl picks0)) ?_
        obtain rfl := Option.some.inj hx
        exact ⟨none, 0, 0, none, 0, 0, [], none, 0, 0, [], rfl, rfl, (IsSlice.nil _ _ _), (RowOf.nil _ _ _ _ _), (fun p hp => by cases hp), (RowOf.nil _ _ _ _ _), (fun p hp => by cases hp), trivial⟩
      · replace hx := cond_f c_25 hx
        refine JC.skip ?_
        refine JN.next ?_
        refine JC.seq ?_
        refine JC.region ?_
        refine JL.val rfl rfl (R.ldoN 4 (vs := [.slice aoa_2 na_2 capa_2, .slice aoa_3 na_3 capa_3, .slice aoa_4 na_4 capa_4, .int .u32 (p_1.Epoch.toNat : Int), .int .u32 ((p_1.Count + (1 : UInt32)).toNat : Int)]) S29 rfl rfl rfl rfl) ?_
        refine JL.val rfl rfl (R.move rfl) ?_
        refine JL.val rfl rfl (R.move rfl) ?_
        refine JL.val rfl rfl (R.move rfl) ?_
        refine JL.val rfl rfl (R.bldP (vs := [(1, .int .u32 (p_5.toNat : Int)), (2, .int .u32 (((sl32 p_1.Epoch (((16 : UInt64).toNat : Int)).toNat) ||| (p_1.Count + (1 : UInt32))).toNat : Int)), (3, .int .u32 (x_21.2.1.toNat : Int))]) (cs := [.int .i64 0, .int .u32 (p_5.toNat : Int), .int .u32 (((sl32 p_1.Epoch (((16 : UInt64).toNat : Int)).toNat) ||| (p_1.Count + (1 : UInt32))).toNat : Int), .int .u32 (x_21.2.1.toNat : Int), .int .u32 ((0 : UInt32).toNat : Int)]) Z33 B33 rfl rfl rfl) ?_
        refine JL.val rfl rfl (R.move rfl) ?_
        refine JL.pubN 0 RU8.mono rfl hr_24 (Nat.le_refl _) (fun H_26 hleH_26 hsH_26 => ?_)
        refine JL.forget 0 ?_
        obtain ⟨x_27, hr_28, hx⟩ := bnd_some hx
        refine JL.callC (vs := [_, _, _]) (args := [_, _, _]) (K := []) (rst := [_, _, _, _]) E30 rfl rfl rfl picks0 (store_put_ok (Store.mk (Disk.mk p_1.Disk.Blocks p_1.Disk.Waits) p_1.Space p_1.Epoch (p_1.Count + (1 : UInt32))) (Ptr.mk 0 p_5 ((sl32 p_1.Epoch (((16 : UInt64).toNat : Int)).toNat) ||| (p_1.Count + (1 : UInt32))) x_21.2.1 (0 : UInt32)) x_21.1 _ (ha_2.mono (RSl.mono RU8.mono) (hleu_23.trans hleH_26)) (ha_3.mono R_Write.mono (hleu_23.trans hleH_26)) (ha_4.mono RU8.mono (hleu_23.trans hleH_26)) (hsH_26.old RU8.mono) _ hr_28) rfl (fun u_29 Ku_29 Hu_29 hRu_29 hleu_29 hfu_29 => ?_)
        obtain ⟨aoz_30, nz_30, capz_30, aor_31, nr_31, capr_31, Kr_31, aor_32, nr_32, capr_32, Kr_32, rfl, rfl, hz_30, hr_31, hnewr_31, hr_32, hnewr_32, -⟩ := hRu_29
        replace hr_31 := (RowOf.base (RowOf.mono R_Write.mono (New.call (hleu_23.trans hleH_26)) hr_31) (fun p hp => (hfu_29 p (mem_seg 0 rfl hp)).resolve_left (hnewr_31 p hp)))
        replace hr_32 := (RowOf.base (RowOf.const (H2 := New H Hu_29) RU8.const hr_32) (fun p hp => (hfu_29 p (mem_seg 1 rfl hp)).resolve_left (hnewr_32 p hp)))
        replace hz_30 := IsSlice.mono (RSl.mono RU8.mono) (New.call (hleu_23.trans hleH_26)) hz_30
        refine JL.val rfl rfl (R.extract rfl rfl) ?_
        refine JL.val rfl rfl (R.extract rfl rfl) ?_
        refine JL.val rfl rfl (R.extract rfl rfl) ?_
        refine JL.store 4 S29 rfl rfl rfl rfl rfl (Nat.le_of_ble_eq_true rfl) ?_
        refine JL.store 3 S33 rfl rfl rfl rfl rfl (Nat.le_of_ble_eq_true rfl) ?_
        refine JL.val rfl rfl (R.assign rfl) ?_
        refine JL.nil ?_
        refine JN.next ?_
        refine JC.ret ?_
        refine JN.outP (vs := [.agg #[.slice aoz_30 nz_30 capz_30, .slice aor_31 nr_31 capr_31, .slice aor_32 nr_32 capr_32, .int .u32 (x_27.1.Epoch.toNat : Int), .int .u32 (x_27.1.Count.toNat : Int)], .agg #[.int .i64 x_27.2.1.At, .int .u32 (x_27.2.1.Birth.toNat : Int), .int .u32 (x_27.2.1.Iv.toNat : Int), .int .u32 (x_27.2.1.Tag.toNat : Int), .int .u32 (x_27.2.1.Sum.toNat : Int)], .int .i64 x_27.2.2]) (K := [_, _]) (rst := [_, _, _, _]) (.inl rfl) rfl rfl (Res.cellN 4 rfl rfl S29 (Res.cellN 3 rfl rfl S33 (Res.tmp rfl rfl))) (picks 0 rfl (picks 0 rfl picks0)) ?_
        obtain rfl := Option.some.inj hx
        exact ⟨aoz_30, nz_30, capz_30, aor_31, nr_31, capr_31, Kr_31, aor_32, nr_32, capr_32, Kr_32, rfl, rfl, hz_30, (RowOf.weak (Nat.zero_le _) hr_31), (new_ids hr_31 hlt), (RowOf.weak (Nat.zero_le _) hr_32), (new_ids hr_32 hlt), trivial⟩

set_option maxHeartbeats 8000000 in
theorem ptr_Check_ok (p_1 : Ptr) (H : Heaplet) (r : Int) (hx : ptr_Check p_1 = some r) :
    Does Try.prog 38 #[.agg #[.int .i64 p_1.At, .int .u32 (p_1.Birth.toNat : Int), .int .u32 (p_1.Iv.toNat : Int), .int .u32 (p_1.Tag.toNat : Int), .int .u32 (p_1.Sum.toNat : Int)]] [] H (fun u K' H' => u = .int .i64 r ∧ K' = [] ∧ H = H' ∧ True) := by
  refine Does.enterL (vs := [.agg #[.int .i64 p_1.At, .int .u32 (p_1.Birth.toNat : Int), .int .u32 (p_1.Iv.toNat : Int), .int .u32 (p_1.Tag.toNat : Int), .int .u32 (p_1.Sum.toNat : Int)]]) (l := [(0, .agg #[.int .i64 p_1.At, .int .u32 (p_1.Birth.toNat : Int), .int .u32 (p_1.Iv.toNat : Int), .int .u32 (p_1.Tag.toNat : Int), .int .u32 (p_1.Sum.toNat : Int)])]) Try.func38 rfl rfl ⟨rfl, trivial⟩ (fun w hlt => ?_)
  unfold ptr_Check at hx
  refine JC.seq ?_
  refine JC.region ?_
  refine JL.box rfl rfl (fun b_2 hb_2 => ?_)
  refine JL.val rfl rfl (R.assign rfl) ?_
  refine JL.nil ?_
  refine JN.next ?_
  refine JC.seq ?_
  refine JC.seq ?_
  refine JC.region ?_
  refine JL.val rfl rfl (R.ldoN 0 (vs := [.int .i64 p_1.At, .int .u32 (p_1.Birth.toNat : Int), .int .u32 (p_1.Iv.toNat : Int), .int .u32 (p_1.Tag.toNat : Int), .int .u32 (p_1.Sum.toNat : Int)]) S33 rfl rfl rfl rfl) ?_
  refine JL.val rfl rfl (R.bldP (vs := []) (cs := [.int .i64 0, .int .u32 ((0 : UInt32).toNat : Int), .int .u32 ((0 : UInt32).toNat : Int), .int .u32 ((0 : UInt32).toNat : Int), .int .u32 ((0 : UInt32).toNat : Int)]) Z33 B33 rfl rfl rfl) ?_
  refine JL.val rfl rfl (R.eqlAgg QU33 QP33 QG33 QF33 rfl rfl (EqF.i (by decide) S3 U3 rfl rfl (EqF.u32 (a := p_1.Birth) (b := (0 : UInt32)) (by decide) S27 U27 rfl rfl (EqF.u32 (a := p_1.Iv) (b := (0 : UInt32)) (by decide) S27 U27 rfl rfl (EqF.u32 (a := p_1.Tag) (b := (0 : UInt32)) (by decide) S27 U27 rfl rfl (EqF.u32 (a := p_1.Sum) (b := (0 : UInt32)) (by decide) S27 U27 rfl rfl EqF.nil)))))) ?_
  refine JL.nil ?_
  refine JN.next ?_
  refine JC.condB rfl (fun c_3 => ?_) (fun c_3 => ?_)
  · replace hx := cond_t c_3 hx
    refine JC.seq ?_
    refine JC.region ?_
    refine JL.val rfl rfl (R.assign rfl) ?_
    refine JL.nil ?_
    refine JN.next ?_
    refine JC.ret ?_
    refine JN.passR ?_
    refine JN.outP (vs := [.int .i64 0]) (K := []) (rst := [_]) (.inl rfl) rfl rfl (Res.tmp rfl rfl) picks0 ?_
    obtain rfl := Option.some.inj hx
    exact ⟨rfl, rfl, rfl, trivial⟩
  · replace hx := cond_f c_3 hx
    refine JC.skip ?_
    refine JN.next ?_
    refine JC.seq ?_
    refine JC.seq ?_
    refine JC.region ?_
    refine JL.val rfl rfl (R.fa F33_0 rfl) ?_
    refine JL.val rfl rfl (R.ldo 0 S3 rfl rfl rfl) ?_
    refine JL.val rfl rfl (R.lss_i rfl rfl) ?_
    refine JL.val rfl rfl (R.move rfl) ?_
    refine JL.gSplit (t := 9) rfl (fun c_4 => ?_) (fun c_4 => ?_)
    · replace hx := cond_t c_4 hx
      refine JL.gNo rfl rfl rfl rfl rfl ?_
      refine JL.gNo rfl rfl rfl rfl rfl ?_
      refine JL.gNo rfl rfl rfl rfl rfl ?_
      refine JL.val rfl rfl (R.pickT rfl rfl) ?_
      refine JL.val rfl rfl (R.move rfl) ?_
      refine JL.gNo rfl rfl rfl rfl rfl ?_
      refine JL.gNo rfl rfl rfl rfl rfl ?_
      refine JL.gNo rfl rfl rfl rfl rfl ?_
      refine JL.val rfl rfl (R.pickT rfl rfl) ?_
      refine JL.val rfl rfl (R.move rfl) ?_
      refine JL.gNo rfl rfl rfl rfl rfl ?_
      refine JL.gNo rfl rfl rfl rfl rfl ?_
      refine JL.gNo rfl rfl rfl rfl rfl ?_
      refine JL.val rfl rfl (R.pickT rfl rfl) ?_
      refine JL.nil ?_
      refine JN.next ?_
      refine JC.condT rfl ?_
      refine JC.seq ?_
      refine JC.region ?_
      refine JL.val rfl rfl (R.assign rfl) ?_
      refine JL.nil ?_
      refine JN.next ?_
      refine JC.ret ?_
      refine JN.passR ?_
      refine JN.outP (vs := [.int .i64 8]) (K := []) (rst := [_]) (.inl rfl) rfl rfl (Res.tmp rfl rfl) picks0 ?_
      obtain rfl := Option.some.inj hx
      exact ⟨rfl, rfl, rfl, trivial⟩
    · replace hx := cond_f c_4 hx
      refine JL.gYes rfl rfl rfl ?_
      refine JL.val rfl rfl (R.fa F33_0 rfl) ?_
      refine JL.gYes rfl rfl rfl ?_
      refine JL.val rfl rfl (R.ldo 0 S3 rfl rfl rfl) ?_
      refine JL.gYes rfl rfl rfl ?_
      refine JL.val rfl rfl (R.geq_i rfl rfl) ?_
      refine JL.val rfl rfl (R.pickF rfl rfl) ?_
      refine JL.val rfl rfl (R.move rfl) ?_
      refine JL.gSplit (t := 14) rfl (fun c_5 => ?_) (fun c_5 => ?_)
      · replace hx := cond_t c_5 hx
        refine JL.gNo rfl rfl rfl rfl rfl ?_
        refine JL.gNo rfl rfl rfl rfl rfl ?_
        refine JL.gNo rfl rfl rfl rfl rfl ?_
        refine JL.val rfl rfl (R.pickT rfl rfl) ?_
        refine JL.val rfl rfl (R.move rfl) ?_
        refine JL.gNo rfl rfl rfl rfl rfl ?_
        refine JL.gNo rfl rfl rfl rfl rfl ?_
        refine JL.gNo rfl rfl rfl rfl rfl ?_
        refine JL.val rfl rfl (R.pickT rfl rfl) ?_
        refine JL.nil ?_
        refine JN.next ?_
        refine JC.condT rfl ?_
        refine JC.seq ?_
        refine JC.region ?_
        refine JL.val rfl rfl (R.assign rfl) ?_
        refine JL.nil ?_
        refine JN.next ?_
        refine JC.ret ?_
        refine JN.passR ?_
        refine JN.outP (vs := [.int .i64 8]) (K := []) (rst := [_]) (.inl rfl) rfl rfl (Res.tmp rfl rfl) picks0 ?_
        obtain rfl := Option.some.inj hx
        exact ⟨rfl, rfl, rfl, trivial⟩
      · replace hx := cond_f c_5 hx
        refine JL.gYes rfl rfl rfl ?_
        refine JL.val rfl rfl (R.fa F33_1 rfl) ?_
        refine JL.gYes rfl rfl rfl ?_
        refine JL.val rfl rfl (R.ldo 0 S27 rfl rfl rfl) ?_
        refine JL.gYes rfl rfl rfl ?_
        refine JL.val rfl rfl (R.lss32 (a := p_1.Birth) (b := (1 : UInt32)) rfl rfl) ?_
        refine JL.val rfl rfl (R.pickF rfl rfl) ?_
        refine JL.val rfl rfl (R.move rfl) ?_
        refine JL.gSplit (t := 19) rfl (fun c_6 => ?_) (fun c_6 => ?_)
        · replace hx := cond_t c_6 hx
          refine JL.gNo rfl rfl rfl rfl rfl ?_
          refine JL.gNo rfl rfl rfl rfl rfl ?_
          refine JL.gNo rfl rfl rfl rfl rfl ?_
          refine JL.val rfl rfl (R.pickT rfl rfl) ?_
          refine JL.nil ?_
          refine JN.next ?_
          refine JC.condT rfl ?_
          refine JC.seq ?_
          refine JC.region ?_
          refine JL.val rfl rfl (R.assign rfl) ?_
          refine JL.nil ?_
          refine JN.next ?_
          refine JC.ret ?_
          refine JN.passR ?_
          refine JN.outP (vs := [.int .i64 8]) (K := []) (rst := [_]) (.inl rfl) rfl rfl (Res.tmp rfl rfl) picks0 ?_
          obtain rfl := Option.some.inj hx
          exact ⟨rfl, rfl, rfl, trivial⟩
        · replace hx := cond_f c_6 hx
          refine JL.gYes rfl rfl rfl ?_
          refine JL.val rfl rfl (R.fa F33_1 rfl) ?_
          refine JL.gYes rfl rfl rfl ?_
          refine JL.val rfl rfl (R.ldo 0 S27 rfl rfl rfl) ?_
          refine JL.gYes rfl rfl rfl ?_
          refine JL.val rfl rfl (R.gtr32 (a := p_1.Birth) (b := (16777215 : UInt32)) rfl rfl) ?_
          refine JL.val rfl rfl (R.pickF rfl rfl) ?_
          refine JL.nil ?_
          refine JN.next ?_
          refine JC.condB rfl (fun c_7 => ?_) (fun c_7 => ?_)
          · replace hx := cond_t c_7 hx
            refine JC.seq ?_
            refine JC.region ?_
            refine JL.val rfl rfl (R.assign rfl) ?_
            refine JL.nil ?_
            refine JN.next ?_
            refine JC.ret ?_
            refine JN.passR ?_
            refine JN.outP (vs := [.int .i64 8]) (K := []) (rst := [_]) (.inl rfl) rfl rfl (Res.tmp rfl rfl) picks0 ?_
            obtain rfl := Option.some.inj hx
            exact ⟨rfl, rfl, rfl, trivial⟩
          · replace hx := cond_f c_7 hx
            refine JC.skip ?_
            refine JN.next ?_
            refine JC.seq ?_
            refine JC.region ?_
            refine JL.val rfl rfl (R.assign rfl) ?_
            refine JL.nil ?_
            refine JN.next ?_
            refine JC.ret ?_
            refine JN.outP (vs := [.int .i64 0]) (K := []) (rst := [_]) (.inl rfl) rfl rfl (Res.tmp rfl rfl) picks0 ?_
            obtain rfl := Option.some.inj hx
            exact ⟨rfl, rfl, rfl, trivial⟩

theorem slices_Clone_byte_L_ok (p_1 : List (List UInt8)) (H : Heaplet) {ao : Option Addr} {n cap : Nat} (hs : IsSlice H (RSl RU8 1) 1 (.slice ao n cap) p_1) (r : List (List UInt8)) (hx : slices_Clone_byte_L p_1 = some r) :
    Does Try.prog 67 #[.slice ao n cap] [] H (fun u K' H' => ∃ ao0 : Option Addr, ∃ n0 : Nat, ∃ cap0 : Nat, ∃ K0 : Own, u = .slice ao0 n0 cap0 ∧ K' = [K0] ∧ H = H' ∧ RowOf H' (RSl RU8 1) 0 26 1 (.slice ao0 n0 cap0) r K0 ∧ (∀ p ∈ K0, p.1 ∉ ids (List.flatten [])) ∧ True) := by
  rw [slices_Clone_byte_L.eq_1] at hx
  obtain ⟨q, hq, hl, hx⟩ := app_some hx
  obtain rfl := Option.some.inj hx
  refine Does.enter (vs := [.slice ao n cap]) (l := [(0, .slice ao n cap)]) Try.func67 rfl rfl ⟨rfl, trivial⟩ (fun w => ?_)
  refine JC.seq ?_
  refine JC.region ?_
  refine JL.val rfl rfl (R.assign rfl) ?_
  refine JL.nil ?_
  refine JN.next ?_
  refine JC.seq ?_
  refine JC.seq ?_
  refine JC.region ?_
  refine JL.val rfl rfl (R.move rfl) ?_
  refine JL.val rfl rfl (R.eqlNil U22 rfl rfl) ?_
  refine JL.nil ?_
  refine JN.next ?_
  cases ao with
  | none =>
    have hp := hs.none_nil
    subst hp
    simp only [List.append_nil] at hq
    subst hq
    refine JC.condT rfl ?_
    refine JC.seq ?_
    refine JC.region ?_
    refine JL.val rfl rfl (R.assign rfl) ?_
    refine JL.nil ?_
    refine JN.next ?_
    refine JC.ret ?_
    refine JN.passR ?_
    refine JN.seg0 ?_
    refine JN.outP (vs := [.slice none 0 0]) (K := [_]) (rst := []) (.inl rfl) rfl rfl (Res.tmp rfl rfl) (picks 0 rfl picks0) ?_
    exact ⟨none, 0, 0, [], rfl, rfl, rfl, RowOf.nil _ _ _ _ _, (fun p hp => by cases hp), trivial⟩
  | some a =>
    refine JC.condF rfl ?_
    refine JC.skip ?_
    refine JN.next ?_
    refine JC.seq ?_
    refine JC.region ?_
    refine JL.bslF (HF := H) (R := (RSl RU8 1)) (ls := []) (vs := []) U22 I26 rfl rfl rfl RSl.one rfl rfl rfl (by simp [maxLen]) rfl (fun v1 K1 h1 => ?_)
    obtain ⟨ao1, cap1, rfl⟩ := RowOf.val h1
    refine JL.val rfl rfl (R.move rfl) ?_
    refine JL.appF (HF := H) 0 U22 I26 rfl rfl h1 rfl (SrcF.slice RSl.one U22 (Hle.refl _) hs) hq hl rfl (Nat.le_refl _) rfl (fun v2 K2 h2 => ?_)
    obtain ⟨ao2, cap2, rfl⟩ := RowOf.val h2
    refine JL.val rfl rfl (R.assign rfl) ?_
    refine JL.nil ?_
    refine JN.next ?_
    refine JC.ret ?_
    refine JN.outP (vs := [.slice ao2 _ cap2]) (K := [_]) (rst := []) (.inl rfl) rfl rfl (Res.tmp rfl rfl) (picks 0 rfl picks0) ?_
    exact ⟨_, _, _, _, rfl, rfl, rfl, RowOf.weak (Nat.zero_le _) h2, (fun p hp hm => by cases hm), trivial⟩

set_option maxHeartbeats 8000000 in
theorem dev_all_ok (p_1 : Int) (H : Heaplet) (r : Bool) (hx : dev_all p_1 = some r) :
    Does Try.prog 43 #[.int .i64 p_1] [] H (fun u K' H' => u = .bool r ∧ K' = [] ∧ H = H' ∧ True) := by
  refine Does.enterL (vs := [.int .i64 p_1]) (l := [(0, .int .i64 p_1)]) Try.func43 rfl rfl ⟨rfl, trivial⟩ (fun w hlt => ?_)
  unfold dev_all at hx
  refine JC.seq ?_
  refine JC.region ?_
  refine JL.val rfl rfl (R.assign rfl) ?_
  refine JL.nil ?_
  refine JN.next ?_
  refine JC.seq ?_
  refine JC.region ?_
  refine JL.val rfl rfl (R.assign rfl) ?_
  refine JL.nil ?_
  refine JN.next ?_
  refine JC.ret ?_
  refine JN.outP (vs := [.bool true]) (K := []) (rst := []) (.inl rfl) rfl rfl (Res.tmp rfl rfl) picks0 ?_
  obtain rfl := Option.some.inj hx
  exact ⟨rfl, rfl, rfl, trivial⟩

set_option maxHeartbeats 8000000 in
theorem dev_lasts_ok (p_1 : Disk) (H : Heaplet) {va_2 : Value} {aoa_3 : Option Addr} {na_3 : Nat} {capa_3 : Nat} (ha_3 : IsSlice H R_Write 2 (.slice aoa_3 na_3 capa_3) p_1.Waits) (r : (List (Int × Write))) (hx : dev_lasts p_1 = some r) :
    Does Try.prog 68 #[.agg #[va_2, .slice aoa_3 na_3 capa_3], .func (.func 43) #[] #[]] [] H (fun u K' H' => ∃ ao0 : Option Addr, ∃ n0 : Nat, ∃ cap0 : Nat, ∃ K0 : Own, u = .map (some n0) ∧ K' = [K0] ∧ H = H' ∧ MapOf H R_Write 0 n0 r K0 ∧ (∀ p ∈ K0, p.1 ∉ ids (List.flatten [])) ∧ True) := by
  refine Does.enterL (vs := [.agg #[va_2, .slice aoa_3 na_3 capa_3], .func (.func 43) #[] #[]]) (l := [(0, .agg #[va_2, .slice aoa_3 na_3 capa_3]), (1, .func (.func 43) #[] #[])]) Try.func68 rfl rfl ⟨rfl, rfl, trivial⟩ (fun w hlt => ?_)
  unfold dev_lasts at hx
  refine JC.seq ?_
  refine JC.region ?_
  refine JL.box rfl rfl (fun b_4 hb_4 => ?_)
  refine JL.val rfl rfl (R.assign rfl) ?_
  refine JL.nil ?_
  refine JN.next ?_
  refine JC.seq ?_
  refine JC.region ?_
  refine JL.mkMapF (New H H) R_Write rfl (fun nr_5 Kr_5 hr_5 => ?_)
  refine JL.val rfl rfl (R.assign rfl) ?_
  refine JL.nil ?_
  refine JN.next ?_
  refine JC.seq ?_
  refine JC.seq ?_
  refine JC.region ?_
  refine JL.val rfl rfl (R.fa F25_1 rfl) ?_
  refine JL.val rfl rfl (R.ldo 1 S23 rfl rfl rfl) ?_
  refine JL.val rfl rfl (R.lenL U23 rfl (IsSlice.long ha_3)) ?_
  refine JL.val rfl rfl (R.move rfl) ?_
  refine JL.nil ?_
  refine JN.next ?_
  obtain ⟨t_6, ht_8, hx⟩ := bnd_some hx
  refine JC.cut (fun l o g => ∃ Kr_13 : Own, l = [(5, .map (some nr_5))] ∧ o = [Kr_13] ∧ H = g ∧ MapOf H R_Write w.heap.size nr_5 t_6 Kr_13) ?_ ?_
  · rintro _ _ _ ⟨Kr_13, rfl, rfl, rfl, hr_13⟩
    refine JN.next ?_
    refine JC.seq ?_
    refine JC.region ?_
    refine JL.val rfl rfl (R.move rfl) ?_
    refine JL.val rfl rfl (R.assign rfl) ?_
    refine JL.nil ?_
    refine JN.next ?_
    refine JC.ret ?_
    refine JN.outP (vs := [.map (some nr_5)]) (K := [_]) (rst := []) (.inl rfl) rfl rfl (Res.tmp rfl rfl) (picks 0 rfl picks0) ?_
    obtain rfl := Option.some.inj hx
    exact ⟨none, nr_5, 0, Kr_13, rfl, rfl, rfl, (MapOf.weak (Nat.zero_le _) hr_13), (newM_ids hr_13 hlt), trivial⟩
  · have hxo_7 := hx; clear hx; have hx := ht_8; clear ht_8
    refine JC.block ?_
    refine JC.forget 1 ?_
    refine JC.loopI (fun n l o g => ∃ s_9 : (List (Int × Write)) × Nat, ∃ Kr_12 : Own, l = [(1, .func (.func 43) #[] #[]), (5, .map (some nr_5)), (10, .slice aoa_3 na_3 capa_3), (11, .int .i64 (p_1.Waits.length : Int)), (12, .int .i64 ((s_9.2 : Nat) : Int))] ∧ o = [Kr_12] ∧ H = g ∧ run (dev_lasts_l1 p_1) n s_9 = some t_6 ∧ MapOf H R_Write w.heap.size nr_5 s_9.1 Kr_12) FUEL ?_ ⟨(([] : List (Int × Write)), 0), Kr_5, rfl, rfl, rfl, hx, (hr_5.old R_Write.mono)⟩ ⟨rfl, rfl, rfl, rfl, rfl, trivial⟩ ?_
    · rintro _ _ _ ⟨s_9, Kr_12, rfl, rfl, rfl, hn_10, hr_12⟩
      exact run_zero hn_10
    · rintro n_11 _ _ _ ⟨s_9, Kr_12, rfl, rfl, rfl, hn_10, hr_12⟩
      clear hx; obtain ⟨oo_14, hx, hd_13⟩ := run_some hn_10
      unfold dev_lasts_l1 at hx
      refine JC.seq ?_
      refine JC.region ?_
      refine JL.val rfl rfl (R.lss_i rfl rfl) ?_
      refine JL.nil ?_
      refine JN.next ?_
      refine JC.seq ?_
      refine JC.condB rfl (fun c_13 => ?_) (fun c_13 => ?_)
      · replace hx := cond_t c_13 hx
        refine JC.skip ?_
        refine JN.next ?_
        refine JC.seq ?_
        refine JC.block ?_
        refine JC.seq ?_
        refine JC.region ?_
        refine JL.val rfl rfl (R.move rfl) ?_
        obtain ⟨y_14, hN_15, hx⟩ := idx_some hx
        obtain ⟨b_16, o_17, cs_18, hE_19, hR_20, hl_21, hc_22⟩ := IsSlice.elem ha_3 hN_15
        obtain ⟨v_23, rfl, hs_24⟩ := hR_20
        obtain ⟨aov_23, capv_23, rfl⟩ := IsSlice.val hs_24
        refine JL.val rfl rfl (R.ix U23 S72 rfl rfl hE_19) ?_
        refine JL.val rfl rfl (R.ldHE (cs := [.int .i64 y_14.At, .slice aov_23 y_14.Data.length capv_23]) (k := 0) (vs := [.int .i64 y_14.At, .slice aov_23 y_14.Data.length capv_23]) S72 rfl hc_22 rfl rfl) ?_
        refine JL.alloc Z72 rfl (fun b_25 hb_25 => ?_)
        refine JL.val rfl rfl (R.assign rfl) ?_
        refine JL.store 0 S72 rfl rfl rfl rfl rfl (Nat.le_of_ble_eq_true rfl) ?_
        refine JL.nil ?_
        refine JN.next ?_
        refine JC.seq ?_
        refine JC.region ?_
        refine JL.val rfl rfl (R.move rfl) ?_
        refine JL.val rfl rfl (R.move rfl) ?_
        obtain ⟨x_26, hr_27, hx⟩ := bnd_some hx
        refine JL.callC (vs := [_]) (args := [_]) (K := []) (rst := [_, _]) E43 rfl rfl rfl picks0 (dev_all_ok ((s_9.2 : Nat) : Int) _ _ hr_27) rfl (fun u_28 Ku_28 Hu_28 hRu_28 hleu_28 hfu_28 => ?_)
        obtain ⟨rfl, rfl, rfl, -⟩ := hRu_28
        refine JL.nil ?_
        refine JN.next ?_
        refine JC.condB rfl (fun c_29 => ?_) (fun c_29 => ?_)
        · replace hx := cond_t c_29 hx
          refine JC.region ?_
          refine JL.val rfl rfl (R.move rfl) ?_
          refine JL.val rfl rfl (R.fa F72_0 rfl) ?_
          refine JL.val rfl rfl (R.ldo 0 S3 rfl rfl rfl) ?_
          refine JL.val rfl rfl (R.ldoN 0 (vs := [.int .i64 y_14.At, .slice aov_23 y_14.Data.length capv_23]) S72 rfl rfl rfl rfl) ?_
          refine JL.mapUpdF 1 (cs := [.int .i64 y_14.At, .slice aov_23 y_14.Data.length capv_23]) U105 U3 rfl rfl rfl rfl hr_12 ⟨_, rfl, hs_24⟩ (fun Kr_30 hr_30 => ?_)
          refine JL.nil ?_
          refine JN.blkN ?_
          refine JN.next ?_
          refine JC.region ?_
          refine JL.val rfl rfl (R.inc rfl rfl (of_decide_eq_true c_13) (IsSlice.lenI ha_3)) ?_
          refine JL.val rfl rfl (R.move rfl) ?_
          refine JL.nil ?_
          replace hx := run_next hd_13 hx
          refine JN.forget 0 ?_
          exact JN.cut ⟨((putM s_9.1 y_14.At y_14), s_9.2 + 1), Kr_30, rfl, rfl, rfl, hx, hr_30⟩ ⟨rfl, rfl, rfl, rfl, rfl, trivial⟩ rfl rfl
        · replace hx := cond_f c_29 hx
          refine JC.skip ?_
          refine JN.blkN ?_
          refine JN.next ?_
          refine JC.region ?_
          refine JL.val rfl rfl (R.inc rfl rfl (of_decide_eq_true c_13) (IsSlice.lenI ha_3)) ?_
          refine JL.val rfl rfl (R.move rfl) ?_
          refine JL.nil ?_
          replace hx := run_next hd_13 hx
          refine JN.forget 0 ?_
          exact JN.cut ⟨(s_9.1, s_9.2 + 1), Kr_12, rfl, rfl, rfl, hx, hr_12⟩ ⟨rfl, rfl, rfl, rfl, rfl, trivial⟩ rfl rfl
      · replace hx := cond_f c_13 hx
        refine JC.exit ?_
        refine JN.passX ?_
        obtain rfl := run_done hd_13 hx
        refine JN.passX ?_
        refine JN.exitSame ?_
        exact JN.cut ⟨Kr_12, rfl, rfl, rfl, hr_12⟩ ⟨rfl, trivial⟩ rfl rfl

set_option maxHeartbeats 8000000 in
theorem dev_left_ok (p_1 : Disk) (H : Heaplet) {aoa_2 : Option Addr} {na_2 : Nat} {capa_2 : Nat} {aoa_3 : Option Addr} {na_3 : Nat} {capa_3 : Nat} (ha_2 : IsSlice H (RSl RU8 1) 1 (.slice aoa_2 na_2 capa_2) p_1.Blocks) (ha_3 : IsSlice H R_Write 2 (.slice aoa_3 na_3 capa_3) p_1.Waits) (r : Disk) (hx : dev_left p_1 = some r) :
    Does Try.prog 42 #[.agg #[.slice aoa_2 na_2 capa_2, .slice aoa_3 na_3 capa_3], .func (.func 43) #[] #[]] [] H (fun u K' H' => ∃ ao0 : Option Addr, ∃ n0 : Nat, ∃ cap0 : Nat, ∃ K0 : Own, ∃ ao1 : Option Addr, ∃ n1 : Nat, ∃ cap1 : Nat, ∃ K1 : Own, u = .agg #[.slice ao0 n0 cap0, .slice ao1 n1 cap1] ∧ K' = [K0, K1] ∧ Pcs 0 5 26 (.slice ao0 n0 cap0) r.Blocks K0 ∧ (∀ p ∈ K0, p.1 ∉ ids (List.flatten [])) ∧ RowOf (New H H') R_Write 0 72 2 (.slice ao1 n1 cap1) r.Waits K1 ∧ (∀ p ∈ K1, p.1 ∉ ids (List.flatten [])) ∧ True) := by
  refine Does.enterL (vs := [.agg #[.slice aoa_2 na_2 capa_2, .slice aoa_3 na_3 capa_3], .func (.func 43) #[] #[]]) (l := [(0, .agg #[.slice aoa_2 na_2 capa_2, .slice aoa_3 na_3 capa_3]), (1, .func (.func 43) #[] #[])]) Try.func42 rfl rfl ⟨rfl, rfl, trivial⟩ (fun w hlt => ?_)
  unfold dev_left at hx
  refine JC.seq ?_
  refine JC.region ?_
  refine JL.box rfl rfl (fun b_4 hb_4 => ?_)
  refine JL.alloc Z25 rfl (fun b_5 hb_5 => ?_)
  refine JL.nil ?_
  refine JN.next ?_
  refine JC.seq ?_
  obtain ⟨t_6, ht_8, hx⟩ := bnd_some hx
  refine JC.cut (fun l o g => ∃ aor_21 : Option Addr, ∃ nr_21 : Nat, ∃ capr_21 : Nat, ∃ Kr_21 : Own, l = [(1, .func (.func 43) #[] #[]), (2, .pointer (some ⟨b_4, 0, none⟩)), (4, .pointer (some ⟨b_5, 0, none⟩))] ∧ o = [[(b_4, .cells #[.slice aor_21 nr_21 capr_21, .slice aoa_3 na_3 capa_3] 25 (0, 0))], Kr_21, [(b_5, .cells #[.slice none 0 0, .slice none 0 0] 25 (0, 0))]] ∧ H = g ∧ RowOf H (RSl RU8 1) w.heap.size 26 1 (.slice aor_21 nr_21 capr_21) t_6 Kr_21) ?_ ?_
  · rintro _ _ _ ⟨aor_21, nr_21, capr_21, Kr_21, rfl, rfl, rfl, hr_21⟩
    refine JN.next ?_
    refine JC.seq ?_
    refine JC.seq ?_
    refine JC.region ?_
    refine JL.val rfl rfl (R.ldoN 0 (vs := [.slice aor_21 nr_21 capr_21, .slice aoa_3 na_3 capa_3]) S25 rfl rfl rfl rfl) ?_
    refine JL.val rfl rfl (R.move rfl) ?_
    obtain ⟨x_22, hr_23, hx⟩ := bnd_some hx
    refine JL.callC (vs := [_, _]) (args := [_, _]) (K := []) (rst := [_, _, _]) E68 rfl rfl rfl picks0 (dev_lasts_ok (Disk.mk t_6 p_1.Waits) _ ha_3 _ hr_23) rfl (fun u_24 Ku_24 Hu_24 hRu_24 hleu_24 hfu_24 => ?_)
    obtain ⟨aor_25, nr_25, capr_25, Kr_25, rfl, rfl, rfl, hr_25, hnewr_25, -⟩ := hRu_24
    replace hr_25 := (MapOf.base hr_25 (fun p hp => (hfu_24 p (mem_seg 0 rfl hp)).resolve_left (hnewr_25 p hp)))
    refine JL.rangeMapF 0 U105 rfl rfl hr_25 rfl (fun b_26 es_27 hK_28 hM_29 => ?_)
    subst hK_28
    refine JL.nil ?_
    refine JN.next ?_
    obtain ⟨m_30, hm_31, hin_32, hx⟩ := layR_some hx
    refine JC.block ?_
    refine JC.loop (ι := Array Nat × (List (List UInt8)) × Own) (fun _ => [(2, .pointer (some ⟨b_4, 0, none⟩)), (4, .pointer (some ⟨b_5, 0, none⟩)), (16, .pointer (some ⟨b_26, 0, none⟩))]) (fun i => [[(b_26, .mapIter (some nr_25) (x_22).length i.1 (x_22).length)], [(nr_25, .map es_27 (x_22).length)], [(b_4, .cells #[.slice aor_21 nr_21 capr_21, .slice aoa_3 na_3 capa_3] 25 (0, 0))], i.2.2, [(b_5, .cells #[.slice none 0 0, .slice none 0 0] 25 (0, 0))]]) (fun _ => H) (fun i => i.1.toList.Nodup ∧ (∀ q ∈ i.1.toList, q < (x_22).length) ∧ Laid (fun y : Write => y.Data) t_6 x_22 i.1.toList i.2.1 ∧ RowOf H (RSl RU8 1) w.heap.size 26 1 (.slice aor_21 nr_21 capr_21) i.2.1 i.2.2) (fun i => (x_22).length - i.1.size) (#[], t_6, Kr_21) ⟨by simp, by simp, Laid.start _ _ _, hr_21⟩ ⟨rfl, rfl, rfl, trivial⟩ rfl rfl ?_
    rintro ⟨seen_33, B_34, K_35⟩ ⟨hn_36, hlt_37, hL_38, hr_39⟩
    dsimp only at hn_36 hlt_37 hL_38 hr_39 ⊢
    refine JC.seq ?_
    refine JC.region ?_
    refine JL.nextMap 0 1 rfl rfl rfl hM_29 (Nat.le_refl _) rfl (fun he_40 => ?_) (fun n_41 k_42 y_43 cs_44 hMn_45 hen_46 hns_47 hRy_48 => ?_)
    · refine JL.val rfl rfl (R.extract rfl rfl) ?_
      refine JL.nil ?_
      refine JN.next ?_
      refine JC.seq ?_
      refine JC.condF rfl ?_
      refine JC.exit ?_
      refine JN.passX ?_
      refine JN.passX ?_
      refine JN.exitSame ?_
      obtain rfl := hm_31.trans (hL_38.full hM_29.nodup hin_32 he_40).symm
      refine JN.forget 1 ?_
      refine JN.forget 0 ?_
      refine JN.next ?_
      refine JC.seq ?_
      refine JC.region ?_
      refine JL.val rfl rfl (R.fa F25_1 rfl) ?_
      refine JL.store 0 S23 rfl rfl rfl rfl rfl (Nat.le_of_ble_eq_true rfl) ?_
      refine JL.nil ?_
      refine JN.next ?_
      refine JC.seq ?_
      refine JC.region ?_
      refine JL.val rfl rfl (R.ldoN 0 (vs := [.slice aor_21 nr_21 capr_21, .slice none 0 0]) S25 rfl rfl rfl rfl) ?_
      refine JL.pub 1 (RSl.mono RU8.mono) rfl hr_39 (Nat.le_refl _) (fun H_49 hleH_49 hsH_49 => ?_)
      refine JL.forget 1 ?_
      obtain ⟨x_50, hr_51, hx⟩ := bnd_some hx
      refine JL.callC (vs := [_]) (args := [_]) (K := []) (rst := [_, _]) E46 rfl rfl rfl picks0 (dev_Twin_ok (Disk.mk m_30 ([] : List Write)) _ hsH_49 (IsSlice.nil _ _ _) _ hr_51) rfl (fun u_52 Ku_52 Hu_52 hRu_52 hleu_52 hfu_52 => ?_)
      obtain ⟨aor_53, nr_53, capr_53, Kr_53, aor_54, nr_54, capr_54, Kr_54, rfl, rfl, hr_53, hnewr_53, hr_54, hnewr_54, -⟩ := hRu_52
      replace hr_53 := (Pcs.base hr_53 (fun p hp => (hfu_52 p (mem_seg 0 rfl hp)).resolve_left (hnewr_53 p hp)))
      replace hr_54 := (RowOf.base (RowOf.mono R_Write.mono (New.call hleH_49) hr_54) (fun p hp => (hfu_52 p (mem_seg 1 rfl hp)).resolve_left (hnewr_54 p hp)))
      refine JL.store 3 S25 rfl rfl rfl rfl rfl (Nat.le_of_ble_eq_true rfl) ?_
      refine JL.nil ?_
      refine JN.next ?_
      refine JC.ret ?_
      refine JN.outP (vs := [.agg #[.slice aor_53 nr_53 capr_53, .slice aor_54 nr_54 capr_54]]) (K := [_, _]) (rst := [_, _]) (.inl rfl) rfl rfl (Res.cellN 3 rfl rfl S25 rfl) (picks 0 rfl (picks 0 rfl picks0)) ?_
      obtain rfl := Option.some.inj hx
      exact ⟨aor_53, nr_53, capr_53, Kr_53, aor_54, nr_54, capr_54, Kr_54, rfl, rfl, (Pcs.weak (Nat.zero_le _) hr_53), (newP_ids hr_53 hlt), (RowOf.weak (Nat.zero_le _) hr_54), (new_ids hr_54 hlt), trivial⟩
    · have hs_49 := seen_more hn_36 hlt_37 (List.getElem?_eq_some_iff.1 hMn_45).1 hns_47
      refine JL.val rfl rfl (R.extract rfl rfl) ?_
      refine JL.nil ?_
      refine JN.next ?_
      refine JC.seq ?_
      refine JC.condT rfl ?_
      refine JC.skip ?_
      refine JN.next ?_
      refine JC.block ?_
      refine JC.seq ?_
      refine JC.region ?_
      obtain ⟨v_50, rfl, hs_51⟩ := hRy_48
      obtain ⟨aov_50, capv_50, rfl⟩ := IsSlice.val hs_51
      refine JL.entryMap 0 1 rfl rfl rfl hM_29 hen_46 rfl ?_
      have hp_53 := hin_32 _ (List.mem_of_getElem? hMn_45)
      rw [← hL_38.len] at hp_53
      clear hx
      have hx : (chk (0 ≤ k_42 ∧ k_42.toNat < B_34.length) <| setI B_34 k_42 y_43.Data fun m_60 =>  some m_60) = some (B_34.set k_42.toNat y_43.Data) := lay_step hp_53
      refine JL.val rfl rfl (R.extract rfl rfl) ?_
      refine JL.val rfl rfl (R.extract rfl rfl) ?_
      refine JL.alloc Z72 rfl (fun b_55 hb_55 => ?_)
      refine JL.val rfl rfl (R.assign rfl) ?_
      refine JL.store 0 S72 rfl rfl rfl rfl rfl (Nat.le_of_ble_eq_true rfl) ?_
      refine JL.nil ?_
      refine JN.next ?_
      refine JC.region ?_
      refine JL.val rfl rfl (R.fa F25_0 rfl) ?_
      refine JL.val rfl rfl (R.ldo 3 S22 rfl rfl rfl) ?_
      refine JL.val rfl rfl (R.move rfl) ?_
      refine JL.val rfl rfl (R.fa F72_1 rfl) ?_
      refine JL.val rfl rfl (R.ldo 0 S26 rfl rfl rfl) ?_
      obtain ⟨hp_56, hx⟩ := chk_some hx
      obtain ⟨b_57, o_58, hE_59⟩ := RowOf.place hr_39 hp_56
      refine JL.val rfl rfl (R.ix U22 S26 rfl rfl hE_59) ?_
      obtain ⟨m_60, hm_61, hi_62, hx⟩ := setI_some hx
      refine JL.stE 4 (k := k_42) (y := y_43.Data) S26 rfl hr_39 rfl hE_59 rfl rfl (⟨_, rfl, hs_51⟩) RSl.one hm_61 (fun Kr_63 hr_63 hlr_63 => ?_)
      refine JL.nil ?_
      refine JN.blkN ?_
      obtain rfl := Option.some.inj hx
      refine JN.forget 0 ?_
      refine JN.front 4 rfl ?_
      refine JN.front 4 rfl ?_
      refine JN.front 4 rfl ?_
      refine JN.front 4 rfl ?_
      refine JN.front 4 rfl ?_
      exact JN.again (i := (seen_33, B_34, K_35)) (seen_33.push n_41, B_34.set k_42.toNat y_43.Data, Kr_63) ⟨by simp only [Array.toList_push]; exact List.nodup_append.2 ⟨hn_36, by simp, fun a ha b hb e => by simp at hb; subst hb; subst e; exact hns_47 ha⟩, by simp only [Array.toList_push]; intro q hq; rcases List.mem_append.1 hq with h | h; exact hlt_37 q h; simp at h; subst h; exact (List.getElem?_eq_some_iff.1 hMn_45).1, hL_38.step (f := (fun y : Write => y.Data)) hM_29.nodup hin_32 hMn_45 _ (fun q => by simp), hr_63⟩ (by simp only [Array.size_push]; simp only [Array.length_toList] at hs_49; omega) ⟨rfl, rfl, rfl, trivial⟩ rfl rfl
  · have hxo_7 := hx; clear hx; have hx := ht_8; clear ht_8
    refine JC.draw (so := [_]) 7 rfl Mixed ⟨⟨0, rfl⟩, trivial⟩ ?_
    refine JA.val ⟨by kernel_rfl, by kernel_rfl⟩ (calm_only _) (i := 0) rfl ⟨by kernel_rfl, by kernel_rfl, rfl⟩ trivial (stab_of (Hle.refl _) ⟨⟨0, rfl⟩, trivial⟩) (R.fa F25_0 rfl) rfl ?_
    refine JA.val ⟨by kernel_rfl, by kernel_rfl⟩ (calm_only _) (i := 3) rfl ⟨by kernel_rfl, by kernel_rfl, rfl⟩ trivial (stab_of (Hle.refl _) ⟨⟨0, rfl⟩, trivial⟩) (R.fa F25_1 rfl) rfl ?_
    refine JA.two (i := 1) (j := 4) (by kernel_rfl) ?_ ?_
    · refine JO.step rfl trivial rfl (fun K hK => ?_)
      refine JL.val rfl rfl (R.ldo 1 S22 rfl rfl rfl) ?_
      refine JL.nil ?_
      refine hK _ _ _ (stab_of (Hle.refl _) ⟨⟨0, rfl⟩, trivial⟩) ?_
      refine JA.two (i := 2) (j := 4) (by kernel_rfl) ?_ ?_
      · refine JO.step rfl trivial rfl (fun K hK => ?_)
        obtain ⟨x_9, hr_10, hx⟩ := bnd_some hx
        refine JL.callC (vs := [_]) (args := [_]) (K := []) (rst := [_, _]) E67 rfl rfl rfl picks0 (slices_Clone_byte_L_ok p_1.Blocks _ ha_2 _ hr_10) rfl (fun u_11 Ku_11 Hu_11 hRu_11 hleu_11 hfu_11 => ?_)
        obtain ⟨aor_12, nr_12, capr_12, Kr_12, rfl, rfl, rfl, hr_12, hnewr_12, -⟩ := hRu_11
        replace hr_12 := (RowOf.base hr_12 (fun p hp => (hfu_11 p (mem_seg 0 rfl hp)).resolve_left (hnewr_12 p hp)))
        refine JL.nil ?_
        refine hK _ _ _ (stab_of (Hle.refl _) ⟨⟨1, rfl⟩, trivial⟩) ?_
        refine JA.one (i := 4) (by kernel_rfl) ?_
        refine JO.step rfl trivial rfl (fun K hK => ?_)
        refine JL.val rfl rfl (R.ldo 2 S23 rfl rfl rfl) ?_
        refine JL.nil ?_
        refine hK _ _ _ (stab_of (Hle.refl _) ⟨⟨1, rfl⟩, trivial⟩) ?_
        refine JA.one (i := 5) (by kernel_rfl) ?_
        refine JO.step rfl trivial rfl (fun K hK => ?_)
        refine JL.val rfl rfl (R.bldP (vs := [(0, .slice aor_12 nr_12 capr_12), (1, .slice aoa_3 na_3 capa_3)]) (cs := [.slice aor_12 nr_12 capr_12, .slice aoa_3 na_3 capa_3]) Z25 B25 rfl rfl rfl) ?_
        refine JL.nil ?_
        refine hK _ _ _ (stab_of (Hle.refl _) ⟨⟨1, rfl⟩, trivial⟩) ?_
        refine JA.one (i := 6) (by kernel_rfl) ?_
        refine JO.step rfl trivial rfl (fun K hK => ?_)
        refine JL.store 2 S25 rfl rfl rfl rfl rfl (Nat.le_of_ble_eq_true rfl) ?_
        refine JL.nil ?_
        refine hK _ _ _ (stab_of (Hle.refl _) ⟨⟨1, rfl⟩, trivial⟩) ?_
        refine JA.doneN (by kernel_rfl) ?_
        obtain rfl := Option.some.inj hx
        refine JN.front 1 rfl ?_
        refine JN.front 1 rfl ?_
        refine JN.front 2 rfl ?_
        exact JN.cut ⟨aor_12, nr_12, capr_12, Kr_12, rfl, rfl, rfl, hr_12⟩ ⟨rfl, rfl, rfl, trivial⟩ rfl rfl
      · refine JO.step rfl trivial rfl (fun K hK => ?_)
        refine JL.val rfl rfl (R.ldo 1 S23 rfl rfl rfl) ?_
        refine JL.nil ?_
        refine hK _ _ _ (stab_of (Hle.refl _) ⟨⟨0, rfl⟩, trivial⟩) ?_
        refine JA.one (i := 2) (by kernel_rfl) ?_
        refine JO.step rfl trivial rfl (fun K hK => ?_)
        obtain ⟨x_13, hr_14, hx⟩ := bnd_some hx
        refine JL.callC (vs := [_]) (args := [_]) (K := []) (rst := [_, _]) E67 rfl rfl rfl picks0 (slices_Clone_byte_L_ok p_1.Blocks _ ha_2 _ hr_14) rfl (fun u_15 Ku_15 Hu_15 hRu_15 hleu_15 hfu_15 => ?_)
        obtain ⟨aor_16, nr_16, capr_16, Kr_16, rfl, rfl, rfl, hr_16, hnewr_16, -⟩ := hRu_15
        replace hr_16 := (RowOf.base hr_16 (fun p hp => (hfu_15 p (mem_seg 0 rfl hp)).resolve_left (hnewr_16 p hp)))
        refine JL.nil ?_
        refine hK _ _ _ (stab_of (Hle.refl _) ⟨⟨1, rfl⟩, trivial⟩) ?_
        refine JA.one (i := 5) (by kernel_rfl) ?_
        refine JO.step rfl trivial rfl (fun K hK => ?_)
        refine JL.val rfl rfl (R.bldP (vs := [(0, .slice aor_16 nr_16 capr_16), (1, .slice aoa_3 na_3 capa_3)]) (cs := [.slice aor_16 nr_16 capr_16, .slice aoa_3 na_3 capa_3]) Z25 B25 rfl rfl rfl) ?_
        refine JL.nil ?_
        refine hK _ _ _ (stab_of (Hle.refl _) ⟨⟨1, rfl⟩, trivial⟩) ?_
        refine JA.one (i := 6) (by kernel_rfl) ?_
        refine JO.step rfl trivial rfl (fun K hK => ?_)
        refine JL.store 2 S25 rfl rfl rfl rfl rfl (Nat.le_of_ble_eq_true rfl) ?_
        refine JL.nil ?_
        refine hK _ _ _ (stab_of (Hle.refl _) ⟨⟨1, rfl⟩, trivial⟩) ?_
        refine JA.doneN (by kernel_rfl) ?_
        obtain rfl := Option.some.inj hx
        refine JN.front 1 rfl ?_
        refine JN.front 1 rfl ?_
        refine JN.front 2 rfl ?_
        exact JN.cut ⟨aor_16, nr_16, capr_16, Kr_16, rfl, rfl, rfl, hr_16⟩ ⟨rfl, rfl, rfl, trivial⟩ rfl rfl
    · refine JO.step rfl trivial rfl (fun K hK => ?_)
      refine JL.val rfl rfl (R.ldo 1 S23 rfl rfl rfl) ?_
      refine JL.nil ?_
      refine hK _ _ _ (stab_of (Hle.refl _) ⟨⟨0, rfl⟩, trivial⟩) ?_
      refine JA.one (i := 1) (by kernel_rfl) ?_
      refine JO.step rfl trivial rfl (fun K hK => ?_)
      refine JL.val rfl rfl (R.ldo 1 S22 rfl rfl rfl) ?_
      refine JL.nil ?_
      refine hK _ _ _ (stab_of (Hle.refl _) ⟨⟨0, rfl⟩, trivial⟩) ?_
      refine JA.one (i := 2) (by kernel_rfl) ?_
      refine JO.step rfl trivial rfl (fun K hK => ?_)
      obtain ⟨x_17, hr_18, hx⟩ := bnd_some hx
      refine JL.callC (vs := [_]) (args := [_]) (K := []) (rst := [_, _]) E67 rfl rfl rfl picks0 (slices_Clone_byte_L_ok p_1.Blocks _ ha_2 _ hr_18) rfl (fun u_19 Ku_19 Hu_19 hRu_19 hleu_19 hfu_19 => ?_)
      obtain ⟨aor_20, nr_20, capr_20, Kr_20, rfl, rfl, rfl, hr_20, hnewr_20, -⟩ := hRu_19
      replace hr_20 := (RowOf.base hr_20 (fun p hp => (hfu_19 p (mem_seg 0 rfl hp)).resolve_left (hnewr_20 p hp)))
      refine JL.nil ?_
      refine hK _ _ _ (stab_of (Hle.refl _) ⟨⟨1, rfl⟩, trivial⟩) ?_
      refine JA.one (i := 5) (by kernel_rfl) ?_
      refine JO.step rfl trivial rfl (fun K hK => ?_)
      refine JL.val rfl rfl (R.bldP (vs := [(0, .slice aor_20 nr_20 capr_20), (1, .slice aoa_3 na_3 capa_3)]) (cs := [.slice aor_20 nr_20 capr_20, .slice aoa_3 na_3 capa_3]) Z25 B25 rfl rfl rfl) ?_
      refine JL.nil ?_
      refine hK _ _ _ (stab_of (Hle.refl _) ⟨⟨1, rfl⟩, trivial⟩) ?_
      refine JA.one (i := 6) (by kernel_rfl) ?_
      refine JO.step rfl trivial rfl (fun K hK => ?_)
      refine JL.store 2 S25 rfl rfl rfl rfl rfl (Nat.le_of_ble_eq_true rfl) ?_
      refine JL.nil ?_
      refine hK _ _ _ (stab_of (Hle.refl _) ⟨⟨1, rfl⟩, trivial⟩) ?_
      refine JA.doneN (by kernel_rfl) ?_
      obtain rfl := Option.some.inj hx
      refine JN.front 1 rfl ?_
      refine JN.front 1 rfl ?_
      refine JN.front 2 rfl ?_
      exact JN.cut ⟨aor_20, nr_20, capr_20, Kr_20, rfl, rfl, rfl, hr_20⟩ ⟨rfl, rfl, rfl, trivial⟩ rfl rfl

set_option maxHeartbeats 8000000 in
theorem dev_Read_1_ok (p_2 : Disk) (H : Heaplet) {b_1 : Nat} {aoa_3 : Option Addr} {na_3 : Nat} {capa_3 : Nat} {aoa_4 : Option Addr} {na_4 : Nat} {capa_4 : Nat} (ha_3 : IsSlice H (RSl RU8 1) 1 (.slice aoa_3 na_3 capa_3) p_2.Blocks) (ha_4 : IsSlice H R_Write 2 (.slice aoa_4 na_4 capa_4) p_2.Waits) (r : Disk × Disk) (hx : dev_Read_1 p_2 = some r) :
    Does Try.prog 66 #[.pointer (some ⟨b_1, 0, none⟩)] [[(b_1, .cells #[.slice aoa_3 na_3 capa_3, .slice aoa_4 na_4 capa_4] 25 (0, 0))]] H (fun u K' H' => ∃ ao0 : Option Addr, ∃ n0 : Nat, ∃ cap0 : Nat, ∃ ao1 : Option Addr, ∃ n1 : Nat, ∃ cap1 : Nat, ∃ ao2 : Option Addr, ∃ n2 : Nat, ∃ cap2 : Nat, ∃ K2 : Own, ∃ ao3 : Option Addr, ∃ n3 : Nat, ∃ cap3 : Nat, ∃ K3 : Own, u = .agg #[.slice ao2 n2 cap2, .slice ao3 n3 cap3] ∧ K' = [[(b_1, .cells #[.slice ao0 n0 cap0, .slice ao1 n1 cap1] 25 (0, 0))], K2, K3] ∧ IsSlice H' (RSl RU8 1) 1 (.slice ao0 n0 cap0) r.2.Blocks ∧ IsSlice H' R_Write 2 (.slice ao1 n1 cap1) r.2.Waits ∧ Pcs 0 5 26 (.slice ao2 n2 cap2) r.1.Blocks K2 ∧ (∀ p ∈ K2, p.1 ∉ ids (List.flatten [[(b_1, .cells #[.slice aoa_3 na_3 capa_3, .slice aoa_4 na_4 capa_4] 25 (0, 0))]])) ∧ RowOf (New H H') R_Write 0 72 2 (.slice ao3 n3 cap3) r.1.Waits K3 ∧ (∀ p ∈ K3, p.1 ∉ ids (List.flatten [[(b_1, .cells #[.slice aoa_3 na_3 capa_3, .slice aoa_4 na_4 capa_4] 25 (0, 0))]])) ∧ True) := by
  refine Does.enterL (vs := [.pointer (some ⟨b_1, 0, none⟩)]) (l := [(0, .pointer (some ⟨b_1, 0, none⟩))]) Try.func66 rfl rfl ⟨rfl, trivial⟩ (fun w hlt => ?_)
  unfold dev_Read_1 at hx
  refine JC.seq ?_
  refine JC.region ?_
  refine JL.alloc Z25 rfl (fun b_5 hb_5 => ?_)
  refine JL.nil ?_
  refine JN.next ?_
  refine JC.seq ?_
  refine JC.region ?_
  refine JL.val rfl rfl (R.ldoN 1 (vs := [.slice aoa_3 na_3 capa_3, .slice aoa_4 na_4 capa_4]) S25 rfl rfl rfl rfl) ?_
  obtain ⟨x_6, hr_7, hx⟩ := bnd_some hx
  refine JL.callC (vs := [_, _]) (args := [_, _]) (K := []) (rst := [_, _]) E42 rfl rfl rfl picks0 (dev_left_ok p_2 _ ha_3 ha_4 _ hr_7) rfl (fun u_8 Ku_8 Hu_8 hRu_8 hleu_8 hfu_8 => ?_)
  obtain ⟨aor_9, nr_9, capr_9, Kr_9, aor_10, nr_10, capr_10, Kr_10, rfl, rfl, hr_9, hnewr_9, hr_10, hnewr_10, -⟩ := hRu_8
  replace hr_9 := (Pcs.base hr_9 (fun p hp => (hfu_8 p (mem_seg 0 rfl hp)).resolve_left (hnewr_9 p hp)))
  replace hr_10 := (RowOf.base (RowOf.mono R_Write.mono (New.call (Hle.refl _)) hr_10) (fun p hp => (hfu_8 p (mem_seg 1 rfl hp)).resolve_left (hnewr_10 p hp)))
  refine JL.store 2 S25 rfl rfl rfl rfl rfl (Nat.le_of_ble_eq_true rfl) ?_
  refine JL.nil ?_
  refine JN.next ?_
  refine JC.ret ?_
  refine JN.outP (vs := [.agg #[.slice aor_9 nr_9 capr_9, .slice aor_10 nr_10 capr_10]]) (K := [_, _, _]) (rst := [_]) (.inl rfl) rfl rfl (Res.cellN 2 rfl rfl S25 rfl) (picks 3 rfl (picks 0 rfl (picks 0 rfl picks0))) ?_
  obtain rfl := Option.some.inj hx
  exact ⟨aoa_3, na_3, capa_3, aoa_4, na_4, capa_4, aor_9, nr_9, capr_9, Kr_9, aor_10, nr_10, capr_10, Kr_10, rfl, rfl, (ha_3.mono (RSl.mono RU8.mono) hleu_8), (ha_4.mono R_Write.mono hleu_8), (Pcs.weak (Nat.zero_le _) hr_9), (newP_ids hr_9 hlt), (RowOf.weak (Nat.zero_le _) hr_10), (new_ids hr_10 hlt), trivial⟩

set_option maxHeartbeats 8000000 in
theorem dev_guarded_v2_ok (p_1 : Disk) (p_4 : Bool) (p_6 : Disk) (H : Heaplet) {aoa_2 : Option Addr} {na_2 : Nat} {capa_2 : Nat} {aoa_3 : Option Addr} {na_3 : Nat} {capa_3 : Nat} {b_5 : Nat} {aoa_7 : Option Addr} {na_7 : Nat} {capa_7 : Nat} {aoa_8 : Option Addr} {na_8 : Nat} {capa_8 : Nat} (ha_2 : IsSlice H (RSl RU8 1) 1 (.slice aoa_2 na_2 capa_2) p_1.Blocks) (ha_3 : IsSlice H R_Write 2 (.slice aoa_3 na_3 capa_3) p_1.Waits) (ha_7 : IsSlice H (RSl RU8 1) 1 (.slice aoa_7 na_7 capa_7) p_6.Blocks) (ha_8 : IsSlice H R_Write 2 (.slice aoa_8 na_8 capa_8) p_6.Waits) (r : Disk × Int × Disk) (hx : dev_guarded_v2 p_1 p_4 p_6 = some r) :
    Does Try.prog 40 #[.agg #[.slice aoa_2 na_2 capa_2, .slice aoa_3 na_3 capa_3], .bool p_4, .func (.func 66) #[] #[.pointer (some ⟨b_5, 0, none⟩)]] [[(b_5, .cells #[.slice aoa_7 na_7 capa_7, .slice aoa_8 na_8 capa_8] 25 (0, 0))]] H (fun u K' H' => ∃ ao0 : Option Addr, ∃ n0 : Nat, ∃ cap0 : Nat, ∃ ao1 : Option Addr, ∃ n1 : Nat, ∃ cap1 : Nat, ∃ ao2 : Option Addr, ∃ n2 : Nat, ∃ cap2 : Nat, ∃ ao3 : Option Addr, ∃ n3 : Nat, ∃ cap3 : Nat, ∃ K3 : Own, u = .tuple #[.agg #[.slice ao2 n2 cap2, .slice ao3 n3 cap3], .int .i64 r.2.1] ∧ K' = [[(b_5, .cells #[.slice ao0 n0 cap0, .slice ao1 n1 cap1] 25 (0, 0))], K3] ∧ IsSlice H' (RSl RU8 1) 1 (.slice ao0 n0 cap0) r.2.2.Blocks ∧ IsSlice H' R_Write 2 (.slice ao1 n1 cap1) r.2.2.Waits ∧ IsSlice (New H H') (RSl RU8 1) 1 (.slice ao2 n2 cap2) r.1.Blocks ∧ RowOf (New H H') R_Write 0 72 2 (.slice ao3 n3 cap3) r.1.Waits K3 ∧ (∀ p ∈ K3, p.1 ∉ ids (List.flatten [[(b_5, .cells #[.slice aoa_7 na_7 capa_7, .slice aoa_8 na_8 capa_8] 25 (0, 0))]])) ∧ True) := by
  refine Does.enterL (vs := [.agg #[.slice aoa_2 na_2 capa_2, .slice aoa_3 na_3 capa_3], .bool p_4, .func (.func 66) #[] #[.pointer (some ⟨b_5, 0, none⟩)]]) (l := [(0, .agg #[.slice aoa_2 na_2 capa_2, .slice aoa_3 na_3 capa_3]), (1, .bool p_4), (2, .func (.func 66) #[] #[.pointer (some ⟨b_5, 0, none⟩)])]) Try.func40 rfl rfl ⟨rfl, rfl, rfl, trivial⟩ (fun w hlt => ?_)
  unfold dev_guarded_v2 at hx
  refine JC.seq ?_
  refine JC.region ?_
  refine JL.box rfl rfl (fun b_9 hb_9 => ?_)
  refine JL.alloc Z25 rfl (fun b_10 hb_10 => ?_)
  refine JL.val rfl rfl (R.assign rfl) ?_
  refine JL.nil ?_
  refine JN.next ?_
  refine JC.seq ?_
  refine JC.region ?_
  refine JL.val rfl rfl (R.ldoN 1 (vs := [.slice aoa_2 na_2 capa_2, .slice aoa_3 na_3 capa_3]) S25 rfl rfl rfl rfl) ?_
  obtain ⟨x_11, hr_12, hx⟩ := bnd_some hx
  refine JL.callC (vs := [_]) (args := [_]) (K := []) (rst := [_, _, _]) E48 rfl rfl rfl picks0 (dev_Check_ok p_1 _ ha_2 ha_3 _ hr_12) rfl (fun u_13 Ku_13 Hu_13 hRu_13 hleu_13 hfu_13 => ?_)
  obtain ⟨rfl, rfl, rfl, -⟩ := hRu_13
  refine JL.val rfl rfl (R.assign rfl) ?_
  refine JL.nil ?_
  refine JN.next ?_
  refine JC.seq ?_
  refine JC.block ?_
  refine JC.seq ?_
  refine JC.region ?_
  refine JL.val rfl rfl (R.move rfl) ?_
  refine JL.val rfl rfl (R.neq_i rfl rfl) ?_
  refine JL.val rfl rfl (R.assign rfl) ?_
  refine JL.nil ?_
  refine JN.next ?_
  refine JC.condB rfl (fun c_14 => ?_) (fun c_14 => ?_)
  · replace hx := cond_t c_14 hx
    refine JC.seq ?_
    refine JC.region ?_
    refine JL.val rfl rfl (R.bldP (vs := []) (cs := [.slice none 0 0, .slice none 0 0]) Z25 B25 rfl rfl rfl) ?_
    refine JL.val rfl rfl (R.move rfl) ?_
    refine JL.store 0 S25 rfl rfl rfl rfl rfl (Nat.le_of_ble_eq_true rfl) ?_
    refine JL.val rfl rfl (R.assign rfl) ?_
    refine JL.nil ?_
    refine JN.next ?_
    refine JC.ret ?_
    refine JN.blkR ?_
    refine JN.passR ?_
    refine JN.seg0 ?_
    refine JN.outP (vs := [.agg #[.slice none 0 0, .slice none 0 0], .int .i64 x_11]) (K := [_, _]) (rst := [_, _]) (.inl rfl) rfl rfl (Res.cellN 1 rfl rfl S25 (Res.tmp rfl rfl)) (picks 3 rfl (picks 0 rfl picks0)) ?_
    obtain rfl := Option.some.inj hx
    exact ⟨aoa_7, na_7, capa_7, aoa_8, na_8, capa_8, none, 0, 0, none, 0, 0, [], rfl, rfl, ha_7, ha_8, (IsSlice.nil _ _ _), (RowOf.nil _ _ _ _ _), (fun p hp => by cases hp), trivial⟩
  · replace hx := cond_f c_14 hx
    refine JC.seq ?_
    refine JC.region ?_
    refine JL.val rfl rfl (R.move rfl) ?_
    refine JL.val rfl rfl (R.not rfl) ?_
    refine JL.val rfl rfl (R.assign rfl) ?_
    refine JL.nil ?_
    refine JN.next ?_
    refine JC.condB rfl (fun c_15 => ?_) (fun c_15 => ?_)
    · replace hx := cond_t c_15 hx
      refine JC.seq ?_
      refine JC.region ?_
      refine JL.val rfl rfl (R.bldP (vs := []) (cs := [.slice none 0 0, .slice none 0 0]) Z25 B25 rfl rfl rfl) ?_
      refine JL.store 0 S25 rfl rfl rfl rfl rfl (Nat.le_of_ble_eq_true rfl) ?_
      refine JL.val rfl rfl (R.assign rfl) ?_
      refine JL.nil ?_
      refine JN.next ?_
      refine JC.ret ?_
      refine JN.blkR ?_
      refine JN.passR ?_
      refine JN.seg0 ?_
      refine JN.outP (vs := [.agg #[.slice none 0 0, .slice none 0 0], .int .i64 2]) (K := [_, _]) (rst := [_, _]) (.inl rfl) rfl rfl (Res.cellN 1 rfl rfl S25 (Res.tmp rfl rfl)) (picks 3 rfl (picks 0 rfl picks0)) ?_
      obtain rfl := Option.some.inj hx
      exact ⟨aoa_7, na_7, capa_7, aoa_8, na_8, capa_8, none, 0, 0, none, 0, 0, [], rfl, rfl, ha_7, ha_8, (IsSlice.nil _ _ _), (RowOf.nil _ _ _ _ _), (fun p hp => by cases hp), trivial⟩
    · replace hx := cond_f c_15 hx
      refine JC.skip ?_
      refine JN.blkN ?_
      refine JN.next ?_
      refine JC.seq ?_
      refine JC.region ?_
      refine JL.val rfl rfl (R.move rfl) ?_
      obtain ⟨x_16, hr_17, hx⟩ := bnd_some hx
      refine JL.callC (vs := []) (args := [_]) (K := [_]) (rst := [_, _]) E66 rfl rfl rfl (picks 2 rfl picks0) (dev_Read_1_ok p_6 _ ha_7 ha_8 _ hr_17) rfl (fun u_18 Ku_18 Hu_18 hRu_18 hleu_18 hfu_18 => ?_)
      obtain ⟨aoz_19, nz_19, capz_19, aoz_20, nz_20, capz_20, aor_21, nr_21, capr_21, Kr_21, aor_22, nr_22, capr_22, Kr_22, rfl, rfl, hz_19, hz_20, hr_21, hnewr_21, hr_22, hnewr_22, -⟩ := hRu_18
      replace hr_21 := (Pcs.base hr_21 (fun p hp => (hfu_18 p (mem_seg 1 rfl hp)).resolve_left (hnewr_21 p hp)))
      replace hr_22 := (RowOf.base (RowOf.mono R_Write.mono (New.call (Hle.refl _)) hr_22) (fun p hp => (hfu_18 p (mem_seg 2 rfl hp)).resolve_left (hnewr_22 p hp)))
      refine JL.store 3 S25 rfl rfl rfl rfl rfl (Nat.le_of_ble_eq_true rfl) ?_
      refine JL.val rfl rfl (R.assign rfl) ?_
      refine JL.nil ?_
      refine JN.next ?_
      refine JC.ret ?_
      refine JN.pubPcs 1  rfl hr_21 (Nat.le_refl _) (fun H_23 hleH_23 hsH_23 => ?_)
      refine JN.forget 1 ?_
      refine JN.outP (vs := [.agg #[.slice aor_21 nr_21 capr_21, .slice aor_22 nr_22 capr_22], .int .i64 0]) (K := [_, _]) (rst := [_, _]) (.inl rfl) rfl rfl (Res.cellN 2 rfl rfl S25 (Res.tmp rfl rfl)) (picks 0 rfl (picks 0 rfl picks0)) ?_
      obtain rfl := Option.some.inj hx
      exact ⟨aoz_19, nz_19, capz_19, aoz_20, nz_20, capz_20, aor_21, nr_21, capr_21, aor_22, nr_22, capr_22, Kr_22, rfl, rfl, (hz_19.mono (RSl.mono RU8.mono) hleH_23), (hz_20.mono R_Write.mono hleH_23), hsH_23, (RowOf.weak (Nat.zero_le _) (hr_22.mono R_Write.mono (New.mono hleH_23))), (new_ids (hr_22.mono R_Write.mono (New.mono hleH_23)) hlt), trivial⟩
end Go.Proofs.Ytdelcjkjkhcaoaa
