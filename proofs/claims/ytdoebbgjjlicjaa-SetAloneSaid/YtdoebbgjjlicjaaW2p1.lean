import Derived.Test.YtdoebbgjjlicjaaW2p0
/- walks: what the code computes, function by function. -/
namespace Go.Proofs.Ytdoebbgjjlicjaa
open Go.Ow Go.RowKit Go.Proofs
set_option linter.unusedVariables false
set_option linter.unusedSimpArgs false
set_option maxHeartbeats 8000000 in
theorem mix_words_turned_ok (p_1 : A4 UInt32) (H : Heaplet) (r : A4 UInt32) (hx : mix_words_turned p_1 = some r) :
  Does Try.prog 175 #[.agg #[.int .u32 (p_1.e0.toNat : Int), .int .u32 (p_1.e1.toNat : Int), .int .u32 (p_1.e2.toNat : Int), .int .u32 (p_1.e3.toNat : Int)]] [] H (fun u K' H' => u = .agg #[.int .u32 (r.e0.toNat : Int), .int .u32 (r.e1.toNat : Int), .int .u32 (r.e2.toNat : Int), .int .u32 (r.e3.toNat : Int)] ∧ K' = [] ∧ H = H' ∧ True) := by
 refine Does.enterL (vs := [.agg #[.int .u32 (p_1.e0.toNat : Int), .int .u32 (p_1.e1.toNat : Int), .int .u32 (p_1.e2.toNat : Int), .int .u32 (p_1.e3.toNat : Int)]]) (l := [(0, .agg #[.int .u32 (p_1.e0.toNat : Int), .int .u32 (p_1.e1.toNat : Int), .int .u32 (p_1.e2.toNat : Int), .int .u32 (p_1.e3.toNat : Int)])]) Try.func175 rfl rfl ⟨rfl, trivial⟩ (fun w hlt => ?_)
 unfold mix_words_turned at hx
 refine JC.seq (JC.region (JL.box rfl rfl (fun b_2 hb_2 => JL.alloc Z161 rfl (fun b_3 hb_3 => JL.nil (JN.next (JC.seq (JC.region (JL.val rfl rfl (R.func (vf := []) (vc := [_]) rfl rfl) (JL.val rfl rfl (R.assign rfl) (JL.nil (JN.next ?_)))))))))))
 refine JC.seq (JC.region (JL.val rfl rfl (R.move rfl) ?_))
 obtain ⟨x_4, hr_5, hx⟩ := bnd_some hx
 refine JL.callC (vs := [_, _]) (args := [_, _, _]) (K := [_]) (rst := [_]) E185 rfl rfl rfl (picks 1 rfl picks0) (mix_words_turned_1_ok 15 11 p_1 _ _ hr_5) rfl (fun u_6 Ku_6 Hu_6 hRu_6 hleu_6 hfu_6 => ?_)
 obtain ⟨rfl, rfl, rfl, -⟩ := hRu_6
 refine JL.nil (JN.next (JC.seq (JC.region (JL.val rfl rfl (R.move rfl) ?_))))
 obtain ⟨x_7, hr_8, hx⟩ := bnd_some hx
 refine JL.callC (vs := [_, _]) (args := [_, _, _]) (K := [_]) (rst := [_]) E185 rfl rfl rfl (picks 0 rfl picks0) (mix_words_turned_1_ok 9 6 x_4 _ _ hr_8) rfl (fun u_9 Ku_9 Hu_9 hRu_9 hleu_9 hfu_9 => ?_)
 obtain ⟨rfl, rfl, rfl, -⟩ := hRu_9
 refine JL.nil (JN.next (JC.seq (JC.region (JL.val rfl rfl (R.ldoN 0 (vs := [.int .u32 (x_7.e0.toNat : Int), .int .u32 (x_7.e1.toNat : Int), .int .u32 (x_7.e2.toNat : Int), .int .u32 (x_7.e3.toNat : Int)]) S161 rfl rfl rfl rfl) (JL.store 1 S161 rfl rfl rfl rfl rfl (Nat.le_of_ble_eq_true rfl) (JL.nil (JN.next (JC.ret (JN.outP (vs := [.agg #[.int .u32 (x_7.e0.toNat : Int), .int .u32 (x_7.e1.toNat : Int), .int .u32 (x_7.e2.toNat : Int), .int .u32 (x_7.e3.toNat : Int)]]) (K := []) (rst := [_, _]) (.inl rfl) rfl rfl (Res.cellN 1 rfl rfl S161 rfl) picks0 ?_)))))))))
 obtain rfl := Option.some.inj hx
 exact ⟨rfl, rfl, rfl, trivial⟩

set_option maxHeartbeats 8000000 in
theorem mix_words_often_ok (p_1 : A4 UInt32) (p_2 : Int) (H : Heaplet) (r : A4 UInt32) (hx : mix_words_often p_1 p_2 = some r) :
  Does Try.prog 149 #[.agg #[.int .u32 (p_1.e0.toNat : Int), .int .u32 (p_1.e1.toNat : Int), .int .u32 (p_1.e2.toNat : Int), .int .u32 (p_1.e3.toNat : Int)], .int .i64 p_2] [] H (fun u K' H' => u = .agg #[.int .u32 (r.e0.toNat : Int), .int .u32 (r.e1.toNat : Int), .int .u32 (r.e2.toNat : Int), .int .u32 (r.e3.toNat : Int)] ∧ K' = [] ∧ H = H' ∧ True) := by
 refine Does.enterL (vs := [.agg #[.int .u32 (p_1.e0.toNat : Int), .int .u32 (p_1.e1.toNat : Int), .int .u32 (p_1.e2.toNat : Int), .int .u32 (p_1.e3.toNat : Int)], .int .i64 p_2]) (l := [(0, .agg #[.int .u32 (p_1.e0.toNat : Int), .int .u32 (p_1.e1.toNat : Int), .int .u32 (p_1.e2.toNat : Int), .int .u32 (p_1.e3.toNat : Int)]), (1, .int .i64 p_2)]) Try.func149 rfl rfl ⟨rfl, rfl, trivial⟩ (fun w hlt => ?_)
 unfold mix_words_often at hx
 refine JC.seq (JC.region (JL.box rfl rfl (fun b_3 hb_3 => JL.alloc Z161 rfl (fun b_4 hb_4 => JL.nil (JN.next (JC.seq (JC.seq (JC.region (JL.val rfl rfl (R.move rfl) (JL.val rfl rfl (R.move rfl) (JL.nil ?_)))))))))))
 refine JN.next ?_
 obtain ⟨t_5, ht_7, hx⟩ := bnd_some hx
 refine JC.cut (fun l o g => l = [(2, .pointer (some ⟨b_3, 0, none⟩)), (4, .pointer (some ⟨b_4, 0, none⟩))] ∧ o = [[(b_3, .cells #[.int .u32 (t_5.1.toNat : Int), .int .u32 (t_5.2.1.toNat : Int), .int .u32 (t_5.2.2.1.toNat : Int), .int .u32 (t_5.2.2.2.toNat : Int)] 161 (0, 0))], [(b_4, .cells #[.int .u32 ((0 : UInt32).toNat : Int), .int .u32 ((0 : UInt32).toNat : Int), .int .u32 ((0 : UInt32).toNat : Int), .int .u32 ((0 : UInt32).toNat : Int)] 161 (0, 0))]] ∧ H = g) ?_ ?_
 ·
  rintro _ _ _ ⟨rfl, rfl, rfl⟩
  refine JN.next (JC.seq (JC.region (JL.val rfl rfl (R.ldoN 0 (vs := [.int .u32 (t_5.1.toNat : Int), .int .u32 (t_5.2.1.toNat : Int), .int .u32 (t_5.2.2.1.toNat : Int), .int .u32 (t_5.2.2.2.toNat : Int)]) S161 rfl rfl rfl rfl) (JL.store 1 S161 rfl rfl rfl rfl rfl (Nat.le_of_ble_eq_true rfl) (JL.nil (JN.next (JC.ret (JN.outP (vs := [.agg #[.int .u32 (t_5.1.toNat : Int), .int .u32 (t_5.2.1.toNat : Int), .int .u32 (t_5.2.2.1.toNat : Int), .int .u32 (t_5.2.2.2.toNat : Int)]]) (K := []) (rst := [_, _]) (.inl rfl) rfl rfl (Res.cellN 1 rfl rfl S161 rfl) picks0 ?_))))))))
  obtain rfl := Option.some.inj hx
  exact ⟨rfl, rfl, rfl, trivial⟩
 ·
  have hxo_6 := hx; clear hx; have hx := ht_7; clear ht_7
  refine JC.block (JC.front 1 rfl (JC.loopI (fun n l o g => ∃ s_8 : UInt32 × UInt32 × UInt32 × UInt32 × Int, l = [(2, .pointer (some ⟨b_3, 0, none⟩)), (4, .pointer (some ⟨b_4, 0, none⟩)), (5, .int .i64 p_2), (6, .int .i64 s_8.2.2.2.2)] ∧ o = [[(b_3, .cells #[.int .u32 (s_8.1.toNat : Int), .int .u32 (s_8.2.1.toNat : Int), .int .u32 (s_8.2.2.1.toNat : Int), .int .u32 (s_8.2.2.2.1.toNat : Int)] 161 (0, 0))], [(b_4, .cells #[.int .u32 ((0 : UInt32).toNat : Int), .int .u32 ((0 : UInt32).toNat : Int), .int .u32 ((0 : UInt32).toNat : Int), .int .u32 ((0 : UInt32).toNat : Int)] 161 (0, 0))]] ∧ H = g ∧ run (mix_words_often_l1 p_2) n s_8 = some t_5) FUEL ?_ ⟨(p_1.e0, p_1.e1, p_1.e2, p_1.e3, 0), rfl, rfl, rfl, hx⟩ ⟨rfl, rfl, rfl, rfl, trivial⟩ ?_))
  ·
   rintro _ _ _ ⟨s_8, rfl, rfl, rfl, hn_9⟩
   exact run_zero hn_9
  ·
   rintro n_10 _ _ _ ⟨s_8, rfl, rfl, rfl, hn_9⟩
   clear hx; obtain ⟨oo_12, hx, hd_11⟩ := run_some hn_9
   unfold mix_words_often_l1 at hx
   refine JC.seq (JC.region (JL.val rfl rfl (R.lss_i rfl rfl) (JL.nil (JN.next (JC.seq (JC.condB rfl (fun c_11 => ?_) (fun c_11 => ?_)))))))
   ·
    replace hx := cond_t c_11 hx
    refine JC.skip (JN.next (JC.seq (JC.block (JC.region (JL.val rfl rfl (R.ldoN 0 (vs := [.int .u32 (s_8.1.toNat : Int), .int .u32 (s_8.2.1.toNat : Int), .int .u32 (s_8.2.2.1.toNat : Int), .int .u32 (s_8.2.2.2.1.toNat : Int)]) S161 rfl rfl rfl rfl) ?_)))))
    obtain ⟨x_12, hr_13, hx⟩ := bnd_some hx
    refine JL.callC (vs := [_]) (args := [_]) (K := []) (rst := [_, _]) E175 rfl rfl rfl picks0 (mix_words_turned_ok (A4.mk s_8.1 s_8.2.1 s_8.2.2.1 s_8.2.2.2.1) _ _ hr_13) rfl (fun u_14 Ku_14 Hu_14 hRu_14 hleu_14 hfu_14 => ?_)
    obtain ⟨rfl, rfl, rfl, -⟩ := hRu_14
    refine JL.store 0 S161 rfl rfl rfl rfl rfl (Nat.le_of_ble_eq_true rfl) (JL.nil (JN.blkN (JN.next (JC.region (JL.val rfl rfl (R.add_i rfl rfl) (JL.val rfl rfl (R.move rfl) (JL.nil ?_)))))))
    replace hx := run_next hd_11 hx
    refine JN.front 1 rfl (JN.front 1 rfl ?_)
    exact JN.cut ⟨(x_12.e0, x_12.e1, x_12.e2, x_12.e3, w64 (s_8.2.2.2.2 + 1)), rfl, rfl, rfl, hx⟩ ⟨rfl, rfl, rfl, rfl, trivial⟩ rfl rfl
   ·
    replace hx := cond_f c_11 hx
    refine JC.exit (JN.passX ?_)
    obtain rfl := run_done hd_11 hx
    refine JN.passX (JN.exitSame (JN.front 1 rfl (JN.front 1 rfl ?_)))
    exact JN.cut ⟨rfl, rfl, rfl⟩ ⟨rfl, rfl, trivial⟩ rfl rfl

set_option maxHeartbeats 8000000 in
theorem mix_four_ok (p_1 : List UInt8) (H : Heaplet) {aoa_2 : Option Addr} {na_2 : Nat} {capa_2 : Nat} (ha_2 : IsSlice H RU8 1 (.slice aoa_2 na_2 capa_2) p_1) (r : A4 UInt32) (hx : mix_four p_1 = some r) :
  Does Try.prog 113 #[.slice aoa_2 na_2 capa_2] [] H (fun u K' H' => u = .agg #[.int .u32 (r.e0.toNat : Int), .int .u32 (r.e1.toNat : Int), .int .u32 (r.e2.toNat : Int), .int .u32 (r.e3.toNat : Int)] ∧ K' = [] ∧ True) := by
 refine Does.enterML (vs := [.slice aoa_2 na_2 capa_2]) (l := [(0, .slice aoa_2 na_2 capa_2)]) Try.func113 rfl rfl ⟨rfl, trivial⟩ (fun w hlt => ?_)
 unfold mix_four at hx
 refine JC.seq (JC.region (JL.alloc Z161 rfl (fun b_3 hb_3 => JL.nil (JN.next (JC.seq (JC.region (JL.val rfl rfl (R.bldA (vs := [(0, .int .u32 ((1 : UInt32).toNat : Int)), (1, .int .u32 ((2 : UInt32).toNat : Int)), (2, .int .u32 ((3 : UInt32).toNat : Int)), (3, .int .u32 ((4 : UInt32).toNat : Int))]) (cells := #[.int .u32 ((1 : UInt32).toNat : Int), .int .u32 ((2 : UInt32).toNat : Int), .int .u32 ((3 : UInt32).toNat : Int), .int .u32 ((4 : UInt32).toNat : Int)]) Z161 B161 rfl rfl rfl rfl) (JL.alloc Z161 rfl (fun b_4 hb_4 => JL.store 0 S161 rfl rfl rfl rfl rfl (Nat.le_of_ble_eq_true rfl) (JL.nil (JN.next ?_)))))))))))
 refine JC.seq (JC.region (JL.val rfl rfl (R.move rfl) ?_))
 obtain ⟨x_5, hr_6, hx⟩ := bnd_some hx
 refine JL.callC (vs := [_]) (args := [_]) (K := []) (rst := [_, _]) E147 rfl rfl rfl picks0 (slices_Clone_byte_ok p_1 _ ha_2 _ hr_6) rfl (fun u_7 Ku_7 Hu_7 hRu_7 hleu_7 hfu_7 => ?_)
 obtain ⟨aor_8, nr_8, capr_8, Kr_8, rfl, rfl, rfl, hr_8, hnewr_8, -⟩ := hRu_7
 replace hr_8 := (RowOf.base (RowOf.const (H2 := New H H) RU8.const hr_8) (fun p hp => (hfu_7 p (mem_seg 0 rfl hp)).resolve_left (hnewr_8 p hp)))
 refine JL.pubN 0 RU8.mono rfl hr_8 (Nat.le_refl _) (fun H_9 hleH_9 hsH_9 => JL.forget 0 ?_)
 obtain ⟨x_10, hr_11, hx⟩ := bnd_some hx
 refine JL.callC (vs := [_]) (args := [_]) (K := []) (rst := [_, _]) E146 rfl rfl rfl picks0 (slices_Clip_byte_ok x_5 _ (hsH_9.old RU8.mono) _ hr_11) rfl (fun u_12 Ku_12 Hu_12 hRu_12 hleu_12 hfu_12 => ?_)
 obtain ⟨aoz_13, nz_13, rfl, rfl, rfl, hz_13, -⟩ := hRu_12
 refine JL.bslF (HF := (New H H_9)) (R := RU8) (ls := [(1 : UInt8)]) (vs := [.int .u8 ((1 : UInt8).toNat : Int)]) U45 I5 rfl rfl (⟨_, _, rfl, rfl, rfl, rfl⟩) RU8.one rfl rfl rfl (by simp [maxLen]) rfl (fun vr_14 Kr_14 hr_14 => ?_)
 obtain ⟨aor_14, capr_14, rfl⟩ := RowOf.val hr_14
 obtain ⟨q_15, hm_16, hl_17, hx⟩ := app_some hx
 refine JL.appC (HF := (New H H_9)) U45 I5 rfl RU8.one (Hle.refl _) hz_13 (fun _ _ h => RU8.const _ _ _ _ h) rfl (SrcF.row 0 U45 rfl (RowOf.const RU8.const hr_14)) (List.cons_ne_nil _ _) hm_16 hl_17 rfl rfl (fun vr_18 Kr_18 hr_18 => ?_)
 obtain ⟨aor_18, capr_18, rfl⟩ := RowOf.val hr_18
 refine JL.val rfl rfl (R.assign rfl) (JL.nil (JN.next (JC.seq ?_)))
 obtain ⟨t_19, ht_21, hx⟩ := bnd_some hx
 refine JC.cut (fun l o g => ∃ aor_26 : Option Addr, ∃ nr_26 : Nat, ∃ capr_26 : Nat, ∃ Kr_26 : Own, l = [(0, .slice aoa_2 na_2 capa_2), (2, .pointer (some ⟨b_3, 0, none⟩)), (3, .pointer (some ⟨b_4, 0, none⟩)), (4, .slice aor_26 nr_26 capr_26)] ∧ o = [[(b_3, .cells #[.int .u32 ((0 : UInt32).toNat : Int), .int .u32 ((0 : UInt32).toNat : Int), .int .u32 ((0 : UInt32).toNat : Int), .int .u32 ((0 : UInt32).toNat : Int)] 161 (0, 0))], [(b_4, .cells #[.int .u32 ((1 : UInt32).toNat : Int), .int .u32 ((2 : UInt32).toNat : Int), .int .u32 ((3 : UInt32).toNat : Int), .int .u32 ((4 : UInt32).toNat : Int)] 161 (0, 0))], Kr_26] ∧ H_9 = g ∧ RowOf (New H H_9) RU8 w.heap.size 5 1 (.slice aor_26 nr_26 capr_26) t_19 Kr_26) ?_ ?_
 ·
  rintro _ _ _ ⟨aor_26, nr_26, capr_26, Kr_26, rfl, rfl, rfl, hr_26⟩
  refine JN.next (JC.seq (JC.seq (JC.region (JL.val rfl rfl (R.move rfl) (JL.pubN 2 RU8.mono rfl hr_26 (Nat.le_refl _) (fun H_27 hleH_27 hsH_27 => JL.forget 2 ?_))))))
  obtain ⟨x_28, hr_29, hx⟩ := bnd_some hx
  refine JL.callC (vs := [_, _]) (args := [_, _]) (K := []) (rst := [_, _]) E95 rfl rfl rfl picks0 (slices_Chunk_byte_ok t_19 8 _ (hsH_27.old RU8.mono) _ hr_29) rfl (fun u_30 Ku_30 Hu_30 hRu_30 hleu_30 hfu_30 => ?_)
  obtain ⟨bit_31, cit_31, rfl, rfl, hit_31, kit_31, pit_31, -⟩ := hRu_30
  refine JL.nil (JN.next (JC.block ?_))
  obtain ⟨t_32, ht_34, hx⟩ := bnd_some hx
  refine JC.front 1 rfl (JC.front 1 rfl (JC.rangeL (RA := fun H' args (y : List UInt8) => ∃ ao : Option Addr, args = #[.slice ao y.length y.length] ∧ IsSlice H' RU8 1 (.slice ao y.length y.length) y) rfl mix_four_r2 ((1 : UInt32), (2 : UInt32), (3 : UInt32), (4 : UInt32)) t_32 ht_34 (fun s_35 o g => ∃ H_41 : Heaplet, o = [[(b_3, .cells #[.int .u32 ((0 : UInt32).toNat : Int), .int .u32 ((0 : UInt32).toNat : Int), .int .u32 ((0 : UInt32).toNat : Int), .int .u32 ((0 : UInt32).toNat : Int)] 161 (0, 0))], [(b_4, .cells #[.int .u32 (s_35.1.toNat : Int), .int .u32 (s_35.2.1.toNat : Int), .int .u32 (s_35.2.2.1.toNat : Int), .int .u32 (s_35.2.2.2.toNat : Int)] 161 (0, 0))]] ∧ H_41 = g ∧ Hle Hu_30 H_41) (fun e c o g => False) rfl E136 (slices_Chunk_byte_it t_19 8 pit_31 _ ((hsH_27.mono RU8.mono (New.mono hleu_30)).old RU8.mono) hit_31 kit_31) (fun _ _ _ h => by obtain ⟨_, h, _⟩ := h; rw [h]; rfl) rfl ⟨Hu_30, rfl, rfl, (Hle.refl _)⟩ ?_ ?_ ?_))
  ·
   rintro lr_37 y_36 s_35 args o g out_39 ⟨H_41, rfl, rfl, hleH_41⟩ hA hx2
   clear hx; have hx := hx2; clear hx2; unfold mix_four_r2 at hx
   obtain ⟨aoit_31, rfl, hyit_31⟩ := hA
   refine ⟨[(0, .slice aoa_2 na_2 capa_2), (2, .pointer (some ⟨b_3, 0, none⟩)), (3, .pointer (some ⟨b_4, 0, none⟩)), (5, .slice aoit_31 y_36.length y_36.length)], fun wb_38 hwb_38 => ?_, fun wb_38 hwb_38 => ?_⟩
   ·
    refine JC.region (JL.val rfl rfl (R.assign rfl) (JL.nil ?_))
    exact JN.assigned ⟨rfl, rfl, rfl, rfl, trivial⟩
   ·
    refine JC.block (JC.seq ?_)
    obtain ⟨t_42, ht_44, hx⟩ := bnd_some hx
    refine JC.cut (fun l o g => ∃ H_55 : Heaplet, l = [(0, .slice aoa_2 na_2 capa_2), (2, .pointer (some ⟨b_3, 0, none⟩)), (3, .pointer (some ⟨b_4, 0, none⟩)), (5, .slice aoit_31 y_36.length y_36.length)] ∧ o = [[(b_3, .cells #[.int .u32 ((0 : UInt32).toNat : Int), .int .u32 ((0 : UInt32).toNat : Int), .int .u32 ((0 : UInt32).toNat : Int), .int .u32 ((0 : UInt32).toNat : Int)] 161 (0, 0))], [(b_4, .cells #[.int .u32 (t_42.toNat : Int), .int .u32 (s_35.2.1.toNat : Int), .int .u32 (s_35.2.2.1.toNat : Int), .int .u32 (s_35.2.2.2.toNat : Int)] 161 (0, 0))]] ∧ H_55 = g ∧ Hle H_41 H_55) ?_ ?_
    ·
     rintro _ _ _ ⟨H_55, rfl, rfl, rfl, hleH_55⟩
     refine JN.next (JC.seq (JC.draw (so := [_]) 8 rfl Mixed ⟨⟨0, rfl⟩, trivial⟩ (JA.val ⟨by kernel_rfl, by kernel_rfl⟩ (calm_only _) (i := 0) rfl ⟨by kernel_rfl, by kernel_rfl, rfl⟩ trivial (stab_of (Hle.refl _) ⟨⟨0, rfl⟩, trivial⟩) (R.ixA 2 U161 S26 rfl rfl rfl) rfl (JA.val ⟨by kernel_rfl, by kernel_rfl⟩ (calm_only _) (i := 2) rfl ⟨by kernel_rfl, by kernel_rfl, rfl⟩ trivial (stab_of (Hle.refl _) ⟨⟨0, rfl⟩, trivial⟩) (R.move rfl) rfl ?_))))
     obtain ⟨m_56, hm_58, hb_57, hx⟩ := slc_some hx
     obtain ⟨vv_59, cv_59, h1v_59, h2v_59, h3v_59, hsv_59⟩ := IsSlice.cutv (hyit_31.mono RU8.mono hleH_55) hm_58 hb_57
     refine JA.val ⟨by kernel_rfl, by kernel_rfl⟩ (calm_only _) (i := 3) rfl ⟨by kernel_rfl, by kernel_rfl, rfl⟩ trivial (stab_of (Hle.refl _) ⟨⟨0, rfl⟩, trivial⟩) (R.slc (cap := cv_59) (a := 4) (b := (y_36.length : Int)) (c := (cv_59 : Int)) (m := y_36) (R := RU8) U45 S5 rfl ⟨_, rfl⟩ rfl (by obtain ⟨ao, n, e, _⟩ := h1v_59; exact ⟨ao, n, e, rfl⟩) ⟨hb_57.1, hb_57.2.1, h2v_59⟩ h3v_59 (.inl rfl)) rfl ?_
     obtain ⟨aov_59, capv_59, rfl⟩ := IsSlice.val hsv_59
     refine JA.two (i := 1) (j := 4) (by kernel_rfl) ?_ ?_
     ·
      refine JO.step rfl trivial rfl (fun K hK => JL.val rfl rfl (R.ldo 1 S26 rfl rfl rfl) (JL.nil (hK _ _ _ (stab_of (Hle.refl _) ⟨⟨0, rfl⟩, trivial⟩) (JA.one (i := 4) (by kernel_rfl) (JO.step rfl trivial rfl (fun K hK => ?_))))))
      obtain ⟨x_60, hr_61, hx⟩ := bnd_some hx
      refine JL.callC (vs := [_]) (args := [_]) (K := []) (rst := [_, _]) E148 rfl rfl rfl picks0 (mix_number_ok m_56 _ hsv_59 _ hr_61) rfl (fun u_62 Ku_62 Hu_62 hRu_62 hleu_62 hfu_62 => ?_)
      obtain ⟨rfl, rfl, -⟩ := hRu_62
      refine JL.nil (hK _ _ _ (stab_of hleu_62 ⟨⟨0, rfl⟩, trivial⟩) (JA.val ⟨by kernel_rfl, by kernel_rfl⟩ (calm_only _) (i := 5) rfl ⟨by kernel_rfl, by kernel_rfl, rfl⟩ trivial (stab_of hleu_62 ⟨⟨0, rfl⟩, trivial⟩) (R.xor32 (a := s_35.2.2.1) (b := x_60) rfl rfl) rfl (JA.val ⟨by kernel_rfl, by kernel_rfl⟩ (calm_only _) (i := 6) rfl ⟨by kernel_rfl, by kernel_rfl, rfl⟩ trivial (stab_of hleu_62 ⟨⟨0, rfl⟩, trivial⟩) (R.ixA 2 U161 S26 rfl rfl rfl) rfl (JA.one (i := 7) (by kernel_rfl) (JO.step rfl trivial rfl (fun K hK => JL.store 1 S26 rfl rfl rfl rfl rfl (Nat.le_of_ble_eq_true rfl) (JL.nil (hK _ _ _ (stab_of hleu_62 ⟨⟨0, rfl⟩, trivial⟩) (JA.doneN (by kernel_rfl) (JN.next (JC.region ?_)))))))))))
      refine JL.val rfl rfl (R.ldoN 1 (vs := [.int .u32 (t_42.toNat : Int), .int .u32 (s_35.2.1.toNat : Int), .int .u32 ((s_35.2.2.1 ^^^ x_60).toNat : Int), .int .u32 (s_35.2.2.2.toNat : Int)]) S161 rfl rfl rfl rfl) ?_
      obtain ⟨x_63, hr_64, hx⟩ := bnd_some hx
      refine JL.callC (vs := [_, _]) (args := [_, _]) (K := []) (rst := [_, _]) E149 rfl rfl rfl picks0 (mix_words_often_ok (A4.mk t_42 s_35.2.1 (s_35.2.2.1 ^^^ x_60) s_35.2.2.2) 4 _ _ hr_64) rfl (fun u_65 Ku_65 Hu_65 hRu_65 hleu_65 hfu_65 => ?_)
      obtain ⟨rfl, rfl, rfl, -⟩ := hRu_65
      refine JL.store 1 S161 rfl rfl rfl rfl rfl (Nat.le_of_ble_eq_true rfl) (JL.nil (JN.blkN ?_))
      obtain rfl := Option.some.inj hx
      refine JN.front 1 rfl (JN.front 1 rfl ?_)
      exact JN.rN ⟨Hu_62, rfl, rfl, ((hleH_41.trans (hleH_55.trans hleu_62)))⟩
     ·
      refine JO.step rfl trivial rfl (fun K hK => ?_)
      obtain ⟨x_66, hr_67, hx⟩ := bnd_some hx
      refine JL.callC (vs := [_]) (args := [_]) (K := []) (rst := [_, _]) E148 rfl rfl rfl picks0 (mix_number_ok m_56 _ hsv_59 _ hr_67) rfl (fun u_68 Ku_68 Hu_68 hRu_68 hleu_68 hfu_68 => ?_)
      obtain ⟨rfl, rfl, -⟩ := hRu_68
      refine JL.nil (hK _ _ _ (stab_of hleu_68 ⟨⟨0, rfl⟩, trivial⟩) (JA.one (i := 1) (by kernel_rfl) (JO.step rfl trivial rfl (fun K hK => JL.val rfl rfl (R.ldo 1 S26 rfl rfl rfl) (JL.nil (hK _ _ _ (stab_of hleu_68 ⟨⟨0, rfl⟩, trivial⟩) (JA.val ⟨by kernel_rfl, by kernel_rfl⟩ (calm_only _) (i := 5) rfl ⟨by kernel_rfl, by kernel_rfl, rfl⟩ trivial (stab_of hleu_68 ⟨⟨0, rfl⟩, trivial⟩) (R.xor32 (a := s_35.2.2.1) (b := x_66) rfl rfl) rfl (JA.val ⟨by kernel_rfl, by kernel_rfl⟩ (calm_only _) (i := 6) rfl ⟨by kernel_rfl, by kernel_rfl, rfl⟩ trivial (stab_of hleu_68 ⟨⟨0, rfl⟩, trivial⟩) (R.ixA 2 U161 S26 rfl rfl rfl) rfl (JA.one (i := 7) (by kernel_rfl) (JO.step rfl trivial rfl (fun K hK => JL.store 1 S26 rfl rfl rfl rfl rfl (Nat.le_of_ble_eq_true rfl) ?_)))))))))))
      refine JL.nil (hK _ _ _ (stab_of hleu_68 ⟨⟨0, rfl⟩, trivial⟩) (JA.doneN (by kernel_rfl) (JN.next (JC.region (JL.val rfl rfl (R.ldoN 1 (vs := [.int .u32 (t_42.toNat : Int), .int .u32 (s_35.2.1.toNat : Int), .int .u32 ((s_35.2.2.1 ^^^ x_66).toNat : Int), .int .u32 (s_35.2.2.2.toNat : Int)]) S161 rfl rfl rfl rfl) ?_)))))
      obtain ⟨x_69, hr_70, hx⟩ := bnd_some hx
      refine JL.callC (vs := [_, _]) (args := [_, _]) (K := []) (rst := [_, _]) E149 rfl rfl rfl picks0 (mix_words_often_ok (A4.mk t_42 s_35.2.1 (s_35.2.2.1 ^^^ x_66) s_35.2.2.2) 4 _ _ hr_70) rfl (fun u_71 Ku_71 Hu_71 hRu_71 hleu_71 hfu_71 => ?_)
      obtain ⟨rfl, rfl, rfl, -⟩ := hRu_71
      refine JL.store 1 S161 rfl rfl rfl rfl rfl (Nat.le_of_ble_eq_true rfl) (JL.nil (JN.blkN ?_))
      obtain rfl := Option.some.inj hx
      refine JN.front 1 rfl (JN.front 1 rfl ?_)
      exact JN.rN ⟨Hu_68, rfl, rfl, ((hleH_41.trans (hleH_55.trans hleu_68)))⟩
    ·
     have hxo_43 := hx; clear hx; have hx := ht_44; clear ht_44
     refine JC.draw (so := [_]) 8 rfl Mixed ⟨⟨0, rfl⟩, trivial⟩ (JA.val ⟨by kernel_rfl, by kernel_rfl⟩ (calm_only _) (i := 0) rfl ⟨by kernel_rfl, by kernel_rfl, rfl⟩ trivial (stab_of (Hle.refl _) ⟨⟨0, rfl⟩, trivial⟩) (R.ixA 0 U161 S26 rfl rfl rfl) rfl (JA.val ⟨by kernel_rfl, by kernel_rfl⟩ (calm_only _) (i := 2) rfl ⟨by kernel_rfl, by kernel_rfl, rfl⟩ trivial (stab_of (Hle.refl _) ⟨⟨0, rfl⟩, trivial⟩) (R.move rfl) rfl ?_))
     obtain ⟨m_45, hm_47, hb_46, hx⟩ := slc_some hx
     obtain ⟨vv_48, cv_48, h1v_48, h2v_48, h3v_48, hsv_48⟩ := IsSlice.cutv hyit_31 hm_47 hb_46
     refine JA.val ⟨by kernel_rfl, by kernel_rfl⟩ (calm_only _) (i := 3) rfl ⟨by kernel_rfl, by kernel_rfl, rfl⟩ trivial (stab_of (Hle.refl _) ⟨⟨0, rfl⟩, trivial⟩) (R.slc (cap := cv_48) (a := 0) (b := 4) (c := (cv_48 : Int)) (m := y_36) (R := RU8) U45 S5 rfl rfl ⟨_, rfl⟩ (by obtain ⟨ao, n, e, _⟩ := h1v_48; exact ⟨ao, n, e, rfl⟩) ⟨hb_46.1, hb_46.2.1, h2v_48⟩ h3v_48 (.inl rfl)) rfl ?_
     obtain ⟨aov_48, capv_48, rfl⟩ := IsSlice.val hsv_48
     refine JA.two (i := 1) (j := 4) (by kernel_rfl) ?_ ?_
     ·
      refine JO.step rfl trivial rfl (fun K hK => JL.val rfl rfl (R.ldo 1 S26 rfl rfl rfl) (JL.nil (hK _ _ _ (stab_of (Hle.refl _) ⟨⟨0, rfl⟩, trivial⟩) (JA.one (i := 4) (by kernel_rfl) (JO.step rfl trivial rfl (fun K hK => ?_))))))
      obtain ⟨x_49, hr_50, hx⟩ := bnd_some hx
      refine JL.callC (vs := [_]) (args := [_]) (K := []) (rst := [_, _]) E148 rfl rfl rfl picks0 (mix_number_ok m_45 _ hsv_48 _ hr_50) rfl (fun u_51 Ku_51 Hu_51 hRu_51 hleu_51 hfu_51 => ?_)
      obtain ⟨rfl, rfl, -⟩ := hRu_51
      refine JL.nil (hK _ _ _ (stab_of hleu_51 ⟨⟨0, rfl⟩, trivial⟩) (JA.val ⟨by kernel_rfl, by kernel_rfl⟩ (calm_only _) (i := 5) rfl ⟨by kernel_rfl, by kernel_rfl, rfl⟩ trivial (stab_of hleu_51 ⟨⟨0, rfl⟩, trivial⟩) (R.xor32 (a := s_35.1) (b := x_49) rfl rfl) rfl (JA.val ⟨by kernel_rfl, by kernel_rfl⟩ (calm_only _) (i := 6) rfl ⟨by kernel_rfl, by kernel_rfl, rfl⟩ trivial (stab_of hleu_51 ⟨⟨0, rfl⟩, trivial⟩) (R.ixA 0 U161 S26 rfl rfl rfl) rfl (JA.one (i := 7) (by kernel_rfl) (JO.step rfl trivial rfl (fun K hK => JL.store 1 S26 rfl rfl rfl rfl rfl (Nat.le_of_ble_eq_true rfl) (JL.nil (hK _ _ _ (stab_of hleu_51 ⟨⟨0, rfl⟩, trivial⟩) (JA.doneN (by kernel_rfl) ?_)))))))))
      obtain rfl := Option.some.inj hx
      refine JN.front 1 rfl (JN.front 1 rfl ?_)
      exact JN.cut ⟨Hu_51, rfl, rfl, rfl, (hleu_51)⟩ ⟨rfl, rfl, rfl, rfl, trivial⟩ rfl rfl
     ·
      refine JO.step rfl trivial rfl (fun K hK => ?_)
      obtain ⟨x_52, hr_53, hx⟩ := bnd_some hx
      refine JL.callC (vs := [_]) (args := [_]) (K := []) (rst := [_, _]) E148 rfl rfl rfl picks0 (mix_number_ok m_45 _ hsv_48 _ hr_53) rfl (fun u_54 Ku_54 Hu_54 hRu_54 hleu_54 hfu_54 => ?_)
      obtain ⟨rfl, rfl, -⟩ := hRu_54
      refine JL.nil (hK _ _ _ (stab_of hleu_54 ⟨⟨0, rfl⟩, trivial⟩) (JA.one (i := 1) (by kernel_rfl) (JO.step rfl trivial rfl (fun K hK => JL.val rfl rfl (R.ldo 1 S26 rfl rfl rfl) (JL.nil (hK _ _ _ (stab_of hleu_54 ⟨⟨0, rfl⟩, trivial⟩) (JA.val ⟨by kernel_rfl, by kernel_rfl⟩ (calm_only _) (i := 5) rfl ⟨by kernel_rfl, by kernel_rfl, rfl⟩ trivial (stab_of hleu_54 ⟨⟨0, rfl⟩, trivial⟩) (R.xor32 (a := s_35.1) (b := x_52) rfl rfl) rfl (JA.val ⟨by kernel_rfl, by kernel_rfl⟩ (calm_only _) (i := 6) rfl ⟨by kernel_rfl, by kernel_rfl, rfl⟩ trivial (stab_of hleu_54 ⟨⟨0, rfl⟩, trivial⟩) (R.ixA 0 U161 S26 rfl rfl rfl) rfl (JA.one (i := 7) (by kernel_rfl) (JO.step rfl trivial rfl (fun K hK => JL.store 1 S26 rfl rfl rfl rfl rfl (Nat.le_of_ble_eq_true rfl) ?_)))))))))))
      refine JL.nil (hK _ _ _ (stab_of hleu_54 ⟨⟨0, rfl⟩, trivial⟩) (JA.doneN (by kernel_rfl) ?_))
      obtain rfl := Option.some.inj hx
      refine JN.front 1 rfl (JN.front 1 rfl ?_)
      exact JN.cut ⟨Hu_54, rfl, rfl, rfl, (hleu_54)⟩ ⟨rfl, rfl, rfl, rfl, trivial⟩ rfl rfl
  ·
   rintro D_40 s_35 o g hD_40 htt ⟨H_41, rfl, rfl, hleH_41⟩ hle2
   subst htt; simp only [Sum.elim_inl] at hx
   refine JN.blkN (JN.next (JC.seq (JC.region (JL.val rfl rfl (R.ixA 1 U161 S26 rfl rfl rfl) (JL.val rfl rfl (R.ldo 2 S26 rfl rfl rfl) (JL.val rfl rfl (R.move rfl) (JL.val rfl rfl (R.lenL U45 rfl (IsSlice.long ha_2)) (JL.val rfl rfl (R.cv_i64_u32 U3 U26 rfl) (JL.val rfl rfl (R.xor32 (a := s_35.2.1) (b := u32i (p_1.length : Int)) rfl rfl) (JL.val rfl rfl (R.ixA 1 U161 S26 rfl rfl rfl) (JL.store 2 S26 rfl rfl rfl rfl rfl (Nat.le_of_ble_eq_true rfl) ?_)))))))))))
   refine JL.nil (JN.next (JC.seq (JC.region (JL.val rfl rfl (R.ldoN 2 (vs := [.int .u32 (s_35.1.toNat : Int), .int .u32 ((s_35.2.1 ^^^ (u32i (p_1.length : Int))).toNat : Int), .int .u32 (s_35.2.2.1.toNat : Int), .int .u32 (s_35.2.2.2.toNat : Int)]) S161 rfl rfl rfl rfl) ?_))))
   obtain ⟨x_42, hr_43, hx⟩ := bnd_some hx
   refine JL.callC (vs := [_, _]) (args := [_, _]) (K := []) (rst := [_, _, _]) E149 rfl rfl rfl picks0 (mix_words_often_ok (A4.mk s_35.1 (s_35.2.1 ^^^ (u32i (p_1.length : Int))) s_35.2.2.1 s_35.2.2.2) 8 _ _ hr_43) rfl (fun u_44 Ku_44 Hu_44 hRu_44 hleu_44 hfu_44 => ?_)
   obtain ⟨rfl, rfl, rfl, -⟩ := hRu_44
   refine JL.store 1 S161 rfl rfl rfl rfl rfl (Nat.le_of_ble_eq_true rfl) (JL.nil (JN.next (JC.ret (JN.outMP (vs := [.agg #[.int .u32 (x_42.e0.toNat : Int), .int .u32 (x_42.e1.toNat : Int), .int .u32 (x_42.e2.toNat : Int), .int .u32 (x_42.e3.toNat : Int)]]) (K := []) (rst := [_, _]) (own2 := [_, _]) [D_40] (.inl rfl) ⟨rfl, rfl, rfl, rfl⟩ rfl rfl (picks 0 rfl picks0) (Res.cellN 0 rfl rfl S161 rfl) picks0 ?_))))
   obtain rfl := Option.some.inj hx
   exact ⟨rfl, rfl, trivial⟩
  ·
   rintro D c e o g hD htt hX; exact hX.elim
 ·
  have hxo_20 := hx; clear hx; have hx := ht_21; clear ht_21
  refine JC.block (JC.forget 1 (JC.front 1 rfl (JC.front 2 rfl (JC.loopI (fun n l o g => ∃ s_22 : List UInt8, ∃ aor_25 : Option Addr, ∃ nr_25 : Nat, ∃ capr_25 : Nat, ∃ Kr_25 : Own, l = [(0, .slice aoa_2 na_2 capa_2), (2, .pointer (some ⟨b_3, 0, none⟩)), (3, .pointer (some ⟨b_4, 0, none⟩)), (4, .slice aor_25 nr_25 capr_25)] ∧ o = [[(b_3, .cells #[.int .u32 ((0 : UInt32).toNat : Int), .int .u32 ((0 : UInt32).toNat : Int), .int .u32 ((0 : UInt32).toNat : Int), .int .u32 ((0 : UInt32).toNat : Int)] 161 (0, 0))], [(b_4, .cells #[.int .u32 ((1 : UInt32).toNat : Int), .int .u32 ((2 : UInt32).toNat : Int), .int .u32 ((3 : UInt32).toNat : Int), .int .u32 ((4 : UInt32).toNat : Int)] 161 (0, 0))], Kr_25] ∧ H_9 = g ∧ run mix_four_l1 n s_22 = some t_19 ∧ RowOf (New H H_9) RU8 w.heap.size 5 1 (.slice aor_25 nr_25 capr_25) s_22 Kr_25) FUEL ?_ ⟨q_15, aor_18, q_15.length, capr_18, Kr_18, rfl, rfl, rfl, hx, hr_18⟩ ⟨rfl, rfl, rfl, rfl, trivial⟩ ?_))))
  ·
   rintro _ _ _ ⟨s_22, aor_25, nr_25, capr_25, Kr_25, rfl, rfl, rfl, hn_23, hr_25⟩
   exact run_zero hn_23
  ·
   rintro n_24 _ _ _ ⟨s_22, aor_25, nr_25, capr_25, Kr_25, rfl, rfl, rfl, hn_23, hr_25⟩
   clear hx; obtain ⟨oo_27, hx, hd_26⟩ := run_some hn_23
   unfold mix_four_l1 at hx
   refine JC.seq (JC.seq (JC.region (JL.val rfl rfl (R.move rfl) (JL.val rfl rfl (R.lenL U45 rfl (RowOf.long hr_25)) (JL.val rfl rfl (R.rem_i rfl rfl (by decide)) (JL.val rfl rfl (R.neq_i rfl rfl) (JL.nil (JN.next (JC.condB rfl (fun c_26 => ?_) (fun c_26 => ?_))))))))))
   ·
    replace hx := cond_t c_26 hx
    refine JC.skip (JN.next (JC.block (JC.region (JL.val rfl rfl (R.move rfl) (JL.bslF (HF := (New H H_9)) (R := RU8) (ls := [(0 : UInt8)]) (vs := [.int .u8 ((0 : UInt8).toNat : Int)]) U45 I5 rfl rfl (⟨_, _, rfl, rfl, rfl, rfl⟩) RU8.one rfl rfl rfl (by simp [maxLen]) rfl (fun vr_27 Kr_27 hr_27 => ?_))))))
    obtain ⟨aor_27, capr_27, rfl⟩ := RowOf.val hr_27
    obtain ⟨q_28, hm_29, hl_30, hx⟩ := app_some hx
    refine JL.appF (HF := (New H H_9)) 3 U45 I5 rfl rfl hr_25 rfl (SrcF.row 0 U45 rfl hr_27) hm_29 hl_30 rfl (Nat.le_refl _) rfl (fun vr_31 Kr_31 hr_31 => ?_)
    obtain ⟨aor_31, capr_31, rfl⟩ := RowOf.val hr_31
    refine JL.val rfl rfl (R.assign rfl) (JL.nil (JN.blkN ?_))
    replace hx := run_next hd_26 hx
    refine JN.forget 0 (JN.front 2 rfl (JN.front 2 rfl (JN.front 2 rfl ?_)))
    exact JN.cut ⟨q_28, aor_31, q_28.length, capr_31, Kr_31, rfl, rfl, rfl, hx, hr_31⟩ ⟨rfl, rfl, rfl, rfl, trivial⟩ rfl rfl
   ·
    replace hx := cond_f c_26 hx
    refine JC.exit (JN.passX ?_)
    obtain rfl := run_done hd_26 hx
    refine JN.passX (JN.exitSame (JN.front 2 rfl (JN.front 2 rfl (JN.front 2 rfl ?_))))
    exact JN.cut ⟨aor_25, nr_25, capr_25, Kr_25, rfl, rfl, rfl, hr_25⟩ ⟨rfl, rfl, rfl, rfl, trivial⟩ rfl rfl

set_option maxHeartbeats 8000000 in
theorem mix_Sum_ok (p_1 : List UInt8) (H : Heaplet) {aoa_2 : Option Addr} {na_2 : Nat} {capa_2 : Nat} (ha_2 : IsSlice H RU8 1 (.slice aoa_2 na_2 capa_2) p_1) (r : UInt32) (hx : mix_Sum p_1 = some r) :
  Does Try.prog 74 #[.slice aoa_2 na_2 capa_2] [] H (fun u K' H' => u = .int .u32 (r.toNat : Int) ∧ K' = [] ∧ True) := by
 refine Does.enterL (vs := [.slice aoa_2 na_2 capa_2]) (l := [(0, .slice aoa_2 na_2 capa_2)]) Try.func74 rfl rfl ⟨rfl, trivial⟩ (fun w hlt => ?_)
 unfold mix_Sum at hx
 refine JC.seq (JC.region (JL.val rfl rfl (R.assign rfl) (JL.nil (JN.next (JC.seq (JC.region (JL.val rfl rfl (R.move rfl) ?_)))))))
 obtain ⟨x_3, hr_4, hx⟩ := bnd_some hx
 refine JL.callC (vs := [_]) (args := [_]) (K := []) (rst := []) E113 rfl rfl rfl picks0 (mix_four_ok p_1 _ ha_2 _ hr_4) rfl (fun u_5 Ku_5 Hu_5 hRu_5 hleu_5 hfu_5 => ?_)
 obtain ⟨rfl, rfl, -⟩ := hRu_5
 refine JL.val rfl rfl (R.idxAk 0 U161 S26 rfl rfl rfl rfl rfl) (JL.val rfl rfl (R.assign rfl) (JL.nil (JN.next (JC.ret (JN.outP (vs := [.int .u32 (x_3.e0.toNat : Int)]) (K := []) (rst := []) (.inl rfl) rfl rfl (Res.tmp rfl rfl) picks0 ?_)))))
 obtain rfl := Option.some.inj hx
 exact ⟨rfl, rfl, trivial⟩

set_option maxHeartbeats 8000000 in
theorem store_put_ok (p_1 : Store) (p_5 : Ptr) (p_6 : List UInt8) (H : Heaplet) {aoa_2 : Option Addr} {na_2 : Nat} {capa_2 : Nat} {aoa_3 : Option Addr} {na_3 : Nat} {capa_3 : Nat} {aoa_4 : Option Addr} {na_4 : Nat} {capa_4 : Nat} {aoa_7 : Option Addr} {na_7 : Nat} {capa_7 : Nat} (ha_2 : IsSlice H (RSl RU8 1) 1 (.slice aoa_2 na_2 capa_2) p_1.Disk.Blocks) (ha_3 : IsSlice H R_Write 2 (.slice aoa_3 na_3 capa_3) p_1.Disk.Waits) (ha_4 : IsSlice H RU8 1 (.slice aoa_4 na_4 capa_4) p_1.Space) (ha_7 : IsSlice H RU8 1 (.slice aoa_7 na_7 capa_7) p_6) (r : Store × Ptr × Int) (hx : store_put p_1 p_5 p_6 = some r) :
  Does Try.prog 99 #[.agg #[.slice aoa_2 na_2 capa_2, .slice aoa_3 na_3 capa_3, .slice aoa_4 na_4 capa_4, .int .u32 (p_1.Epoch.toNat : Int), .int .u32 (p_1.Count.toNat : Int)], .agg #[.int .i64 p_5.At, .int .u32 (p_5.Birth.toNat : Int), .int .u32 (p_5.Iv.toNat : Int), .int .u32 (p_5.Tag.toNat : Int), .int .u32 (p_5.Sum.toNat : Int)], .slice aoa_7 na_7 capa_7] [] H (fun u K' H' => ∃ ao0 : Option Addr, ∃ n0 : Nat, ∃ cap0 : Nat, ∃ ao1 : Option Addr, ∃ n1 : Nat, ∃ cap1 : Nat, ∃ K1 : Own, ∃ ao2 : Option Addr, ∃ n2 : Nat, ∃ cap2 : Nat, ∃ K2 : Own, u = .tuple #[.agg #[.slice ao0 n0 cap0, .slice ao1 n1 cap1, .slice ao2 n2 cap2, .int .u32 (r.1.Epoch.toNat : Int), .int .u32 (r.1.Count.toNat : Int)], .agg #[.int .i64 r.2.1.At, .int .u32 (r.2.1.Birth.toNat : Int), .int .u32 (r.2.1.Iv.toNat : Int), .int .u32 (r.2.1.Tag.toNat : Int), .int .u32 (r.2.1.Sum.toNat : Int)], .int .i64 r.2.2] ∧ K' = [K1, K2] ∧ IsSlice (New H H') (RSl RU8 1) 1 (.slice ao0 n0 cap0) r.1.Disk.Blocks ∧ RowOf (New H H') R_Write 0 47 2 (.slice ao1 n1 cap1) r.1.Disk.Waits K1 ∧ (∀ p ∈ K1, p.1 ∉ ids (List.flatten [])) ∧ RowOf (New H H') RU8 0 5 1 (.slice ao2 n2 cap2) r.1.Space K2 ∧ (∀ p ∈ K2, p.1 ∉ ids (List.flatten [])) ∧ True) := by
 refine Does.enterL (vs := [.agg #[.slice aoa_2 na_2 capa_2, .slice aoa_3 na_3 capa_3, .slice aoa_4 na_4 capa_4, .int .u32 (p_1.Epoch.toNat : Int), .int .u32 (p_1.Count.toNat : Int)], .agg #[.int .i64 p_5.At, .int .u32 (p_5.Birth.toNat : Int), .int .u32 (p_5.Iv.toNat : Int), .int .u32 (p_5.Tag.toNat : Int), .int .u32 (p_5.Sum.toNat : Int)], .slice aoa_7 na_7 capa_7]) (l := [(0, .agg #[.slice aoa_2 na_2 capa_2, .slice aoa_3 na_3 capa_3, .slice aoa_4 na_4 capa_4, .int .u32 (p_1.Epoch.toNat : Int), .int .u32 (p_1.Count.toNat : Int)]), (1, .agg #[.int .i64 p_5.At, .int .u32 (p_5.Birth.toNat : Int), .int .u32 (p_5.Iv.toNat : Int), .int .u32 (p_5.Tag.toNat : Int), .int .u32 (p_5.Sum.toNat : Int)]), (2, .slice aoa_7 na_7 capa_7)]) Try.func99 rfl rfl ⟨rfl, rfl, rfl, trivial⟩ (fun w hlt => ?_)
 unfold store_put at hx
 refine JC.seq (JC.region (JL.box rfl rfl (fun b_8 hb_8 => JL.box rfl rfl (fun b_9 hb_9 => JL.alloc Z50 rfl (fun b_10 hb_10 => JL.alloc Z28 rfl (fun b_11 hb_11 => JL.val rfl rfl (R.assign rfl) (JL.nil (JN.next (JC.seq (JC.seq (JC.region ?_)))))))))))
 refine JL.val rfl rfl (R.fa F50_1 rfl) (JL.val rfl rfl (R.ldo 3 S45 rfl rfl rfl) ?_)
 obtain ⟨x_12, hr_13, hx⟩ := bnd_some hx
 refine JL.callC (vs := [_]) (args := [_]) (K := []) (rst := [_, _, _, _]) E140 rfl rfl rfl picks0 (space_Take_ok p_1.Space _ ha_4 _ hr_13) rfl (fun u_14 Ku_14 Hu_14 hRu_14 hleu_14 hfu_14 => ?_)
 obtain ⟨aor_15, nr_15, capr_15, Kr_15, rfl, rfl, rfl, hr_15, hnewr_15, -⟩ := hRu_14
 replace hr_15 := (RowOf.base (RowOf.const (H2 := New H H) RU8.const hr_15) (fun p hp => (hfu_14 p (mem_seg 0 rfl hp)).resolve_left (hnewr_15 p hp)))
 refine JL.val rfl rfl (R.move rfl) (JL.val rfl rfl (R.extract rfl rfl) (JL.val rfl rfl (R.extract rfl rfl) (JL.val rfl rfl (R.extract rfl rfl) (JL.val rfl rfl (R.fa F50_1 rfl) (JL.store 2 S45 rfl rfl rfl rfl rfl (Nat.le_of_ble_eq_true rfl) (JL.val rfl rfl (R.fa F28_0 rfl) (JL.store 3 S3 rfl rfl rfl rfl rfl (Nat.le_of_ble_eq_true rfl) (JL.val rfl rfl (R.assign rfl) (JL.nil (JN.next (JC.seq ?_)))))))))))
 refine JC.region (JL.val rfl rfl (R.move rfl) (JL.val rfl rfl (R.neq_i rfl rfl) (JL.nil (JN.next (JC.condB rfl (fun c_16 => ?_) (fun c_16 => ?_))))))
 ·
  replace hx := cond_t c_16 hx
  refine JC.seq (JC.region (JL.val rfl rfl (R.bldP (vs := []) (cs := [.slice none 0 0, .slice none 0 0, .slice none 0 0, .int .u32 ((0 : UInt32).toNat : Int), .int .u32 ((0 : UInt32).toNat : Int)]) Z50 B50 rfl rfl rfl) (JL.val rfl rfl (R.bldP (vs := []) (cs := [.int .i64 0, .int .u32 ((0 : UInt32).toNat : Int), .int .u32 ((0 : UInt32).toNat : Int), .int .u32 ((0 : UInt32).toNat : Int), .int .u32 ((0 : UInt32).toNat : Int)]) Z28 B28 rfl rfl rfl) (JL.val rfl rfl (R.move rfl) (JL.store 2 S50 rfl rfl rfl rfl rfl (Nat.le_of_ble_eq_true rfl) (JL.store 1 S28 rfl rfl rfl rfl rfl (Nat.le_of_ble_eq_true rfl) (JL.val rfl rfl (R.assign rfl) (JL.nil (JN.next (JC.ret (JN.passR ?_)))))))))))
  refine JN.seg0 (JN.seg0 (JN.outP (vs := [.agg #[.slice none 0 0, .slice none 0 0, .slice none 0 0, .int .u32 ((0 : UInt32).toNat : Int), .int .u32 ((0 : UInt32).toNat : Int)], .agg #[.int .i64 0, .int .u32 ((0 : UInt32).toNat : Int), .int .u32 ((0 : UInt32).toNat : Int), .int .u32 ((0 : UInt32).toNat : Int), .int .u32 ((0 : UInt32).toNat : Int)], .int .i64 x_12.2.2]) (K := [_, _]) (rst := [_, _, _, _, _]) (.inl rfl) rfl rfl (Res.cellN 4 rfl rfl S50 (Res.cellN 3 rfl rfl S28 (Res.tmp rfl rfl))) (picks 0 rfl (picks 0 rfl picks0)) ?_))
  obtain rfl := Option.some.inj hx
  exact ⟨none, 0, 0, none, 0, 0, [], none, 0, 0, [], rfl, rfl, (IsSlice.nil _ _ _), (RowOf.nil _ _ _ _ _), (fun p hp => by cases hp), (RowOf.nil _ _ _ _ _), (fun p hp => by cases hp), trivial⟩
 ·
  replace hx := cond_f c_16 hx
  refine JC.skip (JN.next (JC.seq (JC.seq (JC.region (JL.val rfl rfl (R.fa F50_0 rfl) (JL.val rfl rfl (R.ldoN 4 (vs := [.slice aoa_2 na_2 capa_2, .slice aoa_3 na_3 capa_3]) S25 rfl rfl rfl rfl) (JL.val rfl rfl (R.fa F28_0 rfl) (JL.val rfl rfl (R.ldo 3 S3 rfl rfl rfl) (JL.val rfl rfl (R.move rfl) ?_)))))))))
  obtain ⟨x_17, hr_18, hx⟩ := bnd_some hx
  refine JL.callC (vs := [_, _, _]) (args := [_, _, _]) (K := []) (rst := [_, _, _, _, _]) E38 rfl rfl rfl picks0 (dev_Write_ok (Disk.mk p_1.Disk.Blocks p_1.Disk.Waits) x_12.2.1 p_6 _ ha_2 ha_3 ha_7 _ hr_18) rfl (fun u_19 Ku_19 Hu_19 hRu_19 hleu_19 hfu_19 => ?_)
  obtain ⟨aoz_20, nz_20, capz_20, aor_21, nr_21, capr_21, Kr_21, rfl, rfl, hz_20, hr_21, hnewr_21, -⟩ := hRu_19
  replace hr_21 := (RowOf.base (RowOf.mono R_Write.mono (New.call (Hle.refl _)) hr_21) (fun p hp => (hfu_19 p (mem_seg 0 rfl hp)).resolve_left (hnewr_21 p hp)))
  replace hz_20 := IsSlice.mono (RSl.mono RU8.mono) (New.call (Hle.refl _)) hz_20
  refine JL.val rfl rfl (R.move rfl) (JL.val rfl rfl (R.extract rfl rfl) (JL.val rfl rfl (R.extract rfl rfl) (JL.val rfl rfl (R.fa F50_0 rfl) (JL.store 3 S25 rfl rfl rfl rfl rfl (Nat.le_of_ble_eq_true rfl) (JL.val rfl rfl (R.assign rfl) (JL.nil (JN.next (JC.seq (JC.region (JL.val rfl rfl (R.move rfl) (JL.val rfl rfl (R.neq_i rfl rfl) ?_)))))))))))
  refine JL.nil (JN.next (JC.condB rfl (fun c_22 => ?_) (fun c_22 => ?_)))
  ·
   replace hx := cond_t c_22 hx
   refine JC.seq (JC.region (JL.val rfl rfl (R.bldP (vs := []) (cs := [.slice none 0 0, .slice none 0 0, .slice none 0 0, .int .u32 ((0 : UInt32).toNat : Int), .int .u32 ((0 : UInt32).toNat : Int)]) Z50 B50 rfl rfl rfl) (JL.val rfl rfl (R.bldP (vs := []) (cs := [.int .i64 0, .int .u32 ((0 : UInt32).toNat : Int), .int .u32 ((0 : UInt32).toNat : Int), .int .u32 ((0 : UInt32).toNat : Int), .int .u32 ((0 : UInt32).toNat : Int)]) Z28 B28 rfl rfl rfl) (JL.val rfl rfl (R.move rfl) (JL.store 3 S50 rfl rfl rfl rfl rfl (Nat.le_of_ble_eq_true rfl) (JL.store 2 S28 rfl rfl rfl rfl rfl (Nat.le_of_ble_eq_true rfl) (JL.val rfl rfl (R.assign rfl) (JL.nil (JN.next (JC.ret (JN.passR ?_)))))))))))
   refine JN.seg0 (JN.seg0 (JN.outP (vs := [.agg #[.slice none 0 0, .slice none 0 0, .slice none 0 0, .int .u32 ((0 : UInt32).toNat : Int), .int .u32 ((0 : UInt32).toNat : Int)], .agg #[.int .i64 0, .int .u32 ((0 : UInt32).toNat : Int), .int .u32 ((0 : UInt32).toNat : Int), .int .u32 ((0 : UInt32).toNat : Int), .int .u32 ((0 : UInt32).toNat : Int)], .int .i64 x_17.2]) (K := [_, _]) (rst := [_, _, _, _, _, _]) (.inl rfl) rfl rfl (Res.cellN 5 rfl rfl S50 (Res.cellN 4 rfl rfl S28 (Res.tmp rfl rfl))) (picks 0 rfl (picks 0 rfl picks0)) ?_))
   obtain rfl := Option.some.inj hx
   exact ⟨none, 0, 0, none, 0, 0, [], none, 0, 0, [], rfl, rfl, (IsSlice.nil _ _ _), (RowOf.nil _ _ _ _ _), (fun p hp => by cases hp), (RowOf.nil _ _ _ _ _), (fun p hp => by cases hp), trivial⟩
  ·
   replace hx := cond_f c_22 hx
   refine JC.skip (JN.next (JC.seq (JC.draw (so := [_, _, _, _, _]) 8 rfl Mixed ⟨⟨0, rfl⟩, ⟨1, rfl⟩, ⟨2, rfl⟩, ⟨4, rfl⟩, ⟨5, rfl⟩, trivial⟩ (JA.val ⟨by kernel_rfl, by kernel_rfl⟩ (calm_only _) (i := 0) rfl ⟨by kernel_rfl, by kernel_rfl, rfl⟩ trivial (stab_of (Hle.refl _) ⟨⟨0, rfl⟩, ⟨1, rfl⟩, ⟨2, rfl⟩, ⟨4, rfl⟩, ⟨5, rfl⟩, trivial⟩) (R.fa F50_2 rfl) rfl (JA.val ⟨by kernel_rfl, by kernel_rfl⟩ (calm_only _) (i := 1) rfl ⟨by kernel_rfl, by kernel_rfl, rfl⟩ trivial (stab_of (Hle.refl _) ⟨⟨0, rfl⟩, ⟨1, rfl⟩, ⟨2, rfl⟩, ⟨4, rfl⟩, ⟨5, rfl⟩, trivial⟩) (R.ldo 4 S26 rfl rfl rfl) rfl (JA.val ⟨by kernel_rfl, by kernel_rfl⟩ (calm_only _) (i := 2) rfl ⟨by kernel_rfl, by kernel_rfl, rfl⟩ trivial (stab_of (Hle.refl _) ⟨⟨0, rfl⟩, ⟨1, rfl⟩, ⟨2, rfl⟩, ⟨4, rfl⟩, ⟨5, rfl⟩, trivial⟩) (R.fa F50_3 rfl) rfl (JA.val ⟨by kernel_rfl, by kernel_rfl⟩ (calm_only _) (i := 3) rfl ⟨by kernel_rfl, by kernel_rfl, rfl⟩ trivial (stab_of (Hle.refl _) ⟨⟨0, rfl⟩, ⟨1, rfl⟩, ⟨2, rfl⟩, ⟨4, rfl⟩, ⟨5, rfl⟩, trivial⟩) (R.ldo 4 S26 rfl rfl rfl) rfl (JA.val ⟨by kernel_rfl, by kernel_rfl⟩ (calm_only _) (i := 4) rfl ⟨by kernel_rfl, by kernel_rfl, rfl⟩ trivial (stab_of (Hle.refl _) ⟨⟨0, rfl⟩, ⟨1, rfl⟩, ⟨2, rfl⟩, ⟨4, rfl⟩, ⟨5, rfl⟩, trivial⟩) (R.fa F50_2 rfl) rfl (JA.one (i := 5) (by kernel_rfl) (JO.step rfl trivial rfl (fun K hK => JL.store 3 S26 rfl rfl rfl rfl rfl (Nat.le_of_ble_eq_true rfl) ?_)))))))))))
   refine JL.nil (hK _ _ _ (stab_of (Hle.refl _) ⟨⟨0, rfl⟩, ⟨1, rfl⟩, ⟨2, rfl⟩, ⟨4, rfl⟩, ⟨5, rfl⟩, trivial⟩) (JA.val ⟨by kernel_rfl, by kernel_rfl⟩ (calm_only _) (i := 6) rfl ⟨by kernel_rfl, by kernel_rfl, rfl⟩ trivial (stab_of (Hle.refl _) ⟨⟨0, rfl⟩, ⟨1, rfl⟩, ⟨2, rfl⟩, ⟨4, rfl⟩, ⟨5, rfl⟩, trivial⟩) (R.fa F50_3 rfl) rfl (JA.one (i := 7) (by kernel_rfl) (JO.step rfl trivial rfl (fun K hK => JL.store 3 S26 rfl rfl rfl rfl rfl (Nat.le_of_ble_eq_true rfl) (JL.nil (hK _ _ _ (stab_of (Hle.refl _) ⟨⟨0, rfl⟩, ⟨1, rfl⟩, ⟨2, rfl⟩, ⟨4, rfl⟩, ⟨5, rfl⟩, trivial⟩) (JA.doneN (by kernel_rfl) (JN.next (JC.tidyP (l' := [(2, .slice aoa_7 na_7 capa_7), (4, .pointer (some ⟨b_9, 0, none⟩)), (6, .pointer (some ⟨b_10, 0, none⟩)), (7, .pointer (some ⟨b_11, 0, none⟩)), (8, .int .i64 x_17.2)]) (own' := [Kr_21, Kr_15, [(b_11, .cells #[.int .i64 0, .int .u32 ((0 : UInt32).toNat : Int), .int .u32 ((0 : UInt32).toNat : Int), .int .u32 ((0 : UInt32).toNat : Int), .int .u32 ((0 : UInt32).toNat : Int)] 28 (0, 0))], [(b_10, .cells #[.slice aoz_20 nz_20 capz_20, .slice aor_21 nr_21 capr_21, .slice aor_15 nr_15 capr_15, .int .u32 (p_1.Epoch.toNat : Int), .int .u32 (p_1.Count.toNat : Int)] 50 (0, 0))], [(b_9, .cells #[.int .i64 x_12.2.1, .int .u32 (p_5.Birth.toNat : Int), .int .u32 (p_5.Iv.toNat : Int), .int .u32 (p_5.Tag.toNat : Int), .int .u32 (p_5.Sum.toNat : Int)] 28 (0, 0))]]) (rst := [_]) ⟨rfl, rfl, rfl, rfl, rfl, trivial⟩ (picks 0 rfl (picks 0 rfl (picks 0 rfl (picks 0 rfl (picks 0 rfl picks0))))) (JC.seq ?_)))))))))))
   refine JC.region (JL.val rfl rfl (R.move rfl) ?_)
   obtain ⟨x_23, hr_24, hx⟩ := bnd_some hx
   refine JL.callC (vs := [_]) (args := [_]) (K := []) (rst := [_, _, _, _, _]) E74 rfl rfl rfl picks0 (mix_Sum_ok p_6 _ (ha_7.mono RU8.mono hleu_19) _ hr_24) rfl (fun u_25 Ku_25 Hu_25 hRu_25 hleu_25 hfu_25 => ?_)
   obtain ⟨rfl, rfl, -⟩ := hRu_25
   refine JL.val rfl rfl (R.fa F28_4 rfl) (JL.store 4 S26 rfl rfl rfl rfl rfl (Nat.le_of_ble_eq_true rfl) (JL.nil (JN.next (JC.seq (JC.draw (so := [_, _, _]) 5 rfl Mixed ⟨⟨0, rfl⟩, ⟨1, rfl⟩, ⟨4, rfl⟩, trivial⟩ (JA.val ⟨by kernel_rfl, by kernel_rfl⟩ (calm_only _) (i := 1) rfl ⟨by kernel_rfl, by kernel_rfl, rfl⟩ trivial (stab_of (Hle.refl _) ⟨⟨0, rfl⟩, ⟨1, rfl⟩, ⟨4, rfl⟩, trivial⟩) (R.ldoN 2 (vs := [.int .i64 x_12.2.1, .int .u32 (p_5.Birth.toNat : Int), .int .u32 (p_5.Iv.toNat : Int), .int .u32 (p_5.Tag.toNat : Int), .int .u32 (x_23.toNat : Int)]) S28 rfl rfl rfl rfl) rfl (JA.one (i := 0) (by kernel_rfl) (JO.step rfl trivial rfl (fun K hK => JL.val rfl rfl (R.ldoN 3 (vs := [.slice aoz_20 nz_20 capz_20, .slice aor_21 nr_21 capr_21, .slice aor_15 nr_15 capr_15, .int .u32 (p_1.Epoch.toNat : Int), .int .u32 (p_1.Count.toNat : Int)]) S50 rfl rfl rfl rfl) (JL.nil (hK _ _ _ (stab_of (Hle.refl _) ⟨⟨0, rfl⟩, ⟨1, rfl⟩, ⟨4, rfl⟩, trivial⟩) ?_)))))))))))
   refine JA.one (i := 2) (by kernel_rfl) (JO.step rfl trivial rfl (fun K hK => JL.store 3 S50 rfl rfl rfl rfl rfl (Nat.le_of_ble_eq_true rfl) (JL.nil (hK _ _ _ (stab_of (Hle.refl _) ⟨⟨0, rfl⟩, ⟨1, rfl⟩, ⟨4, rfl⟩, trivial⟩) (JA.one (i := 3) (by kernel_rfl) (JO.step rfl trivial rfl (fun K hK => JL.store 2 S28 rfl rfl rfl rfl rfl (Nat.le_of_ble_eq_true rfl) (JL.nil (hK _ _ _ (stab_of (Hle.refl _) ⟨⟨0, rfl⟩, ⟨1, rfl⟩, ⟨4, rfl⟩, trivial⟩) (JA.val ⟨by kernel_rfl, by kernel_rfl⟩ (calm_only _) (i := 4) rfl ⟨by kernel_rfl, by kernel_rfl, rfl⟩ trivial (stab_of (Hle.refl _) ⟨⟨0, rfl⟩, ⟨1, rfl⟩, ⟨4, rfl⟩, trivial⟩) (R.assign rfl) rfl (JA.doneN (by kernel_rfl) ?_)))))))))))
   refine JN.next (JC.ret (JN.outP (vs := [.agg #[.slice aoz_20 nz_20 capz_20, .slice aor_21 nr_21 capr_21, .slice aor_15 nr_15 capr_15, .int .u32 (p_1.Epoch.toNat : Int), .int .u32 (p_1.Count.toNat : Int)], .agg #[.int .i64 x_12.2.1, .int .u32 (p_5.Birth.toNat : Int), .int .u32 (p_5.Iv.toNat : Int), .int .u32 (p_5.Tag.toNat : Int), .int .u32 (x_23.toNat : Int)], .int .i64 0]) (K := [_, _]) (rst := [_, _, _]) (.inl rfl) rfl rfl (Res.cellN 3 rfl rfl S50 (Res.cellN 2 rfl rfl S28 (Res.tmp rfl rfl))) (picks 0 rfl (picks 0 rfl picks0)) ?_))
   obtain rfl := Option.some.inj hx
   exact ⟨aoz_20, nz_20, capz_20, aor_21, nr_21, capr_21, Kr_21, aor_15, nr_15, capr_15, Kr_15, rfl, rfl, (hz_20.mono (RSl.mono RU8.mono) (New.mono hleu_25)), (RowOf.weak (Nat.zero_le _) (hr_21.mono R_Write.mono (New.mono hleu_25))), (new_ids (hr_21.mono R_Write.mono (New.mono hleu_25)) hlt), (RowOf.weak (Nat.zero_le _) (hr_15.mono RU8.mono (New.mono (hleu_19.trans hleu_25)))), (new_ids (hr_15.mono RU8.mono (New.mono (hleu_19.trans hleu_25))) hlt), trivial⟩

set_option maxHeartbeats 8000000 in
theorem store_Raw_ok (p_1 : Store) (p_5 : UInt32) (p_6 : UInt32) (p_7 : UInt32) (p_8 : List UInt8) (H : Heaplet) {aoa_2 : Option Addr} {na_2 : Nat} {capa_2 : Nat} {aoa_3 : Option Addr} {na_3 : Nat} {capa_3 : Nat} {aoa_4 : Option Addr} {na_4 : Nat} {capa_4 : Nat} {aoa_9 : Option Addr} {na_9 : Nat} {capa_9 : Nat} (ha_2 : IsSlice H (RSl RU8 1) 1 (.slice aoa_2 na_2 capa_2) p_1.Disk.Blocks) (ha_3 : IsSlice H R_Write 2 (.slice aoa_3 na_3 capa_3) p_1.Disk.Waits) (ha_4 : IsSlice H RU8 1 (.slice aoa_4 na_4 capa_4) p_1.Space) (ha_9 : IsSlice H RU8 1 (.slice aoa_9 na_9 capa_9) p_8) (r : Store × Ptr × Int) (hx : store_Raw p_1 p_5 p_6 p_7 p_8 = some r) :
  Does Try.prog 58 #[.agg #[.slice aoa_2 na_2 capa_2, .slice aoa_3 na_3 capa_3, .slice aoa_4 na_4 capa_4, .int .u32 (p_1.Epoch.toNat : Int), .int .u32 (p_1.Count.toNat : Int)], .int .u32 (p_5.toNat : Int), .int .u32 (p_6.toNat : Int), .int .u32 (p_7.toNat : Int), .slice aoa_9 na_9 capa_9] [] H (fun u K' H' => ∃ ao0 : Option Addr, ∃ n0 : Nat, ∃ cap0 : Nat, ∃ ao1 : Option Addr, ∃ n1 : Nat, ∃ cap1 : Nat, ∃ K1 : Own, ∃ ao2 : Option Addr, ∃ n2 : Nat, ∃ cap2 : Nat, ∃ K2 : Own, u = .tuple #[.agg #[.slice ao0 n0 cap0, .slice ao1 n1 cap1, .slice ao2 n2 cap2, .int .u32 (r.1.Epoch.toNat : Int), .int .u32 (r.1.Count.toNat : Int)], .agg #[.int .i64 r.2.1.At, .int .u32 (r.2.1.Birth.toNat : Int), .int .u32 (r.2.1.Iv.toNat : Int), .int .u32 (r.2.1.Tag.toNat : Int), .int .u32 (r.2.1.Sum.toNat : Int)], .int .i64 r.2.2] ∧ K' = [K1, K2] ∧ IsSlice (New H H') (RSl RU8 1) 1 (.slice ao0 n0 cap0) r.1.Disk.Blocks ∧ RowOf (New H H') R_Write 0 47 2 (.slice ao1 n1 cap1) r.1.Disk.Waits K1 ∧ (∀ p ∈ K1, p.1 ∉ ids (List.flatten [])) ∧ RowOf (New H H') RU8 0 5 1 (.slice ao2 n2 cap2) r.1.Space K2 ∧ (∀ p ∈ K2, p.1 ∉ ids (List.flatten [])) ∧ True) := by
 refine Does.enterL (vs := [.agg #[.slice aoa_2 na_2 capa_2, .slice aoa_3 na_3 capa_3, .slice aoa_4 na_4 capa_4, .int .u32 (p_1.Epoch.toNat : Int), .int .u32 (p_1.Count.toNat : Int)], .int .u32 (p_5.toNat : Int), .int .u32 (p_6.toNat : Int), .int .u32 (p_7.toNat : Int), .slice aoa_9 na_9 capa_9]) (l := [(0, .agg #[.slice aoa_2 na_2 capa_2, .slice aoa_3 na_3 capa_3, .slice aoa_4 na_4 capa_4, .int .u32 (p_1.Epoch.toNat : Int), .int .u32 (p_1.Count.toNat : Int)]), (1, .int .u32 (p_5.toNat : Int)), (2, .int .u32 (p_6.toNat : Int)), (3, .int .u32 (p_7.toNat : Int)), (4, .slice aoa_9 na_9 capa_9)]) Try.func58 rfl rfl ⟨rfl, rfl, rfl, rfl, rfl, trivial⟩ (fun w hlt => ?_)
 unfold store_Raw at hx
 refine JC.seq (JC.region (JL.box rfl rfl (fun b_10 hb_10 => JL.alloc Z50 rfl (fun b_11 hb_11 => JL.alloc Z28 rfl (fun b_12 hb_12 => JL.val rfl rfl (R.assign rfl) (JL.nil (JN.next (JC.seq (JC.seq (JC.region (JL.val rfl rfl (R.ldoN 2 (vs := [.slice aoa_2 na_2 capa_2, .slice aoa_3 na_3 capa_3, .slice aoa_4 na_4 capa_4, .int .u32 (p_1.Epoch.toNat : Int), .int .u32 (p_1.Count.toNat : Int)]) S50 rfl rfl rfl rfl) ?_)))))))))))
 refine JL.val rfl rfl (R.move rfl) (JL.val rfl rfl (R.move rfl) (JL.bslF (HF := H) (R := (RSl RU8 1)) (ls := [p_8]) (vs := [.slice aoa_9 na_9 capa_9]) U22 I45 rfl rfl (⟨_, _, rfl, rfl, ⟨_, rfl, ha_9⟩, rfl⟩) RSl.one rfl rfl rfl (by simp [maxLen]) rfl (fun vr_13 Kr_13 hr_13 => ?_)))
 obtain ⟨aor_13, capr_13, rfl⟩ := RowOf.val hr_13
 obtain ⟨x_17, hr_18, hx⟩ := bnd_some hx
 refine JL.callL2 (vs := [_, _, _, _]) (v := .int .i64 x_17) E98 rfl rfl (fun H_16 hle_15 hl_14 => Does.mono (store_asked_ok p_1 p_5 256 ([p_8]) _ (IsSlice.mono (RSl.mono RU8.mono) hle_15 ha_2) (IsSlice.mono R_Write.mono hle_15 ha_3) (IsSlice.mono RU8.mono hle_15 ha_4) (Lent.row' 0 hl_14 (RSl.mono RU8.mono) hle_15 rfl hr_13) _ hr_18) (fun _ _ _ h => h.1)) rfl (JL.val rfl rfl (R.assign rfl) (JL.nil (JN.next (JC.seq (JC.region (JL.val rfl rfl (R.move rfl) (JL.val rfl rfl (R.neq_i rfl rfl) (JL.nil (JN.next (JC.condB rfl (fun c_19 => ?_) (fun c_19 => ?_)))))))))))
 ·
  replace hx := cond_t c_19 hx
  refine JC.ret (JN.passR (JN.seg0 (JN.seg0 (JN.outP (vs := [.agg #[.slice none 0 0, .slice none 0 0, .slice none 0 0, .int .u32 ((0 : UInt32).toNat : Int), .int .u32 ((0 : UInt32).toNat : Int)], .agg #[.int .i64 0, .int .u32 ((0 : UInt32).toNat : Int), .int .u32 ((0 : UInt32).toNat : Int), .int .u32 ((0 : UInt32).toNat : Int), .int .u32 ((0 : UInt32).toNat : Int)], .int .i64 x_17]) (K := [_, _]) (rst := [_, _, _, _]) (.inl rfl) rfl rfl (Res.cellN 4 rfl rfl S50 (Res.cellN 3 rfl rfl S28 (Res.tmp rfl rfl))) (picks 0 rfl (picks 0 rfl picks0)) ?_))))
  obtain rfl := Option.some.inj hx
  exact ⟨none, 0, 0, none, 0, 0, [], none, 0, 0, [], rfl, rfl, (IsSlice.nil _ _ _), (RowOf.nil _ _ _ _ _), (fun p hp => by cases hp), (RowOf.nil _ _ _ _ _), (fun p hp => by cases hp), trivial⟩
 ·
  replace hx := cond_f c_19 hx
  refine JC.skip (JN.next (JC.seq (JC.region (JL.val rfl rfl (R.ldoN 3 (vs := [.slice aoa_2 na_2 capa_2, .slice aoa_3 na_3 capa_3, .slice aoa_4 na_4 capa_4, .int .u32 (p_1.Epoch.toNat : Int), .int .u32 (p_1.Count.toNat : Int)]) S50 rfl rfl rfl rfl) (JL.val rfl rfl (R.move rfl) (JL.val rfl rfl (R.move rfl) (JL.val rfl rfl (R.move rfl) (JL.val rfl rfl (R.bldP (vs := [(1, .int .u32 (p_5.toNat : Int)), (2, .int .u32 (p_6.toNat : Int)), (3, .int .u32 (p_7.toNat : Int))]) (cs := [.int .i64 0, .int .u32 (p_5.toNat : Int), .int .u32 (p_6.toNat : Int), .int .u32 (p_7.toNat : Int), .int .u32 ((0 : UInt32).toNat : Int)]) Z28 B28 rfl rfl rfl) (JL.val rfl rfl (R.move rfl) ?_)))))))))
  obtain ⟨x_20, hr_21, hx⟩ := bnd_some hx
  refine JL.callC (vs := [_, _, _]) (args := [_, _, _]) (K := []) (rst := [_, _, _, _]) E99 rfl rfl rfl picks0 (store_put_ok p_1 (Ptr.mk 0 p_5 p_6 p_7 (0 : UInt32)) p_8 _ ha_2 ha_3 ha_4 ha_9 _ hr_21) rfl (fun u_22 Ku_22 Hu_22 hRu_22 hleu_22 hfu_22 => ?_)
  obtain ⟨aoz_23, nz_23, capz_23, aor_24, nr_24, capr_24, Kr_24, aor_25, nr_25, capr_25, Kr_25, rfl, rfl, hz_23, hr_24, hnewr_24, hr_25, hnewr_25, -⟩ := hRu_22
  replace hr_24 := (RowOf.base (RowOf.mono R_Write.mono (New.call (Hle.refl _)) hr_24) (fun p hp => (hfu_22 p (mem_seg 0 rfl hp)).resolve_left (hnewr_24 p hp)))
  replace hr_25 := (RowOf.base (RowOf.const (H2 := New H Hu_22) RU8.const hr_25) (fun p hp => (hfu_22 p (mem_seg 1 rfl hp)).resolve_left (hnewr_25 p hp)))
  replace hz_23 := IsSlice.mono (RSl.mono RU8.mono) (New.call (Hle.refl _)) hz_23
  refine JL.val rfl rfl (R.extract rfl rfl) (JL.val rfl rfl (R.extract rfl rfl) (JL.val rfl rfl (R.extract rfl rfl) (JL.store 4 S50 rfl rfl rfl rfl rfl (Nat.le_of_ble_eq_true rfl) (JL.store 3 S28 rfl rfl rfl rfl rfl (Nat.le_of_ble_eq_true rfl) (JL.val rfl rfl (R.assign rfl) (JL.nil (JN.next (JC.ret (JN.outP (vs := [.agg #[.slice aoz_23 nz_23 capz_23, .slice aor_24 nr_24 capr_24, .slice aor_25 nr_25 capr_25, .int .u32 (x_20.1.Epoch.toNat : Int), .int .u32 (x_20.1.Count.toNat : Int)], .agg #[.int .i64 x_20.2.1.At, .int .u32 (x_20.2.1.Birth.toNat : Int), .int .u32 (x_20.2.1.Iv.toNat : Int), .int .u32 (x_20.2.1.Tag.toNat : Int), .int .u32 (x_20.2.1.Sum.toNat : Int)], .int .i64 x_20.2.2]) (K := [_, _]) (rst := [_, _, _, _]) (.inl rfl) rfl rfl (Res.cellN 4 rfl rfl S50 (Res.cellN 3 rfl rfl S28 (Res.tmp rfl rfl))) (picks 0 rfl (picks 0 rfl picks0)) ?_)))))))))
  obtain rfl := Option.some.inj hx
  exact ⟨aoz_23, nz_23, capz_23, aor_24, nr_24, capr_24, Kr_24, aor_25, nr_25, capr_25, Kr_25, rfl, rfl, hz_23, (RowOf.weak (Nat.zero_le _) hr_24), (new_ids hr_24 hlt), (RowOf.weak (Nat.zero_le _) hr_25), (new_ids hr_25 hlt), trivial⟩

set_option maxHeartbeats 8000000 in
theorem store_Lay_ok (p_1 : Store) (p_5 : UInt32) (p_6 : List UInt8) (H : Heaplet) {aoa_2 : Option Addr} {na_2 : Nat} {capa_2 : Nat} {aoa_3 : Option Addr} {na_3 : Nat} {capa_3 : Nat} {aoa_4 : Option Addr} {na_4 : Nat} {capa_4 : Nat} {aoa_7 : Option Addr} {na_7 : Nat} {capa_7 : Nat} (ha_2 : IsSlice H (RSl RU8 1) 1 (.slice aoa_2 na_2 capa_2) p_1.Disk.Blocks) (ha_3 : IsSlice H R_Write 2 (.slice aoa_3 na_3 capa_3) p_1.Disk.Waits) (ha_4 : IsSlice H RU8 1 (.slice aoa_4 na_4 capa_4) p_1.Space) (ha_7 : IsSlice H RU8 1 (.slice aoa_7 na_7 capa_7) p_6) (r : Store × Ptr × Int) (hx : store_Lay p_1 p_5 p_6 = some r) :
  Does Try.prog 27 #[.agg #[.slice aoa_2 na_2 capa_2, .slice aoa_3 na_3 capa_3, .slice aoa_4 na_4 capa_4, .int .u32 (p_1.Epoch.toNat : Int), .int .u32 (p_1.Count.toNat : Int)], .int .u32 (p_5.toNat : Int), .slice aoa_7 na_7 capa_7] [] H (fun u K' H' => ∃ ao0 : Option Addr, ∃ n0 : Nat, ∃ cap0 : Nat, ∃ ao1 : Option Addr, ∃ n1 : Nat, ∃ cap1 : Nat, ∃ K1 : Own, ∃ ao2 : Option Addr, ∃ n2 : Nat, ∃ cap2 : Nat, ∃ K2 : Own, u = .tuple #[.agg #[.slice ao0 n0 cap0, .slice ao1 n1 cap1, .slice ao2 n2 cap2, .int .u32 (r.1.Epoch.toNat : Int), .int .u32 (r.1.Count.toNat : Int)], .agg #[.int .i64 r.2.1.At, .int .u32 (r.2.1.Birth.toNat : Int), .int .u32 (r.2.1.Iv.toNat : Int), .int .u32 (r.2.1.Tag.toNat : Int), .int .u32 (r.2.1.Sum.toNat : Int)], .int .i64 r.2.2] ∧ K' = [K1, K2] ∧ IsSlice (New H H') (RSl RU8 1) 1 (.slice ao0 n0 cap0) r.1.Disk.Blocks ∧ RowOf (New H H') R_Write 0 47 2 (.slice ao1 n1 cap1) r.1.Disk.Waits K1 ∧ (∀ p ∈ K1, p.1 ∉ ids (List.flatten [])) ∧ RowOf (New H H') RU8 0 5 1 (.slice ao2 n2 cap2) r.1.Space K2 ∧ (∀ p ∈ K2, p.1 ∉ ids (List.flatten [])) ∧ True) := by
 refine Does.enterL (vs := [.agg #[.slice aoa_2 na_2 capa_2, .slice aoa_3 na_3 capa_3, .slice aoa_4 na_4 capa_4, .int .u32 (p_1.Epoch.toNat : Int), .int .u32 (p_1.Count.toNat : Int)], .int .u32 (p_5.toNat : Int), .slice aoa_7 na_7 capa_7]) (l := [(0, .agg #[.slice aoa_2 na_2 capa_2, .slice aoa_3 na_3 capa_3, .slice aoa_4 na_4 capa_4, .int .u32 (p_1.Epoch.toNat : Int), .int .u32 (p_1.Count.toNat : Int)]), (1, .int .u32 (p_5.toNat : Int)), (2, .slice aoa_7 na_7 capa_7)]) Try.func27 rfl rfl ⟨rfl, rfl, rfl, trivial⟩ (fun w hlt => ?_)
 unfold store_Lay at hx
 refine JC.seq (JC.region (JL.box rfl rfl (fun b_8 hb_8 => JL.alloc Z50 rfl (fun b_9 hb_9 => JL.alloc Z28 rfl (fun b_10 hb_10 => JL.val rfl rfl (R.assign rfl) (JL.nil (JN.next (JC.seq (JC.region (JL.val rfl rfl (R.ldoN 2 (vs := [.slice aoa_2 na_2 capa_2, .slice aoa_3 na_3 capa_3, .slice aoa_4 na_4 capa_4, .int .u32 (p_1.Epoch.toNat : Int), .int .u32 (p_1.Count.toNat : Int)]) S50 rfl rfl rfl rfl) (JL.val rfl rfl (R.move rfl) ?_)))))))))))
 refine JL.val rfl rfl (R.move rfl) ?_
 obtain ⟨x_11, hr_12, hx⟩ := bnd_some hx
 refine JL.callC (vs := [_, _, _, _, _]) (args := [_, _, _, _, _]) (K := []) (rst := [_, _, _]) E58 rfl rfl rfl picks0 (store_Raw_ok p_1 p_5 (0 : UInt32) (0 : UInt32) p_6 _ ha_2 ha_3 ha_4 ha_7 _ hr_12) rfl (fun u_13 Ku_13 Hu_13 hRu_13 hleu_13 hfu_13 => ?_)
 obtain ⟨aoz_14, nz_14, capz_14, aor_15, nr_15, capr_15, Kr_15, aor_16, nr_16, capr_16, Kr_16, rfl, rfl, hz_14, hr_15, hnewr_15, hr_16, hnewr_16, -⟩ := hRu_13
 replace hr_15 := (RowOf.base (RowOf.mono R_Write.mono (New.call (Hle.refl _)) hr_15) (fun p hp => (hfu_13 p (mem_seg 0 rfl hp)).resolve_left (hnewr_15 p hp)))
 replace hr_16 := (RowOf.base (RowOf.const (H2 := New H Hu_13) RU8.const hr_16) (fun p hp => (hfu_13 p (mem_seg 1 rfl hp)).resolve_left (hnewr_16 p hp)))
 replace hz_14 := IsSlice.mono (RSl.mono RU8.mono) (New.call (Hle.refl _)) hz_14
 refine JL.val rfl rfl (R.extract rfl rfl) (JL.val rfl rfl (R.extract rfl rfl) (JL.val rfl rfl (R.extract rfl rfl) (JL.store 3 S50 rfl rfl rfl rfl rfl (Nat.le_of_ble_eq_true rfl) (JL.store 2 S28 rfl rfl rfl rfl rfl (Nat.le_of_ble_eq_true rfl) (JL.val rfl rfl (R.assign rfl) (JL.nil (JN.next (JC.ret (JN.outP (vs := [.agg #[.slice aoz_14 nz_14 capz_14, .slice aor_15 nr_15 capr_15, .slice aor_16 nr_16 capr_16, .int .u32 (x_11.1.Epoch.toNat : Int), .int .u32 (x_11.1.Count.toNat : Int)], .agg #[.int .i64 x_11.2.1.At, .int .u32 (x_11.2.1.Birth.toNat : Int), .int .u32 (x_11.2.1.Iv.toNat : Int), .int .u32 (x_11.2.1.Tag.toNat : Int), .int .u32 (x_11.2.1.Sum.toNat : Int)], .int .i64 x_11.2.2]) (K := [_, _]) (rst := [_, _, _]) (.inl rfl) rfl rfl (Res.cellN 3 rfl rfl S50 (Res.cellN 2 rfl rfl S28 (Res.tmp rfl rfl))) (picks 0 rfl (picks 0 rfl picks0)) ?_)))))))))
 obtain rfl := Option.some.inj hx
 exact ⟨aoz_14, nz_14, capz_14, aor_15, nr_15, capr_15, Kr_15, aor_16, nr_16, capr_16, Kr_16, rfl, rfl, hz_14, (RowOf.weak (Nat.zero_le _) hr_15), (new_ids hr_15 hlt), (RowOf.weak (Nat.zero_le _) hr_16), (new_ids hr_16 hlt), trivial⟩

set_option maxHeartbeats 8000000 in
theorem obj_Check_1_ok (p_1 : Int) (p_2 : Int) (p_3 : Int) (H : Heaplet) (r : Bool) (hx : obj_Check_1 p_1 p_2 p_3 = some r) :
  Does Try.prog 133 #[.int .i64 p_1, .int .i64 p_2, .int .i64 p_3] [] H (fun u K' H' => u = .bool r ∧ K' = [] ∧ H = H' ∧ True) := by
 refine Does.enterL (vs := [.int .i64 p_1, .int .i64 p_2, .int .i64 p_3]) (l := [(0, .int .i64 p_1), (1, .int .i64 p_2), (2, .int .i64 p_3)]) Try.func133 rfl rfl ⟨rfl, rfl, rfl, trivial⟩ (fun w hlt => ?_)
 unfold obj_Check_1 at hx
 refine JC.seq (JC.region (JL.val rfl rfl (R.assign rfl) (JL.nil (JN.next (JC.seq ?_)))))
 obtain ⟨t_4, ht_6, hx⟩ := bnd_some hx
 refine JC.cut (fun l o g => l = [(6, .bool t_4)] ∧ o = [] ∧ H = g) ?_ ?_
 ·
  rintro _ _ _ ⟨rfl, rfl, rfl⟩
  refine JN.next (JC.ret (JN.outP (vs := [.bool t_4]) (K := []) (rst := []) (.inl rfl) rfl rfl (Res.tmp rfl rfl) picks0 ?_))
  obtain rfl := Option.some.inj hx
  exact ⟨rfl, rfl, rfl, trivial⟩
 ·
  have hxo_5 := hx; clear hx; have hx := ht_6; clear ht_6
  refine JC.region (JL.val rfl rfl (R.move rfl) (JL.val rfl rfl (R.move rfl) (JL.val rfl rfl (R.geq_i rfl rfl) (JL.val rfl rfl (R.move rfl) (JL.gSplit (t := 10) rfl (fun c_7 => ?_) (fun c_7 => ?_))))))
  ·
   replace hx := cond_t c_7 hx
   refine JL.gYes rfl rfl rfl (JL.val rfl rfl (R.move rfl) (JL.gYes rfl rfl rfl (JL.val rfl rfl (R.move rfl) (JL.gYes rfl rfl rfl (JL.val rfl rfl (R.leq_i rfl rfl) (JL.val rfl rfl (R.pickT rfl rfl) (JL.val rfl rfl (R.assign rfl) (JL.nil ?_))))))))
   obtain rfl := Option.some.inj hx
   exact JN.cut ⟨rfl, rfl, rfl⟩ ⟨rfl, trivial⟩ rfl rfl
  ·
   replace hx := cond_f c_7 hx
   refine JL.gNo rfl rfl rfl rfl rfl (JL.gNo rfl rfl rfl rfl rfl (JL.gNo rfl rfl rfl rfl rfl (JL.val rfl rfl (R.pickF rfl rfl) (JL.val rfl rfl (R.assign rfl) (JL.nil ?_)))))
   obtain rfl := Option.some.inj hx
   exact JN.cut ⟨rfl, rfl, rfl⟩ ⟨rfl, trivial⟩ rfl rfl

set_option maxHeartbeats 8000000 in
theorem ptr_Check_ok (p_1 : Ptr) (H : Heaplet) (r : Int) (hx : ptr_Check p_1 = some r) :
  Does Try.prog 49 #[.agg #[.int .i64 p_1.At, .int .u32 (p_1.Birth.toNat : Int), .int .u32 (p_1.Iv.toNat : Int), .int .u32 (p_1.Tag.toNat : Int), .int .u32 (p_1.Sum.toNat : Int)]] [] H (fun u K' H' => u = .int .i64 r ∧ K' = [] ∧ H = H' ∧ True) := by
 refine Does.enterL (vs := [.agg #[.int .i64 p_1.At, .int .u32 (p_1.Birth.toNat : Int), .int .u32 (p_1.Iv.toNat : Int), .int .u32 (p_1.Tag.toNat : Int), .int .u32 (p_1.Sum.toNat : Int)]]) (l := [(0, .agg #[.int .i64 p_1.At, .int .u32 (p_1.Birth.toNat : Int), .int .u32 (p_1.Iv.toNat : Int), .int .u32 (p_1.Tag.toNat : Int), .int .u32 (p_1.Sum.toNat : Int)])]) Try.func49 rfl rfl ⟨rfl, trivial⟩ (fun w hlt => ?_)
 unfold ptr_Check at hx
 refine JC.seq (JC.region (JL.box rfl rfl (fun b_2 hb_2 => JL.val rfl rfl (R.assign rfl) (JL.nil (JN.next (JC.seq (JC.seq (JC.region (JL.val rfl rfl (R.ldoN 0 (vs := [.int .i64 p_1.At, .int .u32 (p_1.Birth.toNat : Int), .int .u32 (p_1.Iv.toNat : Int), .int .u32 (p_1.Tag.toNat : Int), .int .u32 (p_1.Sum.toNat : Int)]) S28 rfl rfl rfl rfl) (JL.val rfl rfl (R.bldP (vs := []) (cs := [.int .i64 0, .int .u32 ((0 : UInt32).toNat : Int), .int .u32 ((0 : UInt32).toNat : Int), .int .u32 ((0 : UInt32).toNat : Int), .int .u32 ((0 : UInt32).toNat : Int)]) Z28 B28 rfl rfl rfl) (JL.val rfl rfl (R.eqlAgg QU28 QP28 QG28 QF28 rfl rfl (EqF.i (by decide) S3 U3 rfl rfl (EqF.u32 (a := p_1.Birth) (b := (0 : UInt32)) (by decide) S26 U26 rfl rfl (EqF.u32 (a := p_1.Iv) (b := (0 : UInt32)) (by decide) S26 U26 rfl rfl (EqF.u32 (a := p_1.Tag) (b := (0 : UInt32)) (by decide) S26 U26 rfl rfl (EqF.u32 (a := p_1.Sum) (b := (0 : UInt32)) (by decide) S26 U26 rfl rfl EqF.nil)))))) ?_)))))))))))
 refine JL.nil (JN.next (JC.condB rfl (fun c_3 => ?_) (fun c_3 => ?_)))
 ·
  replace hx := cond_t c_3 hx
  refine JC.seq (JC.region (JL.val rfl rfl (R.assign rfl) (JL.nil (JN.next (JC.ret (JN.passR (JN.outP (vs := [.int .i64 0]) (K := []) (rst := [_]) (.inl rfl) rfl rfl (Res.tmp rfl rfl) picks0 ?_)))))))
  obtain rfl := Option.some.inj hx
  exact ⟨rfl, rfl, rfl, trivial⟩
 ·
  replace hx := cond_f c_3 hx
  refine JC.skip (JN.next (JC.seq (JC.seq (JC.region (JL.val rfl rfl (R.fa F28_0 rfl) (JL.val rfl rfl (R.ldo 0 S3 rfl rfl rfl) (JL.val rfl rfl (R.lss_i rfl rfl) (JL.val rfl rfl (R.move rfl) (JL.gSplit (t := 9) rfl (fun c_4 => ?_) (fun c_4 => ?_))))))))))
  ·
   replace hx := cond_t c_4 hx
   refine JL.gNo rfl rfl rfl rfl rfl (JL.gNo rfl rfl rfl rfl rfl (JL.gNo rfl rfl rfl rfl rfl (JL.val rfl rfl (R.pickT rfl rfl) (JL.val rfl rfl (R.move rfl) (JL.gNo rfl rfl rfl rfl rfl (JL.gNo rfl rfl rfl rfl rfl (JL.gNo rfl rfl rfl rfl rfl (JL.val rfl rfl (R.pickT rfl rfl) (JL.val rfl rfl (R.move rfl) (JL.gNo rfl rfl rfl rfl rfl (JL.gNo rfl rfl rfl rfl rfl ?_)))))))))))
   refine JL.gNo rfl rfl rfl rfl rfl (JL.val rfl rfl (R.pickT rfl rfl) (JL.nil (JN.next (JC.condT rfl (JC.seq (JC.region (JL.val rfl rfl (R.assign rfl) (JL.nil (JN.next (JC.ret (JN.passR ?_)))))))))))
   refine JN.outP (vs := [.int .i64 8]) (K := []) (rst := [_]) (.inl rfl) rfl rfl (Res.tmp rfl rfl) picks0 ?_
   obtain rfl := Option.some.inj hx
   exact ⟨rfl, rfl, rfl, trivial⟩
  ·
   replace hx := cond_f c_4 hx
   refine JL.gYes rfl rfl rfl (JL.val rfl rfl (R.fa F28_0 rfl) (JL.gYes rfl rfl rfl (JL.val rfl rfl (R.ldo 0 S3 rfl rfl rfl) (JL.gYes rfl rfl rfl (JL.val rfl rfl (R.geq_i rfl rfl) (JL.val rfl rfl (R.pickF rfl rfl) (JL.val rfl rfl (R.move rfl) (JL.gSplit (t := 14) rfl (fun c_5 => ?_) (fun c_5 => ?_)))))))))
   ·
    replace hx := cond_t c_5 hx
    refine JL.gNo rfl rfl rfl rfl rfl (JL.gNo rfl rfl rfl rfl rfl (JL.gNo rfl rfl rfl rfl rfl (JL.val rfl rfl (R.pickT rfl rfl) (JL.val rfl rfl (R.move rfl) (JL.gNo rfl rfl rfl rfl rfl (JL.gNo rfl rfl rfl rfl rfl (JL.gNo rfl rfl rfl rfl rfl (JL.val rfl rfl (R.pickT rfl rfl) (JL.nil (JN.next (JC.condT rfl ?_)))))))))))
    refine JC.seq (JC.region (JL.val rfl rfl (R.assign rfl) (JL.nil (JN.next (JC.ret (JN.passR (JN.outP (vs := [.int .i64 8]) (K := []) (rst := [_]) (.inl rfl) rfl rfl (Res.tmp rfl rfl) picks0 ?_)))))))
    obtain rfl := Option.some.inj hx
    exact ⟨rfl, rfl, rfl, trivial⟩
   ·
    replace hx := cond_f c_5 hx
    refine JL.gYes rfl rfl rfl (JL.val rfl rfl (R.fa F28_1 rfl) (JL.gYes rfl rfl rfl (JL.val rfl rfl (R.ldo 0 S26 rfl rfl rfl) (JL.gYes rfl rfl rfl (JL.val rfl rfl (R.lss32 (a := p_1.Birth) (b := (1 : UInt32)) rfl rfl) (JL.val rfl rfl (R.pickF rfl rfl) (JL.val rfl rfl (R.move rfl) (JL.gSplit (t := 19) rfl (fun c_6 => ?_) (fun c_6 => ?_)))))))))
    ·
     replace hx := cond_t c_6 hx
     refine JL.gNo rfl rfl rfl rfl rfl (JL.gNo rfl rfl rfl rfl rfl (JL.gNo rfl rfl rfl rfl rfl (JL.val rfl rfl (R.pickT rfl rfl) (JL.nil (JN.next (JC.condT rfl (JC.seq (JC.region (JL.val rfl rfl (R.assign rfl) (JL.nil (JN.next ?_)))))))))))
     refine JC.ret (JN.passR (JN.outP (vs := [.int .i64 8]) (K := []) (rst := [_]) (.inl rfl) rfl rfl (Res.tmp rfl rfl) picks0 ?_))
     obtain rfl := Option.some.inj hx
     exact ⟨rfl, rfl, rfl, trivial⟩
    ·
     replace hx := cond_f c_6 hx
     refine JL.gYes rfl rfl rfl (JL.val rfl rfl (R.fa F28_1 rfl) (JL.gYes rfl rfl rfl (JL.val rfl rfl (R.ldo 0 S26 rfl rfl rfl) (JL.gYes rfl rfl rfl (JL.val rfl rfl (R.gtr32 (a := p_1.Birth) (b := (16777215 : UInt32)) rfl rfl) (JL.val rfl rfl (R.pickF rfl rfl) (JL.nil (JN.next (JC.condB rfl (fun c_7 => ?_) (fun c_7 => ?_))))))))))
     ·
      replace hx := cond_t c_7 hx
      refine JC.seq (JC.region (JL.val rfl rfl (R.assign rfl) (JL.nil (JN.next (JC.ret (JN.passR (JN.outP (vs := [.int .i64 8]) (K := []) (rst := [_]) (.inl rfl) rfl rfl (Res.tmp rfl rfl) picks0 ?_)))))))
      obtain rfl := Option.some.inj hx
      exact ⟨rfl, rfl, rfl, trivial⟩
     ·
      replace hx := cond_f c_7 hx
      refine JC.skip (JN.next (JC.seq (JC.region (JL.val rfl rfl (R.assign rfl) (JL.nil (JN.next (JC.ret (JN.outP (vs := [.int .i64 0]) (K := []) (rst := [_]) (.inl rfl) rfl rfl (Res.tmp rfl rfl) picks0 ?_))))))))
      obtain rfl := Option.some.inj hx
      exact ⟨rfl, rfl, rfl, trivial⟩

set_option maxHeartbeats 8000000 in
theorem obj_Check_2_ok (p_1 : Ptr) (H : Heaplet) (r : Bool) (hx : obj_Check_2 p_1 = some r) :
  Does Try.prog 134 #[.agg #[.int .i64 p_1.At, .int .u32 (p_1.Birth.toNat : Int), .int .u32 (p_1.Iv.toNat : Int), .int .u32 (p_1.Tag.toNat : Int), .int .u32 (p_1.Sum.toNat : Int)]] [] H (fun u K' H' => u = .bool r ∧ K' = [] ∧ H = H' ∧ True) := by
 refine Does.enterL (vs := [.agg #[.int .i64 p_1.At, .int .u32 (p_1.Birth.toNat : Int), .int .u32 (p_1.Iv.toNat : Int), .int .u32 (p_1.Tag.toNat : Int), .int .u32 (p_1.Sum.toNat : Int)]]) (l := [(0, .agg #[.int .i64 p_1.At, .int .u32 (p_1.Birth.toNat : Int), .int .u32 (p_1.Iv.toNat : Int), .int .u32 (p_1.Tag.toNat : Int), .int .u32 (p_1.Sum.toNat : Int)])]) Try.func134 rfl rfl ⟨rfl, trivial⟩ (fun w hlt => ?_)
 unfold obj_Check_2 at hx
 refine JC.seq (JC.region (JL.box rfl rfl (fun b_2 hb_2 => JL.val rfl rfl (R.assign rfl) (JL.nil (JN.next (JC.seq (JC.region (JL.val rfl rfl (R.ldoN 0 (vs := [.int .i64 p_1.At, .int .u32 (p_1.Birth.toNat : Int), .int .u32 (p_1.Iv.toNat : Int), .int .u32 (p_1.Tag.toNat : Int), .int .u32 (p_1.Sum.toNat : Int)]) S28 rfl rfl rfl rfl) ?_))))))))
 obtain ⟨x_3, hr_4, hx⟩ := bnd_some hx
 refine JL.callC (vs := [_]) (args := [_]) (K := []) (rst := [_]) E49 rfl rfl rfl picks0 (ptr_Check_ok p_1 _ _ hr_4) rfl (fun u_5 Ku_5 Hu_5 hRu_5 hleu_5 hfu_5 => ?_)
 obtain ⟨rfl, rfl, rfl, -⟩ := hRu_5
 refine JL.val rfl rfl (R.neq_i rfl rfl) (JL.val rfl rfl (R.assign rfl) (JL.nil (JN.next (JC.ret (JN.outP (vs := [.bool (!decide (x_3 = 0))]) (K := []) (rst := [_]) (.inl rfl) rfl rfl (Res.tmp rfl rfl) picks0 ?_)))))
 obtain rfl := Option.some.inj hx
 exact ⟨rfl, rfl, rfl, trivial⟩

set_option maxHeartbeats 8000000 in
theorem slices_IndexFunc_Ptr_ok (p_1 : List Ptr) (H : Heaplet) {aoa_2 : Option Addr} {na_2 : Nat} {capa_2 : Nat} (ha_2 : IsSlice H R_Ptr 5 (.slice aoa_2 na_2 capa_2) p_1) (r : Int) (hx : slices_IndexFunc_Ptr p_1 = some r) :
  Does Try.prog 158 #[.slice aoa_2 na_2 capa_2, .func (.func 134) #[] #[]] [] H (fun u K' H' => u = .int .i64 r ∧ K' = [] ∧ H = H' ∧ True) := by
 refine Does.enterL (vs := [.slice aoa_2 na_2 capa_2, .func (.func 134) #[] #[]]) (l := [(0, .slice aoa_2 na_2 capa_2), (1, .func (.func 134) #[] #[])]) Try.func158 rfl rfl ⟨rfl, rfl, trivial⟩ (fun w hlt => ?_)
 unfold slices_IndexFunc_Ptr at hx
 refine JC.seq (JC.region (JL.val rfl rfl (R.assign rfl) (JL.nil (JN.next (JC.seq (JC.seq (JC.region (JL.val rfl rfl (R.move rfl) (JL.val rfl rfl (R.lenL U53 rfl (IsSlice.long ha_2)) (JL.val rfl rfl (R.move rfl) (JL.nil ?_)))))))))))
 refine JN.next ?_
 obtain ⟨t_3, ht_5, hx⟩ := bnd_some hx
 refine JC.cut (fun l o g => ∃ t_3a : Unit, l = [] ∧ o = [] ∧ H = g ∧ t_3 = .inl t_3a) ?_ ?_
 ·
  rintro _ _ _ ⟨t_3a, rfl, rfl, rfl, rfl⟩
  simp only [Sum.elim_inl] at hx
  refine JN.next (JC.seq (JC.region (JL.val rfl rfl (R.assign rfl) (JL.nil (JN.next (JC.ret (JN.outP (vs := [.int .i64 (-1)]) (K := []) (rst := []) (.inl rfl) rfl rfl (Res.tmp rfl rfl) picks0 ?_)))))))
  obtain rfl := Option.some.inj hx
  exact ⟨rfl, rfl, rfl, trivial⟩
 ·
  have hxo_4 := hx; clear hx; have hx := ht_5; clear ht_5
  refine JC.block (JC.loopI (fun n l o g => ∃ s_6 : Nat, l = [(0, .slice aoa_2 na_2 capa_2), (1, .func (.func 134) #[] #[]), (7, .int .i64 (p_1.length : Int)), (8, .int .i64 ((s_6 : Nat) : Int))] ∧ o = [] ∧ H = g ∧ run (slices_IndexFunc_Ptr_l1 p_1) n s_6 = some t_3) FUEL ?_ ⟨0, rfl, rfl, rfl, hx⟩ ⟨rfl, rfl, rfl, rfl, trivial⟩ ?_)
  ·
   rintro _ _ _ ⟨s_6, rfl, rfl, rfl, hn_7⟩
   exact run_zero hn_7
  ·
   rintro n_8 _ _ _ ⟨s_6, rfl, rfl, rfl, hn_7⟩
   clear hx; obtain ⟨oo_10, hx, hd_9⟩ := run_some hn_7
   unfold slices_IndexFunc_Ptr_l1 at hx
   refine JC.seq (JC.region (JL.val rfl rfl (R.lss_i rfl rfl) (JL.nil (JN.next (JC.seq (JC.condB rfl (fun c_9 => ?_) (fun c_9 => ?_)))))))
   ·
    replace hx := cond_t c_9 hx
    refine JC.skip (JN.next (JC.seq (JC.block (JC.seq (JC.region (JL.val rfl rfl (R.move rfl) (JL.val rfl rfl (R.assign rfl) (JL.nil (JN.next (JC.seq (JC.region ?_)))))))))))
    refine JL.val rfl rfl (R.move rfl) (JL.val rfl rfl (R.move rfl) (JL.val rfl rfl (R.move rfl) ?_))
    obtain ⟨y_10, hN_11, hx⟩ := idx_some hx
    obtain ⟨b_12, o_13, cs_14, hE_15, hR_16, hl_17, hc_18⟩ := IsSlice.elem ha_2 hN_11
    obtain rfl := hR_16
    refine JL.val rfl rfl (R.ix U53 S28 rfl rfl hE_15) (JL.val rfl rfl (R.ldHE (cs := [.int .i64 y_10.At, .int .u32 (y_10.Birth.toNat : Int), .int .u32 (y_10.Iv.toNat : Int), .int .u32 (y_10.Tag.toNat : Int), .int .u32 (y_10.Sum.toNat : Int)]) (k := 0) (vs := [.int .i64 y_10.At, .int .u32 (y_10.Birth.toNat : Int), .int .u32 (y_10.Iv.toNat : Int), .int .u32 (y_10.Tag.toNat : Int), .int .u32 (y_10.Sum.toNat : Int)]) S28 rfl hc_18 rfl rfl) ?_)
    obtain ⟨x_19, hr_20, hx⟩ := bnd_some hx
    refine JL.callC (vs := [_]) (args := [_]) (K := []) (rst := []) E134 rfl rfl rfl picks0 (obj_Check_2_ok y_10 _ _ hr_20) rfl (fun u_21 Ku_21 Hu_21 hRu_21 hleu_21 hfu_21 => ?_)
    obtain ⟨rfl, rfl, rfl, -⟩ := hRu_21
    refine JL.nil (JN.next (JC.condB rfl (fun c_22 => ?_) (fun c_22 => ?_)))
    ·
     replace hx := cond_t c_22 hx
     refine JC.seq (JC.region (JL.val rfl rfl (R.move rfl) (JL.val rfl rfl (R.assign rfl) (JL.nil (JN.next (JC.ret (JN.blkR (JN.passR ?_))))))))
     obtain rfl := run_done hd_9 hx
     refine JN.passR (JN.blkR ?_)
     clear hx; have hx := hxo_4
     simp only [Sum.elim_inl, Sum.elim_inr] at hx
     refine JN.passR (JN.passR (JN.outP (vs := [.int .i64 ((s_6 : Nat) : Int)]) (K := []) (rst := []) (.inl rfl) rfl rfl (Res.tmp rfl rfl) picks0 ?_))
     obtain rfl := Option.some.inj hx
     exact ⟨rfl, rfl, rfl, trivial⟩
    ·
     replace hx := cond_f c_22 hx
     refine JC.skip (JN.blkN (JN.next (JC.region (JL.val rfl rfl (R.inc rfl rfl (of_decide_eq_true c_9) (IsSlice.lenI ha_2)) (JL.val rfl rfl (R.move rfl) (JL.nil ?_))))))
     replace hx := run_next hd_9 hx
     exact JN.cut ⟨s_6 + 1, rfl, rfl, rfl, hx⟩ ⟨rfl, rfl, rfl, rfl, trivial⟩ rfl rfl
   ·
    replace hx := cond_f c_9 hx
    refine JC.exit (JN.passX ?_)
    obtain rfl := run_done hd_9 hx
    refine JN.passX (JN.exitSame ?_)
    exact JN.cut ⟨(), rfl, rfl, rfl, rfl⟩ trivial rfl rfl

set_option maxHeartbeats 8000000 in
theorem slices_ContainsFunc_Ptr_ok (p_1 : List Ptr) (H : Heaplet) {aoa_2 : Option Addr} {na_2 : Nat} {capa_2 : Nat} (ha_2 : IsSlice H R_Ptr 5 (.slice aoa_2 na_2 capa_2) p_1) (r : Bool) (hx : slices_ContainsFunc_Ptr p_1 = some r) :
  Does Try.prog 135 #[.slice aoa_2 na_2 capa_2, .func (.func 134) #[] #[]] [] H (fun u K' H' => u = .bool r ∧ K' = [] ∧ H = H' ∧ True) := by
 refine Does.enterL (vs := [.slice aoa_2 na_2 capa_2, .func (.func 134) #[] #[]]) (l := [(0, .slice aoa_2 na_2 capa_2), (1, .func (.func 134) #[] #[])]) Try.func135 rfl rfl ⟨rfl, rfl, trivial⟩ (fun w hlt => ?_)
 unfold slices_ContainsFunc_Ptr at hx
 refine JC.seq (JC.region (JL.val rfl rfl (R.assign rfl) (JL.nil (JN.next (JC.seq (JC.region (JL.val rfl rfl (R.move rfl) (JL.val rfl rfl (R.move rfl) ?_))))))))
 obtain ⟨x_3, hr_4, hx⟩ := bnd_some hx
 refine JL.callC (vs := [_, _]) (args := [_, _]) (K := []) (rst := []) E158 rfl rfl rfl picks0 (slices_IndexFunc_Ptr_ok p_1 _ ha_2 _ hr_4) rfl (fun u_5 Ku_5 Hu_5 hRu_5 hleu_5 hfu_5 => ?_)
 obtain ⟨rfl, rfl, rfl, -⟩ := hRu_5
 refine JL.val rfl rfl (R.geq_i rfl rfl) (JL.val rfl rfl (R.assign rfl) (JL.nil (JN.next (JC.ret (JN.outP (vs := [.bool (decide (0 ≤ x_3))]) (K := []) (rst := []) (.inl rfl) rfl rfl (Res.tmp rfl rfl) picks0 ?_)))))
 obtain rfl := Option.some.inj hx
 exact ⟨rfl, rfl, rfl, trivial⟩

set_option maxHeartbeats 8000000 in
theorem obj_Check_ok (p_1 : Object) (H : Heaplet) {aoa_2 : Option Addr} {na_2 : Nat} {capa_2 : Nat} (ha_2 : IsSlice H R_Ptr 5 (.slice aoa_2 na_2 capa_2) p_1.Data) (r : Int) (hx : obj_Check p_1 = some r) :
  Does Try.prog 93 #[.agg #[.int .u8 (p_1.Kind.toNat : Int), .int .i64 p_1.Links, .int .i64 p_1.Size, .slice aoa_2 na_2 capa_2]] [] H (fun u K' H' => u = .int .i64 r ∧ K' = [] ∧ H = H' ∧ True) := by
 refine Does.enterL (vs := [.agg #[.int .u8 (p_1.Kind.toNat : Int), .int .i64 p_1.Links, .int .i64 p_1.Size, .slice aoa_2 na_2 capa_2]]) (l := [(0, .agg #[.int .u8 (p_1.Kind.toNat : Int), .int .i64 p_1.Links, .int .i64 p_1.Size, .slice aoa_2 na_2 capa_2])]) Try.func93 rfl rfl ⟨rfl, trivial⟩ (fun w hlt => ?_)
 unfold obj_Check at hx
 refine JC.seq (JC.region (JL.box rfl rfl (fun b_3 hb_3 => JL.val rfl rfl (R.assign rfl) (JL.nil (JN.next (JC.seq (JC.region (JL.val rfl rfl (R.assign rfl) (JL.nil (JN.next (JC.seq ?_)))))))))))
 refine JC.region (JL.val rfl rfl (R.assign rfl) (JL.nil (JN.next (JC.seq (JC.seq (JC.region (JL.val rfl rfl (R.move rfl) (JL.val rfl rfl (R.fa F60_0 rfl) (JL.val rfl rfl (R.ldo 0 S5 rfl rfl rfl) (JL.val rfl rfl (R.cv_u8_i64 (a := p_1.Kind) U5 U3 rfl) ?_))))))))))
 obtain ⟨x_4, hr_5, hx⟩ := bnd_some hx
 refine JL.callC (vs := [_, _, _]) (args := [_, _, _]) (K := []) (rst := [_]) E133 rfl rfl rfl picks0 (obj_Check_1_ok (p_1.Kind.toNat : Int) 1 7 _ _ hr_5) rfl (fun u_6 Ku_6 Hu_6 hRu_6 hleu_6 hfu_6 => ?_)
 obtain ⟨rfl, rfl, rfl, -⟩ := hRu_6
 refine JL.val rfl rfl (R.not rfl) (JL.val rfl rfl (R.move rfl) (JL.gSplit (t := 11) rfl (fun c_7 => ?_) (fun c_7 => ?_)))
 ·
  replace hx := cond_t c_7 hx
  refine JL.gNo rfl rfl rfl rfl rfl (JL.gNo rfl rfl rfl rfl rfl (JL.gNo rfl rfl rfl rfl rfl (JL.gNo rfl rfl rfl rfl rfl (JL.gNo rfl rfl rfl rfl rfl (JL.val rfl rfl (R.pickT rfl rfl) (JL.val rfl rfl (R.move rfl) (JL.gNo rfl rfl rfl rfl rfl (JL.gNo rfl rfl rfl rfl rfl (JL.gNo rfl rfl rfl rfl rfl (JL.gNo rfl rfl rfl rfl rfl (JL.gNo rfl rfl rfl rfl rfl ?_)))))))))))
  refine JL.val rfl rfl (R.pickT rfl rfl) (JL.val rfl rfl (R.move rfl) (JL.gNo rfl rfl rfl rfl rfl (JL.gNo rfl rfl rfl rfl rfl (JL.gNo rfl rfl rfl rfl rfl (JL.gNo rfl rfl rfl rfl rfl (JL.val rfl rfl (R.pickT rfl rfl) (JL.val rfl rfl (R.move rfl) (JL.gNo rfl rfl rfl rfl rfl (JL.gNo rfl rfl rfl rfl rfl (JL.gNo rfl rfl rfl rfl rfl (JL.gNo rfl rfl rfl rfl rfl ?_)))))))))))
  refine JL.val rfl rfl (R.pickT rfl rfl) (JL.nil (JN.next (JC.condT rfl (JC.seq (JC.region (JL.val rfl rfl (R.assign rfl) (JL.nil (JN.next (JC.ret (JN.passR (JN.outP (vs := [.int .i64 8]) (K := []) (rst := [_]) (.inl rfl) rfl rfl (Res.tmp rfl rfl) picks0 ?_)))))))))))
  obtain rfl := Option.some.inj hx
  exact ⟨rfl, rfl, rfl, trivial⟩
 ·
  replace hx := cond_f c_7 hx
  refine JL.gYes rfl rfl rfl (JL.val rfl rfl (R.move rfl) (JL.gYes rfl rfl rfl (JL.val rfl rfl (R.fa F60_1 rfl) (JL.gYes rfl rfl rfl (JL.val rfl rfl (R.ldo 0 S3 rfl rfl rfl) (JL.gYes rfl rfl rfl ?_))))))
  obtain ⟨x_8, hr_9, hx⟩ := bnd_some hx
  refine JL.callC (vs := [_, _, _]) (args := [_, _, _]) (K := []) (rst := [_]) E133 rfl rfl rfl picks0 (obj_Check_1_ok p_1.Links 0 255 _ _ hr_9) rfl (fun u_10 Ku_10 Hu_10 hRu_10 hleu_10 hfu_10 => ?_)
  obtain ⟨rfl, rfl, rfl, -⟩ := hRu_10
  refine JL.gYes rfl rfl rfl (JL.val rfl rfl (R.not rfl) (JL.val rfl rfl (R.pickF rfl rfl) (JL.val rfl rfl (R.move rfl) (JL.gSplit (t := 18) rfl (fun c_11 => ?_) (fun c_11 => ?_)))))
  ·
   replace hx := cond_t c_11 hx
   refine JL.gNo rfl rfl rfl rfl rfl (JL.gNo rfl rfl rfl rfl rfl (JL.gNo rfl rfl rfl rfl rfl (JL.gNo rfl rfl rfl rfl rfl (JL.gNo rfl rfl rfl rfl rfl (JL.val rfl rfl (R.pickT rfl rfl) (JL.val rfl rfl (R.move rfl) (JL.gNo rfl rfl rfl rfl rfl (JL.gNo rfl rfl rfl rfl rfl (JL.gNo rfl rfl rfl rfl rfl (JL.gNo rfl rfl rfl rfl rfl (JL.val rfl rfl (R.pickT rfl rfl) ?_)))))))))))
   refine JL.val rfl rfl (R.move rfl) (JL.gNo rfl rfl rfl rfl rfl (JL.gNo rfl rfl rfl rfl rfl (JL.gNo rfl rfl rfl rfl rfl (JL.gNo rfl rfl rfl rfl rfl (JL.val rfl rfl (R.pickT rfl rfl) (JL.nil (JN.next (JC.condT rfl (JC.seq (JC.region (JL.val rfl rfl (R.assign rfl) ?_)))))))))))
   refine JL.nil (JN.next (JC.ret (JN.passR (JN.outP (vs := [.int .i64 8]) (K := []) (rst := [_]) (.inl rfl) rfl rfl (Res.tmp rfl rfl) picks0 ?_))))
   obtain rfl := Option.some.inj hx
   exact ⟨rfl, rfl, rfl, trivial⟩
  ·
   replace hx := cond_f c_11 hx
   refine JL.gYes rfl rfl rfl (JL.val rfl rfl (R.move rfl) (JL.gYes rfl rfl rfl (JL.val rfl rfl (R.fa F60_2 rfl) (JL.gYes rfl rfl rfl (JL.val rfl rfl (R.ldo 0 S3 rfl rfl rfl) (JL.gYes rfl rfl rfl ?_))))))
   obtain ⟨x_12, hr_13, hx⟩ := bnd_some hx
   refine JL.callC (vs := [_, _, _]) (args := [_, _, _]) (K := []) (rst := [_]) E133 rfl rfl rfl picks0 (obj_Check_1_ok p_1.Size 0 3840 _ _ hr_13) rfl (fun u_14 Ku_14 Hu_14 hRu_14 hleu_14 hfu_14 => ?_)
   obtain ⟨rfl, rfl, rfl, -⟩ := hRu_14
   refine JL.gYes rfl rfl rfl (JL.val rfl rfl (R.not rfl) (JL.val rfl rfl (R.pickF rfl rfl) (JL.val rfl rfl (R.move rfl) (JL.gSplit (t := 25) rfl (fun c_15 => ?_) (fun c_15 => ?_)))))
   ·
    replace hx := cond_t c_15 hx
    refine JL.gNo rfl rfl rfl rfl rfl (JL.gNo rfl rfl rfl rfl rfl (JL.gNo rfl rfl rfl rfl rfl (JL.gNo rfl rfl rfl rfl rfl (JL.val rfl rfl (R.pickT rfl rfl) (JL.val rfl rfl (R.move rfl) (JL.gNo rfl rfl rfl rfl rfl (JL.gNo rfl rfl rfl rfl rfl (JL.gNo rfl rfl rfl rfl rfl (JL.gNo rfl rfl rfl rfl rfl (JL.val rfl rfl (R.pickT rfl rfl) (JL.nil ?_)))))))))))
    refine JN.next (JC.condT rfl (JC.seq (JC.region (JL.val rfl rfl (R.assign rfl) (JL.nil (JN.next (JC.ret (JN.passR (JN.outP (vs := [.int .i64 8]) (K := []) (rst := [_]) (.inl rfl) rfl rfl (Res.tmp rfl rfl) picks0 ?_)))))))))
    obtain rfl := Option.some.inj hx
    exact ⟨rfl, rfl, rfl, trivial⟩
   ·
    replace hx := cond_f c_15 hx
    refine JL.gYes rfl rfl rfl (JL.val rfl rfl (R.fa F60_3 rfl) (JL.gYes rfl rfl rfl (JL.val rfl rfl (R.ldo 0 S53 rfl rfl rfl) (JL.gYes rfl rfl rfl (JL.val rfl rfl (R.lenL U53 rfl (IsSlice.long ha_2)) (JL.gYes rfl rfl rfl (JL.val rfl rfl (R.neq_i rfl rfl) (JL.val rfl rfl (R.pickF rfl rfl) (JL.val rfl rfl (R.move rfl) (JL.gSplit (t := 31) rfl (fun c_16 => ?_) (fun c_16 => ?_)))))))))))
    ·
     replace hx := cond_t c_16 hx
     refine JL.gNo rfl rfl rfl rfl rfl (JL.gNo rfl rfl rfl rfl rfl (JL.gNo rfl rfl rfl rfl rfl (JL.gNo rfl rfl rfl rfl rfl (JL.val rfl rfl (R.pickT rfl rfl) (JL.nil (JN.next (JC.condT rfl (JC.seq (JC.region (JL.val rfl rfl (R.assign rfl) (JL.nil ?_)))))))))))
     refine JN.next (JC.ret (JN.passR (JN.outP (vs := [.int .i64 8]) (K := []) (rst := [_]) (.inl rfl) rfl rfl (Res.tmp rfl rfl) picks0 ?_)))
     obtain rfl := Option.some.inj hx
     exact ⟨rfl, rfl, rfl, trivial⟩
    ·
     replace hx := cond_f c_16 hx
     refine JL.gYes rfl rfl rfl (JL.val rfl rfl (R.fa F60_3 rfl) (JL.gYes rfl rfl rfl (JL.val rfl rfl (R.ldo 0 S53 rfl rfl rfl) (JL.gYes rfl rfl rfl (JL.val rfl rfl (R.move rfl) (JL.gYes rfl rfl rfl ?_))))))
     obtain ⟨x_17, hr_18, hx⟩ := bnd_some hx
     refine JL.callC (vs := [_, _]) (args := [_, _]) (K := []) (rst := [_]) E135 rfl rfl rfl picks0 (slices_ContainsFunc_Ptr_ok p_1.Data _ ha_2 _ hr_18) rfl (fun u_19 Ku_19 Hu_19 hRu_19 hleu_19 hfu_19 => ?_)
     obtain ⟨rfl, rfl, rfl, -⟩ := hRu_19
     refine JL.val rfl rfl (R.pickF rfl rfl) (JL.nil (JN.next (JC.condB rfl (fun c_20 => ?_) (fun c_20 => ?_))))
     ·
      replace hx := cond_t c_20 hx
      refine JC.seq (JC.region (JL.val rfl rfl (R.assign rfl) (JL.nil (JN.next (JC.ret (JN.passR (JN.outP (vs := [.int .i64 8]) (K := []) (rst := [_]) (.inl rfl) rfl rfl (Res.tmp rfl rfl) picks0 ?_)))))))
      obtain rfl := Option.some.inj hx
      exact ⟨rfl, rfl, rfl, trivial⟩
     ·
      replace hx := cond_f c_20 hx
      refine JC.skip (JN.next (JC.seq (JC.region (JL.val rfl rfl (R.assign rfl) (JL.nil (JN.next (JC.ret (JN.outP (vs := [.int .i64 0]) (K := []) (rst := [_]) (.inl rfl) rfl rfl (Res.tmp rfl rfl) picks0 ?_))))))))
      obtain rfl := Option.some.inj hx
      exact ⟨rfl, rfl, rfl, trivial⟩

set_option maxHeartbeats 8000000 in
theorem code_Put_ok (p_1 : Int) (p_2 : Int) (H : Heaplet) (r : List UInt8 × Int) (hx : code_Put p_1 p_2 = some r) :
  Does Try.prog 72 #[.int .i64 p_1, .int .i64 p_2] [] H (fun u K' H' => ∃ ao0 : Option Addr, ∃ n0 : Nat, ∃ cap0 : Nat, ∃ K0 : Own, u = .tuple #[.slice ao0 n0 cap0, .int .i64 r.2] ∧ K' = [K0] ∧ H = H' ∧ RowOf (New H H) RU8 0 5 1 (.slice ao0 n0 cap0) r.1 K0 ∧ (∀ p ∈ K0, p.1 ∉ ids (List.flatten [])) ∧ True) := by
 refine Does.enterL (vs := [.int .i64 p_1, .int .i64 p_2]) (l := [(0, .int .i64 p_1), (1, .int .i64 p_2)]) Try.func72 rfl rfl ⟨rfl, rfl, trivial⟩ (fun w hlt => ?_)
 unfold code_Put at hx
 refine JC.seq (JC.region (JL.val rfl rfl (R.assign rfl) (JL.val rfl rfl (R.assign rfl) (JL.nil (JN.next (JC.seq (JC.seq (JC.region (JL.val rfl rfl (R.move rfl) ?_)))))))))
 obtain ⟨x_3, hr_4, hx⟩ := bnd_some hx
 refine JL.callC (vs := [_]) (args := [_]) (K := []) (rst := []) E111 rfl rfl rfl picks0 (code_sized_ok p_2 _ _ hr_4) rfl (fun u_5 Ku_5 Hu_5 hRu_5 hleu_5 hfu_5 => ?_)
 obtain ⟨rfl, rfl, rfl, -⟩ := hRu_5
 refine JL.val rfl rfl (R.not rfl) (JL.val rfl rfl (R.move rfl) (JL.gSplit (t := 10) rfl (fun c_6 => ?_) (fun c_6 => ?_)))
 ·
  replace hx := cond_t c_6 hx
  refine JL.gNo rfl rfl rfl rfl rfl (JL.gNo rfl rfl rfl rfl rfl (JL.val rfl rfl (R.pickT rfl rfl) (JL.val rfl rfl (R.move rfl) (JL.gNo rfl rfl rfl rfl rfl (JL.gNo rfl rfl rfl rfl rfl (JL.gNo rfl rfl rfl rfl rfl (JL.gNo rfl rfl rfl rfl rfl (JL.gNo rfl rfl rfl rfl rfl (JL.val rfl rfl (R.pickT rfl rfl) (JL.nil (JN.next ?_)))))))))))
  refine JC.condT rfl (JC.seq (JC.region (JL.val rfl rfl (R.assign rfl) (JL.val rfl rfl (R.assign rfl) (JL.nil (JN.next (JC.ret (JN.passR (JN.seg0 (JN.outP (vs := [.slice none 0 0, .int .i64 2]) (K := [_]) (rst := []) (.inl rfl) rfl rfl (Res.tmp rfl (Res.tmp rfl rfl)) (picks 0 rfl picks0) ?_))))))))))
  obtain rfl := Option.some.inj hx
  exact ⟨none, 0, 0, [], rfl, rfl, rfl, (RowOf.nil _ _ _ _ _), (fun p hp => by cases hp), trivial⟩
 ·
  replace hx := cond_f c_6 hx
  refine JL.gYes rfl rfl rfl (JL.val rfl rfl (R.move rfl) (JL.gYes rfl rfl rfl (JL.val rfl rfl (R.lss_i rfl rfl) (JL.val rfl rfl (R.pickF rfl rfl) (JL.val rfl rfl (R.move rfl) (JL.gSplit (t := 14) rfl (fun c_7 => ?_) (fun c_7 => ?_)))))))
  ·
   replace hx := cond_t c_7 hx
   refine JL.gNo rfl rfl rfl rfl rfl (JL.gNo rfl rfl rfl rfl rfl (JL.gNo rfl rfl rfl rfl rfl (JL.gNo rfl rfl rfl rfl rfl (JL.gNo rfl rfl rfl rfl rfl (JL.val rfl rfl (R.pickT rfl rfl) (JL.nil (JN.next (JC.condT rfl (JC.seq (JC.region (JL.val rfl rfl (R.assign rfl) ?_)))))))))))
   refine JL.val rfl rfl (R.assign rfl) (JL.nil (JN.next (JC.ret (JN.passR (JN.seg0 (JN.outP (vs := [.slice none 0 0, .int .i64 2]) (K := [_]) (rst := []) (.inl rfl) rfl rfl (Res.tmp rfl (Res.tmp rfl rfl)) (picks 0 rfl picks0) ?_))))))
   obtain rfl := Option.some.inj hx
   exact ⟨none, 0, 0, [], rfl, rfl, rfl, (RowOf.nil _ _ _ _ _), (fun p hp => by cases hp), trivial⟩
  ·
   replace hx := cond_f c_7 hx
   refine JL.gYes rfl rfl rfl (JL.val rfl rfl (R.move rfl) (JL.gYes rfl rfl rfl (JL.val rfl rfl (R.move rfl) (JL.gYes rfl rfl rfl (JL.val rfl rfl (R.mul_i rfl rfl) (JL.gYes rfl rfl rfl ?_))))))
   obtain ⟨hz_8, hx⟩ := chk_some hx
   refine JL.val rfl rfl (R.shl_i (n := (w64 (8 * p_2))) rfl rfl hz_8) (JL.gYes rfl rfl rfl (JL.val rfl rfl (R.geq_i rfl rfl) (JL.val rfl rfl (R.pickF rfl rfl) (JL.nil (JN.next (JC.condB rfl (fun c_9 => ?_) (fun c_9 => ?_)))))))
   ·
    replace hx := cond_t c_9 hx
    refine JC.seq (JC.region (JL.val rfl rfl (R.assign rfl) (JL.val rfl rfl (R.assign rfl) (JL.nil (JN.next (JC.ret (JN.passR (JN.seg0 (JN.outP (vs := [.slice none 0 0, .int .i64 2]) (K := [_]) (rst := []) (.inl rfl) rfl rfl (Res.tmp rfl (Res.tmp rfl rfl)) (picks 0 rfl picks0) ?_)))))))))
    obtain rfl := Option.some.inj hx
    exact ⟨none, 0, 0, [], rfl, rfl, rfl, (RowOf.nil _ _ _ _ _), (fun p hp => by cases hp), trivial⟩
   ·
    replace hx := cond_f c_9 hx
    refine JC.skip (JN.next (JC.seq (JC.region (JL.val rfl rfl (R.assign rfl) (JL.nil (JN.next (JC.seq ?_)))))))
    obtain ⟨t_10, ht_12, hx⟩ := bnd_some hx
    refine JC.cut (fun l o g => ∃ aor_17 : Option Addr, ∃ nr_17 : Nat, ∃ capr_17 : Nat, ∃ Kr_17 : Own, l = [(6, .slice aor_17 nr_17 capr_17)] ∧ o = [Kr_17] ∧ H = g ∧ RowOf (New H H) RU8 w.heap.size 5 1 (.slice aor_17 nr_17 capr_17) t_10 Kr_17) ?_ ?_
    ·
     rintro _ _ _ ⟨aor_17, nr_17, capr_17, Kr_17, rfl, rfl, rfl, hr_17⟩
     refine JN.next (JC.seq (JC.region (JL.val rfl rfl (R.move rfl) (JL.val rfl rfl (R.assign rfl) (JL.val rfl rfl (R.assign rfl) (JL.nil (JN.next (JC.ret (JN.outP (vs := [.slice aor_17 nr_17 capr_17, .int .i64 0]) (K := [_]) (rst := []) (.inl rfl) rfl rfl (Res.tmp rfl (Res.tmp rfl rfl)) (picks 0 rfl picks0) ?_)))))))))
     obtain rfl := Option.some.inj hx
     exact ⟨aor_17, nr_17, capr_17, Kr_17, rfl, rfl, rfl, (RowOf.weak (Nat.zero_le _) hr_17), (new_ids hr_17 hlt), trivial⟩
    ·
     have hxo_11 := hx; clear hx; have hx := ht_12; clear ht_12
     refine JC.block (JC.seg0 (JC.loopI (fun n l o g => ∃ s_13 : Int × List UInt8, ∃ aor_16 : Option Addr, ∃ nr_16 : Nat, ∃ capr_16 : Nat, ∃ Kr_16 : Own, l = [(0, .int .i64 s_13.1), (1, .int .i64 p_2), (6, .slice aor_16 nr_16 capr_16)] ∧ o = [Kr_16] ∧ H = g ∧ run (code_Put_l1 p_2) n s_13 = some t_10 ∧ RowOf (New H H) RU8 w.heap.size 5 1 (.slice aor_16 nr_16 capr_16) s_13.2 Kr_16) FUEL ?_ ⟨(p_1, ([] : List UInt8)), none, 0, 0, [], rfl, rfl, rfl, hx, (RowOf.nil _ _ _ _ _)⟩ ⟨rfl, rfl, rfl, trivial⟩ ?_))
     ·
      rintro _ _ _ ⟨s_13, aor_16, nr_16, capr_16, Kr_16, rfl, rfl, rfl, hn_14, hr_16⟩
      exact run_zero hn_14
     ·
      rintro n_15 _ _ _ ⟨s_13, aor_16, nr_16, capr_16, Kr_16, rfl, rfl, rfl, hn_14, hr_16⟩
      clear hx; obtain ⟨oo_18, hx, hd_17⟩ := run_some hn_14
      unfold code_Put_l1 at hx
      refine JC.seq (JC.seq (JC.region (JL.val rfl rfl (R.move rfl) (JL.val rfl rfl (R.lenL U45 rfl (RowOf.long hr_16)) (JL.val rfl rfl (R.move rfl) (JL.val rfl rfl (R.lss_i rfl rfl) (JL.nil (JN.next (JC.condB rfl (fun c_17 => ?_) (fun c_17 => ?_))))))))))
      ·
       replace hx := cond_t c_17 hx
       refine JC.skip (JN.next (JC.seq (JC.block (JC.region (JL.val rfl rfl (R.move rfl) (JL.val rfl rfl (R.move rfl) (JL.val rfl rfl (R.cv_i64_u8 U3 U5 rfl) (JL.bslF (HF := (New H H)) (R := RU8) (ls := [u8i s_13.1]) (vs := [.int .u8 ((u8i s_13.1).toNat : Int)]) U45 I5 rfl rfl (⟨_, _, rfl, rfl, rfl, rfl⟩) RU8.one rfl rfl rfl (by simp [maxLen]) rfl (fun vr_18 Kr_18 hr_18 => ?_)))))))))
       obtain ⟨aor_18, capr_18, rfl⟩ := RowOf.val hr_18
       obtain ⟨q_19, hm_20, hl_21, hx⟩ := app_some hx
       refine JL.appF (HF := (New H H)) 1 U45 I5 rfl rfl hr_16 rfl (SrcF.row 0 U45 rfl hr_18) hm_20 hl_21 rfl (Nat.le_refl _) rfl (fun vr_22 Kr_22 hr_22 => ?_)
       obtain ⟨aor_22, capr_22, rfl⟩ := RowOf.val hr_22
       refine JL.val rfl rfl (R.assign rfl) (JL.nil (JN.blkN (JN.next (JC.region (JL.val rfl rfl (R.move rfl) (JL.val rfl rfl (R.quo_i rfl rfl (by decide)) (JL.val rfl rfl (R.assign rfl) (JL.nil ?_))))))))
       replace hx := run_next hd_17 hx
       refine JN.forget 0 ?_
       exact JN.cut ⟨(w64 (s_13.1.tdiv 256), q_19), aor_22, q_19.length, capr_22, Kr_22, rfl, rfl, rfl, hx, hr_22⟩ ⟨rfl, rfl, rfl, trivial⟩ rfl rfl
      ·
       replace hx := cond_f c_17 hx
       refine JC.exit (JN.passX ?_)
       obtain rfl := run_done hd_17 hx
       refine JN.passX (JN.exitSame ?_)
       exact JN.cut ⟨aor_16, nr_16, capr_16, Kr_16, rfl, rfl, rfl, hr_16⟩ ⟨rfl, trivial⟩ rfl rfl

set_option maxHeartbeats 8000000 in
theorem ptr_sizes_ok (H : Heaplet) (r : A5 Int) (hx : ptr_sizes = some r) :
  Does Try.prog 112 #[] [] H (fun u K' H' => u = .agg #[.int .i64 r.e0, .int .i64 r.e1, .int .i64 r.e2, .int .i64 r.e3, .int .i64 r.e4] ∧ K' = [] ∧ H = H' ∧ True) := by
 refine Does.enterL (vs := []) (l := []) Try.func112 rfl rfl trivial (fun w hlt => ?_)
 unfold ptr_sizes at hx
 refine JC.seq (JC.region (JL.alloc Z158 rfl (fun b_1 hb_1 => JL.nil (JN.next (JC.seq (JC.region (JL.val rfl rfl (R.bldA (vs := [(0, .int .i64 1), (1, .int .i64 3), (2, .int .i64 4), (3, .int .i64 4), (4, .int .i64 4)]) (cells := #[.int .i64 1, .int .i64 3, .int .i64 4, .int .i64 4, .int .i64 4]) Z158 B158 rfl rfl rfl rfl) (JL.store 0 S158 rfl rfl rfl rfl rfl (Nat.le_of_ble_eq_true rfl) (JL.nil (JN.next (JC.ret ?_)))))))))))
 refine JN.outP (vs := [.agg #[.int .i64 1, .int .i64 3, .int .i64 4, .int .i64 4, .int .i64 4]]) (K := []) (rst := [_]) (.inl rfl) rfl rfl (Res.cellN 0 rfl rfl S158 rfl) picks0 ?_
 obtain rfl := Option.some.inj hx
 exact ⟨rfl, rfl, rfl, trivial⟩

set_option maxHeartbeats 8000000 in
theorem ptr_Write_ok (p_1 : Ptr) (H : Heaplet) (r : List UInt8 × Int) (hx : ptr_Write p_1 = some r) :
  Does Try.prog 73 #[.agg #[.int .i64 p_1.At, .int .u32 (p_1.Birth.toNat : Int), .int .u32 (p_1.Iv.toNat : Int), .int .u32 (p_1.Tag.toNat : Int), .int .u32 (p_1.Sum.toNat : Int)]] [] H (fun u K' H' => ∃ ao0 : Option Addr, ∃ n0 : Nat, ∃ cap0 : Nat, ∃ K0 : Own, u = .tuple #[.slice ao0 n0 cap0, .int .i64 r.2] ∧ K' = [K0] ∧ H = H' ∧ RowOf (New H H) RU8 0 5 1 (.slice ao0 n0 cap0) r.1 K0 ∧ (∀ p ∈ K0, p.1 ∉ ids (List.flatten [])) ∧ True) := by
 refine Does.enterL (vs := [.agg #[.int .i64 p_1.At, .int .u32 (p_1.Birth.toNat : Int), .int .u32 (p_1.Iv.toNat : Int), .int .u32 (p_1.Tag.toNat : Int), .int .u32 (p_1.Sum.toNat : Int)]]) (l := [(0, .agg #[.int .i64 p_1.At, .int .u32 (p_1.Birth.toNat : Int), .int .u32 (p_1.Iv.toNat : Int), .int .u32 (p_1.Tag.toNat : Int), .int .u32 (p_1.Sum.toNat : Int)])]) Try.func73 rfl rfl ⟨rfl, trivial⟩ (fun w hlt => ?_)
 unfold ptr_Write at hx
 refine JC.seq (JC.region (JL.box rfl rfl (fun b_2 hb_2 => JL.val rfl rfl (R.assign rfl) (JL.val rfl rfl (R.assign rfl) (JL.nil (JN.next (JC.seq (JC.seq (JC.region (JL.val rfl rfl (R.ldoN 0 (vs := [.int .i64 p_1.At, .int .u32 (p_1.Birth.toNat : Int), .int .u32 (p_1.Iv.toNat : Int), .int .u32 (p_1.Tag.toNat : Int), .int .u32 (p_1.Sum.toNat : Int)]) S28 rfl rfl rfl rfl) ?_))))))))))
 obtain ⟨x_3, hr_4, hx⟩ := bnd_some hx
 refine JL.callC (vs := [_]) (args := [_]) (K := []) (rst := [_]) E49 rfl rfl rfl picks0 (ptr_Check_ok p_1 _ _ hr_4) rfl (fun u_5 Ku_5 Hu_5 hRu_5 hleu_5 hfu_5 => ?_)
 obtain ⟨rfl, rfl, rfl, -⟩ := hRu_5
 refine JL.val rfl rfl (R.assign rfl) (JL.nil (JN.next (JC.seq (JC.region (JL.val rfl rfl (R.move rfl) (JL.val rfl rfl (R.neq_i rfl rfl) (JL.nil (JN.next (JC.condB rfl (fun c_6 => ?_) (fun c_6 => ?_))))))))))
 ·
  replace hx := cond_t c_6 hx
  refine JC.seq (JC.region (JL.val rfl rfl (R.move rfl) (JL.val rfl rfl (R.assign rfl) (JL.val rfl rfl (R.assign rfl) (JL.nil (JN.next (JC.ret (JN.passR (JN.seg0 (JN.outP (vs := [.slice none 0 0, .int .i64 x_3]) (K := [_]) (rst := [_]) (.inl rfl) rfl rfl (Res.tmp rfl (Res.tmp rfl rfl)) (picks 0 rfl picks0) ?_))))))))))
  obtain rfl := Option.some.inj hx
  exact ⟨none, 0, 0, [], rfl, rfl, rfl, (RowOf.nil _ _ _ _ _), (fun p hp => by cases hp), trivial⟩
 ·
  replace hx := cond_f c_6 hx
  refine JC.skip (JN.next (JC.seq (JC.region (JL.val rfl rfl (R.fa F28_0 rfl) (JL.val rfl rfl (R.ldo 0 S3 rfl rfl rfl) (JL.val rfl rfl (R.fa F28_1 rfl) (JL.val rfl rfl (R.ldo 0 S26 rfl rfl rfl) (JL.val rfl rfl (R.cv_u32_i64 (a := p_1.Birth) U26 U3 rfl) (JL.val rfl rfl (R.fa F28_2 rfl) (JL.val rfl rfl (R.ldo 0 S26 rfl rfl rfl) (JL.val rfl rfl (R.cv_u32_i64 (a := p_1.Iv) U26 U3 rfl) ?_)))))))))))
  refine JL.val rfl rfl (R.fa F28_3 rfl) (JL.val rfl rfl (R.ldo 0 S26 rfl rfl rfl) (JL.val rfl rfl (R.cv_u32_i64 (a := p_1.Tag) U26 U3 rfl) (JL.val rfl rfl (R.fa F28_4 rfl) (JL.val rfl rfl (R.ldo 0 S26 rfl rfl rfl) (JL.val rfl rfl (R.cv_u32_i64 (a := p_1.Sum) U26 U3 rfl) (JL.val rfl rfl (R.bldA (vs := [(0, .int .i64 p_1.At), (1, .int .i64 (p_1.Birth.toNat : Int)), (2, .int .i64 (p_1.Iv.toNat : Int)), (3, .int .i64 (p_1.Tag.toNat : Int)), (4, .int .i64 (p_1.Sum.toNat : Int))]) (cells := #[.int .i64 p_1.At, .int .i64 (p_1.Birth.toNat : Int), .int .i64 (p_1.Iv.toNat : Int), .int .i64 (p_1.Tag.toNat : Int), .int .i64 (p_1.Sum.toNat : Int)]) Z158 B158 rfl rfl rfl rfl) (JL.alloc Z158 rfl (fun b_7 hb_7 => JL.store 0 S158 rfl rfl rfl rfl rfl (Nat.le_of_ble_eq_true rfl) (JL.nil (JN.next (JC.seq ?_)))))))))))
  refine JC.seq (JC.region ?_)
  obtain ⟨x_8, hr_9, hx⟩ := bnd_some hx
  refine JL.callC (vs := []) (args := []) (K := []) (rst := [_, _]) E112 rfl rfl rfl picks0 (ptr_sizes_ok _ _ hr_9) rfl (fun u_10 Ku_10 Hu_10 hRu_10 hleu_10 hfu_10 => ?_)
  obtain ⟨rfl, rfl, rfl, -⟩ := hRu_10
  refine JL.val rfl rfl (R.move rfl) (JL.nil (JN.next ?_))
  obtain ⟨t_11, ht_13, hx⟩ := bnd_some hx
  refine JC.cut (fun l o g => ∃ aor_18 : Option Addr, ∃ nr_18 : Nat, ∃ capr_18 : Nat, ∃ Kr_18 : Own, l = [(2, .slice aor_18 nr_18 capr_18)] ∧ o = [Kr_18] ∧ H = g ∧ RowOf (New H H) RU8 w.heap.size 5 1 (.slice aor_18 nr_18 capr_18) t_11 Kr_18) ?_ ?_
  ·
   rintro _ _ _ ⟨aor_18, nr_18, capr_18, Kr_18, rfl, rfl, rfl, hr_18⟩
   refine JN.next (JC.seq (JC.region (JL.val rfl rfl (R.move rfl) (JL.val rfl rfl (R.assign rfl) (JL.val rfl rfl (R.assign rfl) (JL.nil (JN.next (JC.ret (JN.outP (vs := [.slice aor_18 nr_18 capr_18, .int .i64 0]) (K := [_]) (rst := []) (.inl rfl) rfl rfl (Res.tmp rfl (Res.tmp rfl rfl)) (picks 0 rfl picks0) ?_)))))))))
   obtain rfl := Option.some.inj hx
   exact ⟨aor_18, nr_18, capr_18, Kr_18, rfl, rfl, rfl, (RowOf.weak (Nat.zero_le _) hr_18), (new_ids hr_18 hlt), trivial⟩
  ·
   have hxo_12 := hx; clear hx; have hx := ht_13; clear ht_13
   refine JC.block (JC.seg0 (JC.forget 2 (JC.front 1 rfl (JC.front 1 rfl (JC.loopI (fun n l o g => ∃ s_14 : List UInt8 × Nat, ∃ aor_17 : Option Addr, ∃ nr_17 : Nat, ∃ capr_17 : Nat, ∃ Kr_17 : Own, l = [(2, .slice aor_17 nr_17 capr_17), (5, .pointer (some ⟨b_7, 0, none⟩)), (30, .agg #[.int .i64 x_8.e0, .int .i64 x_8.e1, .int .i64 x_8.e2, .int .i64 x_8.e3, .int .i64 x_8.e4]), (31, .int .i64 ((s_14.2 : Nat) : Int))] ∧ o = [Kr_17, [(b_7, .cells #[.int .i64 p_1.At, .int .i64 (p_1.Birth.toNat : Int), .int .i64 (p_1.Iv.toNat : Int), .int .i64 (p_1.Tag.toNat : Int), .int .i64 (p_1.Sum.toNat : Int)] 158 (0, 0))]] ∧ H = g ∧ run (ptr_Write_l1 p_1 x_8) n s_14 = some t_11 ∧ RowOf (New H H) RU8 w.heap.size 5 1 (.slice aor_17 nr_17 capr_17) s_14.1 Kr_17) FUEL ?_ ⟨(([] : List UInt8), 0), none, 0, 0, [], rfl, rfl, rfl, hx, (RowOf.nil _ _ _ _ _)⟩ ⟨rfl, rfl, rfl, rfl, trivial⟩ ?_)))))
   ·
    rintro _ _ _ ⟨s_14, aor_17, nr_17, capr_17, Kr_17, rfl, rfl, rfl, hn_15, hr_17⟩
    exact run_zero hn_15
   ·
    rintro n_16 _ _ _ ⟨s_14, aor_17, nr_17, capr_17, Kr_17, rfl, rfl, rfl, hn_15, hr_17⟩
    clear hx; obtain ⟨oo_19, hx, hd_18⟩ := run_some hn_15
    unfold ptr_Write_l1 at hx
    refine JC.seq (JC.region (JL.val rfl rfl (R.lss_i rfl rfl) (JL.nil (JN.next (JC.seq (JC.condB rfl (fun c_18 => ?_) (fun c_18 => ?_)))))))
    ·
     replace hx := cond_t c_18 hx
     refine JC.skip (JN.next (JC.seq (JC.block (JC.seq (JC.region (JL.val rfl rfl (R.move rfl) ?_))))))
     obtain ⟨y_19, hN_20, hx⟩ := idx_some hx
     refine JL.val rfl rfl (R.idxA (enc := (fun a : Int => Value.int .i64 a)) (L := x_8.l) U158 S3 rfl rfl rfl rfl rfl hN_20) (JL.val rfl rfl (R.assign rfl) (JL.val rfl rfl (R.assign rfl) (JL.nil (JN.next (JC.seq (JC.region (JL.val rfl rfl (R.move rfl) ?_)))))))
     obtain ⟨y_21, hN_22, hx⟩ := idx_some hx
     refine JL.val rfl rfl (R.ixAd (L := (A5.mk p_1.At (p_1.Birth.toNat : Int) (p_1.Iv.toNat : Int) (p_1.Tag.toNat : Int) (p_1.Sum.toNat : Int)).l) U158 S3 rfl rfl rfl hN_22) (JL.val rfl rfl (R.ldoA (enc := (fun a : Int => Value.int .i64 a)) (L := (A5.mk p_1.At (p_1.Birth.toNat : Int) (p_1.Iv.toNat : Int) (p_1.Tag.toNat : Int) (p_1.Sum.toNat : Int)).l) 1 S3 rfl rfl rfl hN_22) (JL.val rfl rfl (R.move rfl) ?_))
     obtain ⟨x_23, hr_24, hx⟩ := bnd_some hx
     refine JL.callC (vs := [_, _]) (args := [_, _]) (K := []) (rst := [_, _]) E72 rfl rfl rfl picks0 (code_Put_ok y_21 y_19 _ _ hr_24) rfl (fun u_25 Ku_25 Hu_25 hRu_25 hleu_25 hfu_25 => ?_)
     obtain ⟨aor_26, nr_26, capr_26, Kr_26, rfl, rfl, rfl, hr_26, hnewr_26, -⟩ := hRu_25
     replace hr_26 := (RowOf.base (RowOf.const (H2 := New H H) RU8.const hr_26) (fun p hp => (hfu_25 p (mem_seg 0 rfl hp)).resolve_left (hnewr_26 p hp)))
     refine JL.val rfl rfl (R.move rfl) (JL.val rfl rfl (R.extract rfl rfl) (JL.val rfl rfl (R.extract rfl rfl) (JL.val rfl rfl (R.assign rfl) (JL.val rfl rfl (R.assign rfl) (JL.nil (JN.next (JC.region (JL.val rfl rfl (R.move rfl) (JL.val rfl rfl (R.move rfl) ?_)))))))))
     obtain ⟨q_27, hm_28, hl_29, hx⟩ := app_some hx
     refine JL.appF (HF := (New H H)) 1 U45 I5 rfl rfl hr_17 rfl (SrcF.row 0 U45 rfl hr_26) hm_28 hl_29 rfl (Nat.le_refl _) rfl (fun vr_30 Kr_30 hr_30 => ?_)
     obtain ⟨aor_30, capr_30, rfl⟩ := RowOf.val hr_30
     refine JL.val rfl rfl (R.assign rfl) (JL.nil (JN.blkN (JN.next (JC.region (JL.val rfl rfl (R.inc rfl rfl (of_decide_eq_true c_18) (by decide)) (JL.val rfl rfl (R.move rfl) (JL.nil ?_)))))))
     replace hx := run_next hd_18 hx
     refine JN.forget 0 (JN.front 1 rfl (JN.front 1 rfl ?_))
     exact JN.cut ⟨(q_27, s_14.2 + 1), aor_30, q_27.length, capr_30, Kr_30, rfl, rfl, rfl, hx, hr_30⟩ ⟨rfl, rfl, rfl, rfl, trivial⟩ rfl rfl
    ·
     replace hx := cond_f c_18 hx
     refine JC.exit (JN.passX ?_)
     obtain rfl := run_done hd_18 hx
     refine JN.passX (JN.exitSame (JN.forget 1 ?_))
     exact JN.cut ⟨aor_17, nr_17, capr_17, Kr_17, rfl, rfl, rfl, hr_17⟩ ⟨rfl, trivial⟩ rfl rfl

set_option maxHeartbeats 8000000 in
theorem ptr_Row_ok (p_1 : List Ptr) (H : Heaplet) {aoa_2 : Option Addr} {na_2 : Nat} {capa_2 : Nat} (ha_2 : IsSlice H R_Ptr 5 (.slice aoa_2 na_2 capa_2) p_1) (r : List UInt8 × Int) (hx : ptr_Row p_1 = some r) :
  Does Try.prog 53 #[.slice aoa_2 na_2 capa_2] [] H (fun u K' H' => ∃ ao0 : Option Addr, ∃ n0 : Nat, ∃ cap0 : Nat, ∃ K0 : Own, u = .tuple #[.slice ao0 n0 cap0, .int .i64 r.2] ∧ K' = [K0] ∧ H = H' ∧ RowOf (New H H) RU8 0 5 1 (.slice ao0 n0 cap0) r.1 K0 ∧ (∀ p ∈ K0, p.1 ∉ ids (List.flatten [])) ∧ True) := by
 refine Does.enterL (vs := [.slice aoa_2 na_2 capa_2]) (l := [(0, .slice aoa_2 na_2 capa_2)]) Try.func53 rfl rfl ⟨rfl, trivial⟩ (fun w hlt => ?_)
 unfold ptr_Row at hx
 refine JC.seq (JC.region (JL.val rfl rfl (R.assign rfl) (JL.val rfl rfl (R.assign rfl) (JL.nil (JN.next (JC.seq (JC.seq (JC.region (JL.val rfl rfl (R.move rfl) (JL.val rfl rfl (R.lenL U53 rfl (IsSlice.long ha_2)) (JL.val rfl rfl (R.gtr_i rfl rfl) ?_)))))))))))
 refine JL.nil (JN.next (JC.condB rfl (fun c_3 => ?_) (fun c_3 => ?_)))
 ·
  replace hx := cond_t c_3 hx
  refine JC.seq (JC.region (JL.val rfl rfl (R.assign rfl) (JL.val rfl rfl (R.assign rfl) (JL.nil (JN.next (JC.ret (JN.passR (JN.seg0 (JN.outP (vs := [.slice none 0 0, .int .i64 4]) (K := [_]) (rst := []) (.inl rfl) rfl rfl (Res.tmp rfl (Res.tmp rfl rfl)) (picks 0 rfl picks0) ?_)))))))))
  obtain rfl := Option.some.inj hx
  exact ⟨none, 0, 0, [], rfl, rfl, rfl, (RowOf.nil _ _ _ _ _), (fun p hp => by cases hp), trivial⟩
 ·
  replace hx := cond_f c_3 hx
  refine JC.skip (JN.next (JC.seq (JC.region (JL.mkS (HF := New H H) (N := 256) U45 I5 rfl rfl (by decide) rfl (fun vr_4 Kr_4 hr_4 spr_4 => ?_)))))
  obtain ⟨aor_4, capr_4, rfl⟩ := RowOf.val hr_4
  refine JL.val rfl rfl (R.assign rfl) (JL.nil (JN.next (JC.seq (JC.seq (JC.region (JL.val rfl rfl (R.move rfl) (JL.val rfl rfl (R.lenL U53 rfl (IsSlice.long ha_2)) (JL.val rfl rfl (R.move rfl) (JL.nil (JN.next ?_))))))))))
  obtain ⟨t_5, ht_7, hx⟩ := bnd_some hx
  refine JC.cut (fun l o g => ∃ t_5a : List UInt8, ∃ aor_12 : Option Addr, ∃ nr_12 : Nat, ∃ capr_12 : Nat, ∃ Kr_12 : Own, l = [(4, .slice aor_12 nr_12 capr_12)] ∧ o = [Kr_12] ∧ H = g ∧ t_5 = .inl t_5a ∧ RowOf (New H H) RU8 w.heap.size 5 1 (.slice aor_12 nr_12 capr_12) t_5a Kr_12 ∧ Spare (.slice aor_12 nr_12 capr_12) Kr_12 256) ?_ ?_
  ·
   rintro _ _ _ ⟨t_5a, aor_12, nr_12, capr_12, Kr_12, rfl, rfl, rfl, rfl, hr_12, spr_12⟩
   simp only [Sum.elim_inl] at hx
   refine JN.next (JC.seq (JC.region (JL.val rfl rfl (R.move rfl) ?_)))
   obtain ⟨m_13, hm_14, hb_15, hx⟩ := extO_some hx
   obtain ⟨gv_16, h1v_16, hsv_16⟩ := RowOf.spare hr_12 spr_12 hm_14 hb_15
   refine JL.val rfl rfl (R.slcS (b := 256) (N := 256) (n := (t_5a).length) U45 S5 rfl ⟨_, rfl⟩ (by omega) h1v_16) (JL.val rfl rfl (R.assign rfl) (JL.val rfl rfl (R.assign rfl) (JL.nil (JN.next (JC.ret (JN.outP (vs := [.slice (some ⟨gv_16, 0, none⟩) ((256 : Int).toNat) 256, .int .i64 0]) (K := [_]) (rst := []) (.inl rfl) rfl rfl (Res.tmp rfl (Res.tmp rfl rfl)) (picks 0 rfl picks0) ?_))))))
   obtain rfl := Option.some.inj hx
   exact ⟨(some ⟨gv_16, 0, none⟩), (256 : Int).toNat, 256, Kr_12, rfl, rfl, rfl, (RowOf.weak (Nat.zero_le _) hsv_16), (new_ids hsv_16 hlt), trivial⟩
  ·
   have hxo_6 := hx; clear hx; have hx := ht_7; clear ht_7
   refine JC.block (JC.loopI (fun n l o g => ∃ s_8 : List UInt8 × Nat, ∃ aor_11 : Option Addr, ∃ nr_11 : Nat, ∃ capr_11 : Nat, ∃ Kr_11 : Own, l = [(4, .slice aor_11 nr_11 capr_11), (13, .slice aoa_2 na_2 capa_2), (14, .int .i64 (p_1.length : Int)), (15, .int .i64 ((s_8.2 : Nat) : Int))] ∧ o = [Kr_11] ∧ H = g ∧ run (ptr_Row_l1 p_1) n s_8 = some t_5 ∧ RowOf (New H H) RU8 w.heap.size 5 1 (.slice aor_11 nr_11 capr_11) s_8.1 Kr_11 ∧ Spare (.slice aor_11 nr_11 capr_11) Kr_11 256) FUEL ?_ ⟨(([] : List UInt8), 0), aor_4, ([] : List UInt8).length, capr_4, Kr_4, rfl, rfl, rfl, hx, hr_4, spr_4⟩ ⟨rfl, rfl, rfl, rfl, trivial⟩ ?_)
   ·
    rintro _ _ _ ⟨s_8, aor_11, nr_11, capr_11, Kr_11, rfl, rfl, rfl, hn_9, hr_11, spr_11⟩
    exact run_zero hn_9
   ·
    rintro n_10 _ _ _ ⟨s_8, aor_11, nr_11, capr_11, Kr_11, rfl, rfl, rfl, hn_9, hr_11, spr_11⟩
    clear hx; obtain ⟨oo_13, hx, hd_12⟩ := run_some hn_9
    unfold ptr_Row_l1 at hx
    refine JC.seq (JC.region (JL.val rfl rfl (R.lss_i rfl rfl) (JL.nil (JN.next (JC.seq (JC.condB rfl (fun c_12 => ?_) (fun c_12 => ?_)))))))
    ·
     replace hx := cond_t c_12 hx
     refine JC.skip (JN.next (JC.seq (JC.block (JC.seq (JC.region ?_)))))
     obtain ⟨y_13, hN_14, hx⟩ := idx_some hx
     obtain ⟨b_15, o_16, cs_17, hE_18, hR_19, hl_20, hc_21⟩ := IsSlice.elem ha_2 hN_14
     obtain rfl := hR_19
     refine JL.val rfl rfl (R.ix U53 S28 rfl rfl hE_18) (JL.val rfl rfl (R.ldHE (cs := [.int .i64 y_13.At, .int .u32 (y_13.Birth.toNat : Int), .int .u32 (y_13.Iv.toNat : Int), .int .u32 (y_13.Tag.toNat : Int), .int .u32 (y_13.Sum.toNat : Int)]) (k := 0) (vs := [.int .i64 y_13.At, .int .u32 (y_13.Birth.toNat : Int), .int .u32 (y_13.Iv.toNat : Int), .int .u32 (y_13.Tag.toNat : Int), .int .u32 (y_13.Sum.toNat : Int)]) S28 rfl hc_21 rfl rfl) (JL.alloc Z28 rfl (fun b_22 hb_22 => JL.store 0 S28 rfl rfl rfl rfl rfl (Nat.le_of_ble_eq_true rfl) (JL.nil (JN.next (JC.seq (JC.region (JL.val rfl rfl (R.ldoN 0 (vs := [.int .i64 y_13.At, .int .u32 (y_13.Birth.toNat : Int), .int .u32 (y_13.Iv.toNat : Int), .int .u32 (y_13.Tag.toNat : Int), .int .u32 (y_13.Sum.toNat : Int)]) S28 rfl rfl rfl rfl) ?_))))))))
     obtain ⟨x_23, hr_24, hx⟩ := bnd_some hx
     refine JL.callC (vs := [_]) (args := [_]) (K := []) (rst := [_, _]) E73 rfl rfl rfl picks0 (ptr_Write_ok y_13 _ _ hr_24) rfl (fun u_25 Ku_25 Hu_25 hRu_25 hleu_25 hfu_25 => ?_)
     obtain ⟨aor_26, nr_26, capr_26, Kr_26, rfl, rfl, rfl, hr_26, hnewr_26, -⟩ := hRu_25
     replace hr_26 := (RowOf.base (RowOf.const (H2 := New H H) RU8.const hr_26) (fun p hp => (hfu_25 p (mem_seg 0 rfl hp)).resolve_left (hnewr_26 p hp)))
     refine JL.val rfl rfl (R.move rfl) (JL.val rfl rfl (R.extract rfl rfl) (JL.val rfl rfl (R.extract rfl rfl) (JL.val rfl rfl (R.assign rfl) (JL.val rfl rfl (R.assign rfl) (JL.nil (JN.next (JC.seq (JC.seq (JC.region (JL.val rfl rfl (R.move rfl) (JL.val rfl rfl (R.neq_i rfl rfl) ?_)))))))))))
     refine JL.nil (JN.next (JC.condB rfl (fun c_27 => ?_) (fun c_27 => ?_)))
     ·
      replace hx := cond_t c_27 hx
      refine JC.seq (JC.region (JL.val rfl rfl (R.move rfl) (JL.val rfl rfl (R.assign rfl) (JL.val rfl rfl (R.assign rfl) (JL.nil (JN.next (JC.ret (JN.passR (JN.blkR (JN.passR ?_))))))))))
      obtain rfl := run_done hd_12 hx
      refine JN.passR (JN.blkR ?_)
      clear hx; have hx := hxo_6
      simp only [Sum.elim_inl, Sum.elim_inr] at hx
      refine JN.passR (JN.passR (JN.seg0 (JN.outP (vs := [.slice none 0 0, .int .i64 x_23.2]) (K := [_]) (rst := [_, _, _]) (.inl rfl) rfl rfl (Res.tmp rfl (Res.tmp rfl rfl)) (picks 0 rfl picks0) ?_)))
      obtain rfl := Option.some.inj hx
      exact ⟨none, 0, 0, [], rfl, rfl, rfl, (RowOf.nil _ _ _ _ _), (fun p hp => by cases hp), trivial⟩
     ·
      replace hx := cond_f c_27 hx
      refine JC.skip (JN.next (JC.region (JL.val rfl rfl (R.move rfl) (JL.val rfl rfl (R.move rfl) ?_))))
      obtain ⟨q_28, hm_29, hl_30, hx⟩ := appN_some hx
      refine JL.appS (HF := (New H H)) 2 U45 I5 rfl rfl hr_11 spr_11 rfl (SrcF.row 0 U45 rfl hr_26) hm_29 hl_30 rfl (fun vr_31 Kr_31 hr_31 spr_31 => ?_)
      obtain ⟨aor_31, capr_31, rfl⟩ := RowOf.val hr_31
      refine JL.val rfl rfl (R.assign rfl) (JL.nil (JN.blkN (JN.next (JC.region (JL.val rfl rfl (R.inc rfl rfl (of_decide_eq_true c_12) (IsSlice.lenI ha_2)) (JL.val rfl rfl (R.move rfl) (JL.nil ?_)))))))
      replace hx := run_next hd_12 hx
      refine JN.forget 1 (JN.forget 0 ?_)
      exact JN.cut ⟨(q_28, s_8.2 + 1), aor_31, q_28.length, capr_31, Kr_31, rfl, rfl, rfl, hx, hr_31, spr_31⟩ ⟨rfl, rfl, rfl, rfl, trivial⟩ rfl rfl
    ·
     replace hx := cond_f c_12 hx
     refine JC.exit (JN.passX ?_)
     obtain rfl := run_done hd_12 hx
     refine JN.passX (JN.exitSame ?_)
     exact JN.cut ⟨s_8.1, aor_11, nr_11, capr_11, Kr_11, rfl, rfl, rfl, rfl, hr_11, spr_11⟩ ⟨rfl, trivial⟩ rfl rfl

set_option maxHeartbeats 8000000 in
theorem obj_Write_ok (p_1 : Object) (H : Heaplet) {aoa_2 : Option Addr} {na_2 : Nat} {capa_2 : Nat} (ha_2 : IsSlice H R_Ptr 5 (.slice aoa_2 na_2 capa_2) p_1.Data) (r : List UInt8 × Int) (hx : obj_Write p_1 = some r) :
  Does Try.prog 52 #[.agg #[.int .u8 (p_1.Kind.toNat : Int), .int .i64 p_1.Links, .int .i64 p_1.Size, .slice aoa_2 na_2 capa_2]] [] H (fun u K' H' => ∃ ao0 : Option Addr, ∃ n0 : Nat, ∃ cap0 : Nat, ∃ K0 : Own, u = .tuple #[.slice ao0 n0 cap0, .int .i64 r.2] ∧ K' = [K0] ∧ RowOf (New H H') RU8 0 5 1 (.slice ao0 n0 cap0) r.1 K0 ∧ (∀ p ∈ K0, p.1 ∉ ids (List.flatten [])) ∧ True) := by
 refine Does.enterL (vs := [.agg #[.int .u8 (p_1.Kind.toNat : Int), .int .i64 p_1.Links, .int .i64 p_1.Size, .slice aoa_2 na_2 capa_2]]) (l := [(0, .agg #[.int .u8 (p_1.Kind.toNat : Int), .int .i64 p_1.Links, .int .i64 p_1.Size, .slice aoa_2 na_2 capa_2])]) Try.func52 rfl rfl ⟨rfl, trivial⟩ (fun w hlt => ?_)
 unfold obj_Write at hx
 refine JC.seq (JC.region (JL.box rfl rfl (fun b_3 hb_3 => JL.val rfl rfl (R.assign rfl) (JL.val rfl rfl (R.assign rfl) (JL.nil (JN.next (JC.seq (JC.seq (JC.region (JL.val rfl rfl (R.ldoN 0 (vs := [.int .u8 (p_1.Kind.toNat : Int), .int .i64 p_1.Links, .int .i64 p_1.Size, .slice aoa_2 na_2 capa_2]) S60 rfl rfl rfl rfl) ?_))))))))))
 obtain ⟨x_4, hr_5, hx⟩ := bnd_some hx
 refine JL.callC (vs := [_]) (args := [_]) (K := []) (rst := [_]) E93 rfl rfl rfl picks0 (obj_Check_ok p_1 _ ha_2 _ hr_5) rfl (fun u_6 Ku_6 Hu_6 hRu_6 hleu_6 hfu_6 => ?_)
 obtain ⟨rfl, rfl, rfl, -⟩ := hRu_6
 refine JL.val rfl rfl (R.assign rfl) (JL.nil (JN.next (JC.seq (JC.region (JL.val rfl rfl (R.move rfl) (JL.val rfl rfl (R.neq_i rfl rfl) (JL.nil (JN.next (JC.condB rfl (fun c_7 => ?_) (fun c_7 => ?_))))))))))
 ·
  replace hx := cond_t c_7 hx
  refine JC.seq (JC.region (JL.val rfl rfl (R.move rfl) (JL.val rfl rfl (R.assign rfl) (JL.val rfl rfl (R.assign rfl) (JL.nil (JN.next (JC.ret (JN.passR (JN.seg0 (JN.outP (vs := [.slice none 0 0, .int .i64 x_4]) (K := [_]) (rst := [_]) (.inl rfl) rfl rfl (Res.tmp rfl (Res.tmp rfl rfl)) (picks 0 rfl picks0) ?_))))))))))
  obtain rfl := Option.some.inj hx
  exact ⟨none, 0, 0, [], rfl, rfl, (RowOf.nil _ _ _ _ _), (fun p hp => by cases hp), trivial⟩
 ·
  replace hx := cond_f c_7 hx
  refine JC.skip (JN.next (JC.seq (JC.region (JL.alloc Z138 rfl (fun b_8 hb_8 => JL.nil (JN.next (JC.seq (JC.region (JL.val rfl rfl (R.fa F60_2 rfl) (JL.val rfl rfl (R.ldo 1 S3 rfl rfl rfl) ?_))))))))))
  obtain ⟨x_9, hr_10, hx⟩ := bnd_some hx
  refine JL.callC (vs := [_, _]) (args := [_, _]) (K := []) (rst := [_, _]) E72 rfl rfl rfl picks0 (code_Put_ok p_1.Size 2 _ _ hr_10) rfl (fun u_11 Ku_11 Hu_11 hRu_11 hleu_11 hfu_11 => ?_)
  obtain ⟨aor_12, nr_12, capr_12, Kr_12, rfl, rfl, rfl, hr_12, hnewr_12, -⟩ := hRu_11
  replace hr_12 := (RowOf.base (RowOf.const (H2 := New H H) RU8.const hr_12) (fun p hp => (hfu_11 p (mem_seg 0 rfl hp)).resolve_left (hnewr_12 p hp)))
  refine JL.val rfl rfl (R.move rfl) (JL.val rfl rfl (R.extract rfl rfl) (JL.val rfl rfl (R.extract rfl rfl) (JL.val rfl rfl (R.assign rfl) (JL.val rfl rfl (R.assign rfl) (JL.nil (JN.next (JC.seq (JC.draw (so := [_, _]) 10 rfl Mixed ⟨⟨0, rfl⟩, ⟨2, rfl⟩, trivial⟩ (JA.val ⟨by kernel_rfl, by kernel_rfl⟩ (calm_only _) (i := 0) rfl ⟨by kernel_rfl, by kernel_rfl, rfl⟩ trivial (stab_of (Hle.refl _) ⟨⟨0, rfl⟩, ⟨2, rfl⟩, trivial⟩) (R.slcA U138 S5 rfl rfl rfl rfl rfl rfl) rfl ?_)))))))))
  have hr_13 := RowOf.arr (H1 := New H H) (L := ([(0 : UInt8), (0 : UInt8), (0 : UInt8), (0 : UInt8), (0 : UInt8), (0 : UInt8), (0 : UInt8), (0 : UInt8), (0 : UInt8), (0 : UInt8), (0 : UInt8), (0 : UInt8), (0 : UInt8), (0 : UInt8), (0 : UInt8), (0 : UInt8)] : List UInt8)) (T := 138) rfl rfl hb_8 rfl
  refine JA.val ⟨by kernel_rfl, by kernel_rfl⟩ (calm_only _) (i := 1) rfl ⟨by kernel_rfl, by kernel_rfl, rfl⟩ trivial (stab_of (Hle.refl _) ⟨⟨0, rfl⟩, ⟨2, rfl⟩, trivial⟩) (R.fa F60_0 rfl) rfl (JA.val ⟨by kernel_rfl, by kernel_rfl⟩ (calm_only _) (i := 2) rfl ⟨by kernel_rfl, by kernel_rfl, rfl⟩ trivial (stab_of (Hle.refl _) ⟨⟨0, rfl⟩, ⟨2, rfl⟩, trivial⟩) (R.ldo 1 S5 rfl rfl rfl) rfl (JA.val ⟨by kernel_rfl, by kernel_rfl⟩ (calm_only _) (i := 3) rfl ⟨by kernel_rfl, by kernel_rfl, rfl⟩ trivial (stab_of (Hle.refl _) ⟨⟨0, rfl⟩, ⟨2, rfl⟩, trivial⟩) (R.fa F60_1 rfl) rfl (JA.val ⟨by kernel_rfl, by kernel_rfl⟩ (calm_only _) (i := 4) rfl ⟨by kernel_rfl, by kernel_rfl, rfl⟩ trivial (stab_of (Hle.refl _) ⟨⟨0, rfl⟩, ⟨2, rfl⟩, trivial⟩) (R.ldo 1 S3 rfl rfl rfl) rfl (JA.val ⟨by kernel_rfl, by kernel_rfl⟩ (calm_only _) (i := 5) rfl ⟨by kernel_rfl, by kernel_rfl, rfl⟩ trivial (stab_of (Hle.refl _) ⟨⟨0, rfl⟩, ⟨2, rfl⟩, trivial⟩) (R.cv_i64_u8 U3 U5 rfl) rfl (JA.val ⟨by kernel_rfl, by kernel_rfl⟩ (calm_only _) (i := 7) rfl ⟨by kernel_rfl, by kernel_rfl, rfl⟩ trivial (stab_of (Hle.refl _) ⟨⟨0, rfl⟩, ⟨2, rfl⟩, trivial⟩) (R.move rfl) rfl (JA.one (i := 6) (by kernel_rfl) (JO.step rfl trivial rfl (fun K hK => JL.bslF (HF := (New H H)) (R := RU8) (ls := [p_1.Kind, u8i p_1.Links]) (vs := [.int .u8 (p_1.Kind.toNat : Int), .int .u8 ((u8i p_1.Links).toNat : Int)]) U45 I5 rfl rfl (⟨_, _, rfl, rfl, rfl, ⟨_, _, rfl, rfl, rfl, rfl⟩⟩) RU8.one rfl rfl rfl (by simp [maxLen]) rfl (fun vr_14 Kr_14 hr_14 => ?_)))))))))
  obtain ⟨aor_14, capr_14, rfl⟩ := RowOf.val hr_14
  refine JL.nil (hK _ _ _ (stab_of (Hle.refl _) ⟨⟨1, rfl⟩, ⟨3, rfl⟩, trivial⟩) (JA.one (i := 8) (by kernel_rfl) (JO.step rfl trivial rfl (fun K hK => ?_))))
  obtain ⟨q_15, hm_16, hl_17, hx⟩ := app_some hx
  refine JL.appF (HF := (New H H)) 0 U45 I5 rfl rfl hr_14 rfl (SrcF.row 1 U45 rfl hr_12) hm_16 hl_17 rfl (Nat.le_refl _) rfl (fun vr_18 Kr_18 hr_18 => ?_)
  obtain ⟨aor_18, capr_18, rfl⟩ := RowOf.val hr_18
  refine JL.nil (hK _ _ _ (stab_of (Hle.refl _) ⟨⟨1, rfl⟩, ⟨3, rfl⟩, trivial⟩) (JA.one (i := 9) (by kernel_rfl) (JO.step rfl trivial rfl (fun K hK => JL.pubN 0 RU8.mono rfl hr_18 (Nat.le_refl _) (fun H_19 hleH_19 hsH_19 => JL.forget 0 ?_)))))
  obtain ⟨m_20, hm_21, hb_22, hx⟩ := cpyO_some hx
  refine JL.copyR (HF := (New H H_19)) (lo := 0) (hi := (([(0 : UInt8), (0 : UInt8), (0 : UInt8), (0 : UInt8), (0 : UInt8), (0 : UInt8), (0 : UInt8), (0 : UInt8), (0 : UInt8), (0 : UInt8), (0 : UInt8), (0 : UInt8), (0 : UInt8), (0 : UInt8), (0 : UInt8), (0 : UInt8)] : List UInt8).length : Int)) 1 U45 S5 rfl (hr_13.mono RU8.mono (New.mono hleH_19)) rfl (RowOf.whole (hr_13.mono RU8.mono (New.mono hleH_19))) rfl (CSrc.slice RU8.one (Hle.refl _) (hsH_19.old RU8.mono) (fun _ _ h => RU8.const _ _ _ _ h)) hb_22 hm_21 rfl (fun Kr_23 hr_23 => JL.nil (hK _ _ _ (stab_of hleH_19 ⟨⟨0, rfl⟩, ⟨2, rfl⟩, trivial⟩) (JA.doneN (by kernel_rfl) (JN.next (JC.seq (JC.region (JL.val rfl rfl (R.fa F60_3 rfl) (JL.val rfl rfl (R.ldo 2 S53 rfl rfl rfl) ?_))))))))
  obtain ⟨x_24, hr_25, hx⟩ := bnd_some hx
  refine JL.callC (vs := [_]) (args := [_]) (K := []) (rst := [_, _, _]) E53 rfl rfl rfl picks0 (ptr_Row_ok p_1.Data _ (ha_2.mono R_Ptr.mono hleH_19) _ hr_25) rfl (fun u_26 Ku_26 Hu_26 hRu_26 hleu_26 hfu_26 => ?_)
  obtain ⟨aor_27, nr_27, capr_27, Kr_27, rfl, rfl, rfl, hr_27, hnewr_27, -⟩ := hRu_26
  replace hr_27 := (RowOf.base (RowOf.const (H2 := New H H_19) RU8.const hr_27) (fun p hp => (hfu_26 p (mem_seg 0 rfl hp)).resolve_left (hnewr_27 p hp)))
  refine JL.val rfl rfl (R.move rfl) (JL.val rfl rfl (R.extract rfl rfl) (JL.val rfl rfl (R.extract rfl rfl) (JL.val rfl rfl (R.assign rfl) (JL.val rfl rfl (R.assign rfl) (JL.nil (JN.next (JC.seq (JC.seq (JC.region (JL.val rfl rfl (R.move rfl) (JL.val rfl rfl (R.neq_i rfl rfl) ?_)))))))))))
  refine JL.nil (JN.next (JC.condB rfl (fun c_28 => ?_) (fun c_28 => ?_)))
  ·
   replace hx := cond_t c_28 hx
   refine JC.seq (JC.region (JL.val rfl rfl (R.move rfl) (JL.val rfl rfl (R.assign rfl) (JL.val rfl rfl (R.assign rfl) (JL.nil (JN.next (JC.ret (JN.passR (JN.seg0 (JN.outP (vs := [.slice none 0 0, .int .i64 x_24.2]) (K := [_]) (rst := [_, _, _, _]) (.inl rfl) rfl rfl (Res.tmp rfl (Res.tmp rfl rfl)) (picks 0 rfl picks0) ?_))))))))))
   obtain rfl := Option.some.inj hx
   exact ⟨none, 0, 0, [], rfl, rfl, (RowOf.nil _ _ _ _ _), (fun p hp => by cases hp), trivial⟩
  ·
   replace hx := cond_f c_28 hx
   refine JC.skip (JN.next (JC.seq (JC.pubN 0 RU8.mono rfl hr_27 (Nat.le_refl _) (fun H_29 hleH_29 hsH_29 => JC.forget 0 (JC.pubN 1 RU8.mono rfl (hr_23.mono RU8.mono (New.mono hleH_29)) (Nat.le_refl _) (fun H_30 hleH_30 hsH_30 => JC.forget 1 (JC.draw (so := [_, _]) 6 rfl Mixed ⟨⟨0, rfl⟩, ⟨1, rfl⟩, trivial⟩ (JA.val ⟨by kernel_rfl, by kernel_rfl⟩ (calm_only _) (i := 0) rfl ⟨by kernel_rfl, by kernel_rfl, rfl⟩ trivial (stab_of (Hle.refl _) ⟨⟨0, rfl⟩, ⟨1, rfl⟩, trivial⟩) (R.slcA U138 S5 rfl rfl rfl rfl rfl rfl) rfl (JA.val ⟨by kernel_rfl, by kernel_rfl⟩ (calm_only _) (i := 1) rfl ⟨by kernel_rfl, by kernel_rfl, rfl⟩ trivial (stab_of (Hle.refl _) ⟨⟨0, rfl⟩, ⟨1, rfl⟩, trivial⟩) (R.move rfl) rfl ?_)))))))))
   obtain ⟨m_31, hm_33, hb_32, hx⟩ := slc_some hx
   obtain ⟨vv_34, cv_34, h1v_34, h2v_34, h3v_34, hsv_34⟩ := IsSlice.cutv (hsH_29.mono RU8.mono (New.mono hleH_30)) hm_33 hb_32
   refine JA.val ⟨by kernel_rfl, by kernel_rfl⟩ (calm_only _) (i := 2) rfl ⟨by kernel_rfl, by kernel_rfl, rfl⟩ trivial (stab_of (Hle.refl _) ⟨⟨0, rfl⟩, ⟨1, rfl⟩, trivial⟩) (R.slc (cap := cv_34) (a := 0) (b := 240) (c := (cv_34 : Int)) (m := x_24.1) (R := RU8) U45 S5 rfl rfl ⟨_, rfl⟩ (by obtain ⟨ao, n, e, _⟩ := h1v_34; exact ⟨ao, n, e, rfl⟩) ⟨hb_32.1, hb_32.2.1, h2v_34⟩ h3v_34 (.inl rfl)) rfl ?_
   obtain ⟨aov_34, capv_34, rfl⟩ := IsSlice.val hsv_34
   refine JA.one (i := 3) (by kernel_rfl) (JO.step rfl trivial rfl (fun K hK => ?_))
   obtain ⟨hz_35, hx⟩ := chk_some hx
   obtain ⟨q_36, hm_37, hl_38, hx⟩ := app_some hx
   refine JL.appC (HF := (New H H_30)) U45 I5 rfl RU8.one (New.le _ _) hsH_30 (fun _ _ h => RU8.const _ _ _ _ h) rfl (SrcF.sliceC RU8.const RU8.one U45 (hsv_34.old RU8.mono)) hz_35 hm_37 hl_38 rfl rfl (fun vr_39 Kr_39 hr_39 => ?_)
   obtain ⟨aor_39, capr_39, rfl⟩ := RowOf.val hr_39
   refine JL.nil (hK _ _ _ (stab_of (Hle.refl _) ⟨⟨1, rfl⟩, ⟨2, rfl⟩, trivial⟩) (JA.val ⟨by kernel_rfl, by kernel_rfl⟩ (calm_only _) (i := 4) rfl ⟨by kernel_rfl, by kernel_rfl, rfl⟩ trivial (stab_of (Hle.refl _) ⟨⟨1, rfl⟩, ⟨2, rfl⟩, trivial⟩) (R.assign rfl) rfl (JA.val ⟨by kernel_rfl, by kernel_rfl⟩ (calm_only _) (i := 5) rfl ⟨by kernel_rfl, by kernel_rfl, rfl⟩ trivial (stab_of (Hle.refl _) ⟨⟨1, rfl⟩, ⟨2, rfl⟩, trivial⟩) (R.assign rfl) rfl (JA.doneN (by kernel_rfl) (JN.next (JC.ret (JN.outP (vs := [.slice aor_39 q_36.length capr_39, .int .i64 0]) (K := [_]) (rst := [_, _]) (.inl rfl) rfl rfl (Res.tmp rfl (Res.tmp rfl rfl)) (picks 0 rfl picks0) ?_)))))))
   obtain rfl := Option.some.inj hx
   exact ⟨aor_39, q_36.length, capr_39, Kr_39, rfl, rfl, (RowOf.weak (Nat.zero_le _) hr_39), (new_ids hr_39 hlt), trivial⟩

set_option maxHeartbeats 8000000 in
theorem law15_made_ok (H : Heaplet) (r : Store × Ptr × Bool) (hx : law15_made = some r) :
  Does Try.prog 22 #[] [] H (fun u K' H' => ∃ ao0 : Option Addr, ∃ n0 : Nat, ∃ cap0 : Nat, ∃ ao1 : Option Addr, ∃ n1 : Nat, ∃ cap1 : Nat, ∃ K1 : Own, ∃ ao2 : Option Addr, ∃ n2 : Nat, ∃ cap2 : Nat, ∃ K2 : Own, u = .tuple #[.agg #[.slice ao0 n0 cap0, .slice ao1 n1 cap1, .slice ao2 n2 cap2, .int .u32 (r.1.Epoch.toNat : Int), .int .u32 (r.1.Count.toNat : Int)], .agg #[.int .i64 r.2.1.At, .int .u32 (r.2.1.Birth.toNat : Int), .int .u32 (r.2.1.Iv.toNat : Int), .int .u32 (r.2.1.Tag.toNat : Int), .int .u32 (r.2.1.Sum.toNat : Int)], .bool r.2.2] ∧ K' = [K1, K2] ∧ IsSlice (New H H') (RSl RU8 1) 1 (.slice ao0 n0 cap0) r.1.Disk.Blocks ∧ RowOf (New H H') R_Write 0 47 2 (.slice ao1 n1 cap1) r.1.Disk.Waits K1 ∧ (∀ p ∈ K1, p.1 ∉ ids (List.flatten [])) ∧ RowOf (New H H') RU8 0 5 1 (.slice ao2 n2 cap2) r.1.Space K2 ∧ (∀ p ∈ K2, p.1 ∉ ids (List.flatten [])) ∧ True) := by
 refine Does.enterL (vs := []) (l := []) Try.func22 rfl rfl trivial (fun w hlt => ?_)
 unfold law15_made at hx
 refine JC.seq (JC.region (JL.alloc Z50 rfl (fun b_1 hb_1 => JL.alloc Z28 rfl (fun b_2 hb_2 => JL.val rfl rfl (R.assign rfl) (JL.nil (JN.next (JC.seq (JC.region ?_))))))))
 obtain ⟨x_5, hm_4, hc_3, hx⟩ := mks_some hx
 refine JL.mkF (HF := New H H) (R := R_Ptr) (y := Ptr.mk 0 (0 : UInt32) (0 : UInt32) (0 : UInt32) (0 : UInt32)) (n := 15) U53 I28 rfl rfl (fun _ => rfl) R_Ptr.one hm_4 hc_3 rfl rfl (fun vr_6 Kr_6 hr_6 => ?_)
 obtain ⟨aor_6, capr_6, rfl⟩ := RowOf.val hr_6
 refine JL.val rfl rfl (R.bldP (vs := [(0, .int .u8 ((1 : UInt8).toNat : Int)), (3, .slice aor_6 x_5.length capr_6)]) (cs := [.int .u8 ((1 : UInt8).toNat : Int), .int .i64 0, .int .i64 0, .slice aor_6 x_5.length capr_6]) Z60 B60 rfl rfl rfl) (JL.alloc Z60 rfl (fun b_7 hb_7 => JL.store 0 S60 rfl rfl rfl rfl rfl (Nat.le_of_ble_eq_true rfl) (JL.nil (JN.next (JC.seq ?_)))))
 obtain ⟨t_8, ht_10, hx⟩ := bnd_some hx
 refine JC.cut (fun l o g => ∃ H_48 : Heaplet, ∃ b_49 : Nat, ∃ aoz_50 : Option Addr, ∃ nz_50 : Nat, ∃ capz_50 : Nat, ∃ aor_51 : Option Addr, ∃ nr_51 : Nat, ∃ capr_51 : Nat, ∃ Kr_51 : Own, ∃ aor_52 : Option Addr, ∃ nr_52 : Nat, ∃ capr_52 : Nat, ∃ Kr_52 : Own, ∃ b_53 : Nat, l = [(0, .pointer (some ⟨b_1, 0, none⟩)), (1, .pointer (some ⟨b_2, 0, none⟩)), (3, .pointer (some ⟨b_7, 0, none⟩)), (4, .pointer (some ⟨b_49, 0, none⟩)), (5, .pointer (some ⟨b_53, 0, none⟩)), (6, .int .i64 t_8.2.2.2.2.2.2)] ∧ o = [[(b_1, .cells #[.slice none 0 0, .slice none 0 0, .slice none 0 0, .int .u32 ((0 : UInt32).toNat : Int), .int .u32 ((0 : UInt32).toNat : Int)] 50 (0, 0))], [(b_2, .cells #[.int .i64 0, .int .u32 ((0 : UInt32).toNat : Int), .int .u32 ((0 : UInt32).toNat : Int), .int .u32 ((0 : UInt32).toNat : Int), .int .u32 ((0 : UInt32).toNat : Int)] 28 (0, 0))], [(b_7, .cells #[.int .u8 ((1 : UInt8).toNat : Int), .int .i64 0, .int .i64 0, .slice aor_6 x_5.length capr_6] 60 (0, 0))], Kr_6, [(b_49, .cells #[.slice aoz_50 nz_50 capz_50, .slice aor_51 nr_51 capr_51, .slice aor_52 nr_52 capr_52, .int .u32 (t_8.2.2.2.1.toNat : Int), .int .u32 (t_8.2.2.2.2.1.toNat : Int)] 50 (0, 0))], Kr_51, Kr_52, [(b_53, .cells #[.int .i64 t_8.2.2.2.2.2.1.At, .int .u32 (t_8.2.2.2.2.2.1.Birth.toNat : Int), .int .u32 (t_8.2.2.2.2.2.1.Iv.toNat : Int), .int .u32 (t_8.2.2.2.2.2.1.Tag.toNat : Int), .int .u32 (t_8.2.2.2.2.2.1.Sum.toNat : Int)] 28 (0, 0))]] ∧ H_48 = g ∧ Hle H H_48 ∧ w.heap.size ≤ b_49 ∧ IsSlice (New H H_48) (RSl RU8 1) 1 (.slice aoz_50 nz_50 capz_50) t_8.1 ∧ RowOf (New H H_48) R_Write w.heap.size 47 2 (.slice aor_51 nr_51 capr_51) t_8.2.1 Kr_51 ∧ RowOf (New H H_48) RU8 w.heap.size 5 1 (.slice aor_52 nr_52 capr_52) t_8.2.2.1 Kr_52 ∧ w.heap.size ≤ b_53) ?_ ?_
 ·
  rintro _ _ _ ⟨H_48, b_49, aoz_50, nz_50, capz_50, aor_51, nr_51, capr_51, Kr_51, aor_52, nr_52, capr_52, Kr_52, b_53, rfl, rfl, rfl, hleH_48, hb_49, hz_50, hr_51, hr_52, hb_53⟩
  refine JN.next (JC.seq ?_)
  obtain ⟨t_54, ht_56, hx⟩ := bnd_some hx
  refine JC.cut (fun l o g => ∃ H_85 : Heaplet, ∃ aoz_86 : Option Addr, ∃ nz_86 : Nat, ∃ capz_86 : Nat, ∃ aor_87 : Option Addr, ∃ nr_87 : Nat, ∃ capr_87 : Nat, ∃ Kr_87 : Own, ∃ aor_88 : Option Addr, ∃ nr_88 : Nat, ∃ capr_88 : Nat, ∃ Kr_88 : Own, ∃ b_89 : Nat, l = [(0, .pointer (some ⟨b_1, 0, none⟩)), (1, .pointer (some ⟨b_2, 0, none⟩)), (3, .pointer (some ⟨b_7, 0, none⟩)), (4, .pointer (some ⟨b_49, 0, none⟩)), (5, .pointer (some ⟨b_53, 0, none⟩)), (6, .int .i64 t_8.2.2.2.2.2.2), (7, .pointer (some ⟨b_89, 0, none⟩)), (8, .int .i64 t_54.2.2.2.2.2.2)] ∧ o = [[(b_1, .cells #[.slice none 0 0, .slice none 0 0, .slice none 0 0, .int .u32 ((0 : UInt32).toNat : Int), .int .u32 ((0 : UInt32).toNat : Int)] 50 (0, 0))], [(b_2, .cells #[.int .i64 0, .int .u32 ((0 : UInt32).toNat : Int), .int .u32 ((0 : UInt32).toNat : Int), .int .u32 ((0 : UInt32).toNat : Int), .int .u32 ((0 : UInt32).toNat : Int)] 28 (0, 0))], [(b_7, .cells #[.int .u8 ((1 : UInt8).toNat : Int), .int .i64 0, .int .i64 0, .slice aor_6 x_5.length capr_6] 60 (0, 0))], Kr_6, [(b_49, .cells #[.slice aoz_86 nz_86 capz_86, .slice aor_87 nr_87 capr_87, .slice aor_88 nr_88 capr_88, .int .u32 (t_54.2.2.2.1.toNat : Int), .int .u32 (t_54.2.2.2.2.1.toNat : Int)] 50 (0, 0))], Kr_87, Kr_88, [(b_53, .cells #[.int .i64 t_8.2.2.2.2.2.1.At, .int .u32 (t_8.2.2.2.2.2.1.Birth.toNat : Int), .int .u32 (t_8.2.2.2.2.2.1.Iv.toNat : Int), .int .u32 (t_8.2.2.2.2.2.1.Tag.toNat : Int), .int .u32 (t_8.2.2.2.2.2.1.Sum.toNat : Int)] 28 (0, 0))], [(b_89, .cells #[.int .i64 t_54.2.2.2.2.2.1.At, .int .u32 (t_54.2.2.2.2.2.1.Birth.toNat : Int), .int .u32 (t_54.2.2.2.2.2.1.Iv.toNat : Int), .int .u32 (t_54.2.2.2.2.2.1.Tag.toNat : Int), .int .u32 (t_54.2.2.2.2.2.1.Sum.toNat : Int)] 28 (0, 0))]] ∧ H_85 = g ∧ Hle H_48 H_85 ∧ IsSlice (New H H_85) (RSl RU8 1) 1 (.slice aoz_86 nz_86 capz_86) t_54.1 ∧ RowOf (New H H_85) R_Write w.heap.size 47 2 (.slice aor_87 nr_87 capr_87) t_54.2.1 Kr_87 ∧ RowOf (New H H_85) RU8 w.heap.size 5 1 (.slice aor_88 nr_88 capr_88) t_54.2.2.1 Kr_88 ∧ w.heap.size ≤ b_89) ?_ ?_
  ·
   rintro _ _ _ ⟨H_85, aoz_86, nz_86, capz_86, aor_87, nr_87, capr_87, Kr_87, aor_88, nr_88, capr_88, Kr_88, b_89, rfl, rfl, rfl, hleH_85, hz_86, hr_87, hr_88, hb_89⟩
   refine JN.next (JC.seq (JC.draw (so := [_, _, _, _, _, _, _, _]) 10 rfl Mixed ⟨⟨0, rfl⟩, ⟨1, rfl⟩, ⟨2, rfl⟩, ⟨4, rfl⟩, ⟨5, rfl⟩, ⟨6, rfl⟩, ⟨7, rfl⟩, ⟨8, rfl⟩, trivial⟩ (JA.val ⟨by kernel_rfl, by kernel_rfl⟩ (calm_only _) (i := 0) rfl ⟨by kernel_rfl, by kernel_rfl, rfl⟩ trivial (stab_of (Hle.refl _) ⟨⟨0, rfl⟩, ⟨1, rfl⟩, ⟨2, rfl⟩, ⟨4, rfl⟩, ⟨5, rfl⟩, ⟨6, rfl⟩, ⟨7, rfl⟩, ⟨8, rfl⟩, trivial⟩) (R.fa F60_3 rfl) rfl (JA.val ⟨by kernel_rfl, by kernel_rfl⟩ (calm_only _) (i := 1) rfl ⟨by kernel_rfl, by kernel_rfl, rfl⟩ trivial (stab_of (Hle.refl _) ⟨⟨0, rfl⟩, ⟨1, rfl⟩, ⟨2, rfl⟩, ⟨4, rfl⟩, ⟨5, rfl⟩, ⟨6, rfl⟩, ⟨7, rfl⟩, ⟨8, rfl⟩, trivial⟩) (R.ldo 2 S53 rfl rfl rfl) rfl (JA.val ⟨by kernel_rfl, by kernel_rfl⟩ (calm_only _) (i := 2) rfl ⟨by kernel_rfl, by kernel_rfl, rfl⟩ trivial (stab_of (Hle.refl _) ⟨⟨0, rfl⟩, ⟨1, rfl⟩, ⟨2, rfl⟩, ⟨4, rfl⟩, ⟨5, rfl⟩, ⟨6, rfl⟩, ⟨7, rfl⟩, ⟨8, rfl⟩, trivial⟩) (R.fa F60_3 rfl) rfl (JA.val ⟨by kernel_rfl, by kernel_rfl⟩ (calm_only _) (i := 3) rfl ⟨by kernel_rfl, by kernel_rfl, rfl⟩ trivial (stab_of (Hle.refl _) ⟨⟨0, rfl⟩, ⟨1, rfl⟩, ⟨2, rfl⟩, ⟨4, rfl⟩, ⟨5, rfl⟩, ⟨6, rfl⟩, ⟨7, rfl⟩, ⟨8, rfl⟩, trivial⟩) (R.ldo 2 S53 rfl rfl rfl) rfl (JA.val ⟨by kernel_rfl, by kernel_rfl⟩ (calm_only _) (i := 4) rfl ⟨by kernel_rfl, by kernel_rfl, rfl⟩ trivial (stab_of (Hle.refl _) ⟨⟨0, rfl⟩, ⟨1, rfl⟩, ⟨2, rfl⟩, ⟨4, rfl⟩, ⟨5, rfl⟩, ⟨6, rfl⟩, ⟨7, rfl⟩, ⟨8, rfl⟩, trivial⟩) (R.ldoN 6 (vs := [.int .i64 t_8.2.2.2.2.2.1.At, .int .u32 (t_8.2.2.2.2.2.1.Birth.toNat : Int), .int .u32 (t_8.2.2.2.2.2.1.Iv.toNat : Int), .int .u32 (t_8.2.2.2.2.2.1.Tag.toNat : Int), .int .u32 (t_8.2.2.2.2.2.1.Sum.toNat : Int)]) S28 rfl rfl rfl rfl) rfl (JA.val ⟨by kernel_rfl, by kernel_rfl⟩ (calm_only _) (i := 5) rfl ⟨by kernel_rfl, by kernel_rfl, rfl⟩ trivial (stab_of (Hle.refl _) ⟨⟨0, rfl⟩, ⟨1, rfl⟩, ⟨2, rfl⟩, ⟨4, rfl⟩, ⟨5, rfl⟩, ⟨6, rfl⟩, ⟨7, rfl⟩, ⟨8, rfl⟩, trivial⟩) (R.ldoN 7 (vs := [.int .i64 t_54.2.2.2.2.2.1.At, .int .u32 (t_54.2.2.2.2.2.1.Birth.toNat : Int), .int .u32 (t_54.2.2.2.2.2.1.Iv.toNat : Int), .int .u32 (t_54.2.2.2.2.2.1.Tag.toNat : Int), .int .u32 (t_54.2.2.2.2.2.1.Sum.toNat : Int)]) S28 rfl rfl rfl rfl) rfl (JA.one (i := 6) (by kernel_rfl) (JO.step rfl trivial rfl (fun K hK => ?_)))))))))))
   obtain ⟨hp_90, hx⟩ := chk_some hx
   obtain ⟨b_91, o_92, hE_93⟩ := RowOf.place (hr_6.mono R_Ptr.mono (New.mono (hleH_48.trans hleH_85))) hp_90
   refine JL.val rfl rfl (R.ix U53 S28 rfl rfl hE_93) (JL.nil (hK _ _ _ (stab_of (Hle.refl _) ⟨⟨0, rfl⟩, ⟨1, rfl⟩, ⟨2, rfl⟩, ⟨4, rfl⟩, ⟨5, rfl⟩, ⟨6, rfl⟩, ⟨7, rfl⟩, ⟨8, rfl⟩, trivial⟩) (JA.one (i := 7) (by kernel_rfl) (JO.step rfl trivial rfl (fun K hK => ?_)))))
   obtain ⟨m_94, hm_95, hi_96, hx⟩ := setI_some hx
   refine JL.stE 3 (k := 0) (y := t_8.2.2.2.2.2.1) S28 rfl (hr_6.mono R_Ptr.mono (New.mono (hleH_48.trans hleH_85))) rfl hE_93 rfl rfl (rfl) R_Ptr.one hm_95 (fun Kr_97 hr_97 hlr_97 => JL.nil (hK _ _ _ (stab_of (Hle.refl _) ⟨⟨0, rfl⟩, ⟨1, rfl⟩, ⟨2, rfl⟩, ⟨4, rfl⟩, ⟨5, rfl⟩, ⟨6, rfl⟩, ⟨7, rfl⟩, ⟨8, rfl⟩, trivial⟩) (JA.one (i := 8) (by kernel_rfl) (JO.step rfl trivial rfl (fun K hK => ?_)))))
   obtain ⟨hp_98, hx⟩ := chk_some hx
   obtain ⟨b_99, o_100, hE_101⟩ := RowOf.place hr_97 hp_98
   refine JL.val rfl rfl (R.ix U53 S28 rfl rfl hE_101) (JL.nil (hK _ _ _ (stab_of (Hle.refl _) ⟨⟨0, rfl⟩, ⟨1, rfl⟩, ⟨2, rfl⟩, ⟨4, rfl⟩, ⟨5, rfl⟩, ⟨6, rfl⟩, ⟨7, rfl⟩, ⟨8, rfl⟩, trivial⟩) (JA.one (i := 9) (by kernel_rfl) (JO.step rfl trivial rfl (fun K hK => ?_)))))
   obtain ⟨m_102, hm_103, hi_104, hx⟩ := setI_some hx
   refine JL.stE 3 (k := 4) (y := t_54.2.2.2.2.2.1) S28 rfl hr_97 rfl hE_101 rfl rfl (rfl) R_Ptr.one hm_103 (fun Kr_105 hr_105 hlr_105 => JL.nil (hK _ _ _ (stab_of (Hle.refl _) ⟨⟨0, rfl⟩, ⟨1, rfl⟩, ⟨2, rfl⟩, ⟨4, rfl⟩, ⟨5, rfl⟩, ⟨6, rfl⟩, ⟨7, rfl⟩, ⟨8, rfl⟩, trivial⟩) (JA.doneN (by kernel_rfl) (JN.next (JC.seq (JC.region (JL.val rfl rfl (R.ldoN 2 (vs := [.int .u8 ((1 : UInt8).toNat : Int), .int .i64 0, .int .i64 0, .slice aor_6 x_5.length capr_6]) S60 rfl rfl rfl rfl) ?_)))))))
   obtain ⟨x_109, hr_110, hx⟩ := bnd_some hx
   refine JL.callL3 (vs := [_]) E52 rfl rfl (fun H_108 hle_107 hl_106 => obj_Write_ok (Object.mk (1 : UInt8) 0 0 m_102) _ (Lent.row' 3 hl_106 R_Ptr.mono hle_107 rfl (hr_105.old R_Ptr.mono)) _ hr_110) rfl (fun _ _ _ _ hR_112 hf_113 => ?_)
   obtain ⟨aor_111, nr_111, capr_111, Kr_111, rfl, rfl, hr_111, -, -⟩ := hR_112
   replace hr_111 := RowOf.base (RowOf.const (H2 := New H H_85) RU8.const hr_111) (fun p hp => hf_113 p (mem_seg 0 rfl hp))
   refine JL.val rfl rfl (R.move rfl) (JL.val rfl rfl (R.extract rfl rfl) (JL.val rfl rfl (R.extract rfl rfl) (JL.val rfl rfl (R.assign rfl) (JL.val rfl rfl (R.assign rfl) (JL.nil (JN.next (JC.seq (JC.region (JL.val rfl rfl (R.ldoN 5 (vs := [.slice aoz_86 nz_86 capz_86, .slice aor_87 nr_87 capr_87, .slice aor_88 nr_88 capr_88, .int .u32 (t_54.2.2.2.1.toNat : Int), .int .u32 (t_54.2.2.2.2.1.toNat : Int)]) S50 rfl rfl rfl rfl) (JL.val rfl rfl (R.move rfl) (JL.pubN 6 R_Write.mono rfl hr_87 (Nat.le_refl _) (fun H_114 hleH_114 hsH_114 => ?_))))))))))))
   refine JL.forget 6 (JL.pubN 6 RU8.mono rfl (hr_88.mono RU8.mono (New.mono hleH_114)) (Nat.le_refl _) (fun H_115 hleH_115 hsH_115 => JL.forget 6 (JL.pubN 0 RU8.mono rfl (hr_111.mono RU8.mono (New.mono (hleH_114.trans hleH_115))) (Nat.le_refl _) (fun H_116 hleH_116 hsH_116 => JL.forget 0 ?_))))
   obtain ⟨x_117, hr_118, hx⟩ := bnd_some hx
   refine JL.callC (vs := [_, _, _]) (args := [_, _, _]) (K := []) (rst := [_, _, _, _, _, _, _]) E27 rfl rfl rfl picks0 (store_Lay_ok (Store.mk (Disk.mk t_54.1 t_54.2.1) t_54.2.2.1 t_54.2.2.2.1 t_54.2.2.2.2.1) (5 : UInt32) x_109.1 _ ((hz_86.mono (RSl.mono RU8.mono) (New.mono (hleH_114.trans (hleH_115.trans hleH_116)))).old (RSl.mono RU8.mono)) ((hsH_114.mono R_Write.mono (New.mono (hleH_115.trans hleH_116))).old R_Write.mono) ((hsH_115.mono RU8.mono (New.mono hleH_116)).old RU8.mono) (hsH_116.old RU8.mono) _ hr_118) rfl (fun u_119 Ku_119 Hu_119 hRu_119 hleu_119 hfu_119 => ?_)
   obtain ⟨aoz_120, nz_120, capz_120, aor_121, nr_121, capr_121, Kr_121, aor_122, nr_122, capr_122, Kr_122, rfl, rfl, hz_120, hr_121, hnewr_121, hr_122, hnewr_122, -⟩ := hRu_119
   replace hr_121 := (RowOf.base (RowOf.mono R_Write.mono (New.call (hleH_48.trans (hleH_85.trans (hleH_114.trans (hleH_115.trans hleH_116))))) hr_121) (fun p hp => (hfu_119 p (mem_seg 0 rfl hp)).resolve_left (hnewr_121 p hp)))
   replace hr_122 := (RowOf.base (RowOf.const (H2 := New H Hu_119) RU8.const hr_122) (fun p hp => (hfu_119 p (mem_seg 1 rfl hp)).resolve_left (hnewr_122 p hp)))
   replace hz_120 := IsSlice.mono (RSl.mono RU8.mono) (New.call (hleH_48.trans (hleH_85.trans (hleH_114.trans (hleH_115.trans hleH_116))))) hz_120
   refine JL.val rfl rfl (R.move rfl) (JL.val rfl rfl (R.extract rfl rfl) (JL.val rfl rfl (R.extract rfl rfl) (JL.val rfl rfl (R.extract rfl rfl) (JL.alloc Z28 rfl (fun b_123 hb_123 => JL.store 7 S50 rfl rfl rfl rfl rfl (Nat.le_of_ble_eq_true rfl) (JL.store 0 S28 rfl rfl rfl rfl rfl (Nat.le_of_ble_eq_true rfl) (JL.val rfl rfl (R.assign rfl) (JL.nil (JN.next (JC.seq (JC.region ?_)))))))))))
   refine JL.val rfl rfl (R.bldP (vs := []) (cs := [.int .i64 0, .int .u32 ((0 : UInt32).toNat : Int), .int .u32 ((0 : UInt32).toNat : Int), .int .u32 ((0 : UInt32).toNat : Int), .int .u32 ((0 : UInt32).toNat : Int)]) Z28 B28 rfl rfl rfl) (JL.val rfl rfl (R.bldP (vs := []) (cs := [.int .i64 0, .int .u32 ((0 : UInt32).toNat : Int), .int .u32 ((0 : UInt32).toNat : Int), .int .u32 ((0 : UInt32).toNat : Int), .int .u32 ((0 : UInt32).toNat : Int)]) Z28 B28 rfl rfl rfl) (JL.val rfl rfl (R.ldoN 0 (vs := [.int .i64 x_117.2.1.At, .int .u32 (x_117.2.1.Birth.toNat : Int), .int .u32 (x_117.2.1.Iv.toNat : Int), .int .u32 (x_117.2.1.Tag.toNat : Int), .int .u32 (x_117.2.1.Sum.toNat : Int)]) S28 rfl rfl rfl rfl) (JL.bslF (HF := (New H Hu_119)) (R := R_Ptr) (ls := [Ptr.mk 0 (0 : UInt32) (0 : UInt32) (0 : UInt32) (0 : UInt32), Ptr.mk 0 (0 : UInt32) (0 : UInt32) (0 : UInt32) (0 : UInt32), x_117.2.1]) (vs := [.agg #[.int .i64 0, .int .u32 ((0 : UInt32).toNat : Int), .int .u32 ((0 : UInt32).toNat : Int), .int .u32 ((0 : UInt32).toNat : Int), .int .u32 ((0 : UInt32).toNat : Int)], .agg #[.int .i64 0, .int .u32 ((0 : UInt32).toNat : Int), .int .u32 ((0 : UInt32).toNat : Int), .int .u32 ((0 : UInt32).toNat : Int), .int .u32 ((0 : UInt32).toNat : Int)], .agg #[.int .i64 x_117.2.1.At, .int .u32 (x_117.2.1.Birth.toNat : Int), .int .u32 (x_117.2.1.Iv.toNat : Int), .int .u32 (x_117.2.1.Tag.toNat : Int), .int .u32 (x_117.2.1.Sum.toNat : Int)]]) U53 I28 rfl rfl (⟨_, _, rfl, rfl, rfl, ⟨_, _, rfl, rfl, rfl, ⟨_, _, rfl, rfl, rfl, rfl⟩⟩⟩) R_Ptr.one rfl rfl rfl (by simp [maxLen]) rfl (fun vr_124 Kr_124 hr_124 => ?_))))
   obtain ⟨aor_124, capr_124, rfl⟩ := RowOf.val hr_124
   obtain ⟨x_128, hr_129, hx⟩ := bnd_some hx
   refine JL.callL3 (vs := [_]) E53 rfl rfl (fun H_127 hle_126 hl_125 => ptr_Row_ok ([Ptr.mk 0 (0 : UInt32) (0 : UInt32) (0 : UInt32) (0 : UInt32), Ptr.mk 0 (0 : UInt32) (0 : UInt32) (0 : UInt32) (0 : UInt32), x_117.2.1]) _ (Lent.row' 0 hl_125 R_Ptr.mono hle_126 rfl (hr_124.old R_Ptr.mono)) _ hr_129) rfl (fun _ _ _ _ hR_131 hf_132 => ?_)
   obtain ⟨aor_130, nr_130, capr_130, Kr_130, rfl, rfl, rfl, hr_130, -, -⟩ := hR_131
   replace hr_130 := RowOf.base (RowOf.const (H2 := New H Hu_119) RU8.const hr_130) (fun p hp => hf_132 p (mem_seg 0 rfl hp))
   refine JL.val rfl rfl (R.move rfl) (JL.val rfl rfl (R.extract rfl rfl) (JL.val rfl rfl (R.extract rfl rfl) (JL.val rfl rfl (R.assign rfl) (JL.val rfl rfl (R.assign rfl) (JL.nil (JN.next (JC.seq (JC.region (JL.val rfl rfl (R.ldoN 9 (vs := [.slice aoz_120 nz_120 capz_120, .slice aor_121 nr_121 capr_121, .slice aor_122 nr_122 capr_122, .int .u32 (x_117.1.Epoch.toNat : Int), .int .u32 (x_117.1.Count.toNat : Int)]) S50 rfl rfl rfl rfl) (JL.val rfl rfl (R.move rfl) (JL.pubN 3 R_Write.mono rfl hr_121 (Nat.le_refl _) (fun H_133 hleH_133 hsH_133 => ?_))))))))))))
   refine JL.forget 3 (JL.pubN 3 RU8.mono rfl (hr_122.mono RU8.mono (New.mono hleH_133)) (Nat.le_refl _) (fun H_134 hleH_134 hsH_134 => JL.forget 3 (JL.pubN 0 RU8.mono rfl (hr_130.mono RU8.mono (New.mono (hleH_133.trans hleH_134))) (Nat.le_refl _) (fun H_135 hleH_135 hsH_135 => JL.forget 0 ?_))))
   obtain ⟨x_136, hr_137, hx⟩ := bnd_some hx
   refine JL.callC (vs := [_, _, _]) (args := [_, _, _]) (K := []) (rst := [_, _, _, _, _, _, _, _, _]) E27 rfl rfl rfl picks0 (store_Lay_ok x_117.1 (5 : UInt32) x_128.1 _ ((hz_120.mono (RSl.mono RU8.mono) (New.mono (hleH_133.trans (hleH_134.trans hleH_135)))).old (RSl.mono RU8.mono)) ((hsH_133.mono R_Write.mono (New.mono (hleH_134.trans hleH_135))).old R_Write.mono) ((hsH_134.mono RU8.mono (New.mono hleH_135)).old RU8.mono) (hsH_135.old RU8.mono) _ hr_137) rfl (fun u_138 Ku_138 Hu_138 hRu_138 hleu_138 hfu_138 => ?_)
   obtain ⟨aoz_139, nz_139, capz_139, aor_140, nr_140, capr_140, Kr_140, aor_141, nr_141, capr_141, Kr_141, rfl, rfl, hz_139, hr_140, hnewr_140, hr_141, hnewr_141, -⟩ := hRu_138
   replace hr_140 := (RowOf.base (RowOf.mono R_Write.mono (New.call (hleH_48.trans (hleH_85.trans (hleH_114.trans (hleH_115.trans (hleH_116.trans (hleu_119.trans (hleH_133.trans (hleH_134.trans hleH_135))))))))) hr_140) (fun p hp => (hfu_138 p (mem_seg 0 rfl hp)).resolve_left (hnewr_140 p hp)))
   replace hr_141 := (RowOf.base (RowOf.const (H2 := New H Hu_138) RU8.const hr_141) (fun p hp => (hfu_138 p (mem_seg 1 rfl hp)).resolve_left (hnewr_141 p hp)))
   replace hz_139 := IsSlice.mono (RSl.mono RU8.mono) (New.call (hleH_48.trans (hleH_85.trans (hleH_114.trans (hleH_115.trans (hleH_116.trans (hleu_119.trans (hleH_133.trans (hleH_134.trans hleH_135))))))))) hz_139
   refine JL.val rfl rfl (R.move rfl) (JL.val rfl rfl (R.extract rfl rfl) (JL.val rfl rfl (R.extract rfl rfl) (JL.val rfl rfl (R.extract rfl rfl) (JL.alloc Z28 rfl (fun b_142 hb_142 => JL.store 9 S50 rfl rfl rfl rfl rfl (Nat.le_of_ble_eq_true rfl) (JL.store 0 S28 rfl rfl rfl rfl rfl (Nat.le_of_ble_eq_true rfl) (JL.val rfl rfl (R.assign rfl) (JL.nil (JN.next (JC.tidyP (l' := [(0, .pointer (some ⟨b_1, 0, none⟩)), (1, .pointer (some ⟨b_2, 0, none⟩)), (4, .pointer (some ⟨b_49, 0, none⟩)), (6, .int .i64 t_8.2.2.2.2.2.2), (8, .int .i64 t_54.2.2.2.2.2.2), (10, .int .i64 x_109.2), (12, .int .i64 x_117.2.2), (14, .int .i64 x_128.2), (15, .pointer (some ⟨b_142, 0, none⟩)), (16, .int .i64 x_136.2.2)]) (own' := [[(b_142, .cells #[.int .i64 x_136.2.1.At, .int .u32 (x_136.2.1.Birth.toNat : Int), .int .u32 (x_136.2.1.Iv.toNat : Int), .int .u32 (x_136.2.1.Tag.toNat : Int), .int .u32 (x_136.2.1.Sum.toNat : Int)] 28 (0, 0))], Kr_140, Kr_141, [(b_1, .cells #[.slice none 0 0, .slice none 0 0, .slice none 0 0, .int .u32 ((0 : UInt32).toNat : Int), .int .u32 ((0 : UInt32).toNat : Int)] 50 (0, 0))], [(b_2, .cells #[.int .i64 0, .int .u32 ((0 : UInt32).toNat : Int), .int .u32 ((0 : UInt32).toNat : Int), .int .u32 ((0 : UInt32).toNat : Int), .int .u32 ((0 : UInt32).toNat : Int)] 28 (0, 0))], [(b_49, .cells #[.slice aoz_139 nz_139 capz_139, .slice aor_140 nr_140 capr_140, .slice aor_141 nr_141 capr_141, .int .u32 (x_136.1.Epoch.toNat : Int), .int .u32 (x_136.1.Count.toNat : Int)] 50 (0, 0))]]) (rst := [_, _, _, _, _, _]) ⟨rfl, rfl, rfl, rfl, rfl, rfl, rfl, rfl, rfl, rfl, trivial⟩ (picks 0 rfl (picks 0 rfl (picks 0 rfl (picks 2 rfl (picks 2 rfl (picks 4 rfl picks0)))))) (JC.seq ?_)))))))))))
   obtain ⟨t_143, ht_145, hx⟩ := bnd_some hx
   refine JC.cut (fun l o g => l = [(0, .pointer (some ⟨b_1, 0, none⟩)), (1, .pointer (some ⟨b_2, 0, none⟩)), (2, .bool t_143)] ∧ o = [[(b_1, .cells #[.slice aoz_139 nz_139 capz_139, .slice aor_140 nr_140 capr_140, .slice aor_141 nr_141 capr_141, .int .u32 (x_136.1.Epoch.toNat : Int), .int .u32 (x_136.1.Count.toNat : Int)] 50 (0, 0))], Kr_140, Kr_141, [(b_2, .cells #[.int .i64 x_136.2.1.At, .int .u32 (x_136.2.1.Birth.toNat : Int), .int .u32 (x_136.2.1.Iv.toNat : Int), .int .u32 (x_136.2.1.Tag.toNat : Int), .int .u32 (x_136.2.1.Sum.toNat : Int)] 28 (0, 0))]] ∧ Hu_138 = g) ?_ ?_
   ·
    rintro _ _ _ ⟨rfl, rfl, rfl⟩
    refine JN.next (JC.ret (JN.outP (vs := [.agg #[.slice aoz_139 nz_139 capz_139, .slice aor_140 nr_140 capr_140, .slice aor_141 nr_141 capr_141, .int .u32 (x_136.1.Epoch.toNat : Int), .int .u32 (x_136.1.Count.toNat : Int)], .agg #[.int .i64 x_136.2.1.At, .int .u32 (x_136.2.1.Birth.toNat : Int), .int .u32 (x_136.2.1.Iv.toNat : Int), .int .u32 (x_136.2.1.Tag.toNat : Int), .int .u32 (x_136.2.1.Sum.toNat : Int)], .bool t_143]) (K := [_, _]) (rst := [_, _]) (.inl rfl) rfl rfl (Res.cellN 0 rfl rfl S50 (Res.cellN 3 rfl rfl S28 (Res.tmp rfl rfl))) (picks 1 rfl (picks 1 rfl picks0)) ?_))
    obtain rfl := Option.some.inj hx
    exact ⟨aoz_139, nz_139, capz_139, aor_140, nr_140, capr_140, Kr_140, aor_141, nr_141, capr_141, Kr_141, rfl, rfl, hz_139, (RowOf.weak (Nat.zero_le _) hr_140), (new_ids hr_140 hlt), (RowOf.weak (Nat.zero_le _) hr_141), (new_ids hr_141 hlt), trivial⟩
   ·
    have hxo_144 := hx; clear hx; have hx := ht_145; clear ht_145
    refine JC.draw (so := [_, _, _, _]) 27 rfl Mixed ⟨⟨0, rfl⟩, ⟨1, rfl⟩, ⟨2, rfl⟩, ⟨5, rfl⟩, trivial⟩ (JA.val ⟨by kernel_rfl, by kernel_rfl⟩ (calm_only _) (i := 0) rfl ⟨by kernel_rfl, by kernel_rfl, rfl⟩ trivial (stab_of (Hle.refl _) ⟨⟨0, rfl⟩, ⟨1, rfl⟩, ⟨2, rfl⟩, ⟨5, rfl⟩, trivial⟩) (R.ldoN 3 (vs := [.slice aoz_139 nz_139 capz_139, .slice aor_140 nr_140 capr_140, .slice aor_141 nr_141 capr_141, .int .u32 (x_136.1.Epoch.toNat : Int), .int .u32 (x_136.1.Count.toNat : Int)]) S50 rfl rfl rfl rfl) rfl (JA.val ⟨by kernel_rfl, by kernel_rfl⟩ (calm_only _) (i := 1) rfl ⟨by kernel_rfl, by kernel_rfl, rfl⟩ trivial (stab_of (Hle.refl _) ⟨⟨0, rfl⟩, ⟨1, rfl⟩, ⟨2, rfl⟩, ⟨5, rfl⟩, trivial⟩) (R.ldoN 0 (vs := [.int .i64 x_136.2.1.At, .int .u32 (x_136.2.1.Birth.toNat : Int), .int .u32 (x_136.2.1.Iv.toNat : Int), .int .u32 (x_136.2.1.Tag.toNat : Int), .int .u32 (x_136.2.1.Sum.toNat : Int)]) S28 rfl rfl rfl rfl) rfl (JA.val ⟨by kernel_rfl, by kernel_rfl⟩ (calm_only _) (i := 2) rfl ⟨by kernel_rfl, by kernel_rfl, rfl⟩ trivial (stab_of (Hle.refl _) ⟨⟨0, rfl⟩, ⟨1, rfl⟩, ⟨2, rfl⟩, ⟨5, rfl⟩, trivial⟩) (R.move rfl) rfl (JA.val ⟨by kernel_rfl, by kernel_rfl⟩ (calm_only _) (i := 3) rfl ⟨by kernel_rfl, by kernel_rfl, rfl⟩ trivial (stab_of (Hle.refl _) ⟨⟨0, rfl⟩, ⟨1, rfl⟩, ⟨2, rfl⟩, ⟨5, rfl⟩, trivial⟩) (R.eql_i rfl rfl) rfl (JA.val ⟨by kernel_rfl, by kernel_rfl⟩ (calm_only _) (i := 4) rfl ⟨by kernel_rfl, by kernel_rfl, rfl⟩ trivial (stab_of (Hle.refl _) ⟨⟨0, rfl⟩, ⟨1, rfl⟩, ⟨2, rfl⟩, ⟨5, rfl⟩, trivial⟩) (R.move rfl) rfl (JA.gSplit (t := 72) rfl (fun c_146 => ?_) (fun c_146 => ?_)))))))
    ·
     replace hx := cond_t c_146 hx
     refine JA.val ⟨by kernel_rfl, by kernel_rfl⟩ (calm_only _) (i := 5) rfl ⟨by kernel_rfl, by kernel_rfl, rfl⟩ ⟨_, _, rfl, rfl, rfl⟩ (stab_of (Hle.refl _) ⟨⟨0, rfl⟩, ⟨1, rfl⟩, ⟨2, rfl⟩, ⟨5, rfl⟩, trivial⟩) (R.move rfl) rfl (JA.val ⟨by kernel_rfl, by kernel_rfl⟩ (calm_only _) (i := 6) rfl ⟨by kernel_rfl, by kernel_rfl, rfl⟩ ⟨_, _, rfl, rfl, rfl⟩ (stab_of (Hle.refl _) ⟨⟨0, rfl⟩, ⟨1, rfl⟩, ⟨2, rfl⟩, ⟨5, rfl⟩, trivial⟩) (R.eql_i rfl rfl) rfl (JA.val ⟨by kernel_rfl, by kernel_rfl⟩ (calm_only _) (i := 7) rfl ⟨by kernel_rfl, by kernel_rfl, rfl⟩ trivial (stab_of (Hle.refl _) ⟨⟨0, rfl⟩, ⟨1, rfl⟩, ⟨2, rfl⟩, ⟨5, rfl⟩, trivial⟩) (R.pickT rfl rfl) rfl (JA.val ⟨by kernel_rfl, by kernel_rfl⟩ (calm_only _) (i := 8) rfl ⟨by kernel_rfl, by kernel_rfl, rfl⟩ trivial (stab_of (Hle.refl _) ⟨⟨0, rfl⟩, ⟨1, rfl⟩, ⟨2, rfl⟩, ⟨5, rfl⟩, trivial⟩) (R.move rfl) rfl (JA.gSplit (t := 76) rfl (fun c_147 => ?_) (fun c_147 => ?_)))))
     ·
      replace hx := cond_t c_147 hx
      refine JA.val ⟨by kernel_rfl, by kernel_rfl⟩ (calm_only _) (i := 9) rfl ⟨by kernel_rfl, by kernel_rfl, rfl⟩ ⟨_, _, rfl, rfl, rfl⟩ (stab_of (Hle.refl _) ⟨⟨0, rfl⟩, ⟨1, rfl⟩, ⟨2, rfl⟩, ⟨5, rfl⟩, trivial⟩) (R.move rfl) rfl (JA.val ⟨by kernel_rfl, by kernel_rfl⟩ (calm_only _) (i := 10) rfl ⟨by kernel_rfl, by kernel_rfl, rfl⟩ ⟨_, _, rfl, rfl, rfl⟩ (stab_of (Hle.refl _) ⟨⟨0, rfl⟩, ⟨1, rfl⟩, ⟨2, rfl⟩, ⟨5, rfl⟩, trivial⟩) (R.eql_i rfl rfl) rfl (JA.val ⟨by kernel_rfl, by kernel_rfl⟩ (calm_only _) (i := 11) rfl ⟨by kernel_rfl, by kernel_rfl, rfl⟩ trivial (stab_of (Hle.refl _) ⟨⟨0, rfl⟩, ⟨1, rfl⟩, ⟨2, rfl⟩, ⟨5, rfl⟩, trivial⟩) (R.pickT rfl rfl) rfl (JA.val ⟨by kernel_rfl, by kernel_rfl⟩ (calm_only _) (i := 12) rfl ⟨by kernel_rfl, by kernel_rfl, rfl⟩ trivial (stab_of (Hle.refl _) ⟨⟨0, rfl⟩, ⟨1, rfl⟩, ⟨2, rfl⟩, ⟨5, rfl⟩, trivial⟩) (R.move rfl) rfl (JA.gSplit (t := 80) rfl (fun c_148 => ?_) (fun c_148 => ?_)))))
      ·
       replace hx := cond_t c_148 hx
       refine JA.val ⟨by kernel_rfl, by kernel_rfl⟩ (calm_only _) (i := 13) rfl ⟨by kernel_rfl, by kernel_rfl, rfl⟩ ⟨_, _, rfl, rfl, rfl⟩ (stab_of (Hle.refl _) ⟨⟨0, rfl⟩, ⟨1, rfl⟩, ⟨2, rfl⟩, ⟨5, rfl⟩, trivial⟩) (R.move rfl) rfl (JA.val ⟨by kernel_rfl, by kernel_rfl⟩ (calm_only _) (i := 14) rfl ⟨by kernel_rfl, by kernel_rfl, rfl⟩ ⟨_, _, rfl, rfl, rfl⟩ (stab_of (Hle.refl _) ⟨⟨0, rfl⟩, ⟨1, rfl⟩, ⟨2, rfl⟩, ⟨5, rfl⟩, trivial⟩) (R.eql_i rfl rfl) rfl (JA.val ⟨by kernel_rfl, by kernel_rfl⟩ (calm_only _) (i := 15) rfl ⟨by kernel_rfl, by kernel_rfl, rfl⟩ trivial (stab_of (Hle.refl _) ⟨⟨0, rfl⟩, ⟨1, rfl⟩, ⟨2, rfl⟩, ⟨5, rfl⟩, trivial⟩) (R.pickT rfl rfl) rfl (JA.val ⟨by kernel_rfl, by kernel_rfl⟩ (calm_only _) (i := 16) rfl ⟨by kernel_rfl, by kernel_rfl, rfl⟩ trivial (stab_of (Hle.refl _) ⟨⟨0, rfl⟩, ⟨1, rfl⟩, ⟨2, rfl⟩, ⟨5, rfl⟩, trivial⟩) (R.move rfl) rfl (JA.gSplit (t := 84) rfl (fun c_149 => ?_) (fun c_149 => ?_)))))
       ·
        replace hx := cond_t c_149 hx
        refine JA.val ⟨by kernel_rfl, by kernel_rfl⟩ (calm_only _) (i := 17) rfl ⟨by kernel_rfl, by kernel_rfl, rfl⟩ ⟨_, _, rfl, rfl, rfl⟩ (stab_of (Hle.refl _) ⟨⟨0, rfl⟩, ⟨1, rfl⟩, ⟨2, rfl⟩, ⟨5, rfl⟩, trivial⟩) (R.move rfl) rfl (JA.val ⟨by kernel_rfl, by kernel_rfl⟩ (calm_only _) (i := 18) rfl ⟨by kernel_rfl, by kernel_rfl, rfl⟩ ⟨_, _, rfl, rfl, rfl⟩ (stab_of (Hle.refl _) ⟨⟨0, rfl⟩, ⟨1, rfl⟩, ⟨2, rfl⟩, ⟨5, rfl⟩, trivial⟩) (R.eql_i rfl rfl) rfl (JA.val ⟨by kernel_rfl, by kernel_rfl⟩ (calm_only _) (i := 19) rfl ⟨by kernel_rfl, by kernel_rfl, rfl⟩ trivial (stab_of (Hle.refl _) ⟨⟨0, rfl⟩, ⟨1, rfl⟩, ⟨2, rfl⟩, ⟨5, rfl⟩, trivial⟩) (R.pickT rfl rfl) rfl (JA.val ⟨by kernel_rfl, by kernel_rfl⟩ (calm_only _) (i := 20) rfl ⟨by kernel_rfl, by kernel_rfl, rfl⟩ trivial (stab_of (Hle.refl _) ⟨⟨0, rfl⟩, ⟨1, rfl⟩, ⟨2, rfl⟩, ⟨5, rfl⟩, trivial⟩) (R.move rfl) rfl (JA.gSplit (t := 88) rfl (fun c_150 => ?_) (fun c_150 => ?_)))))
        ·
         replace hx := cond_t c_150 hx
         refine JA.val ⟨by kernel_rfl, by kernel_rfl⟩ (calm_only _) (i := 21) rfl ⟨by kernel_rfl, by kernel_rfl, rfl⟩ ⟨_, _, rfl, rfl, rfl⟩ (stab_of (Hle.refl _) ⟨⟨0, rfl⟩, ⟨1, rfl⟩, ⟨2, rfl⟩, ⟨5, rfl⟩, trivial⟩) (R.move rfl) rfl (JA.val ⟨by kernel_rfl, by kernel_rfl⟩ (calm_only _) (i := 22) rfl ⟨by kernel_rfl, by kernel_rfl, rfl⟩ ⟨_, _, rfl, rfl, rfl⟩ (stab_of (Hle.refl _) ⟨⟨0, rfl⟩, ⟨1, rfl⟩, ⟨2, rfl⟩, ⟨5, rfl⟩, trivial⟩) (R.eql_i rfl rfl) rfl (JA.val ⟨by kernel_rfl, by kernel_rfl⟩ (calm_only _) (i := 23) rfl ⟨by kernel_rfl, by kernel_rfl, rfl⟩ trivial (stab_of (Hle.refl _) ⟨⟨0, rfl⟩, ⟨1, rfl⟩, ⟨2, rfl⟩, ⟨5, rfl⟩, trivial⟩) (R.pickT rfl rfl) rfl (JA.one (i := 24) (by kernel_rfl) (JO.step rfl trivial rfl (fun K hK => JL.store 3 S50 rfl rfl rfl rfl rfl (Nat.le_of_ble_eq_true rfl) (JL.nil (hK _ _ _ (stab_of (Hle.refl _) ⟨⟨0, rfl⟩, ⟨1, rfl⟩, ⟨2, rfl⟩, ⟨5, rfl⟩, trivial⟩) (JA.one (i := 25) (by kernel_rfl) (JO.step rfl trivial rfl (fun K hK => JL.store 4 S28 rfl rfl rfl rfl rfl (Nat.le_of_ble_eq_true rfl) (JL.nil ?_)))))))))))
         refine hK _ _ _ (stab_of (Hle.refl _) ⟨⟨0, rfl⟩, ⟨1, rfl⟩, ⟨2, rfl⟩, ⟨5, rfl⟩, trivial⟩) (JA.val ⟨by kernel_rfl, by kernel_rfl⟩ (calm_only _) (i := 26) rfl ⟨by kernel_rfl, by kernel_rfl, rfl⟩ trivial (stab_of (Hle.refl _) ⟨⟨0, rfl⟩, ⟨1, rfl⟩, ⟨2, rfl⟩, ⟨5, rfl⟩, trivial⟩) (R.assign rfl) rfl (JA.doneN (by kernel_rfl) ?_))
         obtain rfl := Option.some.inj hx
         refine JN.forget 5 (JN.forget 0 (JN.front 3 rfl (JN.front 2 rfl (JN.front 2 rfl (JN.front 3 rfl ?_)))))
         exact JN.cut ⟨rfl, rfl, rfl⟩ ⟨rfl, rfl, rfl, trivial⟩ rfl rfl
        ·
         replace hx := cond_f c_150 hx
         refine JA.no ⟨by kernel_rfl, by kernel_rfl⟩ (calm_only _) (i := 21) rfl ⟨by kernel_rfl, by kernel_rfl, rfl⟩ rfl rfl rfl rfl (stab_of (Hle.refl _) ⟨⟨0, rfl⟩, ⟨1, rfl⟩, ⟨2, rfl⟩, ⟨5, rfl⟩, trivial⟩) rfl (JA.no ⟨by kernel_rfl, by kernel_rfl⟩ (calm_only _) (i := 22) rfl ⟨by kernel_rfl, by kernel_rfl, rfl⟩ rfl rfl rfl rfl (stab_of (Hle.refl _) ⟨⟨0, rfl⟩, ⟨1, rfl⟩, ⟨2, rfl⟩, ⟨5, rfl⟩, trivial⟩) rfl (JA.val ⟨by kernel_rfl, by kernel_rfl⟩ (calm_only _) (i := 23) rfl ⟨by kernel_rfl, by kernel_rfl, rfl⟩ trivial (stab_of (Hle.refl _) ⟨⟨0, rfl⟩, ⟨1, rfl⟩, ⟨2, rfl⟩, ⟨5, rfl⟩, trivial⟩) (R.pickF rfl rfl) rfl (JA.one (i := 24) (by kernel_rfl) (JO.step rfl trivial rfl (fun K hK => JL.store 3 S50 rfl rfl rfl rfl rfl (Nat.le_of_ble_eq_true rfl) (JL.nil (hK _ _ _ (stab_of (Hle.refl _) ⟨⟨0, rfl⟩, ⟨1, rfl⟩, ⟨2, rfl⟩, ⟨5, rfl⟩, trivial⟩) (JA.one (i := 25) (by kernel_rfl) (JO.step rfl trivial rfl (fun K hK => JL.store 4 S28 rfl rfl rfl rfl rfl (Nat.le_of_ble_eq_true rfl) (JL.nil ?_)))))))))))
         refine hK _ _ _ (stab_of (Hle.refl _) ⟨⟨0, rfl⟩, ⟨1, rfl⟩, ⟨2, rfl⟩, ⟨5, rfl⟩, trivial⟩) (JA.val ⟨by kernel_rfl, by kernel_rfl⟩ (calm_only _) (i := 26) rfl ⟨by kernel_rfl, by kernel_rfl, rfl⟩ trivial (stab_of (Hle.refl _) ⟨⟨0, rfl⟩, ⟨1, rfl⟩, ⟨2, rfl⟩, ⟨5, rfl⟩, trivial⟩) (R.assign rfl) rfl (JA.doneN (by kernel_rfl) ?_))
         obtain rfl := Option.some.inj hx
         refine JN.forget 5 (JN.forget 0 (JN.front 3 rfl (JN.front 2 rfl (JN.front 2 rfl (JN.front 3 rfl ?_)))))
         exact JN.cut ⟨rfl, rfl, rfl⟩ ⟨rfl, rfl, rfl, trivial⟩ rfl rfl
       ·
        replace hx := cond_f c_149 hx
        refine JA.no ⟨by kernel_rfl, by kernel_rfl⟩ (calm_only _) (i := 17) rfl ⟨by kernel_rfl, by kernel_rfl, rfl⟩ rfl rfl rfl rfl (stab_of (Hle.refl _) ⟨⟨0, rfl⟩, ⟨1, rfl⟩, ⟨2, rfl⟩, ⟨5, rfl⟩, trivial⟩) rfl (JA.no ⟨by kernel_rfl, by kernel_rfl⟩ (calm_only _) (i := 18) rfl ⟨by kernel_rfl, by kernel_rfl, rfl⟩ rfl rfl rfl rfl (stab_of (Hle.refl _) ⟨⟨0, rfl⟩, ⟨1, rfl⟩, ⟨2, rfl⟩, ⟨5, rfl⟩, trivial⟩) rfl (JA.val ⟨by kernel_rfl, by kernel_rfl⟩ (calm_only _) (i := 19) rfl ⟨by kernel_rfl, by kernel_rfl, rfl⟩ trivial (stab_of (Hle.refl _) ⟨⟨0, rfl⟩, ⟨1, rfl⟩, ⟨2, rfl⟩, ⟨5, rfl⟩, trivial⟩) (R.pickF rfl rfl) rfl (JA.val ⟨by kernel_rfl, by kernel_rfl⟩ (calm_only _) (i := 20) rfl ⟨by kernel_rfl, by kernel_rfl, rfl⟩ trivial (stab_of (Hle.refl _) ⟨⟨0, rfl⟩, ⟨1, rfl⟩, ⟨2, rfl⟩, ⟨5, rfl⟩, trivial⟩) (R.move rfl) rfl (JA.no ⟨by kernel_rfl, by kernel_rfl⟩ (calm_only _) (i := 21) rfl ⟨by kernel_rfl, by kernel_rfl, rfl⟩ rfl rfl rfl rfl (stab_of (Hle.refl _) ⟨⟨0, rfl⟩, ⟨1, rfl⟩, ⟨2, rfl⟩, ⟨5, rfl⟩, trivial⟩) rfl (JA.no ⟨by kernel_rfl, by kernel_rfl⟩ (calm_only _) (i := 22) rfl ⟨by kernel_rfl, by kernel_rfl, rfl⟩ rfl rfl rfl rfl (stab_of (Hle.refl _) ⟨⟨0, rfl⟩, ⟨1, rfl⟩, ⟨2, rfl⟩, ⟨5, rfl⟩, trivial⟩) rfl (JA.val ⟨by kernel_rfl, by kernel_rfl⟩ (calm_only _) (i := 23) rfl ⟨by kernel_rfl, by kernel_rfl, rfl⟩ trivial (stab_of (Hle.refl _) ⟨⟨0, rfl⟩, ⟨1, rfl⟩, ⟨2, rfl⟩, ⟨5, rfl⟩, trivial⟩) (R.pickF rfl rfl) rfl (JA.one (i := 24) (by kernel_rfl) (JO.step rfl trivial rfl (fun K hK => JL.store 3 S50 rfl rfl rfl rfl rfl (Nat.le_of_ble_eq_true rfl) (JL.nil (hK _ _ _ (stab_of (Hle.refl _) ⟨⟨0, rfl⟩, ⟨1, rfl⟩, ⟨2, rfl⟩, ⟨5, rfl⟩, trivial⟩) ?_)))))))))))
        refine JA.one (i := 25) (by kernel_rfl) (JO.step rfl trivial rfl (fun K hK => JL.store 4 S28 rfl rfl rfl rfl rfl (Nat.le_of_ble_eq_true rfl) (JL.nil (hK _ _ _ (stab_of (Hle.refl _) ⟨⟨0, rfl⟩, ⟨1, rfl⟩, ⟨2, rfl⟩, ⟨5, rfl⟩, trivial⟩) (JA.val ⟨by kernel_rfl, by kernel_rfl⟩ (calm_only _) (i := 26) rfl ⟨by kernel_rfl, by kernel_rfl, rfl⟩ trivial (stab_of (Hle.refl _) ⟨⟨0, rfl⟩, ⟨1, rfl⟩, ⟨2, rfl⟩, ⟨5, rfl⟩, trivial⟩) (R.assign rfl) rfl (JA.doneN (by kernel_rfl) ?_))))))
        obtain rfl := Option.some.inj hx
        refine JN.forget 5 (JN.forget 0 (JN.front 3 rfl (JN.front 2 rfl (JN.front 2 rfl (JN.front 3 rfl ?_)))))
        exact JN.cut ⟨rfl, rfl, rfl⟩ ⟨rfl, rfl, rfl, trivial⟩ rfl rfl
      ·
       replace hx := cond_f c_148 hx
       refine JA.no ⟨by kernel_rfl, by kernel_rfl⟩ (calm_only _) (i := 13) rfl ⟨by kernel_rfl, by kernel_rfl, rfl⟩ rfl rfl rfl rfl (stab_of (Hle.refl _) ⟨⟨0, rfl⟩, ⟨1, rfl⟩, ⟨2, rfl⟩, ⟨5, rfl⟩, trivial⟩) rfl (JA.no ⟨by kernel_rfl, by kernel_rfl⟩ (calm_only _) (i := 14) rfl ⟨by kernel_rfl, by kernel_rfl, rfl⟩ rfl rfl rfl rfl (stab_of (Hle.refl _) ⟨⟨0, rfl⟩, ⟨1, rfl⟩, ⟨2, rfl⟩, ⟨5, rfl⟩, trivial⟩) rfl (JA.val ⟨by kernel_rfl, by kernel_rfl⟩ (calm_only _) (i := 15) rfl ⟨by kernel_rfl, by kernel_rfl, rfl⟩ trivial (stab_of (Hle.refl _) ⟨⟨0, rfl⟩, ⟨1, rfl⟩, ⟨2, rfl⟩, ⟨5, rfl⟩, trivial⟩) (R.pickF rfl rfl) rfl (JA.val ⟨by kernel_rfl, by kernel_rfl⟩ (calm_only _) (i := 16) rfl ⟨by kernel_rfl, by kernel_rfl, rfl⟩ trivial (stab_of (Hle.refl _) ⟨⟨0, rfl⟩, ⟨1, rfl⟩, ⟨2, rfl⟩, ⟨5, rfl⟩, trivial⟩) (R.move rfl) rfl (JA.no ⟨by kernel_rfl, by kernel_rfl⟩ (calm_only _) (i := 17) rfl ⟨by kernel_rfl, by kernel_rfl, rfl⟩ rfl rfl rfl rfl (stab_of (Hle.refl _) ⟨⟨0, rfl⟩, ⟨1, rfl⟩, ⟨2, rfl⟩, ⟨5, rfl⟩, trivial⟩) rfl (JA.no ⟨by kernel_rfl, by kernel_rfl⟩ (calm_only _) (i := 18) rfl ⟨by kernel_rfl, by kernel_rfl, rfl⟩ rfl rfl rfl rfl (stab_of (Hle.refl _) ⟨⟨0, rfl⟩, ⟨1, rfl⟩, ⟨2, rfl⟩, ⟨5, rfl⟩, trivial⟩) rfl (JA.val ⟨by kernel_rfl, by kernel_rfl⟩ (calm_only _) (i := 19) rfl ⟨by kernel_rfl, by kernel_rfl, rfl⟩ trivial (stab_of (Hle.refl _) ⟨⟨0, rfl⟩, ⟨1, rfl⟩, ⟨2, rfl⟩, ⟨5, rfl⟩, trivial⟩) (R.pickF rfl rfl) rfl (JA.val ⟨by kernel_rfl, by kernel_rfl⟩ (calm_only _) (i := 20) rfl ⟨by kernel_rfl, by kernel_rfl, rfl⟩ trivial (stab_of (Hle.refl _) ⟨⟨0, rfl⟩, ⟨1, rfl⟩, ⟨2, rfl⟩, ⟨5, rfl⟩, trivial⟩) (R.move rfl) rfl (JA.no ⟨by kernel_rfl, by kernel_rfl⟩ (calm_only _) (i := 21) rfl ⟨by kernel_rfl, by kernel_rfl, rfl⟩ rfl rfl rfl rfl (stab_of (Hle.refl _) ⟨⟨0, rfl⟩, ⟨1, rfl⟩, ⟨2, rfl⟩, ⟨5, rfl⟩, trivial⟩) rfl (JA.no ⟨by kernel_rfl, by kernel_rfl⟩ (calm_only _) (i := 22) rfl ⟨by kernel_rfl, by kernel_rfl, rfl⟩ rfl rfl rfl rfl (stab_of (Hle.refl _) ⟨⟨0, rfl⟩, ⟨1, rfl⟩, ⟨2, rfl⟩, ⟨5, rfl⟩, trivial⟩) rfl (JA.val ⟨by kernel_rfl, by kernel_rfl⟩ (calm_only _) (i := 23) rfl ⟨by kernel_rfl, by kernel_rfl, rfl⟩ trivial (stab_of (Hle.refl _) ⟨⟨0, rfl⟩, ⟨1, rfl⟩, ⟨2, rfl⟩, ⟨5, rfl⟩, trivial⟩) (R.pickF rfl rfl) rfl (JA.one (i := 24) (by kernel_rfl) ?_)))))))))))
       refine JO.step rfl trivial rfl (fun K hK => JL.store 3 S50 rfl rfl rfl rfl rfl (Nat.le_of_ble_eq_true rfl) (JL.nil (hK _ _ _ (stab_of (Hle.refl _) ⟨⟨0, rfl⟩, ⟨1, rfl⟩, ⟨2, rfl⟩, ⟨5, rfl⟩, trivial⟩) (JA.one (i := 25) (by kernel_rfl) (JO.step rfl trivial rfl (fun K hK => JL.store 4 S28 rfl rfl rfl rfl rfl (Nat.le_of_ble_eq_true rfl) (JL.nil (hK _ _ _ (stab_of (Hle.refl _) ⟨⟨0, rfl⟩, ⟨1, rfl⟩, ⟨2, rfl⟩, ⟨5, rfl⟩, trivial⟩) (JA.val ⟨by kernel_rfl, by kernel_rfl⟩ (calm_only _) (i := 26) rfl ⟨by kernel_rfl, by kernel_rfl, rfl⟩ trivial (stab_of (Hle.refl _) ⟨⟨0, rfl⟩, ⟨1, rfl⟩, ⟨2, rfl⟩, ⟨5, rfl⟩, trivial⟩) (R.assign rfl) rfl (JA.doneN (by kernel_rfl) ?_))))))))))
       obtain rfl := Option.some.inj hx
       refine JN.forget 5 (JN.forget 0 (JN.front 3 rfl (JN.front 2 rfl (JN.front 2 rfl (JN.front 3 rfl ?_)))))
       exact JN.cut ⟨rfl, rfl, rfl⟩ ⟨rfl, rfl, rfl, trivial⟩ rfl rfl
     ·
      replace hx := cond_f c_147 hx
      refine JA.no ⟨by kernel_rfl, by kernel_rfl⟩ (calm_only _) (i := 9) rfl ⟨by kernel_rfl, by kernel_rfl, rfl⟩ rfl rfl rfl rfl (stab_of (Hle.refl _) ⟨⟨0, rfl⟩, ⟨1, rfl⟩, ⟨2, rfl⟩, ⟨5, rfl⟩, trivial⟩) rfl (JA.no ⟨by kernel_rfl, by kernel_rfl⟩ (calm_only _) (i := 10) rfl ⟨by kernel_rfl, by kernel_rfl, rfl⟩ rfl rfl rfl rfl (stab_of (Hle.refl _) ⟨⟨0, rfl⟩, ⟨1, rfl⟩, ⟨2, rfl⟩, ⟨5, rfl⟩, trivial⟩) rfl (JA.val ⟨by kernel_rfl, by kernel_rfl⟩ (calm_only _) (i := 11) rfl ⟨by kernel_rfl, by kernel_rfl, rfl⟩ trivial (stab_of (Hle.refl _) ⟨⟨0, rfl⟩, ⟨1, rfl⟩, ⟨2, rfl⟩, ⟨5, rfl⟩, trivial⟩) (R.pickF rfl rfl) rfl (JA.val ⟨by kernel_rfl, by kernel_rfl⟩ (calm_only _) (i := 12) rfl ⟨by kernel_rfl, by kernel_rfl, rfl⟩ trivial (stab_of (Hle.refl _) ⟨⟨0, rfl⟩, ⟨1, rfl⟩, ⟨2, rfl⟩, ⟨5, rfl⟩, trivial⟩) (R.move rfl) rfl (JA.no ⟨by kernel_rfl, by kernel_rfl⟩ (calm_only _) (i := 13) rfl ⟨by kernel_rfl, by kernel_rfl, rfl⟩ rfl rfl rfl rfl (stab_of (Hle.refl _) ⟨⟨0, rfl⟩, ⟨1, rfl⟩, ⟨2, rfl⟩, ⟨5, rfl⟩, trivial⟩) rfl (JA.no ⟨by kernel_rfl, by kernel_rfl⟩ (calm_only _) (i := 14) rfl ⟨by kernel_rfl, by kernel_rfl, rfl⟩ rfl rfl rfl rfl (stab_of (Hle.refl _) ⟨⟨0, rfl⟩, ⟨1, rfl⟩, ⟨2, rfl⟩, ⟨5, rfl⟩, trivial⟩) rfl (JA.val ⟨by kernel_rfl, by kernel_rfl⟩ (calm_only _) (i := 15) rfl ⟨by kernel_rfl, by kernel_rfl, rfl⟩ trivial (stab_of (Hle.refl _) ⟨⟨0, rfl⟩, ⟨1, rfl⟩, ⟨2, rfl⟩, ⟨5, rfl⟩, trivial⟩) (R.pickF rfl rfl) rfl (JA.val ⟨by kernel_rfl, by kernel_rfl⟩ (calm_only _) (i := 16) rfl ⟨by kernel_rfl, by kernel_rfl, rfl⟩ trivial (stab_of (Hle.refl _) ⟨⟨0, rfl⟩, ⟨1, rfl⟩, ⟨2, rfl⟩, ⟨5, rfl⟩, trivial⟩) (R.move rfl) rfl (JA.no ⟨by kernel_rfl, by kernel_rfl⟩ (calm_only _) (i := 17) rfl ⟨by kernel_rfl, by kernel_rfl, rfl⟩ rfl rfl rfl rfl (stab_of (Hle.refl _) ⟨⟨0, rfl⟩, ⟨1, rfl⟩, ⟨2, rfl⟩, ⟨5, rfl⟩, trivial⟩) rfl (JA.no ⟨by kernel_rfl, by kernel_rfl⟩ (calm_only _) (i := 18) rfl ⟨by kernel_rfl, by kernel_rfl, rfl⟩ rfl rfl rfl rfl (stab_of (Hle.refl _) ⟨⟨0, rfl⟩, ⟨1, rfl⟩, ⟨2, rfl⟩, ⟨5, rfl⟩, trivial⟩) rfl (JA.val ⟨by kernel_rfl, by kernel_rfl⟩ (calm_only _) (i := 19) rfl ⟨by kernel_rfl, by kernel_rfl, rfl⟩ trivial (stab_of (Hle.refl _) ⟨⟨0, rfl⟩, ⟨1, rfl⟩, ⟨2, rfl⟩, ⟨5, rfl⟩, trivial⟩) (R.pickF rfl rfl) rfl (JA.val ⟨by kernel_rfl, by kernel_rfl⟩ (calm_only _) (i := 20) rfl ⟨by kernel_rfl, by kernel_rfl, rfl⟩ trivial (stab_of (Hle.refl _) ⟨⟨0, rfl⟩, ⟨1, rfl⟩, ⟨2, rfl⟩, ⟨5, rfl⟩, trivial⟩) (R.move rfl) rfl ?_)))))))))))
      refine JA.no ⟨by kernel_rfl, by kernel_rfl⟩ (calm_only _) (i := 21) rfl ⟨by kernel_rfl, by kernel_rfl, rfl⟩ rfl rfl rfl rfl (stab_of (Hle.refl _) ⟨⟨0, rfl⟩, ⟨1, rfl⟩, ⟨2, rfl⟩, ⟨5, rfl⟩, trivial⟩) rfl (JA.no ⟨by kernel_rfl, by kernel_rfl⟩ (calm_only _) (i := 22) rfl ⟨by kernel_rfl, by kernel_rfl, rfl⟩ rfl rfl rfl rfl (stab_of (Hle.refl _) ⟨⟨0, rfl⟩, ⟨1, rfl⟩, ⟨2, rfl⟩, ⟨5, rfl⟩, trivial⟩) rfl (JA.val ⟨by kernel_rfl, by kernel_rfl⟩ (calm_only _) (i := 23) rfl ⟨by kernel_rfl, by kernel_rfl, rfl⟩ trivial (stab_of (Hle.refl _) ⟨⟨0, rfl⟩, ⟨1, rfl⟩, ⟨2, rfl⟩, ⟨5, rfl⟩, trivial⟩) (R.pickF rfl rfl) rfl (JA.one (i := 24) (by kernel_rfl) (JO.step rfl trivial rfl (fun K hK => JL.store 3 S50 rfl rfl rfl rfl rfl (Nat.le_of_ble_eq_true rfl) (JL.nil (hK _ _ _ (stab_of (Hle.refl _) ⟨⟨0, rfl⟩, ⟨1, rfl⟩, ⟨2, rfl⟩, ⟨5, rfl⟩, trivial⟩) (JA.one (i := 25) (by kernel_rfl) (JO.step rfl trivial rfl (fun K hK => JL.store 4 S28 rfl rfl rfl rfl rfl (Nat.le_of_ble_eq_true rfl) (JL.nil ?_)))))))))))
      refine hK _ _ _ (stab_of (Hle.refl _) ⟨⟨0, rfl⟩, ⟨1, rfl⟩, ⟨2, rfl⟩, ⟨5, rfl⟩, trivial⟩) (JA.val ⟨by kernel_rfl, by kernel_rfl⟩ (calm_only _) (i := 26) rfl ⟨by kernel_rfl, by kernel_rfl, rfl⟩ trivial (stab_of (Hle.refl _) ⟨⟨0, rfl⟩, ⟨1, rfl⟩, ⟨2, rfl⟩, ⟨5, rfl⟩, trivial⟩) (R.assign rfl) rfl (JA.doneN (by kernel_rfl) ?_))
      obtain rfl := Option.some.inj hx
      refine JN.forget 5 (JN.forget 0 (JN.front 3 rfl (JN.front 2 rfl (JN.front 2 rfl (JN.front 3 rfl ?_)))))
      exact JN.cut ⟨rfl, rfl, rfl⟩ ⟨rfl, rfl, rfl, trivial⟩ rfl rfl
    ·
     replace hx := cond_f c_146 hx
     refine JA.no ⟨by kernel_rfl, by kernel_rfl⟩ (calm_only _) (i := 5) rfl ⟨by kernel_rfl, by kernel_rfl, rfl⟩ rfl rfl rfl rfl (stab_of (Hle.refl _) ⟨⟨0, rfl⟩, ⟨1, rfl⟩, ⟨2, rfl⟩, ⟨5, rfl⟩, trivial⟩) rfl (JA.no ⟨by kernel_rfl, by kernel_rfl⟩ (calm_only _) (i := 6) rfl ⟨by kernel_rfl, by kernel_rfl, rfl⟩ rfl rfl rfl rfl (stab_of (Hle.refl _) ⟨⟨0, rfl⟩, ⟨1, rfl⟩, ⟨2, rfl⟩, ⟨5, rfl⟩, trivial⟩) rfl (JA.val ⟨by kernel_rfl, by kernel_rfl⟩ (calm_only _) (i := 7) rfl ⟨by kernel_rfl, by kernel_rfl, rfl⟩ trivial (stab_of (Hle.refl _) ⟨⟨0, rfl⟩, ⟨1, rfl⟩, ⟨2, rfl⟩, ⟨5, rfl⟩, trivial⟩) (R.pickF rfl rfl) rfl (JA.val ⟨by kernel_rfl, by kernel_rfl⟩ (calm_only _) (i := 8) rfl ⟨by kernel_rfl, by kernel_rfl, rfl⟩ trivial (stab_of (Hle.refl _) ⟨⟨0, rfl⟩, ⟨1, rfl⟩, ⟨2, rfl⟩, ⟨5, rfl⟩, trivial⟩) (R.move rfl) rfl (JA.no ⟨by kernel_rfl, by kernel_rfl⟩ (calm_only _) (i := 9) rfl ⟨by kernel_rfl, by kernel_rfl, rfl⟩ rfl rfl rfl rfl (stab_of (Hle.refl _) ⟨⟨0, rfl⟩, ⟨1, rfl⟩, ⟨2, rfl⟩, ⟨5, rfl⟩, trivial⟩) rfl (JA.no ⟨by kernel_rfl, by kernel_rfl⟩ (calm_only _) (i := 10) rfl ⟨by kernel_rfl, by kernel_rfl, rfl⟩ rfl rfl rfl rfl (stab_of (Hle.refl _) ⟨⟨0, rfl⟩, ⟨1, rfl⟩, ⟨2, rfl⟩, ⟨5, rfl⟩, trivial⟩) rfl (JA.val ⟨by kernel_rfl, by kernel_rfl⟩ (calm_only _) (i := 11) rfl ⟨by kernel_rfl, by kernel_rfl, rfl⟩ trivial (stab_of (Hle.refl _) ⟨⟨0, rfl⟩, ⟨1, rfl⟩, ⟨2, rfl⟩, ⟨5, rfl⟩, trivial⟩) (R.pickF rfl rfl) rfl (JA.val ⟨by kernel_rfl, by kernel_rfl⟩ (calm_only _) (i := 12) rfl ⟨by kernel_rfl, by kernel_rfl, rfl⟩ trivial (stab_of (Hle.refl _) ⟨⟨0, rfl⟩, ⟨1, rfl⟩, ⟨2, rfl⟩, ⟨5, rfl⟩, trivial⟩) (R.move rfl) rfl (JA.no ⟨by kernel_rfl, by kernel_rfl⟩ (calm_only _) (i := 13) rfl ⟨by kernel_rfl, by kernel_rfl, rfl⟩ rfl rfl rfl rfl (stab_of (Hle.refl _) ⟨⟨0, rfl⟩, ⟨1, rfl⟩, ⟨2, rfl⟩, ⟨5, rfl⟩, trivial⟩) rfl (JA.no ⟨by kernel_rfl, by kernel_rfl⟩ (calm_only _) (i := 14) rfl ⟨by kernel_rfl, by kernel_rfl, rfl⟩ rfl rfl rfl rfl (stab_of (Hle.refl _) ⟨⟨0, rfl⟩, ⟨1, rfl⟩, ⟨2, rfl⟩, ⟨5, rfl⟩, trivial⟩) rfl (JA.val ⟨by kernel_rfl, by kernel_rfl⟩ (calm_only _) (i := 15) rfl ⟨by kernel_rfl, by kernel_rfl, rfl⟩ trivial (stab_of (Hle.refl _) ⟨⟨0, rfl⟩, ⟨1, rfl⟩, ⟨2, rfl⟩, ⟨5, rfl⟩, trivial⟩) (R.pickF rfl rfl) rfl (JA.val ⟨by kernel_rfl, by kernel_rfl⟩ (calm_only _) (i := 16) rfl ⟨by kernel_rfl, by kernel_rfl, rfl⟩ trivial (stab_of (Hle.refl _) ⟨⟨0, rfl⟩, ⟨1, rfl⟩, ⟨2, rfl⟩, ⟨5, rfl⟩, trivial⟩) (R.move rfl) rfl ?_)))))))))))
     refine JA.no ⟨by kernel_rfl, by kernel_rfl⟩ (calm_only _) (i := 17) rfl ⟨by kernel_rfl, by kernel_rfl, rfl⟩ rfl rfl rfl rfl (stab_of (Hle.refl _) ⟨⟨0, rfl⟩, ⟨1, rfl⟩, ⟨2, rfl⟩, ⟨5, rfl⟩, trivial⟩) rfl (JA.no ⟨by kernel_rfl, by kernel_rfl⟩ (calm_only _) (i := 18) rfl ⟨by kernel_rfl, by kernel_rfl, rfl⟩ rfl rfl rfl rfl (stab_of (Hle.refl _) ⟨⟨0, rfl⟩, ⟨1, rfl⟩, ⟨2, rfl⟩, ⟨5, rfl⟩, trivial⟩) rfl (JA.val ⟨by kernel_rfl, by kernel_rfl⟩ (calm_only _) (i := 19) rfl ⟨by kernel_rfl, by kernel_rfl, rfl⟩ trivial (stab_of (Hle.refl _) ⟨⟨0, rfl⟩, ⟨1, rfl⟩, ⟨2, rfl⟩, ⟨5, rfl⟩, trivial⟩) (R.pickF rfl rfl) rfl (JA.val ⟨by kernel_rfl, by kernel_rfl⟩ (calm_only _) (i := 20) rfl ⟨by kernel_rfl, by kernel_rfl, rfl⟩ trivial (stab_of (Hle.refl _) ⟨⟨0, rfl⟩, ⟨1, rfl⟩, ⟨2, rfl⟩, ⟨5, rfl⟩, trivial⟩) (R.move rfl) rfl (JA.no ⟨by kernel_rfl, by kernel_rfl⟩ (calm_only _) (i := 21) rfl ⟨by kernel_rfl, by kernel_rfl, rfl⟩ rfl rfl rfl rfl (stab_of (Hle.refl _) ⟨⟨0, rfl⟩, ⟨1, rfl⟩, ⟨2, rfl⟩, ⟨5, rfl⟩, trivial⟩) rfl (JA.no ⟨by kernel_rfl, by kernel_rfl⟩ (calm_only _) (i := 22) rfl ⟨by kernel_rfl, by kernel_rfl, rfl⟩ rfl rfl rfl rfl (stab_of (Hle.refl _) ⟨⟨0, rfl⟩, ⟨1, rfl⟩, ⟨2, rfl⟩, ⟨5, rfl⟩, trivial⟩) rfl (JA.val ⟨by kernel_rfl, by kernel_rfl⟩ (calm_only _) (i := 23) rfl ⟨by kernel_rfl, by kernel_rfl, rfl⟩ trivial (stab_of (Hle.refl _) ⟨⟨0, rfl⟩, ⟨1, rfl⟩, ⟨2, rfl⟩, ⟨5, rfl⟩, trivial⟩) (R.pickF rfl rfl) rfl (JA.one (i := 24) (by kernel_rfl) (JO.step rfl trivial rfl (fun K hK => JL.store 3 S50 rfl rfl rfl rfl rfl (Nat.le_of_ble_eq_true rfl) (JL.nil (hK _ _ _ (stab_of (Hle.refl _) ⟨⟨0, rfl⟩, ⟨1, rfl⟩, ⟨2, rfl⟩, ⟨5, rfl⟩, trivial⟩) ?_)))))))))))
     refine JA.one (i := 25) (by kernel_rfl) (JO.step rfl trivial rfl (fun K hK => JL.store 4 S28 rfl rfl rfl rfl rfl (Nat.le_of_ble_eq_true rfl) (JL.nil (hK _ _ _ (stab_of (Hle.refl _) ⟨⟨0, rfl⟩, ⟨1, rfl⟩, ⟨2, rfl⟩, ⟨5, rfl⟩, trivial⟩) (JA.val ⟨by kernel_rfl, by kernel_rfl⟩ (calm_only _) (i := 26) rfl ⟨by kernel_rfl, by kernel_rfl, rfl⟩ trivial (stab_of (Hle.refl _) ⟨⟨0, rfl⟩, ⟨1, rfl⟩, ⟨2, rfl⟩, ⟨5, rfl⟩, trivial⟩) (R.assign rfl) rfl (JA.doneN (by kernel_rfl) ?_))))))
     obtain rfl := Option.some.inj hx
     refine JN.forget 5 (JN.forget 0 (JN.front 3 rfl (JN.front 2 rfl (JN.front 2 rfl (JN.front 3 rfl ?_)))))
     exact JN.cut ⟨rfl, rfl, rfl⟩ ⟨rfl, rfl, rfl, trivial⟩ rfl rfl
  ·
   have hxo_55 := hx; clear hx; have hx := ht_56; clear ht_56
   refine JC.pubN 5 R_Write.mono rfl hr_51 (Nat.le_refl _) (fun H_57 hleH_57 hsH_57 => JC.forget 5 (JC.pubN 5 RU8.mono rfl (hr_52.mono RU8.mono (New.mono hleH_57)) (Nat.le_refl _) (fun H_58 hleH_58 hsH_58 => JC.forget 5 (JC.draw (so := [_, _, _, _, _]) 11 rfl Mixed ⟨⟨0, rfl⟩, ⟨1, rfl⟩, ⟨2, rfl⟩, ⟨3, rfl⟩, ⟨5, rfl⟩, trivial⟩ (JAA.start [⟨7, 7, 28, .agg #[.int .i64 0, .int .u32 0, .int .u32 0, .int .u32 0, .int .u32 0]⟩] rfl ?_)))))
   obtain ⟨x_61, hm_60, hc_59, hx⟩ := mks_some hx
   obtain ⟨x_64, hr_65, hx⟩ := bnd_some hx
   refine JAA.two (i := 0) (j := 1) ⟨⟨_, _, _, rfl, Z28, rfl⟩, trivial⟩ (Hle.refl _) ⟨⟨0, rfl⟩, ⟨1, rfl⟩, ⟨2, rfl⟩, ⟨3, rfl⟩, ⟨5, rfl⟩, trivial⟩ rfl (by kernel_rfl) ?_ ?_
   ·
    refine JOA.step rfl trivial rfl (fun tl_71 to_72 K hK => JL.val rfl rfl (R.ldoN 4 (vs := [.slice aoz_50 nz_50 capz_50, .slice aor_51 nr_51 capr_51, .slice aor_52 nr_52 capr_52, .int .u32 (t_8.2.2.2.1.toNat : Int), .int .u32 (t_8.2.2.2.2.1.toNat : Int)]) S50 rfl rfl rfl rfl) (JL.nil (hK (by repeat constructor) (by repeat constructor) (stab_of (Hle.refl _) ⟨⟨0, rfl⟩, ⟨1, rfl⟩, ⟨2, rfl⟩, ⟨3, rfl⟩, ⟨5, rfl⟩, trivial⟩) (JAA.one (i := 1) ⟨⟨_, _, _, rfl, Z28, rfl⟩, trivial⟩ (Hle.refl _) ⟨⟨0, rfl⟩, ⟨1, rfl⟩, ⟨2, rfl⟩, ⟨3, rfl⟩, ⟨5, rfl⟩, trivial⟩ rfl (by kernel_rfl) (JOA.step rfl trivial rfl (fun tl_73 to_74 K hK => JL.mkF (HF := New H H_58) (R := RU8) (y := (0 : UInt8)) (n := 256) U45 I5 rfl rfl (fun _ => rfl) RU8.one hm_60 hc_59 rfl rfl (fun vr_62 Kr_62 hr_62 => ?_)))))))
    obtain ⟨aor_62, capr_62, rfl⟩ := RowOf.val hr_62
    refine JL.nil (hK (by repeat constructor) (by repeat constructor) (stab_of (Hle.refl _) ⟨⟨1, rfl⟩, ⟨2, rfl⟩, ⟨3, rfl⟩, ⟨4, rfl⟩, ⟨6, rfl⟩, trivial⟩) (JAA.one (i := 2) ⟨⟨_, _, _, rfl, Z28, rfl⟩, trivial⟩ (Hle.refl _) ⟨⟨1, rfl⟩, ⟨2, rfl⟩, ⟨3, rfl⟩, ⟨4, rfl⟩, ⟨6, rfl⟩, trivial⟩ rfl (by kernel_rfl) (JOA.step rfl trivial rfl (fun tl_75 to_76 K hK => JL.pubN 0 RU8.mono rfl hr_62 (Nat.le_refl _) (fun H_63 hleH_63 hsH_63 => JL.forget 0 (JL.callC (vs := [_, _, _]) (args := [_, _, _]) (K := []) (rst := _ :: _ :: _ :: _ :: _ :: _ :: to_76) E27 rfl rfl rfl picks0 (store_Lay_ok (Store.mk (Disk.mk t_8.1 t_8.2.1) t_8.2.2.1 t_8.2.2.2.1 t_8.2.2.2.2.1) (5 : UInt32) x_61 _ ((hz_50.mono (RSl.mono RU8.mono) (New.mono (hleH_57.trans (hleH_58.trans hleH_63)))).old (RSl.mono RU8.mono)) ((hsH_57.mono R_Write.mono (New.mono (hleH_58.trans hleH_63))).old R_Write.mono) ((hsH_58.mono RU8.mono (New.mono hleH_63)).old RU8.mono) (hsH_63.old RU8.mono) _ hr_65) rfl (fun u_66 Ku_66 Hu_66 hRu_66 hleu_66 hfu_66 => ?_)))))))
    obtain ⟨aoz_67, nz_67, capz_67, aor_68, nr_68, capr_68, Kr_68, aor_69, nr_69, capr_69, Kr_69, rfl, rfl, hz_67, hr_68, hnewr_68, hr_69, hnewr_69, -⟩ := hRu_66
    replace hr_68 := (RowOf.base (RowOf.mono R_Write.mono (New.call (hleH_48.trans (hleH_57.trans (hleH_58.trans hleH_63)))) hr_68) (fun p hp => (hfu_66 p (mem_seg 0 rfl hp)).resolve_left (hnewr_68 p hp)))
    replace hr_69 := (RowOf.base (RowOf.const (H2 := New H Hu_66) RU8.const hr_69) (fun p hp => (hfu_66 p (mem_seg 1 rfl hp)).resolve_left (hnewr_69 p hp)))
    replace hz_67 := IsSlice.mono (RSl.mono RU8.mono) (New.call (hleH_48.trans (hleH_57.trans (hleH_58.trans hleH_63)))) hz_67
    refine JL.nil (hK (by repeat constructor) (by repeat constructor) (stab_of (hleH_63.trans hleu_66) ⟨⟨2, rfl⟩, ⟨3, rfl⟩, ⟨4, rfl⟩, ⟨5, rfl⟩, ⟨7, rfl⟩, trivial⟩) (JAA.val ⟨by kernel_rfl, by kernel_rfl⟩ (calm_only _) (i := 3) rfl (by kernel_rfl) rfl trivial (hleH_63.trans hleu_66) ⟨⟨2, rfl⟩, ⟨3, rfl⟩, ⟨4, rfl⟩, ⟨5, rfl⟩, ⟨7, rfl⟩, trivial⟩ (R.move rfl) rfl (JAA.val ⟨by kernel_rfl, by kernel_rfl⟩ (calm_only _) (i := 4) rfl (by kernel_rfl) rfl trivial (hleH_63.trans hleu_66) ⟨⟨2, rfl⟩, ⟨3, rfl⟩, ⟨4, rfl⟩, ⟨5, rfl⟩, ⟨7, rfl⟩, trivial⟩ (R.extract rfl rfl) rfl (JAA.val ⟨by kernel_rfl, by kernel_rfl⟩ (calm_only _) (i := 5) rfl (by kernel_rfl) rfl trivial (hleH_63.trans hleu_66) ⟨⟨2, rfl⟩, ⟨3, rfl⟩, ⟨4, rfl⟩, ⟨5, rfl⟩, ⟨7, rfl⟩, trivial⟩ (R.extract rfl rfl) rfl (JAA.val ⟨by kernel_rfl, by kernel_rfl⟩ (calm_only _) (i := 6) rfl (by kernel_rfl) rfl trivial (hleH_63.trans hleu_66) ⟨⟨2, rfl⟩, ⟨3, rfl⟩, ⟨4, rfl⟩, ⟨5, rfl⟩, ⟨7, rfl⟩, trivial⟩ (R.extract rfl rfl) rfl (JAA.all ⟨⟨_, _, _, rfl, Z28, rfl⟩, trivial⟩ (hleH_63.trans hleu_66) ⟨⟨2, rfl⟩, ⟨3, rfl⟩, ⟨4, rfl⟩, ⟨5, rfl⟩, ⟨7, rfl⟩, trivial⟩ rfl (by kernel_rfl) (fun b_77 hb_77 => JA.one (i := 8) (by kernel_rfl) (JO.step rfl trivial rfl (fun K hK => JL.store 6 S50 rfl rfl rfl rfl rfl (Nat.le_of_ble_eq_true rfl) (JL.nil (hK _ _ _ (stab_of (hleH_63.trans hleu_66) ⟨⟨2, rfl⟩, ⟨3, rfl⟩, ⟨4, rfl⟩, ⟨5, rfl⟩, ⟨7, rfl⟩, trivial⟩) ?_)))))))))))
    refine JA.one (i := 9) (by kernel_rfl) (JO.step rfl trivial rfl (fun K hK => JL.store 8 S28 rfl rfl rfl rfl rfl (Nat.le_of_ble_eq_true rfl) (JL.nil (hK _ _ _ (stab_of (hleH_63.trans hleu_66) ⟨⟨2, rfl⟩, ⟨3, rfl⟩, ⟨4, rfl⟩, ⟨5, rfl⟩, ⟨7, rfl⟩, trivial⟩) (JA.val ⟨by kernel_rfl, by kernel_rfl⟩ (calm_only _) (i := 10) rfl ⟨by kernel_rfl, by kernel_rfl, rfl⟩ trivial (stab_of (hleH_63.trans hleu_66) ⟨⟨2, rfl⟩, ⟨3, rfl⟩, ⟨4, rfl⟩, ⟨5, rfl⟩, ⟨7, rfl⟩, trivial⟩) (R.assign rfl) rfl (JA.doneN (by kernel_rfl) ?_))))))
    obtain rfl := Option.some.inj hx
    refine JN.front 8 rfl (JN.front 8 rfl (JN.front 3 rfl (JN.front 3 rfl (JN.front 8 rfl (JN.front 8 rfl (JN.front 8 rfl (JN.front 8 rfl (JN.front 8 rfl ?_))))))))
    exact JN.cut ⟨Hu_66, aoz_67, nz_67, capz_67, aor_68, nr_68, capr_68, Kr_68, aor_69, nr_69, capr_69, Kr_69, b_77, rfl, rfl, rfl, ((hleH_57.trans (hleH_58.trans (hleH_63.trans hleu_66)))), hz_67, hr_68, hr_69, hb_77⟩ ⟨rfl, rfl, rfl, rfl, rfl, rfl, rfl, rfl, trivial⟩ rfl rfl
   ·
    refine JOA.step rfl trivial rfl (fun tl_78 to_79 K hK => JL.mkF (HF := New H H_58) (R := RU8) (y := (0 : UInt8)) (n := 256) U45 I5 rfl rfl (fun _ => rfl) RU8.one hm_60 hc_59 rfl rfl (fun vr_62 Kr_62 hr_62 => ?_))
    obtain ⟨aor_62, capr_62, rfl⟩ := RowOf.val hr_62
    refine JL.nil (hK (by repeat constructor) (by repeat constructor) (stab_of (Hle.refl _) ⟨⟨1, rfl⟩, ⟨2, rfl⟩, ⟨3, rfl⟩, ⟨4, rfl⟩, ⟨6, rfl⟩, trivial⟩) (JAA.one (i := 0) ⟨⟨_, _, _, rfl, Z28, rfl⟩, trivial⟩ (Hle.refl _) ⟨⟨1, rfl⟩, ⟨2, rfl⟩, ⟨3, rfl⟩, ⟨4, rfl⟩, ⟨6, rfl⟩, trivial⟩ rfl (by kernel_rfl) (JOA.step rfl trivial rfl (fun tl_80 to_81 K hK => JL.val rfl rfl (R.ldoN 5 (vs := [.slice aoz_50 nz_50 capz_50, .slice aor_51 nr_51 capr_51, .slice aor_52 nr_52 capr_52, .int .u32 (t_8.2.2.2.1.toNat : Int), .int .u32 (t_8.2.2.2.2.1.toNat : Int)]) S50 rfl rfl rfl rfl) (JL.nil (hK (by repeat constructor) (by repeat constructor) (stab_of (Hle.refl _) ⟨⟨1, rfl⟩, ⟨2, rfl⟩, ⟨3, rfl⟩, ⟨4, rfl⟩, ⟨6, rfl⟩, trivial⟩) (JAA.one (i := 2) ⟨⟨_, _, _, rfl, Z28, rfl⟩, trivial⟩ (Hle.refl _) ⟨⟨1, rfl⟩, ⟨2, rfl⟩, ⟨3, rfl⟩, ⟨4, rfl⟩, ⟨6, rfl⟩, trivial⟩ rfl (by kernel_rfl) (JOA.step rfl trivial rfl (fun tl_82 to_83 K hK => JL.pubN 0 RU8.mono rfl hr_62 (Nat.le_refl _) (fun H_63 hleH_63 hsH_63 => JL.forget 0 (JL.callC (vs := [_, _, _]) (args := [_, _, _]) (K := []) (rst := _ :: _ :: _ :: _ :: _ :: _ :: to_83) E27 rfl rfl rfl picks0 (store_Lay_ok (Store.mk (Disk.mk t_8.1 t_8.2.1) t_8.2.2.1 t_8.2.2.2.1 t_8.2.2.2.2.1) (5 : UInt32) x_61 _ ((hz_50.mono (RSl.mono RU8.mono) (New.mono (hleH_57.trans (hleH_58.trans hleH_63)))).old (RSl.mono RU8.mono)) ((hsH_57.mono R_Write.mono (New.mono (hleH_58.trans hleH_63))).old R_Write.mono) ((hsH_58.mono RU8.mono (New.mono hleH_63)).old RU8.mono) (hsH_63.old RU8.mono) _ hr_65) rfl (fun u_66 Ku_66 Hu_66 hRu_66 hleu_66 hfu_66 => ?_))))))))))))
    obtain ⟨aoz_67, nz_67, capz_67, aor_68, nr_68, capr_68, Kr_68, aor_69, nr_69, capr_69, Kr_69, rfl, rfl, hz_67, hr_68, hnewr_68, hr_69, hnewr_69, -⟩ := hRu_66
    replace hr_68 := (RowOf.base (RowOf.mono R_Write.mono (New.call (hleH_48.trans (hleH_57.trans (hleH_58.trans hleH_63)))) hr_68) (fun p hp => (hfu_66 p (mem_seg 0 rfl hp)).resolve_left (hnewr_68 p hp)))
    replace hr_69 := (RowOf.base (RowOf.const (H2 := New H Hu_66) RU8.const hr_69) (fun p hp => (hfu_66 p (mem_seg 1 rfl hp)).resolve_left (hnewr_69 p hp)))
    replace hz_67 := IsSlice.mono (RSl.mono RU8.mono) (New.call (hleH_48.trans (hleH_57.trans (hleH_58.trans hleH_63)))) hz_67
    refine JL.nil (hK (by repeat constructor) (by repeat constructor) (stab_of (hleH_63.trans hleu_66) ⟨⟨2, rfl⟩, ⟨3, rfl⟩, ⟨4, rfl⟩, ⟨5, rfl⟩, ⟨7, rfl⟩, trivial⟩) (JAA.val ⟨by kernel_rfl, by kernel_rfl⟩ (calm_only _) (i := 3) rfl (by kernel_rfl) rfl trivial (hleH_63.trans hleu_66) ⟨⟨2, rfl⟩, ⟨3, rfl⟩, ⟨4, rfl⟩, ⟨5, rfl⟩, ⟨7, rfl⟩, trivial⟩ (R.move rfl) rfl (JAA.val ⟨by kernel_rfl, by kernel_rfl⟩ (calm_only _) (i := 4) rfl (by kernel_rfl) rfl trivial (hleH_63.trans hleu_66) ⟨⟨2, rfl⟩, ⟨3, rfl⟩, ⟨4, rfl⟩, ⟨5, rfl⟩, ⟨7, rfl⟩, trivial⟩ (R.extract rfl rfl) rfl (JAA.val ⟨by kernel_rfl, by kernel_rfl⟩ (calm_only _) (i := 5) rfl (by kernel_rfl) rfl trivial (hleH_63.trans hleu_66) ⟨⟨2, rfl⟩, ⟨3, rfl⟩, ⟨4, rfl⟩, ⟨5, rfl⟩, ⟨7, rfl⟩, trivial⟩ (R.extract rfl rfl) rfl (JAA.val ⟨by kernel_rfl, by kernel_rfl⟩ (calm_only _) (i := 6) rfl (by kernel_rfl) rfl trivial (hleH_63.trans hleu_66) ⟨⟨2, rfl⟩, ⟨3, rfl⟩, ⟨4, rfl⟩, ⟨5, rfl⟩, ⟨7, rfl⟩, trivial⟩ (R.extract rfl rfl) rfl (JAA.all ⟨⟨_, _, _, rfl, Z28, rfl⟩, trivial⟩ (hleH_63.trans hleu_66) ⟨⟨2, rfl⟩, ⟨3, rfl⟩, ⟨4, rfl⟩, ⟨5, rfl⟩, ⟨7, rfl⟩, trivial⟩ rfl (by kernel_rfl) (fun b_84 hb_84 => JA.one (i := 8) (by kernel_rfl) (JO.step rfl trivial rfl (fun K hK => JL.store 6 S50 rfl rfl rfl rfl rfl (Nat.le_of_ble_eq_true rfl) (JL.nil (hK _ _ _ (stab_of (hleH_63.trans hleu_66) ⟨⟨2, rfl⟩, ⟨3, rfl⟩, ⟨4, rfl⟩, ⟨5, rfl⟩, ⟨7, rfl⟩, trivial⟩) ?_)))))))))))
    refine JA.one (i := 9) (by kernel_rfl) (JO.step rfl trivial rfl (fun K hK => JL.store 8 S28 rfl rfl rfl rfl rfl (Nat.le_of_ble_eq_true rfl) (JL.nil (hK _ _ _ (stab_of (hleH_63.trans hleu_66) ⟨⟨2, rfl⟩, ⟨3, rfl⟩, ⟨4, rfl⟩, ⟨5, rfl⟩, ⟨7, rfl⟩, trivial⟩) (JA.val ⟨by kernel_rfl, by kernel_rfl⟩ (calm_only _) (i := 10) rfl ⟨by kernel_rfl, by kernel_rfl, rfl⟩ trivial (stab_of (hleH_63.trans hleu_66) ⟨⟨2, rfl⟩, ⟨3, rfl⟩, ⟨4, rfl⟩, ⟨5, rfl⟩, ⟨7, rfl⟩, trivial⟩) (R.assign rfl) rfl (JA.doneN (by kernel_rfl) ?_))))))
    obtain rfl := Option.some.inj hx
    refine JN.front 8 rfl (JN.front 8 rfl (JN.front 3 rfl (JN.front 3 rfl (JN.front 8 rfl (JN.front 8 rfl (JN.front 8 rfl (JN.front 8 rfl (JN.front 8 rfl ?_))))))))
    exact JN.cut ⟨Hu_66, aoz_67, nz_67, capz_67, aor_68, nr_68, capr_68, Kr_68, aor_69, nr_69, capr_69, Kr_69, b_84, rfl, rfl, rfl, ((hleH_57.trans (hleH_58.trans (hleH_63.trans hleu_66)))), hz_67, hr_68, hr_69, hb_84⟩ ⟨rfl, rfl, rfl, rfl, rfl, rfl, rfl, rfl, trivial⟩ rfl rfl
 ·
  have hxo_9 := hx; clear hx; have hx := ht_10; clear ht_10
  refine JC.draw (so := [_, _, _, _]) 12 rfl Mixed ⟨⟨0, rfl⟩, ⟨1, rfl⟩, ⟨2, rfl⟩, ⟨3, rfl⟩, trivial⟩ (JAA.start [⟨7, 4, 50, .agg #[.slice none 0 0, .slice none 0 0, .slice none 0 0, .int .u32 0, .int .u32 0]⟩, ⟨8, 5, 28, .agg #[.int .i64 0, .int .u32 0, .int .u32 0, .int .u32 0, .int .u32 0]⟩] rfl ?_)
  obtain ⟨x_11, hr_12, hx⟩ := bnd_some hx
  obtain ⟨x_19, hm_18, hc_17, hx⟩ := mks_some hx
  obtain ⟨x_24, hr_25, hx⟩ := bnd_some hx
  refine JAA.two (i := 0) (j := 1) ⟨⟨_, _, _, rfl, Z50, rfl⟩, ⟨_, _, _, rfl, Z28, rfl⟩, trivial⟩ (Hle.refl _) ⟨⟨0, rfl⟩, ⟨1, rfl⟩, ⟨2, rfl⟩, ⟨3, rfl⟩, trivial⟩ rfl (by kernel_rfl) ?_ ?_
  ·
   refine JOA.step rfl trivial rfl (fun tl_32 to_33 K hK => JL.callC (vs := []) (args := []) (K := []) (rst := _ :: _ :: _ :: _ :: to_33) E33 rfl rfl rfl picks0 (store_New_ok _ _ hr_12) rfl (fun u_13 Ku_13 Hu_13 hRu_13 hleu_13 hfu_13 => ?_))
   obtain ⟨aor_14, nr_14, capr_14, Kr_14, aoz_15, nz_15, aor_16, nr_16, capr_16, Kr_16, rfl, rfl, hr_14, hnewr_14, hz_15, hr_16, hnewr_16, -⟩ := hRu_13
   replace hr_14 := (Pcs.base hr_14 (fun p hp => (hfu_13 p (mem_seg 0 rfl hp)).resolve_left (hnewr_14 p hp)))
   replace hr_16 := (RowOf.base (RowOf.const (H2 := New H Hu_13) RU8.const hr_16) (fun p hp => (hfu_13 p (mem_seg 1 rfl hp)).resolve_left (hnewr_16 p hp)))
   replace hz_15 := IsSlice.mono R_Write.mono (New.call (Hle.refl _)) hz_15
   refine JL.nil (hK (by repeat constructor) (by repeat constructor) (stab_of hleu_13 ⟨⟨2, rfl⟩, ⟨3, rfl⟩, ⟨4, rfl⟩, ⟨5, rfl⟩, trivial⟩) (JAA.one (i := 1) ⟨⟨_, _, _, rfl, Z50, rfl⟩, ⟨_, _, _, rfl, Z28, rfl⟩, trivial⟩ hleu_13 ⟨⟨2, rfl⟩, ⟨3, rfl⟩, ⟨4, rfl⟩, ⟨5, rfl⟩, trivial⟩ rfl (by kernel_rfl) (JOA.step rfl trivial rfl (fun tl_34 to_35 K hK => JL.mkF (HF := New H Hu_13) (R := RU8) (y := (0 : UInt8)) (n := 256) U45 I5 rfl rfl (fun _ => rfl) RU8.one hm_18 hc_17 rfl rfl (fun vr_20 Kr_20 hr_20 => ?_)))))
   obtain ⟨aor_20, capr_20, rfl⟩ := RowOf.val hr_20
   refine JL.nil (hK (by repeat constructor) (by repeat constructor) (stab_of hleu_13 ⟨⟨3, rfl⟩, ⟨4, rfl⟩, ⟨5, rfl⟩, ⟨6, rfl⟩, trivial⟩) (JAA.one (i := 2) ⟨⟨_, _, _, rfl, Z50, rfl⟩, ⟨_, _, _, rfl, Z28, rfl⟩, trivial⟩ hleu_13 ⟨⟨3, rfl⟩, ⟨4, rfl⟩, ⟨5, rfl⟩, ⟨6, rfl⟩, trivial⟩ rfl (by kernel_rfl) (JOA.step rfl trivial rfl (fun tl_36 to_37 K hK => JL.pubPcs 1  rfl hr_14 (Nat.le_refl _) (fun H_21 hleH_21 hsH_21 => JL.forget 1 (JL.pubN 1 RU8.mono rfl (hr_16.mono RU8.mono (New.mono hleH_21)) (Nat.le_refl _) (fun H_22 hleH_22 hsH_22 => JL.forget 1 (JL.pubN 0 RU8.mono rfl (hr_20.mono RU8.mono (New.mono (hleH_21.trans hleH_22))) (Nat.le_refl _) (fun H_23 hleH_23 hsH_23 => JL.forget 0 (JL.callC (vs := [_, _, _]) (args := [_, _, _]) (K := []) (rst := _ :: _ :: _ :: _ :: to_37) E27 rfl rfl rfl picks0 (store_Lay_ok x_11 (3 : UInt32) x_19 _ ((hsH_21.mono (RSl.mono RU8.mono) (New.mono (hleH_22.trans hleH_23))).old (RSl.mono RU8.mono)) ((hz_15.mono R_Write.mono (New.mono (hleH_21.trans (hleH_22.trans hleH_23)))).old R_Write.mono) ((hsH_22.mono RU8.mono (New.mono hleH_23)).old RU8.mono) (hsH_23.old RU8.mono) _ hr_25) rfl (fun u_26 Ku_26 Hu_26 hRu_26 hleu_26 hfu_26 => ?_)))))))))))
   obtain ⟨aoz_27, nz_27, capz_27, aor_28, nr_28, capr_28, Kr_28, aor_29, nr_29, capr_29, Kr_29, rfl, rfl, hz_27, hr_28, hnewr_28, hr_29, hnewr_29, -⟩ := hRu_26
   replace hr_28 := (RowOf.base (RowOf.mono R_Write.mono (New.call (hleu_13.trans (hleH_21.trans (hleH_22.trans hleH_23)))) hr_28) (fun p hp => (hfu_26 p (mem_seg 0 rfl hp)).resolve_left (hnewr_28 p hp)))
   replace hr_29 := (RowOf.base (RowOf.const (H2 := New H Hu_26) RU8.const hr_29) (fun p hp => (hfu_26 p (mem_seg 1 rfl hp)).resolve_left (hnewr_29 p hp)))
   replace hz_27 := IsSlice.mono (RSl.mono RU8.mono) (New.call (hleu_13.trans (hleH_21.trans (hleH_22.trans hleH_23)))) hz_27
   refine JL.nil (hK (by repeat constructor) (by repeat constructor) (stab_of (hleu_13.trans (hleH_21.trans (hleH_22.trans (hleH_23.trans hleu_26)))) ⟨⟨2, rfl⟩, ⟨3, rfl⟩, ⟨4, rfl⟩, ⟨5, rfl⟩, trivial⟩) (JAA.val ⟨by kernel_rfl, by kernel_rfl⟩ (calm_only _) (i := 3) rfl (by kernel_rfl) rfl trivial (hleu_13.trans (hleH_21.trans (hleH_22.trans (hleH_23.trans hleu_26)))) ⟨⟨2, rfl⟩, ⟨3, rfl⟩, ⟨4, rfl⟩, ⟨5, rfl⟩, trivial⟩ (R.move rfl) rfl (JAA.val ⟨by kernel_rfl, by kernel_rfl⟩ (calm_only _) (i := 4) rfl (by kernel_rfl) rfl trivial (hleu_13.trans (hleH_21.trans (hleH_22.trans (hleH_23.trans hleu_26)))) ⟨⟨2, rfl⟩, ⟨3, rfl⟩, ⟨4, rfl⟩, ⟨5, rfl⟩, trivial⟩ (R.extract rfl rfl) rfl (JAA.val ⟨by kernel_rfl, by kernel_rfl⟩ (calm_only _) (i := 5) rfl (by kernel_rfl) rfl trivial (hleu_13.trans (hleH_21.trans (hleH_22.trans (hleH_23.trans hleu_26)))) ⟨⟨2, rfl⟩, ⟨3, rfl⟩, ⟨4, rfl⟩, ⟨5, rfl⟩, trivial⟩ (R.extract rfl rfl) rfl (JAA.val ⟨by kernel_rfl, by kernel_rfl⟩ (calm_only _) (i := 6) rfl (by kernel_rfl) rfl trivial (hleu_13.trans (hleH_21.trans (hleH_22.trans (hleH_23.trans hleu_26)))) ⟨⟨2, rfl⟩, ⟨3, rfl⟩, ⟨4, rfl⟩, ⟨5, rfl⟩, trivial⟩ (R.extract rfl rfl) rfl (JAA.all ⟨⟨_, _, _, rfl, Z50, rfl⟩, ⟨_, _, _, rfl, Z28, rfl⟩, trivial⟩ (hleu_13.trans (hleH_21.trans (hleH_22.trans (hleH_23.trans hleu_26)))) ⟨⟨2, rfl⟩, ⟨3, rfl⟩, ⟨4, rfl⟩, ⟨5, rfl⟩, trivial⟩ rfl (by kernel_rfl) (fun b_38 hb_38 b_39 hb_39 => JA.one (i := 9) (by kernel_rfl) (JO.step rfl trivial rfl (fun K hK => JL.store 6 S50 rfl rfl rfl rfl rfl (Nat.le_of_ble_eq_true rfl) (JL.nil (hK _ _ _ (stab_of (hleu_13.trans (hleH_21.trans (hleH_22.trans (hleH_23.trans hleu_26)))) ⟨⟨2, rfl⟩, ⟨3, rfl⟩, ⟨4, rfl⟩, ⟨5, rfl⟩, trivial⟩) ?_)))))))))))
   refine JA.one (i := 10) (by kernel_rfl) (JO.step rfl trivial rfl (fun K hK => JL.store 7 S28 rfl rfl rfl rfl rfl (Nat.le_of_ble_eq_true rfl) (JL.nil (hK _ _ _ (stab_of (hleu_13.trans (hleH_21.trans (hleH_22.trans (hleH_23.trans hleu_26)))) ⟨⟨2, rfl⟩, ⟨3, rfl⟩, ⟨4, rfl⟩, ⟨5, rfl⟩, trivial⟩) (JA.val ⟨by kernel_rfl, by kernel_rfl⟩ (calm_only _) (i := 11) rfl ⟨by kernel_rfl, by kernel_rfl, rfl⟩ trivial (stab_of (hleu_13.trans (hleH_21.trans (hleH_22.trans (hleH_23.trans hleu_26)))) ⟨⟨2, rfl⟩, ⟨3, rfl⟩, ⟨4, rfl⟩, ⟨5, rfl⟩, trivial⟩) (R.assign rfl) rfl (JA.doneN (by kernel_rfl) ?_))))))
   obtain rfl := Option.some.inj hx
   refine JN.front 7 rfl (JN.front 2 rfl (JN.front 2 rfl (JN.front 7 rfl (JN.front 5 rfl (JN.front 5 rfl (JN.front 6 rfl (JN.front 7 rfl ?_)))))))
   exact JN.cut ⟨Hu_26, b_38, aoz_27, nz_27, capz_27, aor_28, nr_28, capr_28, Kr_28, aor_29, nr_29, capr_29, Kr_29, b_39, rfl, rfl, rfl, ((hleu_13.trans (hleH_21.trans (hleH_22.trans (hleH_23.trans hleu_26))))), hb_38, hz_27, hr_28, hr_29, hb_39⟩ ⟨rfl, rfl, rfl, rfl, rfl, rfl, trivial⟩ rfl rfl
  ·
   refine JOA.step rfl trivial rfl (fun tl_40 to_41 K hK => JL.mkF (HF := New H H) (R := RU8) (y := (0 : UInt8)) (n := 256) U45 I5 rfl rfl (fun _ => rfl) RU8.one hm_18 hc_17 rfl rfl (fun vr_20 Kr_20 hr_20 => ?_))
   obtain ⟨aor_20, capr_20, rfl⟩ := RowOf.val hr_20
   refine JL.nil (hK (by repeat constructor) (by repeat constructor) (stab_of (Hle.refl _) ⟨⟨1, rfl⟩, ⟨2, rfl⟩, ⟨3, rfl⟩, ⟨4, rfl⟩, trivial⟩) (JAA.one (i := 0) ⟨⟨_, _, _, rfl, Z50, rfl⟩, ⟨_, _, _, rfl, Z28, rfl⟩, trivial⟩ (Hle.refl _) ⟨⟨1, rfl⟩, ⟨2, rfl⟩, ⟨3, rfl⟩, ⟨4, rfl⟩, trivial⟩ rfl (by kernel_rfl) (JOA.step rfl trivial rfl (fun tl_42 to_43 K hK => JL.callC (vs := []) (args := []) (K := []) (rst := _ :: _ :: _ :: _ :: _ :: to_43) E33 rfl rfl rfl picks0 (store_New_ok _ _ hr_12) rfl (fun u_13 Ku_13 Hu_13 hRu_13 hleu_13 hfu_13 => ?_)))))
   obtain ⟨aor_14, nr_14, capr_14, Kr_14, aoz_15, nz_15, aor_16, nr_16, capr_16, Kr_16, rfl, rfl, hr_14, hnewr_14, hz_15, hr_16, hnewr_16, -⟩ := hRu_13
   replace hr_14 := (Pcs.base hr_14 (fun p hp => (hfu_13 p (mem_seg 0 rfl hp)).resolve_left (hnewr_14 p hp)))
   replace hr_16 := (RowOf.base (RowOf.const (H2 := New H Hu_13) RU8.const hr_16) (fun p hp => (hfu_13 p (mem_seg 1 rfl hp)).resolve_left (hnewr_16 p hp)))
   replace hz_15 := IsSlice.mono R_Write.mono (New.call (Hle.refl _)) hz_15
   refine JL.nil (hK (by repeat constructor) (by repeat constructor) (stab_of hleu_13 ⟨⟨3, rfl⟩, ⟨4, rfl⟩, ⟨5, rfl⟩, ⟨6, rfl⟩, trivial⟩) (JAA.one (i := 2) ⟨⟨_, _, _, rfl, Z50, rfl⟩, ⟨_, _, _, rfl, Z28, rfl⟩, trivial⟩ hleu_13 ⟨⟨3, rfl⟩, ⟨4, rfl⟩, ⟨5, rfl⟩, ⟨6, rfl⟩, trivial⟩ rfl (by kernel_rfl) (JOA.step rfl trivial rfl (fun tl_44 to_45 K hK => JL.pubPcs 0  rfl hr_14 (Nat.le_refl _) (fun H_21 hleH_21 hsH_21 => JL.forget 0 (JL.pubN 0 RU8.mono rfl (hr_16.mono RU8.mono (New.mono hleH_21)) (Nat.le_refl _) (fun H_22 hleH_22 hsH_22 => JL.forget 0 (JL.pubN 0 RU8.mono rfl (hr_20.mono RU8.mono (New.mono (hleu_13.trans (hleH_21.trans hleH_22)))) (Nat.le_refl _) (fun H_23 hleH_23 hsH_23 => JL.forget 0 (JL.callC (vs := [_, _, _]) (args := [_, _, _]) (K := []) (rst := _ :: _ :: _ :: _ :: to_45) E27 rfl rfl rfl picks0 (store_Lay_ok x_11 (3 : UInt32) x_19 _ ((hsH_21.mono (RSl.mono RU8.mono) (New.mono (hleH_22.trans hleH_23))).old (RSl.mono RU8.mono)) ((hz_15.mono R_Write.mono (New.mono (hleH_21.trans (hleH_22.trans hleH_23)))).old R_Write.mono) ((hsH_22.mono RU8.mono (New.mono hleH_23)).old RU8.mono) (hsH_23.old RU8.mono) _ hr_25) rfl (fun u_26 Ku_26 Hu_26 hRu_26 hleu_26 hfu_26 => ?_)))))))))))
   obtain ⟨aoz_27, nz_27, capz_27, aor_28, nr_28, capr_28, Kr_28, aor_29, nr_29, capr_29, Kr_29, rfl, rfl, hz_27, hr_28, hnewr_28, hr_29, hnewr_29, -⟩ := hRu_26
   replace hr_28 := (RowOf.base (RowOf.mono R_Write.mono (New.call (hleu_13.trans (hleH_21.trans (hleH_22.trans hleH_23)))) hr_28) (fun p hp => (hfu_26 p (mem_seg 0 rfl hp)).resolve_left (hnewr_28 p hp)))
   replace hr_29 := (RowOf.base (RowOf.const (H2 := New H Hu_26) RU8.const hr_29) (fun p hp => (hfu_26 p (mem_seg 1 rfl hp)).resolve_left (hnewr_29 p hp)))
   replace hz_27 := IsSlice.mono (RSl.mono RU8.mono) (New.call (hleu_13.trans (hleH_21.trans (hleH_22.trans hleH_23)))) hz_27
   refine JL.nil (hK (by repeat constructor) (by repeat constructor) (stab_of (hleu_13.trans (hleH_21.trans (hleH_22.trans (hleH_23.trans hleu_26)))) ⟨⟨2, rfl⟩, ⟨3, rfl⟩, ⟨4, rfl⟩, ⟨5, rfl⟩, trivial⟩) (JAA.val ⟨by kernel_rfl, by kernel_rfl⟩ (calm_only _) (i := 3) rfl (by kernel_rfl) rfl trivial (hleu_13.trans (hleH_21.trans (hleH_22.trans (hleH_23.trans hleu_26)))) ⟨⟨2, rfl⟩, ⟨3, rfl⟩, ⟨4, rfl⟩, ⟨5, rfl⟩, trivial⟩ (R.move rfl) rfl (JAA.val ⟨by kernel_rfl, by kernel_rfl⟩ (calm_only _) (i := 4) rfl (by kernel_rfl) rfl trivial (hleu_13.trans (hleH_21.trans (hleH_22.trans (hleH_23.trans hleu_26)))) ⟨⟨2, rfl⟩, ⟨3, rfl⟩, ⟨4, rfl⟩, ⟨5, rfl⟩, trivial⟩ (R.extract rfl rfl) rfl (JAA.val ⟨by kernel_rfl, by kernel_rfl⟩ (calm_only _) (i := 5) rfl (by kernel_rfl) rfl trivial (hleu_13.trans (hleH_21.trans (hleH_22.trans (hleH_23.trans hleu_26)))) ⟨⟨2, rfl⟩, ⟨3, rfl⟩, ⟨4, rfl⟩, ⟨5, rfl⟩, trivial⟩ (R.extract rfl rfl) rfl (JAA.val ⟨by kernel_rfl, by kernel_rfl⟩ (calm_only _) (i := 6) rfl (by kernel_rfl) rfl trivial (hleu_13.trans (hleH_21.trans (hleH_22.trans (hleH_23.trans hleu_26)))) ⟨⟨2, rfl⟩, ⟨3, rfl⟩, ⟨4, rfl⟩, ⟨5, rfl⟩, trivial⟩ (R.extract rfl rfl) rfl (JAA.all ⟨⟨_, _, _, rfl, Z50, rfl⟩, ⟨_, _, _, rfl, Z28, rfl⟩, trivial⟩ (hleu_13.trans (hleH_21.trans (hleH_22.trans (hleH_23.trans hleu_26)))) ⟨⟨2, rfl⟩, ⟨3, rfl⟩, ⟨4, rfl⟩, ⟨5, rfl⟩, trivial⟩ rfl (by kernel_rfl) (fun b_46 hb_46 b_47 hb_47 => JA.one (i := 9) (by kernel_rfl) (JO.step rfl trivial rfl (fun K hK => JL.store 6 S50 rfl rfl rfl rfl rfl (Nat.le_of_ble_eq_true rfl) (JL.nil (hK _ _ _ (stab_of (hleu_13.trans (hleH_21.trans (hleH_22.trans (hleH_23.trans hleu_26)))) ⟨⟨2, rfl⟩, ⟨3, rfl⟩, ⟨4, rfl⟩, ⟨5, rfl⟩, trivial⟩) ?_)))))))))))
   refine JA.one (i := 10) (by kernel_rfl) (JO.step rfl trivial rfl (fun K hK => JL.store 7 S28 rfl rfl rfl rfl rfl (Nat.le_of_ble_eq_true rfl) (JL.nil (hK _ _ _ (stab_of (hleu_13.trans (hleH_21.trans (hleH_22.trans (hleH_23.trans hleu_26)))) ⟨⟨2, rfl⟩, ⟨3, rfl⟩, ⟨4, rfl⟩, ⟨5, rfl⟩, trivial⟩) (JA.val ⟨by kernel_rfl, by kernel_rfl⟩ (calm_only _) (i := 11) rfl ⟨by kernel_rfl, by kernel_rfl, rfl⟩ trivial (stab_of (hleu_13.trans (hleH_21.trans (hleH_22.trans (hleH_23.trans hleu_26)))) ⟨⟨2, rfl⟩, ⟨3, rfl⟩, ⟨4, rfl⟩, ⟨5, rfl⟩, trivial⟩) (R.assign rfl) rfl (JA.doneN (by kernel_rfl) ?_))))))
   obtain rfl := Option.some.inj hx
   refine JN.front 7 rfl (JN.front 2 rfl (JN.front 2 rfl (JN.front 7 rfl (JN.front 5 rfl (JN.front 5 rfl (JN.front 6 rfl (JN.front 7 rfl ?_)))))))
   exact JN.cut ⟨Hu_26, b_46, aoz_27, nz_27, capz_27, aor_28, nr_28, capr_28, Kr_28, aor_29, nr_29, capr_29, Kr_29, b_47, rfl, rfl, rfl, ((hleu_13.trans (hleH_21.trans (hleH_22.trans (hleH_23.trans hleu_26))))), hb_46, hz_27, hr_28, hr_29, hb_47⟩ ⟨rfl, rfl, rfl, rfl, rfl, rfl, trivial⟩ rfl rfl

set_option maxHeartbeats 8000000 in
theorem set_young_ok (p_1 : Store) (p_5 : Ptr) (p_6 : UInt32) (p_8 : Int) (H : Heaplet) {aoa_2 : Option Addr} {na_2 : Nat} {capa_2 : Nat} {aoa_3 : Option Addr} {na_3 : Nat} {capa_3 : Nat} {aoa_4 : Option Addr} {na_4 : Nat} {capa_4 : Nat} {b_7 : Nat} (ha_2 : IsSlice H (RSl RU8 1) 1 (.slice aoa_2 na_2 capa_2) p_1.Disk.Blocks) (ha_3 : IsSlice H R_Write 2 (.slice aoa_3 na_3 capa_3) p_1.Disk.Waits) (ha_4 : IsSlice H RU8 1 (.slice aoa_4 na_4 capa_4) p_1.Space) (r : (Int × UInt32 × UInt32 × UInt32 × UInt32 × UInt32 × List (List UInt8) × List Write × List UInt8 × UInt32 × UInt32) × Int) (hx : set_young p_1 p_5 p_6 p_8 = some r) :
  Does Try.prog 51 #[.agg #[.slice aoa_2 na_2 capa_2, .slice aoa_3 na_3 capa_3, .slice aoa_4 na_4 capa_4, .int .u32 (p_1.Epoch.toNat : Int), .int .u32 (p_1.Count.toNat : Int)], .agg #[.int .i64 p_5.At, .int .u32 (p_5.Birth.toNat : Int), .int .u32 (p_5.Iv.toNat : Int), .int .u32 (p_5.Tag.toNat : Int), .int .u32 (p_5.Sum.toNat : Int)], .int .u32 (p_6.toNat : Int), .pointer (some ⟨b_7, 0, none⟩)] [[(b_7, .cells #[.int .i64 p_8] 33 (0, 0))]] H (fun u K' H' => ∃ b0 : Nat, ∃ b1 : Nat, ∃ b2 : Nat, ∃ ao3 : Option Addr, ∃ n3 : Nat, ∃ cap3 : Nat, ∃ ao4 : Option Addr, ∃ n4 : Nat, ∃ cap4 : Nat, ∃ ao5 : Option Addr, ∃ n5 : Nat, ∃ cap5 : Nat, ∃ b6 : Nat, u = .func (.func 92) #[] #[.pointer (some ⟨b0, 0, none⟩), .pointer (some ⟨b1, 0, none⟩), .pointer (some ⟨b2, 0, none⟩), .pointer (some ⟨b6, 0, none⟩)] ∧ K' = [[(b_7, .cells #[.int .i64 r.2] 33 (0, 0))], [(b0, .cells #[.int .i64 r.1.1, .int .u32 (r.1.2.1.toNat : Int), .int .u32 (r.1.2.2.1.toNat : Int), .int .u32 (r.1.2.2.2.1.toNat : Int), .int .u32 (r.1.2.2.2.2.1.toNat : Int)] 28 (0, 0))], [(b1, .cells #[.int .u32 (r.1.2.2.2.2.2.1.toNat : Int)] 26 (0, 0))], [(b2, .cells #[.slice ao3 n3 cap3, .slice ao4 n4 cap4, .slice ao5 n5 cap5, .int .u32 (r.1.2.2.2.2.2.2.2.2.2.1.toNat : Int), .int .u32 (r.1.2.2.2.2.2.2.2.2.2.2.toNat : Int)] 50 (0, 0))], [(b6, .cells #[.pointer (some ⟨b_7, 0, none⟩)] 98 (0, 0))]] ∧ H = H' ∧ (b0 ∉ ids (List.flatten [[(b_7, .cells #[.int .i64 p_8] 33 (0, 0))]])) ∧ (b1 ∉ ids (List.flatten [[(b_7, .cells #[.int .i64 p_8] 33 (0, 0))]])) ∧ IsSlice H (RSl RU8 1) 1 (.slice ao3 n3 cap3) r.1.2.2.2.2.2.2.1 ∧ IsSlice H R_Write 2 (.slice ao4 n4 cap4) r.1.2.2.2.2.2.2.2.1 ∧ IsSlice H RU8 1 (.slice ao5 n5 cap5) r.1.2.2.2.2.2.2.2.2.1 ∧ (b2 ∉ ids (List.flatten [[(b_7, .cells #[.int .i64 p_8] 33 (0, 0))]])) ∧ (b6 ∉ ids (List.flatten [[(b_7, .cells #[.int .i64 p_8] 33 (0, 0))]])) ∧ True) := by
 refine Does.enterL (vs := [.agg #[.slice aoa_2 na_2 capa_2, .slice aoa_3 na_3 capa_3, .slice aoa_4 na_4 capa_4, .int .u32 (p_1.Epoch.toNat : Int), .int .u32 (p_1.Count.toNat : Int)], .agg #[.int .i64 p_5.At, .int .u32 (p_5.Birth.toNat : Int), .int .u32 (p_5.Iv.toNat : Int), .int .u32 (p_5.Tag.toNat : Int), .int .u32 (p_5.Sum.toNat : Int)], .int .u32 (p_6.toNat : Int), .pointer (some ⟨b_7, 0, none⟩)]) (l := [(0, .agg #[.slice aoa_2 na_2 capa_2, .slice aoa_3 na_3 capa_3, .slice aoa_4 na_4 capa_4, .int .u32 (p_1.Epoch.toNat : Int), .int .u32 (p_1.Count.toNat : Int)]), (1, .agg #[.int .i64 p_5.At, .int .u32 (p_5.Birth.toNat : Int), .int .u32 (p_5.Iv.toNat : Int), .int .u32 (p_5.Tag.toNat : Int), .int .u32 (p_5.Sum.toNat : Int)]), (2, .int .u32 (p_6.toNat : Int)), (3, .pointer (some ⟨b_7, 0, none⟩))]) Try.func51 rfl rfl ⟨rfl, rfl, rfl, rfl, trivial⟩ (fun w hlt => ?_)
 unfold set_young at hx
 refine JC.seq (JC.region (JL.box rfl rfl (fun b_9 hb_9 => JL.box rfl rfl (fun b_10 hb_10 => JL.box rfl rfl (fun b_11 hb_11 => JL.box rfl rfl (fun b_12 hb_12 => JL.val rfl rfl (R.assign rfl) (JL.nil (JN.next (JC.seq (JC.region (JL.val rfl rfl (R.func (vf := []) (vc := [_, _, _, _]) rfl rfl) ?_)))))))))))
 refine JL.val rfl rfl (R.assign rfl) (JL.nil (JN.next (JC.ret (JN.outP (vs := [.func (.func 92) #[] #[.pointer (some ⟨b_10, 0, none⟩), .pointer (some ⟨b_11, 0, none⟩), .pointer (some ⟨b_9, 0, none⟩), .pointer (some ⟨b_12, 0, none⟩)]]) (K := [_, _, _, _, _]) (rst := []) (.inl rfl) rfl rfl (Res.tmp rfl rfl) (picks 4 rfl (picks 2 rfl (picks 1 rfl (picks 1 rfl (picks 0 rfl picks0))))) ?_))))
 obtain rfl := Option.some.inj hx
 exact ⟨b_10, b_11, b_9, aoa_2, na_2, capa_2, aoa_3, na_3, capa_3, aoa_4, na_4, capa_4, b_12, rfl, rfl, rfl, (fun h => absurd (hlt _ h) (Nat.not_lt.2 hb_10)), (fun h => absurd (hlt _ h) (Nat.not_lt.2 hb_11)), ha_2, ha_3, ha_4, (fun h => absurd (hlt _ h) (Nat.not_lt.2 hb_9)), (fun h => absurd (hlt _ h) (Nat.not_lt.2 hb_12)), trivial⟩

theorem slices_Clone_byte_L_ok (p_1 : List (List UInt8)) (H : Heaplet) {ao : Option Addr} {n cap : Nat} (hs : IsSlice H (RSl RU8 1) 1 (.slice ao n cap) p_1) (r : List (List UInt8)) (hx : slices_Clone_byte_L p_1 = some r) :
  Does Try.prog 117 #[.slice ao n cap] [] H (fun u K' H' => ∃ ao0 : Option Addr, ∃ n0 : Nat, ∃ cap0 : Nat, ∃ K0 : Own, u = .slice ao0 n0 cap0 ∧ K' = [K0] ∧ H = H' ∧ RowOf H' (RSl RU8 1) 0 45 1 (.slice ao0 n0 cap0) r K0 ∧ (∀ p ∈ K0, p.1 ∉ ids (List.flatten [])) ∧ True) := by
 rw [slices_Clone_byte_L.eq_1] at hx
 obtain ⟨q, hq, hl, hx⟩ := app_some hx
 obtain rfl := Option.some.inj hx
 refine Does.enter (vs := [.slice ao n cap]) (l := [(0, .slice ao n cap)]) Try.func117 rfl rfl ⟨rfl, trivial⟩ (fun w => JC.seq (JC.region (JL.val rfl rfl (R.assign rfl) (JL.nil (JN.next (JC.seq (JC.seq (JC.region (JL.val rfl rfl (R.move rfl) (JL.val rfl rfl (R.eqlNil U22 rfl rfl) (JL.nil ?_)))))))))))
 refine JN.next ?_
 cases ao with
 | none =>
  have hp := hs.none_nil
  subst hp
  simp only [List.append_nil] at hq
  subst hq
  refine JC.condT rfl (JC.seq (JC.region (JL.val rfl rfl (R.assign rfl) (JL.nil (JN.next (JC.ret (JN.passR (JN.seg0 (JN.outP (vs := [.slice none 0 0]) (K := [_]) (rst := []) (.inl rfl) rfl rfl (Res.tmp rfl rfl) (picks 0 rfl picks0) ?_)))))))))
  exact ⟨none, 0, 0, [], rfl, rfl, rfl, RowOf.nil _ _ _ _ _, (fun p hp => by cases hp), trivial⟩
 | some a =>
  refine JC.condF rfl (JC.skip (JN.next (JC.seq (JC.region (JL.bslF (HF := H) (R := (RSl RU8 1)) (ls := []) (vs := []) U22 I45 rfl rfl rfl RSl.one rfl rfl rfl (by simp [maxLen]) rfl (fun v1 K1 h1 => ?_))))))
  obtain ⟨ao1, cap1, rfl⟩ := RowOf.val h1
  refine JL.val rfl rfl (R.move rfl) (JL.appF (HF := H) 0 U22 I45 rfl rfl h1 rfl (SrcF.slice RSl.one U22 (Hle.refl _) hs) hq hl rfl (Nat.le_refl _) rfl (fun v2 K2 h2 => ?_))
  obtain ⟨ao2, cap2, rfl⟩ := RowOf.val h2
  refine JL.val rfl rfl (R.assign rfl) (JL.nil (JN.next (JC.ret (JN.outP (vs := [.slice ao2 _ cap2]) (K := [_]) (rst := []) (.inl rfl) rfl rfl (Res.tmp rfl rfl) (picks 0 rfl picks0) ?_))))
  exact ⟨_, _, _, _, rfl, rfl, rfl, RowOf.weak (Nat.zero_le _) h2, (fun p hp hm => by cases hm), trivial⟩

set_option maxHeartbeats 8000000 in
theorem dev_all_ok (p_1 : Int) (H : Heaplet) (r : Bool) (hx : dev_all p_1 = some r) :
  Does Try.prog 82 #[.int .i64 p_1] [] H (fun u K' H' => u = .bool r ∧ K' = [] ∧ H = H' ∧ True) := by
 refine Does.enterL (vs := [.int .i64 p_1]) (l := [(0, .int .i64 p_1)]) Try.func82 rfl rfl ⟨rfl, trivial⟩ (fun w hlt => ?_)
 unfold dev_all at hx
 refine JC.seq (JC.region (JL.val rfl rfl (R.assign rfl) (JL.nil (JN.next (JC.seq (JC.region (JL.val rfl rfl (R.assign rfl) (JL.nil (JN.next (JC.ret (JN.outP (vs := [.bool true]) (K := []) (rst := []) (.inl rfl) rfl rfl (Res.tmp rfl rfl) picks0 ?_)))))))))))
 obtain rfl := Option.some.inj hx
 exact ⟨rfl, rfl, rfl, trivial⟩

set_option maxHeartbeats 8000000 in
theorem dev_lasts_ok (p_1 : Disk) (H : Heaplet) {va_2 : Value} {aoa_3 : Option Addr} {na_3 : Nat} {capa_3 : Nat} (ha_3 : IsSlice H R_Write 2 (.slice aoa_3 na_3 capa_3) p_1.Waits) (r : (List (Int × Write))) (hx : dev_lasts p_1 = some r) :
  Does Try.prog 118 #[.agg #[va_2, .slice aoa_3 na_3 capa_3], .func (.func 82) #[] #[]] [] H (fun u K' H' => ∃ ao0 : Option Addr, ∃ n0 : Nat, ∃ cap0 : Nat, ∃ K0 : Own, u = .map (some n0) ∧ K' = [K0] ∧ H = H' ∧ MapOf H R_Write 0 n0 r K0 ∧ (∀ p ∈ K0, p.1 ∉ ids (List.flatten [])) ∧ True) := by
 refine Does.enterL (vs := [.agg #[va_2, .slice aoa_3 na_3 capa_3], .func (.func 82) #[] #[]]) (l := [(0, .agg #[va_2, .slice aoa_3 na_3 capa_3]), (1, .func (.func 82) #[] #[])]) Try.func118 rfl rfl ⟨rfl, rfl, trivial⟩ (fun w hlt => ?_)
 unfold dev_lasts at hx
 refine JC.seq (JC.region (JL.box rfl rfl (fun b_4 hb_4 => JL.val rfl rfl (R.assign rfl) (JL.nil (JN.next (JC.seq (JC.region (JL.mkMapF (New H H) R_Write rfl (fun nr_5 Kr_5 hr_5 => JL.val rfl rfl (R.assign rfl) (JL.nil (JN.next ?_)))))))))))
 refine JC.seq (JC.seq (JC.region (JL.val rfl rfl (R.fa F25_1 rfl) (JL.val rfl rfl (R.ldo 1 S23 rfl rfl rfl) (JL.val rfl rfl (R.lenL U23 rfl (IsSlice.long ha_3)) (JL.val rfl rfl (R.move rfl) (JL.nil (JN.next ?_))))))))
 obtain ⟨t_6, ht_8, hx⟩ := bnd_some hx
 refine JC.cut (fun l o g => ∃ Kr_13 : Own, l = [(5, .map (some nr_5))] ∧ o = [Kr_13] ∧ H = g ∧ MapOf H R_Write w.heap.size nr_5 t_6 Kr_13) ?_ ?_
 ·
  rintro _ _ _ ⟨Kr_13, rfl, rfl, rfl, hr_13⟩
  refine JN.next (JC.seq (JC.region (JL.val rfl rfl (R.move rfl) (JL.val rfl rfl (R.assign rfl) (JL.nil (JN.next (JC.ret (JN.outP (vs := [.map (some nr_5)]) (K := [_]) (rst := []) (.inl rfl) rfl rfl (Res.tmp rfl rfl) (picks 0 rfl picks0) ?_))))))))
  obtain rfl := Option.some.inj hx
  exact ⟨none, nr_5, 0, Kr_13, rfl, rfl, rfl, (MapOf.weak (Nat.zero_le _) hr_13), (newM_ids hr_13 hlt), trivial⟩
 ·
  have hxo_7 := hx; clear hx; have hx := ht_8; clear ht_8
  refine JC.block (JC.forget 1 (JC.loopI (fun n l o g => ∃ s_9 : (List (Int × Write)) × Nat, ∃ Kr_12 : Own, l = [(1, .func (.func 82) #[] #[]), (5, .map (some nr_5)), (10, .slice aoa_3 na_3 capa_3), (11, .int .i64 (p_1.Waits.length : Int)), (12, .int .i64 ((s_9.2 : Nat) : Int))] ∧ o = [Kr_12] ∧ H = g ∧ run (dev_lasts_l1 p_1) n s_9 = some t_6 ∧ MapOf H R_Write w.heap.size nr_5 s_9.1 Kr_12) FUEL ?_ ⟨(([] : List (Int × Write)), 0), Kr_5, rfl, rfl, rfl, hx, (hr_5.old R_Write.mono)⟩ ⟨rfl, rfl, rfl, rfl, rfl, trivial⟩ ?_))
  ·
   rintro _ _ _ ⟨s_9, Kr_12, rfl, rfl, rfl, hn_10, hr_12⟩
   exact run_zero hn_10
  ·
   rintro n_11 _ _ _ ⟨s_9, Kr_12, rfl, rfl, rfl, hn_10, hr_12⟩
   clear hx; obtain ⟨oo_14, hx, hd_13⟩ := run_some hn_10
   unfold dev_lasts_l1 at hx
   refine JC.seq (JC.region (JL.val rfl rfl (R.lss_i rfl rfl) (JL.nil (JN.next (JC.seq (JC.condB rfl (fun c_13 => ?_) (fun c_13 => ?_)))))))
   ·
    replace hx := cond_t c_13 hx
    refine JC.skip (JN.next (JC.seq (JC.block (JC.seq (JC.region (JL.val rfl rfl (R.move rfl) ?_))))))
    obtain ⟨y_14, hN_15, hx⟩ := idx_some hx
    obtain ⟨b_16, o_17, cs_18, hE_19, hR_20, hl_21, hc_22⟩ := IsSlice.elem ha_3 hN_15
    obtain ⟨v_23, rfl, hs_24⟩ := hR_20
    obtain ⟨aov_23, capv_23, rfl⟩ := IsSlice.val hs_24
    refine JL.val rfl rfl (R.ix U23 S47 rfl rfl hE_19) (JL.val rfl rfl (R.ldHE (cs := [.int .i64 y_14.At, .slice aov_23 y_14.Data.length capv_23]) (k := 0) (vs := [.int .i64 y_14.At, .slice aov_23 y_14.Data.length capv_23]) S47 rfl hc_22 rfl rfl) (JL.alloc Z47 rfl (fun b_25 hb_25 => JL.val rfl rfl (R.assign rfl) (JL.store 0 S47 rfl rfl rfl rfl rfl (Nat.le_of_ble_eq_true rfl) (JL.nil (JN.next (JC.seq (JC.region (JL.val rfl rfl (R.move rfl) (JL.val rfl rfl (R.move rfl) ?_))))))))))
    obtain ⟨x_26, hr_27, hx⟩ := bnd_some hx
    refine JL.callC (vs := [_]) (args := [_]) (K := []) (rst := [_, _]) E82 rfl rfl rfl picks0 (dev_all_ok ((s_9.2 : Nat) : Int) _ _ hr_27) rfl (fun u_28 Ku_28 Hu_28 hRu_28 hleu_28 hfu_28 => ?_)
    obtain ⟨rfl, rfl, rfl, -⟩ := hRu_28
    refine JL.nil (JN.next (JC.condB rfl (fun c_29 => ?_) (fun c_29 => ?_)))
    ·
     replace hx := cond_t c_29 hx
     refine JC.region (JL.val rfl rfl (R.move rfl) (JL.val rfl rfl (R.fa F47_0 rfl) (JL.val rfl rfl (R.ldo 0 S3 rfl rfl rfl) (JL.val rfl rfl (R.ldoN 0 (vs := [.int .i64 y_14.At, .slice aov_23 y_14.Data.length capv_23]) S47 rfl rfl rfl rfl) (JL.mapUpdF 1 (cs := [.int .i64 y_14.At, .slice aov_23 y_14.Data.length capv_23]) U166 U3 rfl rfl rfl rfl hr_12 ⟨_, rfl, hs_24⟩ (fun Kr_30 hr_30 => JL.nil (JN.blkN (JN.next (JC.region (JL.val rfl rfl (R.inc rfl rfl (of_decide_eq_true c_13) (IsSlice.lenI ha_3)) (JL.val rfl rfl (R.move rfl) ?_)))))))))))
     refine JL.nil ?_
     replace hx := run_next hd_13 hx
     refine JN.forget 0 ?_
     exact JN.cut ⟨((putM s_9.1 y_14.At y_14), s_9.2 + 1), Kr_30, rfl, rfl, rfl, hx, hr_30⟩ ⟨rfl, rfl, rfl, rfl, rfl, trivial⟩ rfl rfl
    ·
     replace hx := cond_f c_29 hx
     refine JC.skip (JN.blkN (JN.next (JC.region (JL.val rfl rfl (R.inc rfl rfl (of_decide_eq_true c_13) (IsSlice.lenI ha_3)) (JL.val rfl rfl (R.move rfl) (JL.nil ?_))))))
     replace hx := run_next hd_13 hx
     refine JN.forget 0 ?_
     exact JN.cut ⟨(s_9.1, s_9.2 + 1), Kr_12, rfl, rfl, rfl, hx, hr_12⟩ ⟨rfl, rfl, rfl, rfl, rfl, trivial⟩ rfl rfl
   ·
    replace hx := cond_f c_13 hx
    refine JC.exit (JN.passX ?_)
    obtain rfl := run_done hd_13 hx
    refine JN.passX (JN.exitSame ?_)
    exact JN.cut ⟨Kr_12, rfl, rfl, rfl, hr_12⟩ ⟨rfl, trivial⟩ rfl rfl
end Go.Proofs.Ytdoebbgjjlicjaa
