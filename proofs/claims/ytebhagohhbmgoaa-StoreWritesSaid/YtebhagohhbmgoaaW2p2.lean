import Derived.Test.YtebhagohhbmgoaaW2p1
/- walks: what the code computes, function by function. -/
namespace Go.Proofs.Ytebhagohhbmgoaa
open Go.Ow Go.RowKit Go.Proofs
set_option linter.unusedVariables false
set_option linter.unusedSimpArgs false
set_option maxHeartbeats 8000000 in
theorem slices_Concat_byte_ok (p_1 : List (List UInt8)) (H : Heaplet) {aa_2 : Option Addr} {na_2 : Nat} {ca_2 : Nat} (ha_2 : IsSlice H (RSl RU8 1) 1 (.slice aa_2 na_2 ca_2) p_1) (r : List UInt8) (hx : slices_Concat_byte p_1 = some r) :
  Does Try.prog 73 #[.slice aa_2 na_2 ca_2] [] H (fun u K' H' => ∃ ao0 : Option Addr, ∃ n0 : Nat, ∃ cap0 : Nat, ∃ K0 : Own, u = .slice ao0 n0 cap0 ∧ K' = [K0] ∧ H = H' ∧ RowOf (New H H) RU8 0 5 1 (.slice ao0 n0 cap0) r K0 ∧ (∀ p ∈ K0, p.1 ∉ ids (List.flatten [])) ∧ True) := by
 refine Does.enterL (vs := [.slice aa_2 na_2 ca_2]) (l := [(0, .slice aa_2 na_2 ca_2)]) Try.func73 rfl rfl ⟨rfl, trivial⟩ (fun w hlt => ?_)
 unfold slices_Concat_byte at hx
 refine ZF (ZB (ZA rfl rfl (ZE rfl) (ZD (ZC (ZF (ZB (ZA rfl rfl (ZE rfl) (ZD (ZC (ZF (ZF ?_)))))))))))
 refine ZB (ZA rfl rfl (ZG rfl) (ZA rfl rfl (Zk U41 rfl (IsSlice.long ha_2)) (ZA rfl rfl (ZG rfl) (ZD (ZC ?_)))))
 obtain ⟨t_3, ht_5, hx⟩ := ZJ hx
 refine Z4 (fun l o g => l = [(0, .slice aa_2 na_2 ca_2), (3, .int .i64 t_3)] ∧ o = [] ∧ H = g) ?_ ?_
 ·
  rintro _ _ _ ⟨rfl, rfl, rfl⟩
  refine ZC (ZF (ZB (ZA rfl rfl (ZG rfl) ?_)))
  obtain ⟨x_9, hr_10, hx⟩ := ZJ hx
  refine ZS (vs := [_, _]) (args := [_, _]) (K := []) (rst := []) E93 rfl rfl rfl ZI (slices_Grow_byte_ok t_3 _ _ hr_10) rfl (fun u_11 Ku_11 Hu_11 hRu_11 hleu_11 hfu_11 => ?_)
  obtain ⟨ar_12, nr_12, cr_12, Kr_12, rfl, rfl, rfl, hr_12, hnewr_12, -⟩ := hRu_11
  replace hr_12 := (RowOf.base (Zf (H2 := New H H) RU8.const hr_12) (fun p hp => (hfu_11 p (Zh 0 rfl hp)).resolve_left (hnewr_12 p hp)))
  refine ZA rfl rfl (ZE rfl) (ZD (ZC (ZF (ZF (ZB (ZA rfl rfl (ZG rfl) (ZA rfl rfl (Zk U41 rfl (IsSlice.long ha_2)) (ZA rfl rfl (ZG rfl) (ZD (ZC ?_))))))))))
  obtain ⟨t_13, ht_15, hx⟩ := ZJ hx
  refine Z4 (fun l o g => ∃ ar_20 : Option Addr, ∃ nr_20 : Nat, ∃ cr_20 : Nat, ∃ Kr_20 : Own, l = [(6, .slice ar_20 nr_20 cr_20)] ∧ o = [Kr_20] ∧ H = g ∧ RowOf (New H H) RU8 w.heap.size 5 1 (.slice ar_20 nr_20 cr_20) t_13 Kr_20) ?_ ?_
  ·
   rintro _ _ _ ⟨ar_20, nr_20, cr_20, Kr_20, rfl, rfl, rfl, hr_20⟩
   refine ZC (ZF (ZB (ZA rfl rfl (ZG rfl) (ZA rfl rfl (ZE rfl) (ZD (ZC (ZT (ZR (vs := [.slice ar_20 nr_20 cr_20]) (K := [_]) (rst := []) (.inl rfl) rfl rfl (ZN rfl rfl) (ZK 0 rfl ZI) ?_))))))))
   obtain rfl := Option.some.inj hx
   exact ⟨ar_20, nr_20, cr_20, Kr_20, rfl, rfl, rfl, (Zg (Nat.zero_le _) hr_20), (Zx hr_20 hlt), trivial⟩
  ·
   have hxo_14 := hx; clear hx; have hx := ht_15; clear ht_15
   refine JC.block (Z2 (fun n l o g => ∃ s_16 : List UInt8 × Nat, ∃ ar_19 : Option Addr, ∃ nr_19 : Nat, ∃ cr_19 : Nat, ∃ Kr_19 : Own, l = [(6, .slice ar_19 nr_19 cr_19), (25, .slice aa_2 na_2 ca_2), (26, .int .i64 (p_1.length : Int)), (27, .int .i64 ((s_16.2 : Nat) : Int))] ∧ o = [Kr_19] ∧ H = g ∧ run (slices_Concat_byte_l2 p_1) n s_16 = some t_13 ∧ RowOf (New H H) RU8 w.heap.size 5 1 (.slice ar_19 nr_19 cr_19) s_16.1 Kr_19) FUEL ?_ ⟨(x_9, 0), ar_12, nr_12, cr_12, Kr_12, rfl, rfl, rfl, hx, hr_12⟩ ⟨rfl, rfl, rfl, rfl, trivial⟩ ?_)
   ·
    rintro _ _ _ ⟨s_16, ar_19, nr_19, cr_19, Kr_19, rfl, rfl, rfl, hn_17, hr_19⟩
    exact Zz hn_17
   ·
    rintro n_18 _ _ _ ⟨s_16, ar_19, nr_19, cr_19, Kr_19, rfl, rfl, rfl, hn_17, hr_19⟩
    clear hx; obtain ⟨oo_21, hx, hd_20⟩ := Z0 hn_17
    unfold slices_Concat_byte_l2 at hx
    refine ZF (ZB (ZA rfl rfl (Zy rfl rfl) (ZD (ZC (ZF (ZW rfl (fun c_20 => ?_) (fun c_20 => ?_)))))))
    ·
     replace hx := ZX c_20 hx
     refine JC.skip (ZC (ZF (JC.block (ZF (ZB ?_)))))
     obtain ⟨y_21, hN_22, hx⟩ := Zq hx
     obtain ⟨b_23, o_24, cs_25, hE_26, hR_27, hl_28, hc_29⟩ := IsSlice.elem ha_2 hN_22
     obtain ⟨v_30, rfl, hs_31⟩ := hR_27
     obtain ⟨av_30, cv_30, rfl⟩ := IsSlice.val hs_31
     refine ZA rfl rfl (R.ix U41 S23 rfl rfl hE_26) (ZA rfl rfl (R.ldH S23 rfl (hc_29 0 _ rfl)) (ZA rfl rfl (ZE rfl) (ZD (ZC (ZB (ZA rfl rfl (ZG rfl) (ZA rfl rfl (ZG rfl) ?_)))))))
     obtain ⟨q_32, hm_33, hl_34, hx⟩ := Z6 hx
     refine YC (HF := (New H H)) 0 U23 I5 rfl rfl hr_19 rfl (SrcF.sliceC RU8.const RU8.one U23 hs_31) hm_33 hl_34 rfl (Nat.le_refl _) rfl (fun vr_35 Kr_35 hr_35 => ?_)
     obtain ⟨ar_35, cr_35, rfl⟩ := RowOf.val hr_35
     refine ZA rfl rfl (ZE rfl) (ZD (Zo (ZC (ZB (ZA rfl rfl (R.inc rfl rfl (of_decide_eq_true c_20) (IsSlice.lenI ha_2)) (ZA rfl rfl (ZG rfl) (ZD ?_)))))))
     replace hx := Zp hd_20 hx
     exact Za ⟨(q_32, s_16.2 + 1), ar_35, q_32.length, cr_35, Kr_35, rfl, rfl, rfl, hx, hr_35⟩ ⟨rfl, rfl, rfl, rfl, trivial⟩ rfl rfl
    ·
     replace hx := ZY c_20 hx
     refine Z1 (Zc ?_)
     obtain rfl := Zv hd_20 hx
     refine Zc (Zi ?_)
     exact Za ⟨ar_19, nr_19, cr_19, Kr_19, rfl, rfl, rfl, hr_19⟩ ⟨rfl, trivial⟩ rfl rfl
 ·
  have hxo_4 := hx; clear hx; have hx := ht_5; clear ht_5
  refine JC.block (Z2 (fun n l o g => ∃ s_6 : Int × Nat, l = [(0, .slice aa_2 na_2 ca_2), (3, .int .i64 s_6.1), (9, .slice aa_2 na_2 ca_2), (10, .int .i64 (p_1.length : Int)), (11, .int .i64 ((s_6.2 : Nat) : Int))] ∧ o = [] ∧ H = g ∧ run (slices_Concat_byte_l1 p_1) n s_6 = some t_3) FUEL ?_ ⟨(0, 0), rfl, rfl, rfl, hx⟩ ⟨rfl, rfl, rfl, rfl, rfl, trivial⟩ ?_)
  ·
   rintro _ _ _ ⟨s_6, rfl, rfl, rfl, hn_7⟩
   exact Zz hn_7
  ·
   rintro n_8 _ _ _ ⟨s_6, rfl, rfl, rfl, hn_7⟩
   clear hx; obtain ⟨oo_10, hx, hd_9⟩ := Z0 hn_7
   unfold slices_Concat_byte_l1 at hx
   refine ZF (ZB (ZA rfl rfl (Zy rfl rfl) (ZD (ZC (ZF (ZW rfl (fun c_9 => ?_) (fun c_9 => ?_)))))))
   ·
    replace hx := ZX c_9 hx
    refine JC.skip (ZC (ZF (JC.block (ZF (ZB ?_)))))
    obtain ⟨y_10, hN_11, hx⟩ := Zq hx
    obtain ⟨b_12, o_13, cs_14, hE_15, hR_16, hl_17, hc_18⟩ := IsSlice.elem ha_2 hN_11
    obtain ⟨v_19, rfl, hs_20⟩ := hR_16
    obtain ⟨av_19, cv_19', rfl⟩ := IsSlice.val hs_20
    refine ZA rfl rfl (R.ix U41 S23 rfl rfl hE_15) (ZA rfl rfl (R.ldH S23 rfl (hc_18 0 _ rfl)) (ZA rfl rfl (ZE rfl) (ZD (ZC (ZF (ZB (ZA rfl rfl (ZG rfl) (ZA rfl rfl (ZG rfl) (ZA rfl rfl (Zk U23 rfl (IsSlice.long hs_20)) (ZA rfl rfl (YB rfl rfl) (ZA rfl rfl (ZE rfl) ?_)))))))))))
    refine ZD (ZC (ZF (ZB (ZA rfl rfl (ZG rfl) (ZA rfl rfl (Zy rfl rfl) (ZD (ZC (ZW rfl (fun c_21 => ?_) (fun c_21 => ?_)))))))))
    ·
     replace hx := ZX c_21 hx
     refine ZB ?_
     cases hx
    ·
     replace hx := ZY c_21 hx
     refine JC.skip (Zo (ZC (ZB (ZA rfl rfl (R.inc rfl rfl (of_decide_eq_true c_9) (IsSlice.lenI ha_2)) (ZA rfl rfl (ZG rfl) (ZD ?_))))))
     replace hx := Zp hd_9 hx
     exact Za ⟨(w64 (s_6.1 + (y_10.length : Int)), s_6.2 + 1), rfl, rfl, rfl, hx⟩ ⟨rfl, rfl, rfl, rfl, rfl, trivial⟩ rfl rfl
   ·
    replace hx := ZY c_9 hx
    refine Z1 (Zc ?_)
    obtain rfl := Zv hd_9 hx
    refine Zc (Zi ?_)
    exact Za ⟨rfl, rfl, rfl⟩ ⟨rfl, rfl, trivial⟩ rfl rfl

set_option maxHeartbeats 8000000 in
theorem mix_Key_ok (p_1 : List UInt8) (H : Heaplet) {aa_2 : Option Addr} {na_2 : Nat} {ca_2 : Nat} (ha_2 : IsSlice H RU8 1 (.slice aa_2 na_2 ca_2) p_1) (r : List UInt8) (hx : mix_Key p_1 = some r) :
  Does Try.prog 109 #[.slice aa_2 na_2 ca_2] [] H (fun u K' H' => ∃ ao0 : Option Addr, ∃ n0 : Nat, ∃ cap0 : Nat, ∃ K0 : Own, u = .slice ao0 n0 cap0 ∧ K' = [K0] ∧ RowOf (New H H') RU8 0 5 1 (.slice ao0 n0 cap0) r K0 ∧ (∀ p ∈ K0, p.1 ∉ ids (List.flatten [])) ∧ True) := by
 refine Does.enterL (vs := [.slice aa_2 na_2 ca_2]) (l := [(0, .slice aa_2 na_2 ca_2)]) Try.func109 rfl rfl ⟨rfl, trivial⟩ (fun w hlt => ?_)
 unfold mix_Key at hx
 refine ZF (ZB (ZA rfl rfl (ZE rfl) (ZD (ZC (ZF (ZB (ZA rfl rfl (ZE rfl) (ZD (ZC (ZF (ZF ?_)))))))))))
 refine ZB (ZA rfl rfl (ZG rfl) ?_)
 obtain ⟨x_3, hr_4, hx⟩ := ZJ hx
 refine ZS (vs := [_]) (args := [_]) (K := []) (rst := []) E81 rfl rfl rfl ZI (mix_four_ok p_1 _ ha_2 _ hr_4) rfl (fun u_5 Ku_5 Hu_5 hRu_5 hleu_5 hfu_5 => ?_)
 obtain ⟨rfl, rfl, -⟩ := hRu_5
 refine ZA rfl rfl (ZG rfl) (ZD (ZC ?_))
 obtain ⟨t_6, ht_8, hx⟩ := ZJ hx
 refine Z4 (fun l o g => ∃ ar_13 : Option Addr, ∃ nr_13 : Nat, ∃ cr_13 : Nat, ∃ Kr_13 : Own, l = [(3, .slice ar_13 nr_13 cr_13)] ∧ o = [Kr_13] ∧ Hu_5 = g ∧ RowOf (New H Hu_5) RU8 w.heap.size 5 1 (.slice ar_13 nr_13 cr_13) t_6 Kr_13) ?_ ?_
 ·
  rintro _ _ _ ⟨ar_13, nr_13, cr_13, Kr_13, rfl, rfl, rfl, hr_13⟩
  refine ZC (ZF (ZB (ZA rfl rfl (ZG rfl) (ZA rfl rfl (ZE rfl) (ZD (ZC (ZT (ZR (vs := [.slice ar_13 nr_13 cr_13]) (K := [_]) (rst := []) (.inl rfl) rfl rfl (ZN rfl rfl) (ZK 0 rfl ZI) ?_))))))))
  obtain rfl := Option.some.inj hx
  exact ⟨ar_13, nr_13, cr_13, Kr_13, rfl, rfl, (Zg (Nat.zero_le _) hr_13), (Zx hr_13 hlt), trivial⟩
 ·
  have hxo_7 := hx; clear hx; have hx := ht_8; clear ht_8
  refine JC.block (JC.seg0 (Z2 (fun n l o g => ∃ s_9 : List UInt8 × Nat, ∃ ar_12 : Option Addr, ∃ nr_12 : Nat, ∃ cr_12 : Nat, ∃ Kr_12 : Own, l = [(3, .slice ar_12 nr_12 cr_12), (9, .agg #[.int .u32 (x_3.e0.toNat : Int), .int .u32 (x_3.e1.toNat : Int), .int .u32 (x_3.e2.toNat : Int), .int .u32 (x_3.e3.toNat : Int)]), (10, .int .i64 ((s_9.2 : Nat) : Int))] ∧ o = [Kr_12] ∧ Hu_5 = g ∧ run (mix_Key_l1 x_3) n s_9 = some t_6 ∧ RowOf (New H Hu_5) RU8 w.heap.size 5 1 (.slice ar_12 nr_12 cr_12) s_9.1 Kr_12) FUEL ?_ ⟨(([] : List UInt8), 0), none, 0, 0, [], rfl, rfl, rfl, hx, (ZU _ _ _ _ _)⟩ ⟨rfl, rfl, rfl, trivial⟩ ?_))
  ·
   rintro _ _ _ ⟨s_9, ar_12, nr_12, cr_12, Kr_12, rfl, rfl, rfl, hn_10, hr_12⟩
   exact Zz hn_10
  ·
   rintro n_11 _ _ _ ⟨s_9, ar_12, nr_12, cr_12, Kr_12, rfl, rfl, rfl, hn_10, hr_12⟩
   clear hx; obtain ⟨oo_14, hx, hd_13⟩ := Z0 hn_10
   unfold mix_Key_l1 at hx
   refine ZF (ZB (ZA rfl rfl (Zy rfl rfl) (ZD (ZC (ZF (ZW rfl (fun c_13 => ?_) (fun c_13 => ?_)))))))
   ·
    replace hx := ZX c_13 hx
    refine JC.skip (ZC (ZF (JC.block (ZF (ZB ?_)))))
    obtain ⟨y_14, hN_15, hx⟩ := Zq hx
    refine ZA rfl rfl (R.idxA (enc := (fun a : UInt32 => Value.int .u32 (a.toNat : Int))) (L := x_3.l) U121 S22 rfl rfl rfl rfl rfl hN_15) (ZA rfl rfl (ZE rfl) (ZD (ZC (ZF (ZB (ZA rfl rfl (ZG rfl) (ZA rfl rfl (R.cv_u32_i64 (a := y_14) U22 U3 rfl) ?_)))))))
    obtain ⟨x_16, hr_17, hx⟩ := ZJ hx
    refine ZS (vs := [_, _]) (args := [_, _]) (K := []) (rst := [_]) E66 rfl rfl rfl ZI (code_Put_ok (y_14.toNat : Int) 4 _ _ hr_17) rfl (fun u_18 Ku_18 Hu_18 hRu_18 hleu_18 hfu_18 => ?_)
    obtain ⟨ar_19, nr_19, cr_19, Kr_19, rfl, rfl, rfl, hr_19, hnewr_19, -⟩ := hRu_18
    replace hr_19 := (RowOf.base (Zf (H2 := New H Hu_5) RU8.const hr_19) (fun p hp => (hfu_18 p (Zh 0 rfl hp)).resolve_left (hnewr_19 p hp)))
    refine ZA rfl rfl (ZG rfl) (ZA rfl rfl (R.extract rfl rfl) (ZA rfl rfl (R.extract rfl rfl) (ZA rfl rfl (ZE rfl) (ZA rfl rfl (ZE rfl) (ZD (ZC (ZB (ZA rfl rfl (ZG rfl) (ZA rfl rfl (ZG rfl) ?_)))))))))
    obtain ⟨q_20, hm_21, hl_22, hx⟩ := Z6 hx
    refine YC (HF := (New H Hu_5)) 1 U23 I5 rfl rfl hr_12 rfl (SrcF.row 0 U23 rfl hr_19) hm_21 hl_22 rfl (Nat.le_refl _) rfl (fun vr_23 Kr_23 hr_23 => ?_)
    obtain ⟨ar_23, cr_23, rfl⟩ := RowOf.val hr_23
    refine ZA rfl rfl (ZE rfl) (ZD (Zo (ZC (ZB (ZA rfl rfl (R.inc rfl rfl (of_decide_eq_true c_13) (by decide)) (ZA rfl rfl (ZG rfl) (ZD ?_)))))))
    replace hx := Zp hd_13 hx
    refine JN.forget 0 ?_
    exact Za ⟨(q_20, s_9.2 + 1), ar_23, q_20.length, cr_23, Kr_23, rfl, rfl, rfl, hx, hr_23⟩ ⟨rfl, rfl, rfl, trivial⟩ rfl rfl
   ·
    replace hx := ZY c_13 hx
    refine Z1 (Zc ?_)
    obtain rfl := Zv hd_13 hx
    refine Zc (Zi ?_)
    exact Za ⟨ar_12, nr_12, cr_12, Kr_12, rfl, rfl, rfl, hr_12⟩ ⟨rfl, trivial⟩ rfl rfl

set_option maxHeartbeats 8000000 in
theorem cipher_pieces_1_ok {σ τ : Type} (p_1 : (List UInt8) → σ → Option (σ ⊕ τ)) (p_2 : σ) (p_4 : List UInt8) (p_7 : List UInt8) (H : Heaplet) {lr_ : Nat} {I_ : σ → Own → Heaplet → Prop} {X_ : τ → Own → Heaplet → Prop} {O_ : Own} {b_3 : Nat} {aa_5 : Option Addr} {na_5 : Nat} {ca_5 : Nat} {b_6 : Nat} {aa_8 : Option Addr} {na_8 : Nat} {ca_8 : Nat} (hY_ : YSpecG Try.prog lr_ (fun (H : Heaplet) (args : Array Value) (y : List UInt8) => ∃ v0 : Value, args = #[v0] ∧ IsSlice H RU8 1 v0 y) p_1 I_ X_) (hI_ : IX I_ X_ (.inl p_2) O_ H) (ha_5 : IsSlice H RU8 1 (.slice aa_5 na_5 ca_5) p_4) (ha_8 : IsSlice H RU8 1 (.slice aa_8 na_8 ca_8) p_7) (r : σ ⊕ τ) (hx : cipher_pieces_1 p_1 p_2 p_4 p_7 = some r) :
  Does Try.prog 123 #[.func (.yield lr_) #[] #[], .pointer (some ⟨b_3, 0, none⟩), .pointer (some ⟨b_6, 0, none⟩)] [[(b_3, .cells #[.slice aa_5 na_5 ca_5] 23 (0, 0))], [(b_6, .cells #[.slice aa_8 na_8 ca_8] 23 (0, 0))], O_] H (fun u K' H' => ∃ O' : Own, u = .tuple #[] ∧ K' = [[(b_3, .cells #[.slice aa_5 na_5 ca_5] 23 (0, 0))], [(b_6, .cells #[.slice aa_8 na_8 ca_8] 23 (0, 0))], O'] ∧ IX I_ X_ r O' H' ∧ True) := by
 refine Does.enterL (vs := [.func (.yield lr_) #[] #[], .pointer (some ⟨b_3, 0, none⟩), .pointer (some ⟨b_6, 0, none⟩)]) (l := [(0, .func (.yield lr_) #[] #[]), (1, .pointer (some ⟨b_3, 0, none⟩)), (2, .pointer (some ⟨b_6, 0, none⟩))]) Try.func123 rfl rfl ⟨rfl, rfl, rfl, trivial⟩ (fun w hlt => ?_)
 unfold cipher_pieces_1 at hx
 refine ZF (ZB (ZA rfl rfl (ZE rfl) (ZD (ZC ?_))))
 obtain ⟨t_9, ht_11, hx⟩ := ZJ hx
 have hxo_10 := hx; clear hx; have hx := ht_11; clear ht_11
 refine JC.block (Zw 1 rfl (Zw 1 rfl (Zw 2 rfl (Z2 (fun n l o g => ∃ s_12 : σ × Int, ∃ H_15 : Heaplet, ∃ O_16 : Own, l = [(0, .func (.yield lr_) #[] #[]), (1, .pointer (some ⟨b_3, 0, none⟩)), (2, .pointer (some ⟨b_6, 0, none⟩)), (4, .int .i64 s_12.2)] ∧ o = [O_16, [(b_3, .cells #[.slice aa_5 na_5 ca_5] 23 (0, 0))], [(b_6, .cells #[.slice aa_8 na_8 ca_8] 23 (0, 0))]] ∧ H_15 = g ∧ run (cipher_pieces_1_l1 p_1 p_4 p_7) n s_12 = some t_9 ∧ Hle H H_15 ∧ IX I_ X_ (.inl (s_12.1)) O_16 H_15) FUEL ?_ ⟨(p_2, 0), H, O_, rfl, rfl, rfl, hx, (Hle.refl _), hI_⟩ ⟨rfl, rfl, rfl, rfl, trivial⟩ ?_))))
 ·
  rintro _ _ _ ⟨s_12, H_15, O_16, rfl, rfl, rfl, hn_13, hleH_15, hI_17⟩
  exact Zz hn_13
 ·
  rintro n_14 _ _ _ ⟨s_12, H_15, O_16, rfl, rfl, rfl, hn_13, hleH_15, hI_17⟩
  clear hx; obtain ⟨oo_19, hx, hd_18⟩ := Z0 hn_13
  unfold cipher_pieces_1_l1 at hx
  refine ZF (JC.block (ZF (ZB (ZA rfl rfl (ZG rfl) ?_))))
  obtain ⟨x_18, hr_19, hx⟩ := ZJ hx
  refine ZS (vs := [_, _]) (args := [_, _]) (K := []) (rst := [_, _, _]) E66 rfl rfl rfl ZI (code_Put_ok s_12.2 4 _ _ hr_19) rfl (fun u_20 Ku_20 Hu_20 hRu_20 hleu_20 hfu_20 => ?_)
  obtain ⟨ar_21, nr_21, cr_21, Kr_21, rfl, rfl, rfl, hr_21, hnewr_21, -⟩ := hRu_20
  replace hr_21 := (RowOf.base (Zf (H2 := New H H_15) RU8.const hr_21) (fun p hp => (hfu_20 p (Zh 0 rfl hp)).resolve_left (hnewr_21 p hp)))
  refine ZA rfl rfl (ZG rfl) (ZA rfl rfl (R.extract rfl rfl) (ZA rfl rfl (R.extract rfl rfl) (ZA rfl rfl (ZE rfl) (ZA rfl rfl (ZE rfl) (ZD (ZC (ZF (ZB (ZA rfl rfl (ZG rfl) (ZA rfl rfl (Ze 2 S23 rfl rfl rfl) (ZA rfl rfl (Ze 3 S23 rfl rfl rfl) ?_)))))))))))
  refine ZA rfl rfl (ZG rfl) (JL.pubN 0 RU8.mono rfl hr_21 (Nat.le_refl _) (fun H_22 hleH_22 hsH_22 => JL.forget 0 (JL.bslF (HF := H_22) (R := (RSl RU8 1)) (ls := [p_4, p_7, x_18.1]) (vs := [.slice aa_5 na_5 ca_5, .slice aa_8 na_8 ca_8, .slice ar_21 nr_21 cr_21]) U41 I23 rfl rfl (⟨_, _, rfl, rfl, ⟨_, rfl, (ha_5.mono RU8.mono (hleH_15.trans hleH_22))⟩, ⟨_, _, rfl, rfl, ⟨_, rfl, (ha_8.mono RU8.mono (hleH_15.trans hleH_22))⟩, ⟨_, _, rfl, rfl, ⟨_, rfl, (hsH_22.old RU8.mono)⟩, rfl⟩⟩⟩) RSl.one rfl rfl rfl (by simp [maxLen]) rfl (fun vr_23 Kr_23 hr_23 => ?_))))
  obtain ⟨ar_23, cr_23, rfl⟩ := RowOf.val hr_23
  obtain ⟨x_27, hr_28, hx⟩ := ZJ hx
  refine JL.callL3 (vs := [_]) E73 rfl rfl (fun H_26 hle_25 hl_24 => slices_Concat_byte_ok ([p_4, p_7, x_18.1]) _ (Lent.row' 0 hl_24 (RSl.mono RU8.mono) hle_25 rfl hr_23) _ hr_28) rfl (fun _ _ _ _ hR_30 hf_31 => ?_)
  obtain ⟨ar_29, nr_29, cr_29, Kr_29, rfl, rfl, rfl, hr_29, -, -⟩ := hR_30
  replace hr_29 := RowOf.base (Zf (H2 := New H H_22) RU8.const hr_29) (fun p hp => hf_31 p (Zh 0 rfl hp))
  obtain ⟨x_35, hr_36, hx⟩ := ZJ hx
  refine JL.callL3 (vs := [_]) E109 rfl rfl (fun H_34 hle_33 hl_32 => mix_Key_ok x_27 _ (Lent.row' 0 hl_32 RU8.mono hle_33 rfl (hr_29.old RU8.mono)) _ hr_36) rfl (fun _ _ _ _ hR_38 hf_39 => ?_)
  obtain ⟨ar_37, nr_37, cr_37, Kr_37, rfl, rfl, hr_37, -, -⟩ := hR_38
  replace hr_37 := RowOf.base (Zf (H2 := New H H_22) RU8.const hr_37) (fun p hp => hf_39 p (Zh 0 rfl hp))
  refine JL.pubN 0 RU8.mono rfl hr_37 (Nat.le_refl _) (fun H_40 hleH_40 hsH_40 => JL.forget 0 ?_)
  obtain ⟨out_41, hb_42, hx⟩ := ZJ hx
  refine JL.yieldG 2 x_35 hb_42 hY_ rfl rfl rfl (hI_17.mono (hleH_22.trans hleH_40)) ⟨_, rfl, (hsH_40.old RU8.mono)⟩ rfl (fun s_43 O_45 H_46 hleH_46 hIH_46 he_47 => ?_) (fun t_44 O_45 H_46 hleH_46 hIH_46 he_47 => ?_)
  ·
   subst he_47
   simp only [Sum.elim_inl] at hx
   refine ZA rfl rfl (R.not rfl) (ZD (ZC (JC.condF rfl (JC.skip (Zo (ZC (ZB (ZA rfl rfl (ZG rfl) (ZA rfl rfl (YB rfl rfl) (ZA rfl rfl (ZE rfl) (ZD ?_)))))))))))
   replace hx := Zp hd_18 hx
   refine JN.forget 1 (JN.forget 0 (ZP 2 rfl (ZP 2 rfl (ZP 2 rfl ?_))))
   exact Za ⟨(s_43, w64 (s_12.2 + 1)), H_46, O_45, rfl, rfl, rfl, hx, ((hleH_15.trans (hleH_22.trans (hleH_40.trans hleH_46)))), hIH_46⟩ ⟨rfl, rfl, rfl, rfl, trivial⟩ rfl rfl
  ·
   subst he_47
   simp only [Sum.elim_inr] at hx
   refine ZA rfl rfl (R.not rfl) (ZD (ZC (Z5 rfl (ZT (JN.blkR (ZV ?_))))))
   obtain rfl := Zv hd_18 hx
   refine ZV (JN.blkR ?_)
   clear hx; have hx := hxo_10
   refine ZR (vs := []) (K := [_, _, _]) (rst := [_, _]) (.inl rfl) rfl rfl rfl (ZK 3 rfl (ZK 3 rfl (ZK 2 rfl ZI))) ?_
   obtain rfl := Option.some.inj hx
   exact ⟨O_45, rfl, rfl, hIH_46, trivial⟩

set_option maxHeartbeats 8000000 in
theorem cipher_Stream_ok (p_1 : List UInt8) (p_3 : UInt32) (p_4 : Int) (H : Heaplet) {aa_2 : Option Addr} {na_2 : Nat} {ca_2 : Nat} (ha_2 : IsSlice H RU8 1 (.slice aa_2 na_2 ca_2) p_1) (r : List UInt8 × Int) (hx : cipher_Stream p_1 p_3 p_4 = some r) :
  Does Try.prog 91 #[.slice aa_2 na_2 ca_2, .int .u32 (p_3.toNat : Int), .int .i64 p_4] [] H (fun u K' H' => ∃ ao0 : Option Addr, ∃ n0 : Nat, ∃ cap0 : Nat, ∃ K0 : Own, u = .tuple #[.slice ao0 n0 cap0, .int .i64 r.2] ∧ K' = [K0] ∧ RowOf (New H H') RU8 0 5 1 (.slice ao0 n0 cap0) r.1 K0 ∧ (∀ p ∈ K0, p.1 ∉ ids (List.flatten [])) ∧ True) := by
 refine Does.enterML (vs := [.slice aa_2 na_2 ca_2, .int .u32 (p_3.toNat : Int), .int .i64 p_4]) (l := [(0, .slice aa_2 na_2 ca_2), (1, .int .u32 (p_3.toNat : Int)), (2, .int .i64 p_4)]) Try.func91 rfl rfl ⟨rfl, rfl, rfl, trivial⟩ (fun w hlt => ?_)
 unfold cipher_Stream at hx
 refine ZF (ZB (YF rfl rfl (fun b_5 hb_5 => ZA rfl rfl (ZE rfl) (ZA rfl rfl (ZE rfl) (ZD (ZC (ZF (ZF (ZB (ZA rfl rfl (ZG rfl) (ZA rfl rfl (Zk U23 rfl (IsSlice.long ha_2)) ?_)))))))))))
 refine ZA rfl rfl (YA rfl rfl) (ZA rfl rfl (ZG rfl) (Zj (t := 13) rfl (fun c_6 => ?_) (fun c_6 => ?_)))
 ·
  replace hx := ZX c_6 hx
  refine ZH rfl rfl rfl rfl rfl (ZH rfl rfl rfl rfl rfl (ZA rfl rfl (Zd rfl rfl) (ZA rfl rfl (ZG rfl) (ZH rfl rfl rfl rfl rfl (ZH rfl rfl rfl rfl rfl (ZA rfl rfl (Zd rfl rfl) (ZD (ZC (Z5 rfl (ZF (ZB ?_)))))))))))
  refine ZA rfl rfl (ZE rfl) (ZA rfl rfl (ZE rfl) (ZD (ZC (ZT (ZV (Zl (JN.outMP (vs := [.slice none 0 0, .int .i64 2]) (K := [_]) (rst := [_]) (own2 := [_, _]) [] (.inl rfl) ⟨rfl, rfl, rfl, rfl⟩ rfl rfl ZI (ZN rfl (ZN rfl rfl)) (ZK 0 rfl ZI) ?_)))))))
  obtain rfl := Option.some.inj hx
  exact ⟨none, 0, 0, [], rfl, rfl, (ZU _ _ _ _ _), (fun p hp => by cases hp), trivial⟩
 ·
  replace hx := ZY c_6 hx
  refine ZL rfl rfl rfl (ZA rfl rfl (Ze 0 S3 rfl rfl rfl) (ZL rfl rfl rfl (ZA rfl rfl (Zy rfl rfl) (ZA rfl rfl (Zm rfl rfl) (ZA rfl rfl (ZG rfl) (Zj (t := 17) rfl (fun c_7 => ?_) (fun c_7 => ?_)))))))
  ·
   replace hx := ZX c_7 hx
   refine ZH rfl rfl rfl rfl rfl (ZH rfl rfl rfl rfl rfl (ZA rfl rfl (Zd rfl rfl) (ZD (ZC (Z5 rfl (ZF (ZB (ZA rfl rfl (ZE rfl) (ZA rfl rfl (ZE rfl) (ZD (ZC ?_)))))))))))
   refine ZT (ZV (Zl (JN.outMP (vs := [.slice none 0 0, .int .i64 2]) (K := [_]) (rst := [_]) (own2 := [_, _]) [] (.inl rfl) ⟨rfl, rfl, rfl, rfl⟩ rfl rfl ZI (ZN rfl (ZN rfl rfl)) (ZK 0 rfl ZI) ?_)))
   obtain rfl := Option.some.inj hx
   exact ⟨none, 0, 0, [], rfl, rfl, (ZU _ _ _ _ _), (fun p hp => by cases hp), trivial⟩
  ·
   replace hx := ZY c_7 hx
   refine ZL rfl rfl rfl (ZA rfl rfl (Ze 0 S3 rfl rfl rfl) (ZL rfl rfl rfl (ZA rfl rfl (R.gtr_i rfl rfl) (ZA rfl rfl (Zm rfl rfl) (ZD (ZC (ZW rfl (fun c_8 => ?_) (fun c_8 => ?_))))))))
   ·
    replace hx := ZX c_8 hx
    refine ZF (ZB (ZA rfl rfl (ZE rfl) (ZA rfl rfl (ZE rfl) (ZD (ZC (ZT (ZV (Zl (JN.outMP (vs := [.slice none 0 0, .int .i64 2]) (K := [_]) (rst := [_]) (own2 := [_, _]) [] (.inl rfl) ⟨rfl, rfl, rfl, rfl⟩ rfl rfl ZI (ZN rfl (ZN rfl rfl)) (ZK 0 rfl ZI) ?_)))))))))
    obtain rfl := Option.some.inj hx
    exact ⟨none, 0, 0, [], rfl, rfl, (ZU _ _ _ _ _), (fun p hp => by cases hp), trivial⟩
   ·
    replace hx := ZY c_8 hx
    refine JC.skip (ZC (ZF (ZB (JL.alloc Z23 rfl (fun b_9 hb_9 => ZD (ZC (ZF (ZF (ZB (ZA rfl rfl (ZG rfl) (ZA rfl rfl (ZG rfl) ?_)))))))))))
    obtain ⟨x_10, hr_11, hx⟩ := ZJ hx
    refine ZS (vs := [_, _]) (args := [_, _]) (K := []) (rst := [_, _]) E108 rfl rfl rfl ZI (cipher_pieces_ok p_1 p_3 _ ha_2 _ hr_11) rfl (fun u_12 Ku_12 Hu_12 hRu_12 hleu_12 hfu_12 => ?_)
    obtain ⟨b_13, az_14, nz_14, cz_14, b_15, ar_16, nr_16, cr_16, Kr_16, rfl, rfl, rfl, hz_14, hr_16, hnewr_16, -⟩ := hRu_12
    have hb_13 := (hfu_12 _ (Zh 0 rfl (List.mem_singleton.2 rfl))).resolve_left (fun h => by cases h)
    have hb_15 := (hfu_12 _ (Zh 1 rfl (List.mem_singleton.2 rfl))).resolve_left (fun h => by cases h)
    replace hr_16 := (RowOf.base (Zf (H2 := New H H) RU8.const hr_16) (fun p hp => (hfu_12 p (Zh 2 rfl hp)).resolve_left (hnewr_16 p hp)))
    refine ZD (ZC ?_)
    obtain ⟨t_17, ht_19, hx⟩ := ZJ hx
    refine JC.cutD (fun ds l o g => ∃ H_41 : Heaplet, ∃ D_42 : Nat, ∃ ar_43 : Option Addr, ∃ nr_43 : Nat, ∃ cr_43 : Nat, ∃ Kr_43 : Own, ds = [Go.Ow.mark D_42] ∧ l = [(5, .pointer (some ⟨b_5, 0, none⟩)), (8, .pointer (some ⟨b_9, 0, none⟩))] ∧ o = [[(D_42, Obj.deferred (some []))], [(b_5, .cells #[.int .i64 p_4] 3 (0, 0))], [(b_9, .cells #[.slice ar_43 nr_43 cr_43] 23 (0, 0))], Kr_43] ∧ H_41 = g ∧ Hle H H_41 ∧ RowOf (New H H_41) RU8 w.heap.size 5 1 (.slice ar_43 nr_43 cr_43) t_17 Kr_43) ?_ ?_
    ·
     rintro _ _ _ _ ⟨H_41, D_42, ar_43, nr_43, cr_43, Kr_43, rfl, rfl, rfl, rfl, hleH_41, hr_43⟩
     refine ZC (ZF (ZB (ZA rfl rfl (Ze 2 S23 rfl rfl rfl) (ZA rfl rfl (Ze 1 S3 rfl rfl rfl) (JL.pubN 3 RU8.mono rfl hr_43 (Nat.le_refl _) (fun H_44 hleH_44 hsH_44 => JL.forget 3 ?_))))))
     obtain ⟨m_45, hm_47, hb_46, hx⟩ := slc_some hx
     obtain ⟨vv_48, cv_48, h1v_48, h2v_48, h3v_48, hsv_48⟩ := IsSlice.cutv hsH_44 hm_47 hb_46
     refine ZA rfl rfl (R.slc (cap := cv_48) (a := 0) (b := p_4) (c := (cv_48 : Int)) (m := t_17) (R := RU8) U23 S5 rfl rfl ⟨_, rfl⟩ (by obtain ⟨ao, n, e, _⟩ := h1v_48; exact ⟨ao, n, e, rfl⟩) ⟨hb_46.1, hb_46.2.1, h2v_48⟩ h3v_48 (.inl rfl)) ?_
     obtain ⟨av_48, cv_48', rfl⟩ := IsSlice.val hsv_48
     obtain ⟨x_49, hr_50, hx⟩ := ZJ hx
     refine ZS (vs := [_]) (args := [_]) (K := []) (rst := [_, _, _]) E26 rfl rfl rfl ZI (slices_Clone_byte_ok m_45 _ (hsv_48.old RU8.mono) _ hr_50) rfl (fun u_51 Ku_51 Hu_51 hRu_51 hleu_51 hfu_51 => ?_)
     obtain ⟨ar_52, nr_52, cr_52, Kr_52, rfl, rfl, rfl, hr_52, hnewr_52, -⟩ := hRu_51
     replace hr_52 := (RowOf.base (Zf (H2 := New H H_44) RU8.const hr_52) (fun p hp => (hfu_51 p (Zh 0 rfl hp)).resolve_left (hnewr_52 p hp)))
     refine ZA rfl rfl (ZE rfl) (ZA rfl rfl (ZE rfl) (ZD (ZC (ZT (JN.outMP (vs := [.slice ar_52 nr_52 cr_52, .int .i64 0]) (K := [_]) (rst := [_, _]) (own2 := [_, _, _]) [D_42] (.inl rfl) ⟨rfl, rfl, rfl, rfl⟩ rfl rfl (ZK 1 rfl ZI) (ZN rfl (ZN rfl rfl)) (ZK 0 rfl ZI) ?_)))))
     obtain rfl := Option.some.inj hx
     exact ⟨ar_52, nr_52, cr_52, Kr_52, rfl, rfl, (Zg (Nat.zero_le _) hr_52), (Zx hr_52 hlt), trivial⟩
    ·
     have hxo_18 := hx; clear hx; have hx := ht_19; clear ht_19
     refine JC.block (JC.pubN 2 RU8.mono rfl hr_16 (Nat.le_refl _) (fun H_20 hleH_20 hsH_20 => JC.forget 2 (JC.seg0 (Zw 3 rfl (Zw 4 rfl (Zw 4 rfl (Zw 4 rfl ?_)))))))
     obtain ⟨t_21, ht_23, hx⟩ := ZJ hx
     refine JC.rangeG (RA := (fun (H : Heaplet) (args : Array Value) (y : List UInt8) => ∃ v0 : Value, args = #[v0] ∧ IsSlice H RU8 1 v0 y)) rfl (cipher_Stream_r1 p_4) ([] : List UInt8) t_21 (fun s_24 o g => ∃ H_34 : Heaplet, ∃ ar_35 : Option Addr, ∃ nr_35 : Nat, ∃ cr_35 : Nat, ∃ Kr_35 : Own, o = [[(b_5, .cells #[.int .i64 p_4] 3 (0, 0))], [(b_9, .cells #[.slice ar_35 nr_35 cr_35] 23 (0, 0))], Kr_35] ∧ H_34 = g ∧ Hle H_20 H_34 ∧ RowOf (New H H_34) RU8 w.heap.size 5 1 (.slice ar_35 nr_35 cr_35) s_24 Kr_35) (fun e c o g => (c = .exit 0 ∧ ∃ t_21e0 : List UInt8, t_21e0 = e ∧ ∃ H_36 : Heaplet, ∃ ar_37 : Option Addr, ∃ nr_37 : Nat, ∃ cr_37 : Nat, ∃ Kr_37 : Own, o = [[(b_5, .cells #[.int .i64 p_4] 3 (0, 0))], [(b_9, .cells #[.slice ar_37 nr_37 cr_37] 23 (0, 0))], Kr_37] ∧ H_36 = g ∧ Hle H_20 H_36 ∧ RowOf (New H H_36) RU8 w.heap.size 5 1 (.slice ar_37 nr_37 cr_37) t_21e0 Kr_37)) (fun mm g => mm = [[(b_13, .cells #[.slice az_14 nz_14 cz_14] 23 (0, 0))], [(b_15, .cells #[.slice ar_16 nr_16 cr_16] 23 (0, 0))]]) [_, _] [_, _, _] rfl E123 rfl (fun lr' I' X' O' hY' hI' => Does.mono (cipher_pieces_1_ok (cipher_Stream_r1 p_4) ([] : List UInt8) x_10.1 x_10.2 _ hY' hI' (hz_14.mono RU8.mono hleH_20) (hsH_20.old RU8.mono) _ ht_23) (fun u K' H' h => by obtain ⟨Oo, -, hK, hIX, -⟩ := h; exact ⟨_, _, hK, rfl, hIX⟩)) (fun _ _ _ h => by obtain ⟨_, rfl, _⟩ := h; first | rfl | (subst h; rfl)) rfl ⟨H_20, none, 0, 0, [], rfl, rfl, (Hle.refl _), (ZU _ _ _ _ _)⟩ ?_ ?_ ?_
     ·
      rintro lr_26 y_25 s_24 args o g H_30 out_28 hleH_30 ⟨H_34, ar_35, nr_35, cr_35, Kr_35, rfl, rfl, hleH_34, hr_35⟩ hA hx2
      clear hx; have hx := hx2; clear hx2; unfold cipher_Stream_r1 at hx
      obtain ⟨vy_25_0, rfl, hsy_25_0⟩ := hA
      obtain ⟨ay_25_0, cy_25_0, rfl⟩ := IsSlice.val hsy_25_0
      refine ⟨[(5, .pointer (some ⟨b_5, 0, none⟩)), (8, .pointer (some ⟨b_9, 0, none⟩)), (9, .slice ay_25_0 y_25.length cy_25_0)], fun wb_27 hwb_27 => ?_, fun wb_27 hwb_27 => ?_⟩
      ·
       refine ZB (ZA rfl rfl (ZE rfl) (ZD ?_))
       exact JN.assigned ⟨rfl, rfl, rfl, trivial⟩
      ·
       refine JC.block (ZF (ZF (ZB (ZA rfl rfl (Ze 1 S23 rfl rfl rfl) (ZA rfl rfl (Zk U23 rfl (RowOf.long hr_35)) (ZA rfl rfl (Ze 0 S3 rfl rfl rfl) (ZA rfl rfl (R.geq_i rfl rfl) (ZD (ZC (ZW rfl (fun c_36 => ?_) (fun c_36 => ?_)))))))))))
       ·
        replace hx := ZX c_36 hx
        refine Z1 (Zc (JN.exitOther rfl ?_))
        obtain rfl := Option.some.inj hx
        refine ZP 2 rfl (ZP 2 rfl (ZP 2 rfl ?_))
        exact JN.rX ⟨rfl, s_24, rfl, H_30, ar_35, nr_35, cr_35, Kr_35, rfl, rfl, ((hleH_34.trans hleH_30)), (hr_35.mono RU8.mono (New.mono hleH_30))⟩
       ·
        replace hx := ZY c_36 hx
        refine JC.skip (ZC (ZB (ZA rfl rfl (Ze 1 S23 rfl rfl rfl) (ZA rfl rfl (ZG rfl) ?_))))
        obtain ⟨q_37, hm_38, hl_39, hx⟩ := Z6 hx
        refine YC (HF := (New H H_30)) 2 U23 I5 rfl rfl (hr_35.mono RU8.mono (New.mono hleH_30)) rfl (SrcF.sliceC RU8.const RU8.one U23 hsy_25_0) hm_38 hl_39 rfl hwb_27 rfl (fun vr_40 Kr_40 hr_40 => ?_)
        obtain ⟨ar_40, cr_40, rfl⟩ := RowOf.val hr_40
        refine ZQ 1 S23 rfl rfl rfl rfl rfl (Nat.le_of_ble_eq_true rfl) (ZD (Zo ?_))
        obtain rfl := Option.some.inj hx
        refine ZP 2 rfl (ZP 2 rfl (ZP 2 rfl ?_))
        exact JN.rN ⟨H_30, ar_40, q_37.length, cr_40, Kr_40, rfl, rfl, ((hleH_34.trans hleH_30)), hr_40⟩
     ·
      rintro D_29 s_24 m_31 o g H_30 hD_29 htt_32 hM_33 hleH_30 ⟨H_34, ar_35, nr_35, cr_35, Kr_35, rfl, rfl, hleH_34, hr_35⟩ hle2
      obtain rfl := hM_33
      rw [htt_32] at hx; simp only [Sum.elim_inl] at hx
      refine Zo ?_
      obtain rfl := Option.some.inj hx
      refine JN.forget 2 (JN.forget 1 (ZP 3 rfl (ZP 3 rfl (ZP 3 rfl (ZP 3 rfl ?_)))))
      exact JN.cutD ⟨H_30, D_29, ar_35, nr_35, cr_35, Kr_35, rfl, rfl, rfl, rfl, ((hleH_20.trans (hleH_34.trans hleH_30))), (hr_35.mono RU8.mono (New.mono hleH_30))⟩ rfl ⟨rfl, rfl, trivial⟩ rfl rfl
     ·
      rintro D_29 c e m_31 o g H_30 hD_29 htt_32 hM_33 hleH_30 hX hle2
      obtain rfl := hM_33
      rcases hX with ⟨rfl, t_21e0, rfl, H_36, ar_37, nr_37, cr_37, Kr_37, rfl, rfl, hleH_36, hr_37⟩
      rw [htt_32] at hx; simp only [Sum.elim_inl, Sum.elim_inr] at hx
      refine Z1 (Zi ?_)
      obtain rfl := Option.some.inj hx
      refine JN.forget 2 (JN.forget 1 (ZP 3 rfl (ZP 3 rfl (ZP 3 rfl (ZP 3 rfl ?_)))))
      exact JN.cutD ⟨H_30, D_29, ar_37, nr_37, cr_37, Kr_37, rfl, rfl, rfl, rfl, ((hleH_20.trans (hleH_36.trans hleH_30))), (hr_37.mono RU8.mono (New.mono hleH_30))⟩ rfl ⟨rfl, rfl, trivial⟩ rfl rfl

set_option maxHeartbeats 8000000 in
theorem cipher_Turn_ok (p_1 : List UInt8) (p_3 : UInt32) (p_4 : List UInt8) (H : Heaplet) {aa_2 : Option Addr} {na_2 : Nat} {ca_2 : Nat} {aa_5 : Option Addr} {na_5 : Nat} {ca_5 : Nat} (ha_2 : IsSlice H RU8 1 (.slice aa_2 na_2 ca_2) p_1) (ha_5 : IsSlice H RU8 1 (.slice aa_5 na_5 ca_5) p_4) (r : List UInt8 × Int) (hx : cipher_Turn p_1 p_3 p_4 = some r) :
  Does Try.prog 71 #[.slice aa_2 na_2 ca_2, .int .u32 (p_3.toNat : Int), .slice aa_5 na_5 ca_5] [] H (fun u K' H' => ∃ ao0 : Option Addr, ∃ n0 : Nat, ∃ cap0 : Nat, ∃ K0 : Own, u = .tuple #[.slice ao0 n0 cap0, .int .i64 r.2] ∧ K' = [K0] ∧ RowOf (New H H') RU8 0 5 1 (.slice ao0 n0 cap0) r.1 K0 ∧ (∀ p ∈ K0, p.1 ∉ ids (List.flatten [])) ∧ True) := by
 refine Does.enterL (vs := [.slice aa_2 na_2 ca_2, .int .u32 (p_3.toNat : Int), .slice aa_5 na_5 ca_5]) (l := [(0, .slice aa_2 na_2 ca_2), (1, .int .u32 (p_3.toNat : Int)), (2, .slice aa_5 na_5 ca_5)]) Try.func71 rfl rfl ⟨rfl, rfl, rfl, trivial⟩ (fun w hlt => ?_)
 unfold cipher_Turn at hx
 refine ZF (ZB (ZA rfl rfl (ZE rfl) (ZA rfl rfl (ZE rfl) (ZD (ZC (ZF (JC.block (ZF (ZB (ZA rfl rfl (ZG rfl) (ZA rfl rfl (Zk U23 rfl (IsSlice.long ha_2)) ?_)))))))))))
 refine ZA rfl rfl (YA rfl rfl) (ZA rfl rfl (ZE rfl) (ZD (ZC (ZW rfl (fun c_6 => ?_) (fun c_6 => ?_)))))
 ·
  replace hx := ZX c_6 hx
  refine ZF (ZB (ZA rfl rfl (ZE rfl) (ZA rfl rfl (ZE rfl) (ZD (ZC (ZT (JN.blkR (ZV (Zl (ZR (vs := [.slice none 0 0, .int .i64 2]) (K := [_]) (rst := []) (.inl rfl) rfl rfl (ZN rfl (ZN rfl rfl)) (ZK 0 rfl ZI) ?_))))))))))
  obtain rfl := Option.some.inj hx
  exact ⟨none, 0, 0, [], rfl, rfl, (ZU _ _ _ _ _), (fun p hp => by cases hp), trivial⟩
 ·
  replace hx := ZY c_6 hx
  refine ZF (ZB (ZA rfl rfl (ZG rfl) (ZA rfl rfl (Zk U23 rfl (IsSlice.long ha_5)) (ZA rfl rfl (R.gtr_i rfl rfl) (ZA rfl rfl (ZE rfl) (ZD (ZC (ZW rfl (fun c_7 => ?_) (fun c_7 => ?_)))))))))
  ·
   replace hx := ZX c_7 hx
   refine ZF (ZB (ZA rfl rfl (ZE rfl) (ZA rfl rfl (ZE rfl) (ZD (ZC (ZT (JN.blkR (ZV (Zl (ZR (vs := [.slice none 0 0, .int .i64 3]) (K := [_]) (rst := []) (.inl rfl) rfl rfl (ZN rfl (ZN rfl rfl)) (ZK 0 rfl ZI) ?_))))))))))
   obtain rfl := Option.some.inj hx
   exact ⟨none, 0, 0, [], rfl, rfl, (ZU _ _ _ _ _), (fun p hp => by cases hp), trivial⟩
  ·
   replace hx := ZY c_7 hx
   refine JC.skip (Zo (ZC (ZF (ZB (ZA rfl rfl (ZG rfl) (ZA rfl rfl (ZG rfl) (ZA rfl rfl (ZG rfl) (ZA rfl rfl (Zk U23 rfl (IsSlice.long ha_5)) ?_))))))))
   obtain ⟨x_8, hr_9, hx⟩ := ZJ hx
   refine ZS (vs := [_, _, _]) (args := [_, _, _]) (K := []) (rst := []) E91 rfl rfl rfl ZI (cipher_Stream_ok p_1 p_3 (p_4.length : Int) _ ha_2 _ hr_9) rfl (fun u_10 Ku_10 Hu_10 hRu_10 hleu_10 hfu_10 => ?_)
   obtain ⟨ar_11, nr_11, cr_11, Kr_11, rfl, rfl, hr_11, hnewr_11, -⟩ := hRu_10
   replace hr_11 := (RowOf.base (Zf (H2 := New H Hu_10) RU8.const hr_11) (fun p hp => (hfu_10 p (Zh 0 rfl hp)).resolve_left (hnewr_11 p hp)))
   refine ZA rfl rfl (ZG rfl) (ZA rfl rfl (R.extract rfl rfl) (ZA rfl rfl (R.extract rfl rfl) (ZA rfl rfl (ZE rfl) (ZA rfl rfl (ZE rfl) (ZD (ZC (ZF (ZF (ZB (ZA rfl rfl (ZG rfl) (ZA rfl rfl (Zk U23 rfl (IsSlice.long ha_5)) ?_)))))))))))
   refine ZA rfl rfl (ZG rfl) (ZD (ZC ?_))
   obtain ⟨t_12, ht_14, hx⟩ := ZJ hx
   refine Z4 (fun l o g => ∃ Kr_19 : Own, l = [(8, .slice ar_11 nr_11 cr_11), (9, .int .i64 x_8.2)] ∧ o = [Kr_19] ∧ Hu_10 = g ∧ RowOf (New H Hu_10) RU8 w.heap.size 5 1 (.slice ar_11 nr_11 cr_11) t_12 Kr_19) ?_ ?_
   ·
    rintro _ _ _ ⟨Kr_19, rfl, rfl, rfl, hr_19⟩
    refine ZC (ZF (ZB (ZA rfl rfl (ZG rfl) (ZA rfl rfl (ZG rfl) (ZA rfl rfl (ZE rfl) (ZA rfl rfl (ZE rfl) (ZD (ZC (ZT (ZR (vs := [.slice ar_11 nr_11 cr_11, .int .i64 x_8.2]) (K := [_]) (rst := []) (.inl rfl) rfl rfl (ZN rfl (ZN rfl rfl)) (ZK 0 rfl ZI) ?_))))))))))
    obtain rfl := Option.some.inj hx
    exact ⟨ar_11, nr_11, cr_11, Kr_19, rfl, rfl, (Zg (Nat.zero_le _) hr_19), (Zx hr_19 hlt), trivial⟩
   ·
    have hxo_13 := hx; clear hx; have hx := ht_14; clear ht_14
    refine JC.block (Z2 (fun n l o g => ∃ s_15 : List UInt8 × Nat, ∃ Kr_18 : Own, l = [(8, .slice ar_11 nr_11 cr_11), (9, .int .i64 x_8.2), (28, .slice aa_5 na_5 ca_5), (29, .int .i64 (p_4.length : Int)), (30, .int .i64 ((s_15.2 : Nat) : Int))] ∧ o = [Kr_18] ∧ Hu_10 = g ∧ run (cipher_Turn_l1 p_4) n s_15 = some t_12 ∧ RowOf (New H Hu_10) RU8 w.heap.size 5 1 (.slice ar_11 nr_11 cr_11) s_15.1 Kr_18) FUEL ?_ ⟨(x_8.1, 0), Kr_11, rfl, rfl, rfl, hx, hr_11⟩ ⟨rfl, rfl, rfl, rfl, rfl, trivial⟩ ?_)
    ·
     rintro _ _ _ ⟨s_15, Kr_18, rfl, rfl, rfl, hn_16, hr_18⟩
     exact Zz hn_16
    ·
     rintro n_17 _ _ _ ⟨s_15, Kr_18, rfl, rfl, rfl, hn_16, hr_18⟩
     clear hx; obtain ⟨oo_20, hx, hd_19⟩ := Z0 hn_16
     unfold cipher_Turn_l1 at hx
     refine ZF (ZB (ZA rfl rfl (Zy rfl rfl) (ZD (ZC (ZF (ZW rfl (fun c_19 => ?_) (fun c_19 => ?_)))))))
     ·
      replace hx := ZX c_19 hx
      refine JC.skip (ZC (ZF (JC.block (ZF (ZB (ZA rfl rfl (ZG rfl) ?_))))))
      obtain ⟨y_20, hN_21, hx⟩ := Zq hx
      obtain ⟨b_22, o_23, cs_24, hE_25, hR_26, hl_27, hc_28⟩ := IsSlice.elem (ha_5.mono RU8.mono hleu_10) hN_21
      obtain rfl := hR_26
      refine ZA rfl rfl (R.ix U23 S5 rfl rfl hE_25) (ZA rfl rfl (R.ldH S5 rfl (hc_28 0 _ rfl)) (ZA rfl rfl (ZE rfl) (ZA rfl rfl (ZE rfl) (ZD (ZC (ZB (ZA rfl rfl (ZG rfl) (ZA rfl rfl (ZG rfl) ?_))))))))
      obtain ⟨y_29, hN_30, hx⟩ := Zq hx
      obtain ⟨b_31, o_32, cs_33, cur_38, hK_39, hE_34, hR_35, hl_36, hc_37⟩ := RowOf.elem hr_18 hN_30
      subst hK_39
      obtain rfl := hR_35
      refine ZA rfl rfl (R.ix U23 S5 rfl rfl hE_34) (ZA rfl rfl (Ze 0 S5 rfl rfl (hc_37 0 _ rfl)) (ZA rfl rfl (ZG rfl) (ZA rfl rfl (R.xor8 (a := y_29) (b := y_20) rfl rfl) ?_)))
      obtain ⟨hp_40, hx⟩ := chk_some hx
      obtain ⟨b_41, o_42, hE_43⟩ := RowOf.place hr_18 hp_40
      refine ZA rfl rfl (R.ix U23 S5 rfl rfl hE_43) ?_
      obtain ⟨m_44, hm_45, hi_46, hx⟩ := setI_some hx
      refine JL.stE 0 (k := ((s_15.2 : Nat) : Int)) (y := (y_29 ^^^ y_20)) S5 rfl hr_18 rfl hE_43 rfl rfl (rfl) RU8.one hm_45 (fun Kr_47 hr_47 hlr_47 => ZD (Zo (ZC (ZB (ZA rfl rfl (R.inc rfl rfl (of_decide_eq_true c_19) (IsSlice.lenI ha_5)) (ZA rfl rfl (ZG rfl) (ZD ?_)))))))
      replace hx := Zp hd_19 hx
      exact Za ⟨(m_44, s_15.2 + 1), Kr_47, rfl, rfl, rfl, hx, hr_47⟩ ⟨rfl, rfl, rfl, rfl, rfl, trivial⟩ rfl rfl
     ·
      replace hx := ZY c_19 hx
      refine Z1 (Zc ?_)
      obtain rfl := Zv hd_19 hx
      refine Zc (Zi ?_)
      exact Za ⟨Kr_18, rfl, rfl, rfl, hr_18⟩ ⟨rfl, rfl, trivial⟩ rfl rfl

set_option maxHeartbeats 8000000 in
theorem seal_turned_ok (p_1 : List UInt8) (p_3 : UInt32) (p_4 : List UInt8) (H : Heaplet) {aa_2 : Option Addr} {na_2 : Nat} {ca_2 : Nat} {aa_5 : Option Addr} {na_5 : Nat} {ca_5 : Nat} (ha_2 : IsSlice H RU8 1 (.slice aa_2 na_2 ca_2) p_1) (ha_5 : IsSlice H RU8 1 (.slice aa_5 na_5 ca_5) p_4) (r : List UInt8 × Int) (hx : seal_turned p_1 p_3 p_4 = some r) :
  Does Try.prog 52 #[.slice aa_2 na_2 ca_2, .int .u32 (p_3.toNat : Int), .slice aa_5 na_5 ca_5] [] H (fun u K' H' => ∃ ao0 : Option Addr, ∃ n0 : Nat, ∃ cap0 : Nat, ∃ K0 : Own, u = .tuple #[.slice ao0 n0 cap0, .int .i64 r.2] ∧ K' = [K0] ∧ RowOf (New H H') RU8 0 5 1 (.slice ao0 n0 cap0) r.1 K0 ∧ (∀ p ∈ K0, p.1 ∉ ids (List.flatten [])) ∧ True) := by
 refine Does.enterL (vs := [.slice aa_2 na_2 ca_2, .int .u32 (p_3.toNat : Int), .slice aa_5 na_5 ca_5]) (l := [(0, .slice aa_2 na_2 ca_2), (1, .int .u32 (p_3.toNat : Int)), (2, .slice aa_5 na_5 ca_5)]) Try.func52 rfl rfl ⟨rfl, rfl, rfl, trivial⟩ (fun w hlt => ?_)
 unfold seal_turned at hx
 refine ZF (ZB (ZA rfl rfl (ZE rfl) (ZA rfl rfl (ZE rfl) (ZD (ZC (ZF ?_))))))
 obtain ⟨t_6, ht_8, hx⟩ := ZJ hx
 refine Z4 (fun l o g => ∃ t_6a : Unit, l = [(0, .slice aa_2 na_2 ca_2), (1, .int .u32 (p_3.toNat : Int)), (2, .slice aa_5 na_5 ca_5)] ∧ o = [] ∧ H = g ∧ t_6 = .inl t_6a) ?_ ?_
 ·
  rintro _ _ _ ⟨t_6a, rfl, rfl, rfl, rfl⟩
  simp only [Sum.elim_inl] at hx
  refine ZC (ZF (ZB (ZA rfl rfl (ZG rfl) (ZA rfl rfl (ZG rfl) (ZA rfl rfl (ZG rfl) ?_)))))
  obtain ⟨x_11, hr_12, hx⟩ := ZJ hx
  refine ZS (vs := [_, _, _]) (args := [_, _, _]) (K := []) (rst := []) E71 rfl rfl rfl ZI (cipher_Turn_ok p_1 p_3 p_4 _ ha_2 ha_5 _ hr_12) rfl (fun u_13 Ku_13 Hu_13 hRu_13 hleu_13 hfu_13 => ?_)
  obtain ⟨ar_14, nr_14, cr_14, Kr_14, rfl, rfl, hr_14, hnewr_14, -⟩ := hRu_13
  replace hr_14 := (RowOf.base (Zf (H2 := New H Hu_13) RU8.const hr_14) (fun p hp => (hfu_13 p (Zh 0 rfl hp)).resolve_left (hnewr_14 p hp)))
  refine ZA rfl rfl (R.extract rfl rfl) (ZA rfl rfl (R.extract rfl rfl) (ZA rfl rfl (ZE rfl) (ZA rfl rfl (ZE rfl) (ZD (ZC (ZT (ZR (vs := [.slice ar_14 nr_14 cr_14, .int .i64 x_11.2]) (K := [_]) (rst := []) (.inl rfl) rfl rfl (ZN rfl (ZN rfl rfl)) (ZK 0 rfl ZI) ?_)))))))
  obtain rfl := Option.some.inj hx
  exact ⟨ar_14, nr_14, cr_14, Kr_14, rfl, rfl, (Zg (Nat.zero_le _) hr_14), (Zx hr_14 hlt), trivial⟩
 ·
  have hxo_7 := hx; clear hx; have hx := ht_8; clear ht_8
  refine ZF (ZB (ZA rfl rfl (ZG rfl) (ZA rfl rfl (Zk U23 rfl (IsSlice.long ha_2)) (ZA rfl rfl (R.eql_i rfl rfl) (ZA rfl rfl (ZG rfl) (Zj (t := 11) rfl (fun c_9 => ?_) (fun c_9 => ?_)))))))
  ·
   replace hx := ZX c_9 hx
   refine ZL rfl rfl rfl (ZA rfl rfl (ZG rfl) (ZL rfl rfl rfl (ZA rfl rfl (Zk U23 rfl (IsSlice.long ha_5)) (ZL rfl rfl rfl (ZA rfl rfl (R.gtr_i rfl rfl) (ZA rfl rfl (Zd rfl rfl) (ZD (ZC (ZW rfl (fun c_10 => ?_) (fun c_10 => ?_))))))))))
   ·
    replace hx := ZX c_10 hx
    refine ZF (ZB (ZA rfl rfl (ZE rfl) (ZD (ZC (ZT ?_)))))
    obtain rfl := Option.some.inj hx
    clear hx; have hx := hxo_7
    simp only [Sum.elim_inl, Sum.elim_inr] at hx
    refine ZV (ZV (Zl (ZR (vs := [.slice none 0 0, .int .i64 3]) (K := [_]) (rst := []) (.inl rfl) rfl rfl (ZN rfl (ZN rfl rfl)) (ZK 0 rfl ZI) ?_)))
    obtain rfl := Option.some.inj hx
    exact ⟨none, 0, 0, [], rfl, rfl, (ZU _ _ _ _ _), (fun p hp => by cases hp), trivial⟩
   ·
    replace hx := ZY c_10 hx
    refine JC.skip ?_
    obtain rfl := Option.some.inj hx
    exact Za ⟨(), rfl, rfl, rfl, rfl⟩ ⟨rfl, rfl, rfl, trivial⟩ rfl rfl
  ·
   replace hx := ZY c_9 hx
   refine ZH rfl rfl rfl rfl rfl (ZH rfl rfl rfl rfl rfl (ZH rfl rfl rfl rfl rfl (ZA rfl rfl (Zm rfl rfl) (ZD (ZC (JC.condF rfl (JC.skip ?_)))))))
   obtain rfl := Option.some.inj hx
   exact Za ⟨(), rfl, rfl, rfl, rfl⟩ ⟨rfl, rfl, rfl, trivial⟩ rfl rfl

set_option maxHeartbeats 8000000 in
theorem mac_inner_ok (p_1 : List (List UInt8)) (H : Heaplet) {aa_2 : Option Addr} {na_2 : Nat} {ca_2 : Nat} (ha_2 : IsSlice H (RSl RU8 1) 1 (.slice aa_2 na_2 ca_2) p_1) (r : List UInt8) (hx : mac_inner p_1 = some r) :
  Does Try.prog 92 #[.slice aa_2 na_2 ca_2] [] H (fun u K' H' => ∃ ao0 : Option Addr, ∃ n0 : Nat, ∃ cap0 : Nat, ∃ K0 : Own, u = .slice ao0 n0 cap0 ∧ K' = [K0] ∧ H = H' ∧ RowOf (New H H) RU8 0 5 1 (.slice ao0 n0 cap0) r K0 ∧ (∀ p ∈ K0, p.1 ∉ ids (List.flatten [])) ∧ True) := by
 refine Does.enterL (vs := [.slice aa_2 na_2 ca_2]) (l := [(0, .slice aa_2 na_2 ca_2)]) Try.func92 rfl rfl ⟨rfl, trivial⟩ (fun w hlt => ?_)
 unfold mac_inner at hx
 refine ZF (ZB (ZA rfl rfl (ZE rfl) (ZD (ZC (ZF (ZB (ZA rfl rfl (ZG rfl) ?_)))))))
 obtain ⟨x_3, hr_4, hx⟩ := ZJ hx
 refine ZS (vs := [_]) (args := [_]) (K := []) (rst := []) E73 rfl rfl rfl ZI (slices_Concat_byte_ok p_1 _ ha_2 _ hr_4) rfl (fun u_5 Ku_5 Hu_5 hRu_5 hleu_5 hfu_5 => ?_)
 obtain ⟨ar_6, nr_6, cr_6, Kr_6, rfl, rfl, rfl, hr_6, hnewr_6, -⟩ := hRu_5
 replace hr_6 := (RowOf.base (Zf (H2 := New H H) RU8.const hr_6) (fun p hp => (hfu_5 p (Zh 0 rfl hp)).resolve_left (hnewr_6 p hp)))
 obtain ⟨x_10, hr_11, hx⟩ := ZJ hx
 refine JL.callL3 (vs := [_]) E109 rfl rfl (fun H_9 hle_8 hl_7 => mix_Key_ok x_3 _ (Lent.row' 0 hl_7 RU8.mono hle_8 rfl (hr_6.old RU8.mono)) _ hr_11) rfl (fun _ _ _ _ hR_13 hf_14 => ?_)
 obtain ⟨ar_12, nr_12, cr_12, Kr_12, rfl, rfl, hr_12, -, -⟩ := hR_13
 replace hr_12 := RowOf.base (Zf (H2 := New H H) RU8.const hr_12) (fun p hp => hf_14 p (Zh 0 rfl hp))
 refine ZA rfl rfl (ZE rfl) (ZD (ZC (ZT (ZR (vs := [.slice ar_12 nr_12 cr_12]) (K := [_]) (rst := [_]) (.inl rfl) rfl rfl (ZN rfl rfl) (ZK 0 rfl ZI) ?_))))
 obtain rfl := Option.some.inj hx
 exact ⟨ar_12, nr_12, cr_12, Kr_12, rfl, rfl, rfl, (Zg (Nat.zero_le _) hr_12), (Zx hr_12 hlt), trivial⟩

set_option maxHeartbeats 8000000 in
theorem mac_Tag_ok (p_1 : List UInt8) (p_3 : List UInt8) (H : Heaplet) {aa_2 : Option Addr} {na_2 : Nat} {ca_2 : Nat} {aa_4 : Option Addr} {na_4 : Nat} {ca_4 : Nat} (ha_2 : IsSlice H RU8 1 (.slice aa_2 na_2 ca_2) p_1) (ha_4 : IsSlice H RU8 1 (.slice aa_4 na_4 ca_4) p_3) (r : UInt32 × Int) (hx : mac_Tag p_1 p_3 = some r) :
  Does Try.prog 72 #[.slice aa_2 na_2 ca_2, .slice aa_4 na_4 ca_4] [] H (fun u K' H' => u = .tuple #[.int .u32 (r.1.toNat : Int), .int .i64 r.2] ∧ K' = [] ∧ True) := by
 refine Does.enterL (vs := [.slice aa_2 na_2 ca_2, .slice aa_4 na_4 ca_4]) (l := [(0, .slice aa_2 na_2 ca_2), (1, .slice aa_4 na_4 ca_4)]) Try.func72 rfl rfl ⟨rfl, rfl, trivial⟩ (fun w hlt => ?_)
 unfold mac_Tag at hx
 refine ZF (ZB (ZA rfl rfl (ZE rfl) (ZA rfl rfl (ZE rfl) (ZD (ZC (ZF (ZF (ZB (ZA rfl rfl (ZG rfl) (ZA rfl rfl (Zk U23 rfl (IsSlice.long ha_2)) (ZA rfl rfl (YA rfl rfl) ?_)))))))))))
 refine ZD (ZC (ZW rfl (fun c_5 => ?_) (fun c_5 => ?_)))
 ·
  replace hx := ZX c_5 hx
  refine ZF (ZB (ZA rfl rfl (ZE rfl) (ZA rfl rfl (ZE rfl) (ZD (ZC (ZT (ZV (ZR (vs := [.int .u32 ((0 : UInt32).toNat : Int), .int .i64 2]) (K := []) (rst := []) (.inl rfl) rfl rfl (ZN rfl (ZN rfl rfl)) ZI ?_))))))))
  obtain rfl := Option.some.inj hx
  exact ⟨rfl, rfl, trivial⟩
 ·
  replace hx := ZY c_5 hx
  refine JC.skip (ZC (ZF (ZB (ZA rfl rfl (ZG rfl) (JL.bslF (HF := (New H H)) (R := RU8) (ls := [(2 : UInt8)]) (vs := [.int .u8 ((2 : UInt8).toNat : Int)]) U23 I5 rfl rfl (⟨_, _, rfl, rfl, rfl, rfl⟩) RU8.one rfl rfl rfl (by simp [maxLen]) rfl (fun vr_6 Kr_6 hr_6 => ?_))))))
  obtain ⟨ar_6, cr_6, rfl⟩ := RowOf.val hr_6
  refine ZA rfl rfl (ZG rfl) (JL.bslF (HF := (New H H)) (R := RU8) (ls := [(1 : UInt8)]) (vs := [.int .u8 ((1 : UInt8).toNat : Int)]) U23 I5 rfl rfl (⟨_, _, rfl, rfl, rfl, rfl⟩) RU8.one rfl rfl rfl (by simp [maxLen]) rfl (fun vr_7 Kr_7 hr_7 => ?_))
  obtain ⟨ar_7, cr_7, rfl⟩ := RowOf.val hr_7
  refine ZA rfl rfl (ZG rfl) (JL.pubN 0 RU8.mono rfl hr_7 (Nat.le_refl _) (fun H_8 hleH_8 hsH_8 => JL.forget 0 (JL.bslF (HF := H_8) (R := (RSl RU8 1)) (ls := [p_1, [(1 : UInt8)], p_3]) (vs := [.slice aa_2 na_2 ca_2, .slice ar_7 (([(1 : UInt8)]).length) cr_7, .slice aa_4 na_4 ca_4]) U41 I23 rfl rfl (⟨_, _, rfl, rfl, ⟨_, rfl, (ha_2.mono RU8.mono hleH_8)⟩, ⟨_, _, rfl, rfl, ⟨_, rfl, (hsH_8.old RU8.mono)⟩, ⟨_, _, rfl, rfl, ⟨_, rfl, (ha_4.mono RU8.mono hleH_8)⟩, rfl⟩⟩⟩) RSl.one rfl rfl rfl (by simp [maxLen]) rfl (fun vr_9 Kr_9 hr_9 => ?_))))
  obtain ⟨ar_9, cr_9, rfl⟩ := RowOf.val hr_9
  obtain ⟨x_13, hr_14, hx⟩ := ZJ hx
  refine JL.callL3 (vs := [_]) E92 rfl rfl (fun H_12 hle_11 hl_10 => mac_inner_ok ([p_1, [(1 : UInt8)], p_3]) _ (Lent.row' 0 hl_10 (RSl.mono RU8.mono) hle_11 rfl hr_9) _ hr_14) rfl (fun _ _ _ _ hR_16 hf_17 => ?_)
  obtain ⟨ar_15, nr_15, cr_15, Kr_15, rfl, rfl, rfl, hr_15, -, -⟩ := hR_16
  replace hr_15 := RowOf.base (Zf (H2 := New H H_8) RU8.const hr_15) (fun p hp => hf_17 p (Zh 0 rfl hp))
  refine JL.pubN 2 RU8.mono rfl (hr_6.mono RU8.mono (New.mono hleH_8)) (Nat.le_refl _) (fun H_18 hleH_18 hsH_18 => JL.forget 2 (JL.pubN 0 RU8.mono rfl (hr_15.mono RU8.mono (New.mono hleH_18)) (Nat.le_refl _) (fun H_19 hleH_19 hsH_19 => JL.forget 0 (JL.bslF (HF := H_19) (R := (RSl RU8 1)) (ls := [p_1, [(2 : UInt8)], x_13]) (vs := [.slice aa_2 na_2 ca_2, .slice ar_6 (([(2 : UInt8)]).length) cr_6, .slice ar_15 nr_15 cr_15]) U41 I23 rfl rfl (⟨_, _, rfl, rfl, ⟨_, rfl, (ha_2.mono RU8.mono (hleH_8.trans (hleH_18.trans hleH_19)))⟩, ⟨_, _, rfl, rfl, ⟨_, rfl, ((hsH_18.mono RU8.mono (New.mono hleH_19)).old RU8.mono)⟩, ⟨_, _, rfl, rfl, ⟨_, rfl, (hsH_19.old RU8.mono)⟩, rfl⟩⟩⟩) RSl.one rfl rfl rfl (by simp [maxLen]) rfl (fun vr_20 Kr_20 hr_20 => ?_)))))
  obtain ⟨ar_20, cr_20, rfl⟩ := RowOf.val hr_20
  obtain ⟨x_24, hr_25, hx⟩ := ZJ hx
  refine JL.callL3 (vs := [_]) E73 rfl rfl (fun H_23 hle_22 hl_21 => slices_Concat_byte_ok ([p_1, [(2 : UInt8)], x_13]) _ (Lent.row' 0 hl_21 (RSl.mono RU8.mono) hle_22 rfl hr_20) _ hr_25) rfl (fun _ _ _ _ hR_27 hf_28 => ?_)
  obtain ⟨ar_26, nr_26, cr_26, Kr_26, rfl, rfl, rfl, hr_26, -, -⟩ := hR_27
  replace hr_26 := RowOf.base (Zf (H2 := New H H_19) RU8.const hr_26) (fun p hp => hf_28 p (Zh 0 rfl hp))
  obtain ⟨x_32, hr_33, hx⟩ := ZJ hx
  refine JL.callL2 (vs := [_]) (v := .int .u32 (x_32.toNat : Int)) E56 rfl rfl (fun H_31 hle_30 hl_29 => Does.mono (mix_Sum_ok x_24 _ (Lent.row' 0 hl_29 RU8.mono hle_30 rfl (hr_26.old RU8.mono)) _ hr_33) (fun _ _ _ h => h.1)) rfl (ZA rfl rfl (ZE rfl) (ZA rfl rfl (ZE rfl) (ZD (ZC (ZT (ZR (vs := [.int .u32 (x_32.toNat : Int), .int .i64 0]) (K := []) (rst := [_, _, _]) (.inl rfl) rfl rfl (ZN rfl (ZN rfl rfl)) ZI ?_))))))
  obtain rfl := Option.some.inj hx
  exact ⟨rfl, rfl, trivial⟩

set_option maxHeartbeats 8000000 in
theorem seal_tagged_ok (p_1 : List UInt8) (p_3 : UInt32) (p_4 : List UInt8) (H : Heaplet) {aa_2 : Option Addr} {na_2 : Nat} {ca_2 : Nat} {aa_5 : Option Addr} {na_5 : Nat} {ca_5 : Nat} (ha_2 : IsSlice H RU8 1 (.slice aa_2 na_2 ca_2) p_1) (ha_5 : IsSlice H RU8 1 (.slice aa_5 na_5 ca_5) p_4) (r : UInt32 × Int) (hx : seal_tagged p_1 p_3 p_4 = some r) :
  Does Try.prog 53 #[.slice aa_2 na_2 ca_2, .int .u32 (p_3.toNat : Int), .slice aa_5 na_5 ca_5] [] H (fun u K' H' => u = .tuple #[.int .u32 (r.1.toNat : Int), .int .i64 r.2] ∧ K' = [] ∧ True) := by
 refine Does.enterL (vs := [.slice aa_2 na_2 ca_2, .int .u32 (p_3.toNat : Int), .slice aa_5 na_5 ca_5]) (l := [(0, .slice aa_2 na_2 ca_2), (1, .int .u32 (p_3.toNat : Int)), (2, .slice aa_5 na_5 ca_5)]) Try.func53 rfl rfl ⟨rfl, rfl, rfl, trivial⟩ (fun w hlt => ?_)
 unfold seal_tagged at hx
 refine ZF (ZB (ZA rfl rfl (ZE rfl) (ZA rfl rfl (ZE rfl) (ZD (ZC (ZF (ZB (ZA rfl rfl (ZG rfl) (ZA rfl rfl (R.cv_u32_i64 (a := p_3) U22 U3 rfl) ?_)))))))))
 obtain ⟨x_6, hr_7, hx⟩ := ZJ hx
 refine ZS (vs := [_, _]) (args := [_, _]) (K := []) (rst := []) E66 rfl rfl rfl ZI (code_Put_ok (p_3.toNat : Int) 4 _ _ hr_7) rfl (fun u_8 Ku_8 Hu_8 hRu_8 hleu_8 hfu_8 => ?_)
 obtain ⟨ar_9, nr_9, cr_9, Kr_9, rfl, rfl, rfl, hr_9, hnewr_9, -⟩ := hRu_8
 replace hr_9 := (RowOf.base (Zf (H2 := New H H) RU8.const hr_9) (fun p hp => (hfu_8 p (Zh 0 rfl hp)).resolve_left (hnewr_9 p hp)))
 refine ZA rfl rfl (ZG rfl) (ZA rfl rfl (R.extract rfl rfl) (ZA rfl rfl (R.extract rfl rfl) (ZA rfl rfl (ZE rfl) (ZA rfl rfl (ZE rfl) (ZD (ZC (ZF (ZF (ZB (ZA rfl rfl (ZG rfl) (ZA rfl rfl (YA rfl rfl) ?_)))))))))))
 refine ZD (ZC (ZW rfl (fun c_10 => ?_) (fun c_10 => ?_)))
 ·
  replace hx := ZX c_10 hx
  refine ZF (ZB (ZA rfl rfl (ZG rfl) (ZA rfl rfl (ZE rfl) (ZA rfl rfl (ZE rfl) (ZD (ZC (ZT (ZV (ZR (vs := [.int .u32 ((0 : UInt32).toNat : Int), .int .i64 x_6.2]) (K := []) (rst := [_]) (.inl rfl) rfl rfl (ZN rfl (ZN rfl rfl)) ZI ?_)))))))))
  obtain rfl := Option.some.inj hx
  exact ⟨rfl, rfl, trivial⟩
 ·
  replace hx := ZY c_10 hx
  refine JC.skip (ZC (ZF (ZB (ZA rfl rfl (ZG rfl) (ZA rfl rfl (ZG rfl) (ZA rfl rfl (ZG rfl) (JL.pubN 0 RU8.mono rfl hr_9 (Nat.le_refl _) (fun H_11 hleH_11 hsH_11 => JL.forget 0 (JL.bslF (HF := H_11) (R := (RSl RU8 1)) (ls := [x_6.1, p_4]) (vs := [.slice ar_9 nr_9 cr_9, .slice aa_5 na_5 ca_5]) U41 I23 rfl rfl (⟨_, _, rfl, rfl, ⟨_, rfl, (hsH_11.old RU8.mono)⟩, ⟨_, _, rfl, rfl, ⟨_, rfl, (ha_5.mono RU8.mono hleH_11)⟩, rfl⟩⟩) RSl.one rfl rfl rfl (by simp [maxLen]) rfl (fun vr_12 Kr_12 hr_12 => ?_))))))))))
  obtain ⟨ar_12, cr_12, rfl⟩ := RowOf.val hr_12
  obtain ⟨x_16, hr_17, hx⟩ := ZJ hx
  refine JL.callL3 (vs := [_]) E73 rfl rfl (fun H_15 hle_14 hl_13 => slices_Concat_byte_ok ([x_6.1, p_4]) _ (Lent.row' 0 hl_13 (RSl.mono RU8.mono) hle_14 rfl hr_12) _ hr_17) rfl (fun _ _ _ _ hR_19 hf_20 => ?_)
  obtain ⟨ar_18, nr_18, cr_18, Kr_18, rfl, rfl, rfl, hr_18, -, -⟩ := hR_19
  replace hr_18 := RowOf.base (Zf (H2 := New H H_11) RU8.const hr_18) (fun p hp => hf_20 p (Zh 0 rfl hp))
  obtain ⟨x_24, hr_25, hx⟩ := ZJ hx
  refine JL.callL2 (vs := [_, _]) (v := .tuple #[.int .u32 (x_24.1.toNat : Int), .int .i64 x_24.2]) E72 rfl rfl (fun H_23 hle_22 hl_21 => Does.mono (mac_Tag_ok p_1 x_16 _ (IsSlice.mono RU8.mono hle_22 (ha_2.mono RU8.mono hleH_11)) (Lent.row' 0 hl_21 RU8.mono hle_22 rfl (hr_18.old RU8.mono)) _ hr_25) (fun _ _ _ h => h.1)) rfl (ZA rfl rfl (R.extract rfl rfl) (ZA rfl rfl (R.extract rfl rfl) (ZA rfl rfl (ZE rfl) (ZA rfl rfl (ZE rfl) (ZD (ZC (ZT (ZR (vs := [.int .u32 (x_24.1.toNat : Int), .int .i64 x_24.2]) (K := []) (rst := [_, _]) (.inl rfl) rfl rfl (ZN rfl (ZN rfl rfl)) ZI ?_))))))))
  obtain rfl := Option.some.inj hx
  exact ⟨rfl, rfl, trivial⟩

set_option maxHeartbeats 8000000 in
theorem seal_Seal_ok (p_1 : List UInt8) (p_3 : UInt32) (p_4 : List UInt8) (H : Heaplet) {aa_2 : Option Addr} {na_2 : Nat} {ca_2 : Nat} {aa_5 : Option Addr} {na_5 : Nat} {ca_5 : Nat} (ha_2 : IsSlice H RU8 1 (.slice aa_2 na_2 ca_2) p_1) (ha_5 : IsSlice H RU8 1 (.slice aa_5 na_5 ca_5) p_4) (r : List UInt8 × UInt32 × Int) (hx : seal_Seal p_1 p_3 p_4 = some r) :
  Does Try.prog 33 #[.slice aa_2 na_2 ca_2, .int .u32 (p_3.toNat : Int), .slice aa_5 na_5 ca_5] [] H (fun u K' H' => ∃ ao0 : Option Addr, ∃ n0 : Nat, ∃ cap0 : Nat, ∃ K0 : Own, u = .tuple #[.slice ao0 n0 cap0, .int .u32 (r.2.1.toNat : Int), .int .i64 r.2.2] ∧ K' = [K0] ∧ RowOf (New H H') RU8 0 5 1 (.slice ao0 n0 cap0) r.1 K0 ∧ (∀ p ∈ K0, p.1 ∉ ids (List.flatten [])) ∧ True) := by
 refine Does.enterL (vs := [.slice aa_2 na_2 ca_2, .int .u32 (p_3.toNat : Int), .slice aa_5 na_5 ca_5]) (l := [(0, .slice aa_2 na_2 ca_2), (1, .int .u32 (p_3.toNat : Int)), (2, .slice aa_5 na_5 ca_5)]) Try.func33 rfl rfl ⟨rfl, rfl, rfl, trivial⟩ (fun w hlt => ?_)
 unfold seal_Seal at hx
 refine ZF (ZB (ZA rfl rfl (ZE rfl) (ZA rfl rfl (ZE rfl) (ZA rfl rfl (ZE rfl) (ZD (ZC (ZF (ZB (ZA rfl rfl (ZG rfl) (ZA rfl rfl (ZG rfl) (ZA rfl rfl (ZG rfl) ?_)))))))))))
 obtain ⟨x_6, hr_7, hx⟩ := ZJ hx
 refine ZS (vs := [_, _, _]) (args := [_, _, _]) (K := []) (rst := []) E52 rfl rfl rfl ZI (seal_turned_ok p_1 p_3 p_4 _ ha_2 ha_5 _ hr_7) rfl (fun u_8 Ku_8 Hu_8 hRu_8 hleu_8 hfu_8 => ?_)
 obtain ⟨ar_9, nr_9, cr_9, Kr_9, rfl, rfl, hr_9, hnewr_9, -⟩ := hRu_8
 replace hr_9 := (RowOf.base (Zf (H2 := New H Hu_8) RU8.const hr_9) (fun p hp => (hfu_8 p (Zh 0 rfl hp)).resolve_left (hnewr_9 p hp)))
 refine ZA rfl rfl (ZG rfl) (ZA rfl rfl (R.extract rfl rfl) (ZA rfl rfl (R.extract rfl rfl) (ZA rfl rfl (ZE rfl) (ZA rfl rfl (ZE rfl) (ZD (ZC (ZF (ZF (ZB (ZA rfl rfl (ZG rfl) (ZA rfl rfl (YA rfl rfl) ?_)))))))))))
 refine ZD (ZC (ZW rfl (fun c_10 => ?_) (fun c_10 => ?_)))
 ·
  replace hx := ZX c_10 hx
  refine ZF (ZB (ZA rfl rfl (ZG rfl) (ZA rfl rfl (ZE rfl) (ZA rfl rfl (ZE rfl) (ZA rfl rfl (ZE rfl) (ZD (ZC (ZT (ZV (Zl (ZR (vs := [.slice none 0 0, .int .u32 ((0 : UInt32).toNat : Int), .int .i64 x_6.2]) (K := [_]) (rst := [_]) (.inl rfl) rfl rfl (ZN rfl (ZN rfl (ZN rfl rfl))) (ZK 0 rfl ZI) ?_)))))))))))
  obtain rfl := Option.some.inj hx
  exact ⟨none, 0, 0, [], rfl, rfl, (ZU _ _ _ _ _), (fun p hp => by cases hp), trivial⟩
 ·
  replace hx := ZY c_10 hx
  refine JC.skip (ZC (ZF (ZB (ZA rfl rfl (ZG rfl) (ZA rfl rfl (ZG rfl) (ZA rfl rfl (ZG rfl) ?_))))))
  obtain ⟨x_14, hr_15, hx⟩ := ZJ hx
  refine JL.callL2 (vs := [_, _, _]) (v := .tuple #[.int .u32 (x_14.1.toNat : Int), .int .i64 x_14.2]) E53 rfl rfl (fun H_13 hle_12 hl_11 => Does.mono (seal_tagged_ok p_1 p_3 x_6.1 _ (IsSlice.mono RU8.mono hle_12 (ha_2.mono RU8.mono hleu_8)) (Lent.row' 0 hl_11 RU8.mono hle_12 rfl (hr_9.old RU8.mono)) _ hr_15) (fun _ _ _ h => h.1)) rfl (ZA rfl rfl (ZG rfl) (ZA rfl rfl (R.extract rfl rfl) (ZA rfl rfl (R.extract rfl rfl) (ZA rfl rfl (ZE rfl) (ZA rfl rfl (ZE rfl) (ZD (ZC (ZT (ZR (vs := [.slice ar_9 nr_9 cr_9, .int .u32 (x_14.1.toNat : Int), .int .i64 x_14.2]) (K := [_]) (rst := []) (.inl rfl) rfl rfl (ZN rfl (ZN rfl (ZN rfl rfl))) (ZK 0 rfl ZI) ?_)))))))))
  obtain rfl := Option.some.inj hx
  exact ⟨ar_9, nr_9, cr_9, Kr_9, rfl, rfl, (Zg (Nat.zero_le _) hr_9), (Zx hr_9 hlt), trivial⟩

set_option maxHeartbeats 8000000 in
theorem store_Seal_ok (p_1 : Store) (p_5 : UInt32) (p_6 : List UInt8) (p_8 : List UInt8) (H : Heaplet) {aa_2 : Option Addr} {na_2 : Nat} {ca_2 : Nat} {aa_3 : Option Addr} {na_3 : Nat} {ca_3 : Nat} {aa_4 : Option Addr} {na_4 : Nat} {ca_4 : Nat} {aa_7 : Option Addr} {na_7 : Nat} {ca_7 : Nat} {aa_9 : Option Addr} {na_9 : Nat} {ca_9 : Nat} (ha_2 : IsSlice H (RSl RU8 1) 1 (.slice aa_2 na_2 ca_2) p_1.Disk.Blocks) (ha_3 : IsSlice H R_Write 2 (.slice aa_3 na_3 ca_3) p_1.Disk.Waits) (ha_4 : IsSlice H RU8 1 (.slice aa_4 na_4 ca_4) p_1.Space) (ha_7 : IsSlice H RU8 1 (.slice aa_7 na_7 ca_7) p_6) (ha_9 : IsSlice H RU8 1 (.slice aa_9 na_9 ca_9) p_8) (r : Store × Ptr × Int) (hx : store_Seal p_1 p_5 p_6 p_8 = some r) :
  Does Try.prog 15 #[.agg #[.slice aa_2 na_2 ca_2, .slice aa_3 na_3 ca_3, .slice aa_4 na_4 ca_4, .int .u32 (p_1.Epoch.toNat : Int), .int .u32 (p_1.Count.toNat : Int)], .int .u32 (p_5.toNat : Int), .slice aa_7 na_7 ca_7, .slice aa_9 na_9 ca_9] [] H (fun u K' H' => ∃ ao0 : Option Addr, ∃ n0 : Nat, ∃ cap0 : Nat, ∃ ao1 : Option Addr, ∃ n1 : Nat, ∃ cap1 : Nat, ∃ K1 : Own, ∃ ao2 : Option Addr, ∃ n2 : Nat, ∃ cap2 : Nat, ∃ K2 : Own, u = .tuple #[.agg #[.slice ao0 n0 cap0, .slice ao1 n1 cap1, .slice ao2 n2 cap2, .int .u32 (r.1.Epoch.toNat : Int), .int .u32 (r.1.Count.toNat : Int)], .agg #[.int .i64 r.2.1.At, .int .u32 (r.2.1.Birth.toNat : Int), .int .u32 (r.2.1.Iv.toNat : Int), .int .u32 (r.2.1.Tag.toNat : Int), .int .u32 (r.2.1.Sum.toNat : Int)], .int .i64 r.2.2] ∧ K' = [K1, K2] ∧ IsSlice (New H H') (RSl RU8 1) 1 (.slice ao0 n0 cap0) r.1.Disk.Blocks ∧ RowOf (New H H') R_Write 0 80 2 (.slice ao1 n1 cap1) r.1.Disk.Waits K1 ∧ (∀ p ∈ K1, p.1 ∉ ids (List.flatten [])) ∧ RowOf (New H H') RU8 0 5 1 (.slice ao2 n2 cap2) r.1.Space K2 ∧ (∀ p ∈ K2, p.1 ∉ ids (List.flatten [])) ∧ True) := by
 refine Does.enterL (vs := [.agg #[.slice aa_2 na_2 ca_2, .slice aa_3 na_3 ca_3, .slice aa_4 na_4 ca_4, .int .u32 (p_1.Epoch.toNat : Int), .int .u32 (p_1.Count.toNat : Int)], .int .u32 (p_5.toNat : Int), .slice aa_7 na_7 ca_7, .slice aa_9 na_9 ca_9]) (l := [(0, .agg #[.slice aa_2 na_2 ca_2, .slice aa_3 na_3 ca_3, .slice aa_4 na_4 ca_4, .int .u32 (p_1.Epoch.toNat : Int), .int .u32 (p_1.Count.toNat : Int)]), (1, .int .u32 (p_5.toNat : Int)), (2, .slice aa_7 na_7 ca_7), (3, .slice aa_9 na_9 ca_9)]) Try.func15 rfl rfl ⟨rfl, rfl, rfl, rfl, trivial⟩ (fun w hlt => ?_)
 unfold store_Seal at hx
 refine ZF (ZB (YF rfl rfl (fun b_10 hb_10 => JL.alloc Z46 rfl (fun b_11 hb_11 => JL.alloc Z50 rfl (fun b_12 hb_12 => ZA rfl rfl (ZE rfl) (ZD (ZC (ZF (ZF (ZB (ZA rfl rfl (Zu 2 (vs := [.slice aa_2 na_2 ca_2, .slice aa_3 na_3 ca_3, .slice aa_4 na_4 ca_4, .int .u32 (p_1.Epoch.toNat : Int), .int .u32 (p_1.Count.toNat : Int)]) S46 rfl rfl rfl rfl) ?_)))))))))))
 refine ZA rfl rfl (ZG rfl) (ZA rfl rfl (ZG rfl) (ZA rfl rfl (ZG rfl) (JL.bslF (HF := H) (R := (RSl RU8 1)) (ls := [p_6, p_8]) (vs := [.slice aa_7 na_7 ca_7, .slice aa_9 na_9 ca_9]) U41 I23 rfl rfl (⟨_, _, rfl, rfl, ⟨_, rfl, ha_7⟩, ⟨_, _, rfl, rfl, ⟨_, rfl, ha_9⟩, rfl⟩⟩) RSl.one rfl rfl rfl (by simp [maxLen]) rfl (fun vr_13 Kr_13 hr_13 => ?_))))
 obtain ⟨ar_13, cr_13, rfl⟩ := RowOf.val hr_13
 obtain ⟨x_17, hr_18, hx⟩ := ZJ hx
 refine JL.callL2 (vs := [_, _, _, _]) (v := .int .i64 x_17) E32 rfl rfl (fun H_16 hle_15 hl_14 => Does.mono (store_asked_ok p_1 p_5 16 ([p_6, p_8]) _ (IsSlice.mono (RSl.mono RU8.mono) hle_15 ha_2) (IsSlice.mono R_Write.mono hle_15 ha_3) (IsSlice.mono RU8.mono hle_15 ha_4) (Lent.row' 0 hl_14 (RSl.mono RU8.mono) hle_15 rfl hr_13) _ hr_18) (fun _ _ _ h => h.1)) rfl (ZA rfl rfl (ZE rfl) (ZD (ZC (ZF (ZB (ZA rfl rfl (ZG rfl) (ZA rfl rfl (YA rfl rfl) (ZD (ZC (ZW rfl (fun c_19 => ?_) (fun c_19 => ?_)))))))))))
 ·
  replace hx := ZX c_19 hx
  refine ZT (ZV (Zl (Zl (ZR (vs := [.agg #[.slice none 0 0, .slice none 0 0, .slice none 0 0, .int .u32 ((0 : UInt32).toNat : Int), .int .u32 ((0 : UInt32).toNat : Int)], .agg #[.int .i64 0, .int .u32 ((0 : UInt32).toNat : Int), .int .u32 ((0 : UInt32).toNat : Int), .int .u32 ((0 : UInt32).toNat : Int), .int .u32 ((0 : UInt32).toNat : Int)], .int .i64 x_17]) (K := [_, _]) (rst := [_, _, _, _]) (.inl rfl) rfl rfl (Zb 4 rfl rfl S46 (Zb 3 rfl rfl S50 (ZN rfl rfl))) (ZK 0 rfl (ZK 0 rfl ZI)) ?_))))
  obtain rfl := Option.some.inj hx
  exact ⟨none, 0, 0, none, 0, 0, [], none, 0, 0, [], rfl, rfl, (IsSlice.nil _ _ _), (ZU _ _ _ _ _), (fun p hp => by cases hp), (ZU _ _ _ _ _), (fun p hp => by cases hp), trivial⟩
 ·
  replace hx := ZY c_19 hx
  refine JC.skip (ZC (ZF (ZF (ZB (ZA rfl rfl (Zt F46_3 rfl) (ZA rfl rfl (Ze 3 S22 rfl rfl rfl) (ZA rfl rfl (R.eql32 (a := p_1.Count) (b := (65535 : UInt32)) rfl rfl) (ZD (ZC (ZW rfl (fun c_20 => ?_) (fun c_20 => ?_)))))))))))
  ·
   replace hx := ZX c_20 hx
   refine ZF (ZB (ZA rfl rfl (ZE rfl) (ZD (ZC (ZT (ZV (Zl (Zl (ZR (vs := [.agg #[.slice none 0 0, .slice none 0 0, .slice none 0 0, .int .u32 ((0 : UInt32).toNat : Int), .int .u32 ((0 : UInt32).toNat : Int)], .agg #[.int .i64 0, .int .u32 ((0 : UInt32).toNat : Int), .int .u32 ((0 : UInt32).toNat : Int), .int .u32 ((0 : UInt32).toNat : Int), .int .u32 ((0 : UInt32).toNat : Int)], .int .i64 132]) (K := [_, _]) (rst := [_, _, _, _]) (.inl rfl) rfl rfl (Zb 4 rfl rfl S46 (Zb 3 rfl rfl S50 (ZN rfl rfl))) (ZK 0 rfl (ZK 0 rfl ZI)) ?_)))))))))
   obtain rfl := Option.some.inj hx
   exact ⟨none, 0, 0, none, 0, 0, [], none, 0, 0, [], rfl, rfl, (IsSlice.nil _ _ _), (ZU _ _ _ _ _), (fun p hp => by cases hp), (ZU _ _ _ _ _), (fun p hp => by cases hp), trivial⟩
  ·
   replace hx := ZY c_20 hx
   refine JC.skip (ZC (ZF (ZB (ZA rfl rfl (Zt F46_3 rfl) (ZA rfl rfl (Ze 3 S22 rfl rfl rfl) (ZA rfl rfl (R.add32 (a := p_1.Count) (b := (1 : UInt32)) rfl rfl) (ZA rfl rfl (Zt F46_3 rfl) (ZQ 3 S22 rfl rfl rfl rfl rfl (Nat.le_of_ble_eq_true rfl) (ZD (ZC (ZF ?_)))))))))))
   refine ZB (ZA rfl rfl (Zt F46_2 rfl) (ZA rfl rfl (Ze 3 S22 rfl rfl rfl) (ZA rfl rfl (R.shl32 (n := ((16 : UInt64).toNat : Int)) (a := p_1.Epoch) rfl rfl (by decide)) (ZA rfl rfl (Zt F46_3 rfl) (ZA rfl rfl (Ze 3 S22 rfl rfl rfl) (ZA rfl rfl (R.or32 (a := sl32 p_1.Epoch (((16 : UInt64).toNat : Int)).toNat) (b := p_1.Count + (1 : UInt32)) rfl rfl) (ZA rfl rfl (ZE rfl) (ZD (ZC (ZF (ZB ?_)))))))))))
   refine ZA rfl rfl (ZG rfl) (ZA rfl rfl (ZG rfl) (ZA rfl rfl (ZG rfl) ?_))
   obtain ⟨x_21, hr_22, hx⟩ := ZJ hx
   refine ZS (vs := [_, _, _]) (args := [_, _, _]) (K := []) (rst := [_, _, _, _]) E33 rfl rfl rfl ZI (seal_Seal_ok p_6 ((sl32 p_1.Epoch (((16 : UInt64).toNat : Int)).toNat) ||| (p_1.Count + (1 : UInt32))) p_8 _ ha_7 ha_9 _ hr_22) rfl (fun u_23 Ku_23 Hu_23 hRu_23 hleu_23 hfu_23 => ?_)
   obtain ⟨ar_24, nr_24, cr_24, Kr_24, rfl, rfl, hr_24, hnewr_24, -⟩ := hRu_23
   replace hr_24 := (RowOf.base (Zf (H2 := New H Hu_23) RU8.const hr_24) (fun p hp => (hfu_23 p (Zh 0 rfl hp)).resolve_left (hnewr_24 p hp)))
   refine ZA rfl rfl (ZG rfl) (ZA rfl rfl (R.extract rfl rfl) (ZA rfl rfl (R.extract rfl rfl) (ZA rfl rfl (R.extract rfl rfl) (ZA rfl rfl (ZE rfl) (ZA rfl rfl (ZE rfl) (ZA rfl rfl (ZE rfl) (ZD (ZC (ZF (ZF (ZB ?_)))))))))))
   refine ZA rfl rfl (ZG rfl) (ZA rfl rfl (YA rfl rfl) (ZD (ZC (JC.tidy (l' := [(1, .int .u32 (p_5.toNat : Int)), (4, .pointer (some ⟨b_10, 0, none⟩)), (8, .pointer (some ⟨b_11, 0, none⟩)), (9, .pointer (some ⟨b_12, 0, none⟩)), (10, .int .i64 x_21.2.2), (11, .int .u32 (((sl32 p_1.Epoch (((16 : UInt64).toNat : Int)).toNat) ||| (p_1.Count + (1 : UInt32))).toNat : Int)), (12, .slice ar_24 nr_24 cr_24), (13, .int .u32 (x_21.2.1.toNat : Int)), (44, .bool (!decide (x_21.2.2 = 0)))]) (own' := [Kr_24, Kr_13, [(b_12, .cells #[.int .i64 0, .int .u32 ((0 : UInt32).toNat : Int), .int .u32 ((0 : UInt32).toNat : Int), .int .u32 ((0 : UInt32).toNat : Int), .int .u32 ((0 : UInt32).toNat : Int)] 50 (0, 0))], [(b_11, .cells #[.slice none 0 0, .slice none 0 0, .slice none 0 0, .int .u32 ((0 : UInt32).toNat : Int), .int .u32 ((0 : UInt32).toNat : Int)] 46 (0, 0))], [(b_10, .cells #[.slice aa_2 na_2 ca_2, .slice aa_3 na_3 ca_3, .slice aa_4 na_4 ca_4, .int .u32 (p_1.Epoch.toNat : Int), .int .u32 ((p_1.Count + (1 : UInt32)).toNat : Int)] 46 (0, 0))]]) ⟨rfl, rfl, rfl, rfl, rfl, rfl, rfl, rfl, rfl, trivial⟩ rfl (YD (l' := [(1, .int .u32 (p_5.toNat : Int)), (4, .pointer (some ⟨b_10, 0, none⟩)), (8, .pointer (some ⟨b_11, 0, none⟩)), (9, .pointer (some ⟨b_12, 0, none⟩)), (10, .int .i64 x_21.2.2), (11, .int .u32 (((sl32 p_1.Epoch (((16 : UInt64).toNat : Int)).toNat) ||| (p_1.Count + (1 : UInt32))).toNat : Int)), (12, .slice ar_24 nr_24 cr_24), (13, .int .u32 (x_21.2.1.toNat : Int)), (44, .bool (!decide (x_21.2.2 = 0)))]) (own' := [Kr_24, [(b_12, .cells #[.int .i64 0, .int .u32 ((0 : UInt32).toNat : Int), .int .u32 ((0 : UInt32).toNat : Int), .int .u32 ((0 : UInt32).toNat : Int), .int .u32 ((0 : UInt32).toNat : Int)] 50 (0, 0))], [(b_11, .cells #[.slice none 0 0, .slice none 0 0, .slice none 0 0, .int .u32 ((0 : UInt32).toNat : Int), .int .u32 ((0 : UInt32).toNat : Int)] 46 (0, 0))], [(b_10, .cells #[.slice aa_2 na_2 ca_2, .slice aa_3 na_3 ca_3, .slice aa_4 na_4 ca_4, .int .u32 (p_1.Epoch.toNat : Int), .int .u32 ((p_1.Count + (1 : UInt32)).toNat : Int)] 46 (0, 0))]]) (rst := [_]) ⟨rfl, rfl, rfl, rfl, rfl, rfl, rfl, rfl, rfl, trivial⟩ (ZK 0 rfl (ZK 1 rfl (ZK 1 rfl (ZK 1 rfl ZI)))) (ZW rfl (fun c_25 => ?_) (fun c_25 => ?_)))))))
   ·
    replace hx := ZX c_25 hx
    refine ZF (ZB (ZA rfl rfl (Z7 (vs := []) (cs := [.slice none 0 0, .slice none 0 0, .slice none 0 0, .int .u32 ((0 : UInt32).toNat : Int), .int .u32 ((0 : UInt32).toNat : Int)]) Z46 B46 rfl rfl rfl) (ZA rfl rfl (Z7 (vs := []) (cs := [.int .i64 0, .int .u32 ((0 : UInt32).toNat : Int), .int .u32 ((0 : UInt32).toNat : Int), .int .u32 ((0 : UInt32).toNat : Int), .int .u32 ((0 : UInt32).toNat : Int)]) Z50 B50 rfl rfl rfl) (ZA rfl rfl (ZG rfl) (ZQ 2 S46 rfl rfl rfl rfl rfl (Nat.le_of_ble_eq_true rfl) (ZQ 1 S50 rfl rfl rfl rfl rfl (Nat.le_of_ble_eq_true rfl) (ZA rfl rfl (ZE rfl) (ZD (ZC (ZT (ZV ?_)))))))))))
    refine Zl (Zl (ZR (vs := [.agg #[.slice none 0 0, .slice none 0 0, .slice none 0 0, .int .u32 ((0 : UInt32).toNat : Int), .int .u32 ((0 : UInt32).toNat : Int)], .agg #[.int .i64 0, .int .u32 ((0 : UInt32).toNat : Int), .int .u32 ((0 : UInt32).toNat : Int), .int .u32 ((0 : UInt32).toNat : Int), .int .u32 ((0 : UInt32).toNat : Int)], .int .i64 x_21.2.2]) (K := [_, _]) (rst := [_, _, _, _]) (.inl rfl) rfl rfl (Zb 4 rfl rfl S46 (Zb 3 rfl rfl S50 (ZN rfl rfl))) (ZK 0 rfl (ZK 0 rfl ZI)) ?_))
    obtain rfl := Option.some.inj hx
    exact ⟨none, 0, 0, none, 0, 0, [], none, 0, 0, [], rfl, rfl, (IsSlice.nil _ _ _), (ZU _ _ _ _ _), (fun p hp => by cases hp), (ZU _ _ _ _ _), (fun p hp => by cases hp), trivial⟩
   ·
    replace hx := ZY c_25 hx
    refine JC.skip (ZC (ZF (ZB (ZA rfl rfl (Zu 3 (vs := [.slice aa_2 na_2 ca_2, .slice aa_3 na_3 ca_3, .slice aa_4 na_4 ca_4, .int .u32 (p_1.Epoch.toNat : Int), .int .u32 ((p_1.Count + (1 : UInt32)).toNat : Int)]) S46 rfl rfl rfl rfl) (ZA rfl rfl (ZG rfl) (ZA rfl rfl (ZG rfl) (ZA rfl rfl (ZG rfl) (ZA rfl rfl (Z7 (vs := [(1, .int .u32 (p_5.toNat : Int)), (2, .int .u32 (((sl32 p_1.Epoch (((16 : UInt64).toNat : Int)).toNat) ||| (p_1.Count + (1 : UInt32))).toNat : Int)), (3, .int .u32 (x_21.2.1.toNat : Int))]) (cs := [.int .i64 0, .int .u32 (p_5.toNat : Int), .int .u32 (((sl32 p_1.Epoch (((16 : UInt64).toNat : Int)).toNat) ||| (p_1.Count + (1 : UInt32))).toNat : Int), .int .u32 (x_21.2.1.toNat : Int), .int .u32 ((0 : UInt32).toNat : Int)]) Z50 B50 rfl rfl rfl) (ZA rfl rfl (ZG rfl) (JL.pubN 0 RU8.mono rfl hr_24 (Nat.le_refl _) (fun H_26 hleH_26 hsH_26 => JL.forget 0 ?_)))))))))))
    obtain ⟨x_27, hr_28, hx⟩ := ZJ hx
    refine ZS (vs := [_, _, _]) (args := [_, _, _]) (K := []) (rst := [_, _, _]) E34 rfl rfl rfl ZI (store_put_ok (Store.mk (Disk.mk p_1.Disk.Blocks p_1.Disk.Waits) p_1.Space p_1.Epoch (p_1.Count + (1 : UInt32))) (Ptr.mk 0 p_5 ((sl32 p_1.Epoch (((16 : UInt64).toNat : Int)).toNat) ||| (p_1.Count + (1 : UInt32))) x_21.2.1 (0 : UInt32)) x_21.1 _ (ha_2.mono (RSl.mono RU8.mono) (hleu_23.trans hleH_26)) (ha_3.mono R_Write.mono (hleu_23.trans hleH_26)) (ha_4.mono RU8.mono (hleu_23.trans hleH_26)) (hsH_26.old RU8.mono) _ hr_28) rfl (fun u_29 Ku_29 Hu_29 hRu_29 hleu_29 hfu_29 => ?_)
    obtain ⟨az_30, nz_30, cz_30, ar_31, nr_31, cr_31, Kr_31, ar_32, nr_32, cr_32, Kr_32, rfl, rfl, hz_30, hr_31, hnewr_31, hr_32, hnewr_32, -⟩ := hRu_29
    replace hr_31 := (RowOf.base (RowOf.mono R_Write.mono (New.call (hleu_23.trans hleH_26)) hr_31) (fun p hp => (hfu_29 p (Zh 0 rfl hp)).resolve_left (hnewr_31 p hp)))
    replace hr_32 := (RowOf.base (Zf (H2 := New H Hu_29) RU8.const hr_32) (fun p hp => (hfu_29 p (Zh 1 rfl hp)).resolve_left (hnewr_32 p hp)))
    replace hz_30 := IsSlice.mono (RSl.mono RU8.mono) (New.call (hleu_23.trans hleH_26)) hz_30
    refine ZA rfl rfl (R.extract rfl rfl) (ZA rfl rfl (R.extract rfl rfl) (ZA rfl rfl (R.extract rfl rfl) (ZQ 3 S46 rfl rfl rfl rfl rfl (Nat.le_of_ble_eq_true rfl) (ZQ 2 S50 rfl rfl rfl rfl rfl (Nat.le_of_ble_eq_true rfl) (ZA rfl rfl (ZE rfl) (ZD (ZC (ZT (ZR (vs := [.agg #[.slice az_30 nz_30 cz_30, .slice ar_31 nr_31 cr_31, .slice ar_32 nr_32 cr_32, .int .u32 (x_27.1.Epoch.toNat : Int), .int .u32 (x_27.1.Count.toNat : Int)], .agg #[.int .i64 x_27.2.1.At, .int .u32 (x_27.2.1.Birth.toNat : Int), .int .u32 (x_27.2.1.Iv.toNat : Int), .int .u32 (x_27.2.1.Tag.toNat : Int), .int .u32 (x_27.2.1.Sum.toNat : Int)], .int .i64 x_27.2.2]) (K := [_, _]) (rst := [_, _, _]) (.inl rfl) rfl rfl (Zb 3 rfl rfl S46 (Zb 2 rfl rfl S50 (ZN rfl rfl))) (ZK 0 rfl (ZK 0 rfl ZI)) ?_)))))))))
    obtain rfl := Option.some.inj hx
    exact ⟨az_30, nz_30, cz_30, ar_31, nr_31, cr_31, Kr_31, ar_32, nr_32, cr_32, Kr_32, rfl, rfl, hz_30, (Zg (Nat.zero_le _) hr_31), (Zx hr_31 hlt), (Zg (Nat.zero_le _) hr_32), (Zx hr_32 hlt), trivial⟩

set_option maxHeartbeats 8000000 in
theorem ref06_asked_ok (p_1 : List UInt8) (p_3 : List UInt8) (H : Heaplet) {aa_2 : Option Addr} {na_2 : Nat} {ca_2 : Nat} {aa_4 : Option Addr} {na_4 : Nat} {ca_4 : Nat} (ha_2 : IsSlice H RU8 1 (.slice aa_2 na_2 ca_2) p_1) (ha_4 : IsSlice H RU8 1 (.slice aa_4 na_4 ca_4) p_3) (r : Int) (hx : ref06_asked p_1 p_3 = some r) :
  Does Try.prog 83 #[.slice aa_2 na_2 ca_2, .slice aa_4 na_4 ca_4] [] H (fun u K' H' => u = .int .i64 r ∧ K' = [] ∧ H = H' ∧ True) := by
 refine Does.enterL (vs := [.slice aa_2 na_2 ca_2, .slice aa_4 na_4 ca_4]) (l := [(0, .slice aa_2 na_2 ca_2), (1, .slice aa_4 na_4 ca_4)]) Try.func83 rfl rfl ⟨rfl, rfl, trivial⟩ (fun w hlt => ?_)
 unfold ref06_asked at hx
 refine ZF (ZB (ZA rfl rfl (ZE rfl) (ZD (ZC (ZF (ZF (ZB (ZA rfl rfl (ZG rfl) (ZA rfl rfl (Zk U23 rfl (IsSlice.long ha_2)) (ZA rfl rfl (YA rfl rfl) (ZD ?_)))))))))))
 refine ZC (ZW rfl (fun c_5 => ?_) (fun c_5 => ?_))
 ·
  replace hx := ZX c_5 hx
  refine ZF (ZB (ZA rfl rfl (ZE rfl) (ZD (ZC (ZT (ZV (ZR (vs := [.int .i64 2]) (K := []) (rst := []) (.inl rfl) rfl rfl (ZN rfl rfl) ZI ?_)))))))
  obtain rfl := Option.some.inj hx
  exact ⟨rfl, rfl, rfl, trivial⟩
 ·
  replace hx := ZY c_5 hx
  refine JC.skip (ZC (ZF (ZF (ZB (ZA rfl rfl (ZG rfl) (ZA rfl rfl (Zk U23 rfl (IsSlice.long ha_4)) (ZA rfl rfl (R.gtr_i rfl rfl) (ZD (ZC (ZW rfl (fun c_6 => ?_) (fun c_6 => ?_)))))))))))
  ·
   replace hx := ZX c_6 hx
   refine ZF (ZB (ZA rfl rfl (ZE rfl) (ZD (ZC (ZT (ZV (ZR (vs := [.int .i64 3]) (K := []) (rst := []) (.inl rfl) rfl rfl (ZN rfl rfl) ZI ?_)))))))
   obtain rfl := Option.some.inj hx
   exact ⟨rfl, rfl, rfl, trivial⟩
  ·
   replace hx := ZY c_6 hx
   refine JC.skip (ZC (ZF (ZB (ZA rfl rfl (ZE rfl) (ZD (ZC (ZT (ZR (vs := [.int .i64 0]) (K := []) (rst := []) (.inl rfl) rfl rfl (ZN rfl rfl) ZI ?_))))))))
   obtain rfl := Option.some.inj hx
   exact ⟨rfl, rfl, rfl, trivial⟩

set_option maxHeartbeats 8000000 in
theorem ref01_Room_n_ok : ∀ (fuel : Nat) (p_1 : Int) (H : Heaplet) (r : Int) (hx : ref01_Room_n fuel p_1 = some r),
  Does Try.prog 50 #[.int .i64 p_1] [] H (fun u K' H' => u = .int .i64 r ∧ K' = [] ∧ H = H' ∧ True) := by
 intro fuel
 induction fuel with
 | zero => intro p_1 H r hx; cases hx
 | succ n ih =>
 intro p_1 H r hx
 replace hx : ref01_Room_b (ref01_Room_n n) p_1 = some r := hx
 obtain ⟨rec_0, hrec⟩ : ∃ q, q = ref01_Room_n n := ⟨_, rfl⟩
 rw [← hrec] at hx ih
 clear hrec
 refine Does.enterL (vs := [.int .i64 p_1]) (l := [(0, .int .i64 p_1)]) Try.func50 rfl rfl ⟨rfl, trivial⟩ (fun w hlt => ?_)
 unfold ref01_Room_b at hx
 refine ZF (ZB (ZA rfl rfl (ZE rfl) (ZD (ZC (ZF (ZF (ZB (ZA rfl rfl (ZG rfl) (ZA rfl rfl (R.eql_i rfl rfl) (ZD (ZC ?_)))))))))))
 refine ZW rfl (fun c_2 => ?_) (fun c_2 => ?_)
 ·
  replace hx := ZX c_2 hx
  refine ZF (ZB (ZA rfl rfl (ZE rfl) (ZD (ZC (ZT (ZV (ZR (vs := [.int .i64 1]) (K := []) (rst := []) (.inl rfl) rfl rfl (ZN rfl rfl) ZI ?_)))))))
  obtain rfl := Option.some.inj hx
  exact ⟨rfl, rfl, rfl, trivial⟩
 ·
  replace hx := ZY c_2 hx
  refine JC.skip (ZC (ZF (ZB (ZA rfl rfl (ZG rfl) (ZA rfl rfl (R.sub_i rfl rfl) ?_)))))
  obtain ⟨x_3, hr_4, hx⟩ := ZJ hx
  refine ZS (vs := [_]) (args := [_]) (K := []) (rst := []) E50 rfl rfl rfl ZI (ih (w64 (p_1 - 1)) _ _ hr_4) rfl (fun u_5 Ku_5 Hu_5 hRu_5 hleu_5 hfu_5 => ?_)
  obtain ⟨rfl, rfl, rfl, -⟩ := hRu_5
  refine ZA rfl rfl (R.mul_i rfl rfl) (ZA rfl rfl (ZE rfl) (ZD (ZC (ZT (ZR (vs := [.int .i64 (w64 (256 * x_3))]) (K := []) (rst := []) (.inl rfl) rfl rfl (ZN rfl rfl) ZI ?_)))))
  obtain rfl := Option.some.inj hx
  exact ⟨rfl, rfl, rfl, trivial⟩

theorem ref01_Room_ok (p_1 : Int) (H : Heaplet) (r : Int) (hx : ref01_Room p_1 = some r) :
  Does Try.prog 50 #[.int .i64 p_1] [] H (fun u K' H' => u = .int .i64 r ∧ K' = [] ∧ H = H' ∧ True) := ref01_Room_n_ok FUEL p_1 H r hx

set_option maxHeartbeats 8000000 in
theorem ref01_Bytes_ok (p_1 : Int) (p_2 : Int) (H : Heaplet) (r : List UInt8) (hx : ref01_Bytes p_1 p_2 = some r) :
  Does Try.prog 47 #[.int .i64 p_1, .int .i64 p_2] [] H (fun u K' H' => ∃ ao0 : Option Addr, ∃ n0 : Nat, ∃ cap0 : Nat, ∃ K0 : Own, u = .slice ao0 n0 cap0 ∧ K' = [K0] ∧ H = H' ∧ RowOf (New H H) RU8 0 5 1 (.slice ao0 n0 cap0) r K0 ∧ (∀ p ∈ K0, p.1 ∉ ids (List.flatten [])) ∧ True) := by
 refine Does.enterL (vs := [.int .i64 p_1, .int .i64 p_2]) (l := [(0, .int .i64 p_1), (1, .int .i64 p_2)]) Try.func47 rfl rfl ⟨rfl, rfl, trivial⟩ (fun w hlt => ?_)
 unfold ref01_Bytes at hx
 refine ZF (ZB (ZA rfl rfl (ZE rfl) (ZD (ZC (ZF (ZB (ZA rfl rfl (ZG rfl) ?_)))))))
 obtain ⟨x_5, hm_4, hc_3, hx⟩ := mks_some hx
 refine JL.mkF (HF := New H H) (R := RU8) (y := (0 : UInt8)) (n := p_2) U23 I5 rfl rfl (fun _ => rfl) RU8.one hm_4 hc_3 rfl rfl (fun vr_6 Kr_6 hr_6 => ?_)
 obtain ⟨ar_6, cr_6, rfl⟩ := RowOf.val hr_6
 refine ZA rfl rfl (ZE rfl) (ZD (ZC (ZF (ZF (ZB (ZA rfl rfl (ZE rfl) (ZD (ZC ?_))))))))
 obtain ⟨t_7, ht_9, hx⟩ := ZJ hx
 refine Z4 (fun l o g => ∃ Kr_14 : Own, l = [(5, .slice ar_6 x_5.length cr_6)] ∧ o = [Kr_14] ∧ H = g ∧ RowOf (New H H) RU8 w.heap.size 5 1 (.slice ar_6 x_5.length cr_6) t_7 Kr_14) ?_ ?_
 ·
  rintro _ _ _ ⟨Kr_14, rfl, rfl, rfl, hr_14⟩
  refine ZC (ZF (ZB (ZA rfl rfl (ZG rfl) (ZA rfl rfl (ZE rfl) (ZD (ZC (ZT (ZR (vs := [.slice ar_6 x_5.length cr_6]) (K := [_]) (rst := []) (.inl rfl) rfl rfl (ZN rfl rfl) (ZK 0 rfl ZI) ?_))))))))
  obtain rfl := Option.some.inj hx
  exact ⟨ar_6, x_5.length, cr_6, Kr_14, rfl, rfl, rfl, (Zg (Nat.zero_le _) hr_14), (Zx hr_14 hlt), trivial⟩
 ·
  have hxo_8 := hx; clear hx; have hx := ht_9; clear ht_9
  refine JC.block (Z2 (fun n l o g => ∃ s_10 : List UInt8 × Int, ∃ Kr_13 : Own, l = [(0, .int .i64 p_1), (1, .int .i64 p_2), (5, .slice ar_6 x_5.length cr_6), (6, .int .i64 s_10.2)] ∧ o = [Kr_13] ∧ H = g ∧ run (ref01_Bytes_l1 p_1 p_2) n s_10 = some t_7 ∧ RowOf (New H H) RU8 w.heap.size 5 1 (.slice ar_6 x_5.length cr_6) s_10.1 Kr_13) FUEL ?_ ⟨(x_5, 0), Kr_6, rfl, rfl, rfl, hx, hr_6⟩ ⟨rfl, rfl, rfl, rfl, trivial⟩ ?_)
  ·
   rintro _ _ _ ⟨s_10, Kr_13, rfl, rfl, rfl, hn_11, hr_13⟩
   exact Zz hn_11
  ·
   rintro n_12 _ _ _ ⟨s_10, Kr_13, rfl, rfl, rfl, hn_11, hr_13⟩
   clear hx; obtain ⟨oo_15, hx, hd_14⟩ := Z0 hn_11
   unfold ref01_Bytes_l1 at hx
   refine ZF (ZF (ZB (ZA rfl rfl (ZG rfl) (ZA rfl rfl (ZG rfl) (ZA rfl rfl (Zy rfl rfl) (ZD (ZC (ZW rfl (fun c_14 => ?_) (fun c_14 => ?_)))))))))
   ·
    replace hx := ZX c_14 hx
    refine JC.skip (ZC (ZF (JC.block (ZB (ZA rfl rfl (ZG rfl) (ZA rfl rfl (ZG rfl) (ZA rfl rfl (ZG rfl) (ZA rfl rfl (ZG rfl) ?_))))))))
    obtain ⟨x_15, hr_16, hx⟩ := ZJ hx
    refine ZS (vs := [_]) (args := [_]) (K := []) (rst := [_]) E50 rfl rfl rfl ZI (ref01_Room_ok s_10.2 _ _ hr_16) rfl (fun u_17 Ku_17 Hu_17 hRu_17 hleu_17 hfu_17 => ?_)
    obtain ⟨rfl, rfl, rfl, -⟩ := hRu_17
    obtain ⟨hz_18, hx⟩ := chk_some hx
    refine ZA rfl rfl (R.quo_i rfl rfl hz_18) (ZA rfl rfl (R.rem_i rfl rfl (by decide)) (ZA rfl rfl (R.cv_i64_u8 U3 U5 rfl) ?_))
    obtain ⟨hp_19, hx⟩ := chk_some hx
    obtain ⟨b_20, o_21, hE_22⟩ := RowOf.place hr_13 hp_19
    refine ZA rfl rfl (R.ix U23 S5 rfl rfl hE_22) ?_
    obtain ⟨m_23, hm_24, hi_25, hx⟩ := setI_some hx
    refine JL.stE 0 (k := s_10.2) (y := (u8i ((w64 (p_1.tdiv x_15)).tmod 256))) S5 rfl hr_13 rfl hE_22 rfl rfl (rfl) RU8.one hm_24 (fun Kr_26 hr_26 hlr_26 => ZD (Zo (ZC (ZB (ZA rfl rfl (ZG rfl) (ZA rfl rfl (YB rfl rfl) (ZA rfl rfl (ZE rfl) (ZD ?_))))))))
    replace hx := Zp hd_14 hx
    exact Za ⟨(m_23, w64 (s_10.2 + 1)), Kr_26, rfl, rfl, rfl, hx, hr_26⟩ ⟨rfl, rfl, rfl, rfl, trivial⟩ rfl rfl
   ·
    replace hx := ZY c_14 hx
    refine Z1 (Zc ?_)
    obtain rfl := Zv hd_14 hx
    refine Zc (Zi ?_)
    exact Za ⟨Kr_13, rfl, rfl, rfl, hr_13⟩ ⟨rfl, trivial⟩ rfl rfl

set_option maxHeartbeats 8000000 in
theorem ref02_Key_ok (p_1 : List UInt8) (H : Heaplet) {aa_2 : Option Addr} {na_2 : Nat} {ca_2 : Nat} (ha_2 : IsSlice H RU8 1 (.slice aa_2 na_2 ca_2) p_1) (r : List UInt8) (hx : ref02_Key p_1 = some r) :
  Does Try.prog 112 #[.slice aa_2 na_2 ca_2] [] H (fun u K' H' => ∃ ao0 : Option Addr, ∃ n0 : Nat, ∃ cap0 : Nat, ∃ K0 : Own, u = .slice ao0 n0 cap0 ∧ K' = [K0] ∧ H = H' ∧ RowOf (New H H) RU8 0 5 1 (.slice ao0 n0 cap0) r K0 ∧ (∀ p ∈ K0, p.1 ∉ ids (List.flatten [])) ∧ True) := by
 refine Does.enterL (vs := [.slice aa_2 na_2 ca_2]) (l := [(0, .slice aa_2 na_2 ca_2)]) Try.func112 rfl rfl ⟨rfl, trivial⟩ (fun w hlt => ?_)
 unfold ref02_Key at hx
 refine ZF (ZB (ZA rfl rfl (ZE rfl) (ZD (ZC (ZF (ZB (ZA rfl rfl (ZG rfl) ?_)))))))
 obtain ⟨x_3, hr_4, hx⟩ := ZJ hx
 refine ZS (vs := [_]) (args := [_]) (K := []) (rst := []) E86 rfl rfl rfl ZI (ref02_Four_ok p_1 _ ha_2 _ hr_4) rfl (fun u_5 Ku_5 Hu_5 hRu_5 hleu_5 hfu_5 => ?_)
 obtain ⟨rfl, rfl, rfl, -⟩ := hRu_5
 refine JL.alloc Z120 rfl (fun b_6 hb_6 => ZQ 0 S120 rfl rfl rfl rfl rfl (Nat.le_of_ble_eq_true rfl) (ZD (ZC (ZF (ZB (ZA rfl rfl (ZE rfl) (ZD (ZC (ZF (ZF (ZB ?_)))))))))))
 refine ZA rfl rfl (ZE rfl) (ZD (ZC ?_))
 obtain ⟨t_7, ht_9, hx⟩ := ZJ hx
 refine Z4 (fun l o g => ∃ ar_14 : Option Addr, ∃ nr_14 : Nat, ∃ cr_14 : Nat, ∃ Kr_14 : Own, l = [(4, .slice ar_14 nr_14 cr_14)] ∧ o = [Kr_14] ∧ H = g ∧ RowOf (New H H) RU8 w.heap.size 5 1 (.slice ar_14 nr_14 cr_14) t_7 Kr_14) ?_ ?_
 ·
  rintro _ _ _ ⟨ar_14, nr_14, cr_14, Kr_14, rfl, rfl, rfl, hr_14⟩
  refine ZC (ZF (ZB (ZA rfl rfl (ZG rfl) (ZA rfl rfl (ZE rfl) (ZD (ZC (ZT (ZR (vs := [.slice ar_14 nr_14 cr_14]) (K := [_]) (rst := []) (.inl rfl) rfl rfl (ZN rfl rfl) (ZK 0 rfl ZI) ?_))))))))
  obtain rfl := Option.some.inj hx
  exact ⟨ar_14, nr_14, cr_14, Kr_14, rfl, rfl, rfl, (Zg (Nat.zero_le _) hr_14), (Zx hr_14 hlt), trivial⟩
 ·
  have hxo_8 := hx; clear hx; have hx := ht_9; clear ht_9
  refine JC.block (JC.seg0 (Zw 1 rfl (Z2 (fun n l o g => ∃ s_10 : List UInt8 × Nat, ∃ ar_13 : Option Addr, ∃ nr_13 : Nat, ∃ cr_13 : Nat, ∃ Kr_13 : Own, l = [(3, .pointer (some ⟨b_6, 0, none⟩)), (4, .slice ar_13 nr_13 cr_13), (5, .int .i64 ((s_10.2 : Nat) : Int))] ∧ o = [[(b_6, .cells #[.int .u32 (x_3.e0.toNat : Int), .int .u32 (x_3.e1.toNat : Int), .int .u32 (x_3.e2.toNat : Int), .int .u32 (x_3.e3.toNat : Int)] 120 (0, 0))], Kr_13] ∧ H = g ∧ run (ref02_Key_l2 x_3) n s_10 = some t_7 ∧ RowOf (New H H) RU8 w.heap.size 5 1 (.slice ar_13 nr_13 cr_13) s_10.1 Kr_13) FUEL ?_ ⟨(([] : List UInt8), 0), none, 0, 0, [], rfl, rfl, rfl, hx, (ZU _ _ _ _ _)⟩ ⟨rfl, rfl, rfl, trivial⟩ ?_)))
  ·
   rintro _ _ _ ⟨s_10, ar_13, nr_13, cr_13, Kr_13, rfl, rfl, rfl, hn_11, hr_13⟩
   exact Zz hn_11
  ·
   rintro n_12 _ _ _ ⟨s_10, ar_13, nr_13, cr_13, Kr_13, rfl, rfl, rfl, hn_11, hr_13⟩
   clear hx; obtain ⟨oo_15, hx, hd_14⟩ := Z0 hn_11
   unfold ref02_Key_l2 at hx
   refine ZF (ZF (ZB (ZA rfl rfl (ZG rfl) (ZA rfl rfl (Zy rfl rfl) (ZD (ZC (ZW rfl (fun c_14 => ?_) (fun c_14 => ?_))))))))
   ·
    replace hx := ZX c_14 hx
    refine JC.skip (ZC (ZF (JC.block (ZF (ZB (ZA rfl rfl (ZG rfl) (ZA rfl rfl (R.quo_i rfl rfl (by decide)) ?_)))))))
    obtain ⟨y_15, hN_16, hx⟩ := Zq hx
    refine ZA rfl rfl (R.ixAd (L := x_3.l) U120 S22 rfl rfl rfl hN_16) (ZA rfl rfl (R.ldoA (enc := (fun a : UInt32 => Value.int .u32 (a.toNat : Int))) (L := x_3.l) 0 S22 rfl rfl rfl hN_16) (ZA rfl rfl (ZE rfl) (ZD (ZC (ZF (ZF (ZB (ZA rfl rfl (ZE rfl) (ZD (ZC ?_))))))))))
    obtain ⟨t_17, ht_19, hx⟩ := ZJ hx
    refine Z4 (fun l o g => l = [(3, .pointer (some ⟨b_6, 0, none⟩)), (4, .slice ar_13 nr_13 cr_13), (5, .int .i64 ((s_10.2 : Nat) : Int)), (6, .int .u32 (t_17.toNat : Int))] ∧ o = [[(b_6, .cells #[.int .u32 (x_3.e0.toNat : Int), .int .u32 (x_3.e1.toNat : Int), .int .u32 (x_3.e2.toNat : Int), .int .u32 (x_3.e3.toNat : Int)] 120 (0, 0))], Kr_13] ∧ H = g) ?_ ?_
    ·
     rintro _ _ _ ⟨rfl, rfl, rfl⟩
     refine ZC (ZB (ZA rfl rfl (ZG rfl) (ZA rfl rfl (ZG rfl) (ZA rfl rfl (R.rem32 (a := t_17) (b := (256 : UInt32)) rfl rfl (by decide)) (ZA rfl rfl (R.cv_u32_u8 (a := t_17 % (256 : UInt32)) U22 U5 rfl) (JL.bslF (HF := (New H H)) (R := RU8) (ls := [(t_17 % (256 : UInt32)).toUInt8]) (vs := [.int .u8 (((t_17 % (256 : UInt32)).toUInt8).toNat : Int)]) U23 I5 rfl rfl (⟨_, _, rfl, rfl, rfl, rfl⟩) RU8.one rfl rfl rfl (by simp [maxLen]) rfl (fun vr_23 Kr_23 hr_23 => ?_)))))))
     obtain ⟨ar_23, cr_23, rfl⟩ := RowOf.val hr_23
     obtain ⟨q_24, hm_25, hl_26, hx⟩ := Z6 hx
     refine YC (HF := (New H H)) 2 U23 I5 rfl rfl hr_13 rfl (SrcF.row 0 U23 rfl hr_23) hm_25 hl_26 rfl (Nat.le_refl _) rfl (fun vr_27 Kr_27 hr_27 => ?_)
     obtain ⟨ar_27, cr_27, rfl⟩ := RowOf.val hr_27
     refine ZA rfl rfl (ZE rfl) (ZD (Zo (ZC (ZB (ZA rfl rfl (ZG rfl) (ZA rfl rfl (R.inc rfl rfl (of_decide_eq_true c_14) (by decide)) (ZA rfl rfl (ZE rfl) (ZD ?_))))))))
     replace hx := Zp hd_14 hx
     refine JN.forget 0 (ZP 1 rfl (ZP 1 rfl ?_))
     exact Za ⟨(q_24, s_10.2 + 1), ar_27, q_24.length, cr_27, Kr_27, rfl, rfl, rfl, hx, hr_27⟩ ⟨rfl, rfl, rfl, trivial⟩ rfl rfl
    ·
     have hxo_18 := hx; clear hx; have hx := ht_19; clear ht_19
     refine JC.block (Zw 1 rfl (Zw 1 rfl (Z2 (fun n l o g => ∃ s_20 : UInt32 × Int, l = [(3, .pointer (some ⟨b_6, 0, none⟩)), (4, .slice ar_13 nr_13 cr_13), (5, .int .i64 ((s_10.2 : Nat) : Int)), (6, .int .u32 (s_20.1.toNat : Int)), (7, .int .i64 s_20.2)] ∧ o = [[(b_6, .cells #[.int .u32 (x_3.e0.toNat : Int), .int .u32 (x_3.e1.toNat : Int), .int .u32 (x_3.e2.toNat : Int), .int .u32 (x_3.e3.toNat : Int)] 120 (0, 0))], Kr_13] ∧ H = g ∧ run (ref02_Key_l1 s_10) n s_20 = some t_17) FUEL ?_ ⟨(y_15, 0), rfl, rfl, rfl, hx⟩ ⟨rfl, rfl, rfl, rfl, rfl, trivial⟩ ?_)))
     ·
      rintro _ _ _ ⟨s_20, rfl, rfl, rfl, hn_21⟩
      exact Zz hn_21
     ·
      rintro n_22 _ _ _ ⟨s_20, rfl, rfl, rfl, hn_21⟩
      clear hx; obtain ⟨oo_24, hx, hd_23⟩ := Z0 hn_21
      unfold ref02_Key_l1 at hx
      refine ZF (ZF (ZB (ZA rfl rfl (ZG rfl) (ZA rfl rfl (ZG rfl) (ZA rfl rfl (R.rem_i rfl rfl (by decide)) (ZA rfl rfl (Zy rfl rfl) (ZD (ZC (ZW rfl (fun c_23 => ?_) (fun c_23 => ?_))))))))))
      ·
       replace hx := ZX c_23 hx
       refine JC.skip (ZC (ZF (JC.block (ZB (ZA rfl rfl (ZG rfl) (ZA rfl rfl (R.quo32 (a := s_20.1) (b := (256 : UInt32)) rfl rfl (by decide)) (ZA rfl rfl (ZE rfl) (ZD (Zo (ZC (ZB ?_)))))))))))
       refine ZA rfl rfl (ZG rfl) (ZA rfl rfl (YB rfl rfl) (ZA rfl rfl (ZE rfl) (ZD ?_)))
       replace hx := Zp hd_23 hx
       refine ZP 1 rfl (ZP 1 rfl ?_)
       exact Za ⟨(s_20.1 / (256 : UInt32), w64 (s_20.2 + 1)), rfl, rfl, rfl, hx⟩ ⟨rfl, rfl, rfl, rfl, rfl, trivial⟩ rfl rfl
      ·
       replace hx := ZY c_23 hx
       refine Z1 (Zc ?_)
       obtain rfl := Zv hd_23 hx
       refine Zc (Zi (ZP 1 rfl (ZP 1 rfl ?_)))
       exact Za ⟨rfl, rfl, rfl⟩ ⟨rfl, rfl, rfl, rfl, trivial⟩ rfl rfl
   ·
    replace hx := ZY c_14 hx
    refine Z1 (Zc ?_)
    obtain rfl := Zv hd_14 hx
    refine Zc (Zi (JN.forget 0 ?_))
    exact Za ⟨ar_13, nr_13, cr_13, Kr_13, rfl, rfl, rfl, hr_13⟩ ⟨rfl, trivial⟩ rfl rfl

set_option maxHeartbeats 8000000 in
theorem ref05_Bytes_ok (p_1 : List UInt8) (p_3 : UInt32) (p_4 : Int) (H : Heaplet) {aa_2 : Option Addr} {na_2 : Nat} {ca_2 : Nat} (ha_2 : IsSlice H RU8 1 (.slice aa_2 na_2 ca_2) p_1) (r : List UInt8) (hx : ref05_Bytes p_1 p_3 p_4 = some r) :
  Does Try.prog 100 #[.slice aa_2 na_2 ca_2, .int .u32 (p_3.toNat : Int), .int .i64 p_4] [] H (fun u K' H' => ∃ ao0 : Option Addr, ∃ n0 : Nat, ∃ cap0 : Nat, u = .slice ao0 n0 cap0 ∧ K' = [] ∧ IsSlice (New H H') RU8 1 (.slice ao0 n0 cap0) r ∧ True) := by
 refine Does.enterL (vs := [.slice aa_2 na_2 ca_2, .int .u32 (p_3.toNat : Int), .int .i64 p_4]) (l := [(0, .slice aa_2 na_2 ca_2), (1, .int .u32 (p_3.toNat : Int)), (2, .int .i64 p_4)]) Try.func100 rfl rfl ⟨rfl, rfl, rfl, trivial⟩ (fun w hlt => ?_)
 unfold ref05_Bytes at hx
 refine ZF (ZB (ZA rfl rfl (ZE rfl) (ZD (ZC (ZF (ZB (ZA rfl rfl (ZE rfl) (ZD (ZC (ZF (ZF ?_)))))))))))
 refine ZB (ZA rfl rfl (ZE rfl) (ZD (ZC ?_)))
 obtain ⟨t_5, ht_7, hx⟩ := ZJ hx
 refine Z4 (fun l o g => ∃ ar_12 : Option Addr, ∃ nr_12 : Nat, ∃ cr_12 : Nat, ∃ Kr_12 : Own, l = [(2, .int .i64 p_4), (7, .slice ar_12 nr_12 cr_12)] ∧ o = [Kr_12] ∧ H = g ∧ RowOf (New H H) RU8 w.heap.size 5 1 (.slice ar_12 nr_12 cr_12) t_5 Kr_12) ?_ ?_
 ·
  rintro _ _ _ ⟨ar_12, nr_12, cr_12, Kr_12, rfl, rfl, rfl, hr_12⟩
  refine ZC (ZF (ZB (ZA rfl rfl (ZG rfl) (ZA rfl rfl (ZG rfl) (JL.pubN 0 RU8.mono rfl hr_12 (Nat.le_refl _) (fun H_13 hleH_13 hsH_13 => JL.forget 0 ?_))))))
  obtain ⟨m_14, hm_16, hb_15, hx⟩ := slc_some hx
  obtain ⟨vv_17, cv_17, h1v_17, h2v_17, h3v_17, hsv_17⟩ := IsSlice.cutv hsH_13 hm_16 hb_15
  refine ZA rfl rfl (R.slc (cap := cv_17) (a := 0) (b := p_4) (c := (cv_17 : Int)) (m := t_5) (R := RU8) U23 S5 rfl rfl ⟨_, rfl⟩ (by obtain ⟨ao, n, e, _⟩ := h1v_17; exact ⟨ao, n, e, rfl⟩) ⟨hb_15.1, hb_15.2.1, h2v_17⟩ h3v_17 (.inl rfl)) ?_
  obtain ⟨av_17, cv_17', rfl⟩ := IsSlice.val hsv_17
  refine ZA rfl rfl (ZE rfl) (ZD (ZC (ZT (ZR (vs := [.slice av_17 m_14.length cv_17']) (K := []) (rst := []) (.inl rfl) rfl rfl (ZN rfl rfl) ZI ?_))))
  obtain rfl := Option.some.inj hx
  exact ⟨av_17, m_14.length, cv_17', rfl, rfl, hsv_17, trivial⟩
 ·
  have hxo_6 := hx; clear hx; have hx := ht_7; clear ht_7
  refine JC.block (JC.seg0 (Z2 (fun n l o g => ∃ s_8 : List UInt8 × Int, ∃ ar_11 : Option Addr, ∃ nr_11 : Nat, ∃ cr_11 : Nat, ∃ Kr_11 : Own, l = [(0, .slice aa_2 na_2 ca_2), (1, .int .u32 (p_3.toNat : Int)), (2, .int .i64 p_4), (7, .slice ar_11 nr_11 cr_11), (8, .int .i64 s_8.2)] ∧ o = [Kr_11] ∧ H = g ∧ run (ref05_Bytes_l1 p_1 p_3 p_4) n s_8 = some t_5 ∧ RowOf (New H H) RU8 w.heap.size 5 1 (.slice ar_11 nr_11 cr_11) s_8.1 Kr_11) FUEL ?_ ⟨(([] : List UInt8), 0), none, 0, 0, [], rfl, rfl, rfl, hx, (ZU _ _ _ _ _)⟩ ⟨rfl, rfl, rfl, rfl, rfl, trivial⟩ ?_))
  ·
   rintro _ _ _ ⟨s_8, ar_11, nr_11, cr_11, Kr_11, rfl, rfl, rfl, hn_9, hr_11⟩
   exact Zz hn_9
  ·
   rintro n_10 _ _ _ ⟨s_8, ar_11, nr_11, cr_11, Kr_11, rfl, rfl, rfl, hn_9, hr_11⟩
   clear hx; obtain ⟨oo_13, hx, hd_12⟩ := Z0 hn_9
   unfold ref05_Bytes_l1 at hx
   refine ZF (ZF (ZB (ZA rfl rfl (ZG rfl) (ZA rfl rfl (R.mul_i rfl rfl) (ZA rfl rfl (ZG rfl) (ZA rfl rfl (Zy rfl rfl) (ZD (ZC (ZW rfl (fun c_12 => ?_) (fun c_12 => ?_))))))))))
   ·
    replace hx := ZX c_12 hx
    refine JC.skip (ZC (ZF (JC.block (ZF (ZB (ZA rfl rfl (ZE rfl) (ZD (ZC (ZF (ZB (ZA rfl rfl (ZG rfl) ?_)))))))))))
    refine ZA rfl rfl (ZG rfl) (JL.seg0 ?_)
    obtain ⟨q_14, hm_15, hl_16, hx⟩ := Z6 hx
    refine YC (HF := (New H H)) 0 U23 I5 rfl rfl (ZU _ RU8 _ _ _) rfl (SrcF.sliceC RU8.const RU8.one U23 ha_2) hm_15 hl_16 rfl (Nat.le_refl _) rfl (fun vr_17 Kr_17 hr_17 => ?_)
    obtain ⟨ar_17, cr_17, rfl⟩ := RowOf.val hr_17
    refine ZA rfl rfl (ZE rfl) (ZD (ZC (ZF (ZB (ZA rfl rfl (ZG rfl) (ZA rfl rfl (ZG rfl) (ZA rfl rfl (R.cv_u32_i64 (a := p_3) U22 U3 rfl) ?_)))))))
    obtain ⟨x_18, hr_19, hx⟩ := ZJ hx
    refine ZS (vs := [_, _]) (args := [_, _]) (K := []) (rst := [_, _]) E47 rfl rfl rfl ZI (ref01_Bytes_ok (p_3.toNat : Int) 4 _ _ hr_19) rfl (fun u_20 Ku_20 Hu_20 hRu_20 hleu_20 hfu_20 => ?_)
    obtain ⟨ar_21, nr_21, cr_21, Kr_21, rfl, rfl, rfl, hr_21, hnewr_21, -⟩ := hRu_20
    replace hr_21 := (RowOf.base (Zf (H2 := New H H) RU8.const hr_21) (fun p hp => (hfu_20 p (Zh 0 rfl hp)).resolve_left (hnewr_21 p hp)))
    obtain ⟨q_22, hm_23, hl_24, hx⟩ := Z6 hx
    refine YC (HF := (New H H)) 1 U23 I5 rfl rfl hr_17 rfl (SrcF.row 0 U23 rfl hr_21) hm_23 hl_24 rfl (Nat.le_refl _) rfl (fun vr_25 Kr_25 hr_25 => ?_)
    obtain ⟨ar_25, cr_25, rfl⟩ := RowOf.val hr_25
    refine ZA rfl rfl (ZE rfl) (ZD (ZC (ZF (ZB (ZA rfl rfl (ZG rfl) (ZA rfl rfl (ZG rfl) ?_))))))
    obtain ⟨x_26, hr_27, hx⟩ := ZJ hx
    refine ZS (vs := [_, _]) (args := [_, _]) (K := []) (rst := [_, _, _]) E47 rfl rfl rfl ZI (ref01_Bytes_ok s_8.2 4 _ _ hr_27) rfl (fun u_28 Ku_28 Hu_28 hRu_28 hleu_28 hfu_28 => ?_)
    obtain ⟨ar_29, nr_29, cr_29, Kr_29, rfl, rfl, rfl, hr_29, hnewr_29, -⟩ := hRu_28
    replace hr_29 := (RowOf.base (Zf (H2 := New H H) RU8.const hr_29) (fun p hp => (hfu_28 p (Zh 0 rfl hp)).resolve_left (hnewr_29 p hp)))
    obtain ⟨q_30, hm_31, hl_32, hx⟩ := Z6 hx
    refine YC (HF := (New H H)) 2 U23 I5 rfl rfl hr_25 rfl (SrcF.row 0 U23 rfl hr_29) hm_31 hl_32 rfl (Nat.le_refl _) rfl (fun vr_33 Kr_33 hr_33 => ?_)
    obtain ⟨ar_33, cr_33, rfl⟩ := RowOf.val hr_33
    refine ZA rfl rfl (ZE rfl) (ZD (ZC (ZB (ZA rfl rfl (ZG rfl) (ZA rfl rfl (ZG rfl) ?_)))))
    obtain ⟨x_37, hr_38, hx⟩ := ZJ hx
    refine JL.callL3 (vs := [_]) E112 rfl rfl (fun H_36 hle_35 hl_34 => ref02_Key_ok q_30 _ (Lent.row' 2 hl_34 RU8.mono hle_35 rfl (hr_33.old RU8.mono)) _ hr_38) rfl (fun _ _ _ _ hR_40 hf_41 => ?_)
    obtain ⟨ar_39, nr_39, cr_39, Kr_39, rfl, rfl, rfl, hr_39, -, -⟩ := hR_40
    replace hr_39 := RowOf.base (Zf (H2 := New H H) RU8.const hr_39) (fun p hp => hf_41 p (Zh 0 rfl hp))
    obtain ⟨q_42, hm_43, hl_44, hx⟩ := Z6 hx
    refine YC (HF := (New H H)) 4 U23 I5 rfl rfl hr_11 rfl (SrcF.row 0 U23 rfl hr_39) hm_43 hl_44 rfl (Nat.le_refl _) rfl (fun vr_45 Kr_45 hr_45 => ?_)
    obtain ⟨ar_45, cr_45, rfl⟩ := RowOf.val hr_45
    refine ZA rfl rfl (ZE rfl) (ZD (Zo (ZC (ZB (ZA rfl rfl (ZG rfl) (ZA rfl rfl (YB rfl rfl) (ZA rfl rfl (ZE rfl) (ZD ?_))))))))
    replace hx := Zp hd_12 hx
    refine JN.forget 3 (JN.forget 2 (JN.forget 1 (JN.forget 0 ?_)))
    exact Za ⟨(q_42, w64 (s_8.2 + 1)), ar_45, q_42.length, cr_45, Kr_45, rfl, rfl, rfl, hx, hr_45⟩ ⟨rfl, rfl, rfl, rfl, rfl, trivial⟩ rfl rfl
   ·
    replace hx := ZY c_12 hx
    refine Z1 (Zc ?_)
    obtain rfl := Zv hd_12 hx
    refine Zc (Zi ?_)
    exact Za ⟨ar_11, nr_11, cr_11, Kr_11, rfl, rfl, rfl, hr_11⟩ ⟨rfl, rfl, trivial⟩ rfl rfl

set_option maxHeartbeats 8000000 in
theorem ref05_Turned_ok (p_1 : List UInt8) (p_3 : UInt32) (p_4 : List UInt8) (H : Heaplet) {aa_2 : Option Addr} {na_2 : Nat} {ca_2 : Nat} {aa_5 : Option Addr} {na_5 : Nat} {ca_5 : Nat} (ha_2 : IsSlice H RU8 1 (.slice aa_2 na_2 ca_2) p_1) (ha_5 : IsSlice H RU8 1 (.slice aa_5 na_5 ca_5) p_4) (r : List UInt8) (hx : ref05_Turned p_1 p_3 p_4 = some r) :
  Does Try.prog 84 #[.slice aa_2 na_2 ca_2, .int .u32 (p_3.toNat : Int), .slice aa_5 na_5 ca_5] [] H (fun u K' H' => ∃ ao0 : Option Addr, ∃ n0 : Nat, ∃ cap0 : Nat, ∃ K0 : Own, u = .slice ao0 n0 cap0 ∧ K' = [K0] ∧ RowOf (New H H') RU8 0 5 1 (.slice ao0 n0 cap0) r K0 ∧ (∀ p ∈ K0, p.1 ∉ ids (List.flatten [])) ∧ True) := by
 refine Does.enterL (vs := [.slice aa_2 na_2 ca_2, .int .u32 (p_3.toNat : Int), .slice aa_5 na_5 ca_5]) (l := [(0, .slice aa_2 na_2 ca_2), (1, .int .u32 (p_3.toNat : Int)), (2, .slice aa_5 na_5 ca_5)]) Try.func84 rfl rfl ⟨rfl, rfl, rfl, trivial⟩ (fun w hlt => ?_)
 unfold ref05_Turned at hx
 refine ZF (ZB (ZA rfl rfl (ZE rfl) (ZD (ZC (ZF (ZB (ZA rfl rfl (ZG rfl) (ZA rfl rfl (ZG rfl) (ZA rfl rfl (ZG rfl) (ZA rfl rfl (Zk U23 rfl (IsSlice.long ha_5)) ?_))))))))))
 obtain ⟨x_6, hr_7, hx⟩ := ZJ hx
 refine ZS (vs := [_, _, _]) (args := [_, _, _]) (K := []) (rst := []) E100 rfl rfl rfl ZI (ref05_Bytes_ok p_1 p_3 (p_4.length : Int) _ ha_2 _ hr_7) rfl (fun u_8 Ku_8 Hu_8 hRu_8 hleu_8 hfu_8 => ?_)
 obtain ⟨az_9, nz_9, cz_9, rfl, rfl, hz_9, -⟩ := hRu_8
 replace hz_9 := IsSlice.mono RU8.mono (New.call (Hle.refl _)) hz_9
 refine ZA rfl rfl (ZE rfl) (ZD (ZC (ZF (ZB (ZA rfl rfl (ZE rfl) (ZD (ZC (ZF (ZF (ZB (ZA rfl rfl (ZE rfl) ?_)))))))))))
 refine ZD (ZC ?_)
 obtain ⟨t_10, ht_12, hx⟩ := ZJ hx
 refine Z4 (fun l o g => ∃ ar_17 : Option Addr, ∃ nr_17 : Nat, ∃ cr_17 : Nat, ∃ Kr_17 : Own, l = [(8, .slice ar_17 nr_17 cr_17)] ∧ o = [Kr_17] ∧ Hu_8 = g ∧ RowOf (New H Hu_8) RU8 w.heap.size 5 1 (.slice ar_17 nr_17 cr_17) t_10 Kr_17) ?_ ?_
 ·
  rintro _ _ _ ⟨ar_17, nr_17, cr_17, Kr_17, rfl, rfl, rfl, hr_17⟩
  refine ZC (ZF (ZB (ZA rfl rfl (ZG rfl) (ZA rfl rfl (ZE rfl) (ZD (ZC (ZT (ZR (vs := [.slice ar_17 nr_17 cr_17]) (K := [_]) (rst := []) (.inl rfl) rfl rfl (ZN rfl rfl) (ZK 0 rfl ZI) ?_))))))))
  obtain rfl := Option.some.inj hx
  exact ⟨ar_17, nr_17, cr_17, Kr_17, rfl, rfl, (Zg (Nat.zero_le _) hr_17), (Zx hr_17 hlt), trivial⟩
 ·
  have hxo_11 := hx; clear hx; have hx := ht_12; clear ht_12
  refine JC.block (JC.seg0 (Z2 (fun n l o g => ∃ s_13 : List UInt8 × Nat, ∃ ar_16 : Option Addr, ∃ nr_16 : Nat, ∃ cr_16 : Nat, ∃ Kr_16 : Own, l = [(2, .slice aa_5 na_5 ca_5), (7, .slice az_9 nz_9 cz_9), (8, .slice ar_16 nr_16 cr_16), (9, .int .i64 ((s_13.2 : Nat) : Int))] ∧ o = [Kr_16] ∧ Hu_8 = g ∧ run (ref05_Turned_l1 p_4 x_6) n s_13 = some t_10 ∧ RowOf (New H Hu_8) RU8 w.heap.size 5 1 (.slice ar_16 nr_16 cr_16) s_13.1 Kr_16) FUEL ?_ ⟨(([] : List UInt8), 0), none, 0, 0, [], rfl, rfl, rfl, hx, (ZU _ _ _ _ _)⟩ ⟨rfl, rfl, rfl, rfl, trivial⟩ ?_))
  ·
   rintro _ _ _ ⟨s_13, ar_16, nr_16, cr_16, Kr_16, rfl, rfl, rfl, hn_14, hr_16⟩
   exact Zz hn_14
  ·
   rintro n_15 _ _ _ ⟨s_13, ar_16, nr_16, cr_16, Kr_16, rfl, rfl, rfl, hn_14, hr_16⟩
   clear hx; obtain ⟨oo_18, hx, hd_17⟩ := Z0 hn_14
   unfold ref05_Turned_l1 at hx
   refine ZF (ZF (ZB (ZA rfl rfl (ZG rfl) (ZA rfl rfl (ZG rfl) (ZA rfl rfl (Zk U23 rfl (IsSlice.long ha_5)) (ZA rfl rfl (Zy rfl rfl) (ZD (ZC (ZW rfl (fun c_17 => ?_) (fun c_17 => ?_))))))))))
   ·
    replace hx := ZX c_17 hx
    refine JC.skip (ZC (ZF (JC.block (JC.drawB (so := [(_, [11])]) 13 rfl Mixed ⟨by kernel_rfl, by kernel_rfl⟩ (kept0 [0] rfl) ?_))))
    refine JB.val (i := 0) [] rfl (ZG rfl) ?_
    refine JB.val (i := 1) [] rfl (ZG rfl) ?_
    refine JB.val (i := 2) [] rfl (ZG rfl) ?_
    obtain ⟨y_18, hN_19, hx⟩ := Zq hx
    obtain ⟨b_20, o_21, cs_22, hE_23, hR_24, hl_25, hc_26⟩ := IsSlice.elem (ha_5.mono RU8.mono hleu_8) hN_19
    obtain rfl := hR_24
    refine JB.val (i := 3) [] rfl (R.ix U23 S5 rfl rfl hE_23) ?_
    refine JB.val (i := 4) [] rfl (R.ldH S5 rfl (hc_26 0 _ rfl)) ?_
    refine JB.val (i := 5) [] rfl (ZG rfl) ?_
    refine JB.val (i := 6) [] rfl (ZG rfl) ?_
    obtain ⟨y_27, hN_28, hx⟩ := Zq hx
    obtain ⟨b_29, o_30, cs_31, hE_32, hR_33, hl_34, hc_35⟩ := IsSlice.elem hz_9 hN_28
    obtain rfl := hR_33
    refine JB.val (i := 7) [] rfl (R.ix U23 S5 rfl rfl hE_32) ?_
    refine JB.val (i := 8) [] rfl (R.ldH S5 rfl ((fun j u e => New.le _ _ _ _ _ (hc_35 j u e)) 0 _ rfl)) ?_
    refine JB.val (i := 9) [] rfl (R.xor8 (a := y_18) (b := y_27) rfl rfl) ?_
    refine JB.one (i := 10) (by kernel_rfl) ?_
    refine JOB.step rfl trivial rfl (fun K hK => JL.bslF (HF := (New H Hu_8)) (R := RU8) (ls := [y_18 ^^^ y_27]) (vs := [.int .u8 ((y_18 ^^^ y_27).toNat : Int)]) U23 I5 rfl rfl (⟨_, _, rfl, rfl, rfl, rfl⟩) RU8.one rfl rfl rfl (by simp [maxLen]) rfl (fun vr_36 Kr_36 hr_36 => ?_))
    obtain ⟨ar_36, cr_36, rfl⟩ := RowOf.val hr_36
    refine ZD (hK _ _ _ (Hle.refl _) (kept0 [1] rfl) ?_)
    refine JB.one (i := 11) (by kernel_rfl) ?_
    refine JOB.step rfl trivial rfl (fun K hK => ?_)
    obtain ⟨q_37, hm_38, hl_39, hx⟩ := Z6 hx
    refine YC (HF := (New H Hu_8)) 1 U23 I5 rfl rfl hr_16 rfl (SrcF.row 0 U23 rfl hr_36) hm_38 hl_39 rfl (Nat.le_refl _) rfl (fun vr_40 Kr_40 hr_40 => ?_)
    obtain ⟨ar_40, cr_40, rfl⟩ := RowOf.val hr_40
    refine ZD (hK _ _ _ (Hle.refl _) (kept1 [true] [0] (by kernel_rfl) rfl) ?_)
    refine JB.val (i := 12) [] rfl (ZE rfl) ?_
    refine JB.doneN (by kernel_rfl) ?_
    refine Zo (ZC (ZB (ZA rfl rfl (ZG rfl) (ZA rfl rfl (R.inc rfl rfl (of_decide_eq_true c_17) (IsSlice.lenI ha_5)) (ZA rfl rfl (ZE rfl) (ZD ?_))))))
    replace hx := Zp hd_17 hx
    refine JN.forget 0 ?_
    exact Za ⟨(q_37, s_13.2 + 1), ar_40, q_37.length, cr_40, Kr_40, rfl, rfl, rfl, hx, hr_40⟩ ⟨rfl, rfl, rfl, rfl, trivial⟩ rfl rfl
   ·
    replace hx := ZY c_17 hx
    refine Z1 (Zc ?_)
    obtain rfl := Zv hd_17 hx
    refine Zc (Zi ?_)
    exact Za ⟨ar_16, nr_16, cr_16, Kr_16, rfl, rfl, rfl, hr_16⟩ ⟨rfl, trivial⟩ rfl rfl

set_option maxHeartbeats 8000000 in
theorem ref03_Inner_ok (p_1 : List UInt8) (p_3 : List UInt8) (H : Heaplet) {aa_2 : Option Addr} {na_2 : Nat} {ca_2 : Nat} {aa_4 : Option Addr} {na_4 : Nat} {ca_4 : Nat} (ha_2 : IsSlice H RU8 1 (.slice aa_2 na_2 ca_2) p_1) (ha_4 : IsSlice H RU8 1 (.slice aa_4 na_4 ca_4) p_3) (r : List UInt8) (hx : ref03_Inner p_1 p_3 = some r) :
  Does Try.prog 113 #[.slice aa_2 na_2 ca_2, .slice aa_4 na_4 ca_4] [] H (fun u K' H' => ∃ ao0 : Option Addr, ∃ n0 : Nat, ∃ cap0 : Nat, ∃ K0 : Own, u = .slice ao0 n0 cap0 ∧ K' = [K0] ∧ H = H' ∧ RowOf (New H H) RU8 0 5 1 (.slice ao0 n0 cap0) r K0 ∧ (∀ p ∈ K0, p.1 ∉ ids (List.flatten [])) ∧ True) := by
 refine Does.enterL (vs := [.slice aa_2 na_2 ca_2, .slice aa_4 na_4 ca_4]) (l := [(0, .slice aa_2 na_2 ca_2), (1, .slice aa_4 na_4 ca_4)]) Try.func113 rfl rfl ⟨rfl, rfl, trivial⟩ (fun w hlt => ?_)
 unfold ref03_Inner at hx
 refine ZF (ZB (ZA rfl rfl (ZE rfl) (ZD (ZC (ZF (ZB (ZA rfl rfl (ZE rfl) (ZD (ZC (ZF (ZB ?_)))))))))))
 refine ZA rfl rfl (ZG rfl) (ZA rfl rfl (ZG rfl) (JL.seg0 ?_))
 obtain ⟨q_6, hm_7, hl_8, hx⟩ := Z6 hx
 refine YC (HF := (New H H)) 0 U23 I5 rfl rfl (ZU _ RU8 _ _ _) rfl (SrcF.sliceC RU8.const RU8.one U23 ha_2) hm_7 hl_8 rfl (Nat.le_refl _) rfl (fun vr_9 Kr_9 hr_9 => ?_)
 obtain ⟨ar_9, cr_9, rfl⟩ := RowOf.val hr_9
 refine ZA rfl rfl (ZE rfl) (ZD (ZC (ZF (ZB (ZA rfl rfl (ZG rfl) (JL.bslF (HF := (New H H)) (R := RU8) (ls := [(1 : UInt8)]) (vs := [.int .u8 ((1 : UInt8).toNat : Int)]) U23 I5 rfl rfl (⟨_, _, rfl, rfl, rfl, rfl⟩) RU8.one rfl rfl rfl (by simp [maxLen]) rfl (fun vr_10 Kr_10 hr_10 => ?_)))))))
 obtain ⟨ar_10, cr_10, rfl⟩ := RowOf.val hr_10
 obtain ⟨q_11, hm_12, hl_13, hx⟩ := Z6 hx
 refine YC (HF := (New H H)) 1 U23 I5 rfl rfl hr_9 rfl (SrcF.row 0 U23 rfl hr_10) hm_12 hl_13 rfl (Nat.le_refl _) rfl (fun vr_14 Kr_14 hr_14 => ?_)
 obtain ⟨ar_14, cr_14, rfl⟩ := RowOf.val hr_14
 refine ZA rfl rfl (ZE rfl) (ZD (ZC (ZF (ZB (ZA rfl rfl (ZG rfl) (ZA rfl rfl (ZG rfl) ?_))))))
 obtain ⟨q_15, hm_16, hl_17, hx⟩ := Z6 hx
 refine YC (HF := (New H H)) 1 U23 I5 rfl rfl hr_14 rfl (SrcF.sliceC RU8.const RU8.one U23 ha_4) hm_16 hl_17 rfl (Nat.le_refl _) rfl (fun vr_18 Kr_18 hr_18 => ?_)
 obtain ⟨ar_18, cr_18, rfl⟩ := RowOf.val hr_18
 refine ZA rfl rfl (ZE rfl) (ZD (ZC (ZF (ZB (ZA rfl rfl (ZG rfl) ?_)))))
 obtain ⟨x_22, hr_23, hx⟩ := ZJ hx
 refine JL.callL3 (vs := [_]) E112 rfl rfl (fun H_21 hle_20 hl_19 => ref02_Key_ok q_15 _ (Lent.row' 1 hl_19 RU8.mono hle_20 rfl (hr_18.old RU8.mono)) _ hr_23) rfl (fun _ _ _ _ hR_25 hf_26 => ?_)
 obtain ⟨ar_24, nr_24, cr_24, Kr_24, rfl, rfl, rfl, hr_24, -, -⟩ := hR_25
 replace hr_24 := RowOf.base (Zf (H2 := New H H) RU8.const hr_24) (fun p hp => hf_26 p (Zh 0 rfl hp))
 refine ZA rfl rfl (ZE rfl) (ZD (ZC (ZT (ZR (vs := [.slice ar_24 nr_24 cr_24]) (K := [_]) (rst := [_, _]) (.inl rfl) rfl rfl (ZN rfl rfl) (ZK 0 rfl ZI) ?_))))
 obtain rfl := Option.some.inj hx
 exact ⟨ar_24, nr_24, cr_24, Kr_24, rfl, rfl, rfl, (Zg (Nat.zero_le _) hr_24), (Zx hr_24 hlt), trivial⟩

set_option maxHeartbeats 8000000 in
theorem ref03_Of_ok (p_1 : List UInt8) (p_3 : List UInt8) (H : Heaplet) {aa_2 : Option Addr} {na_2 : Nat} {ca_2 : Nat} {aa_4 : Option Addr} {na_4 : Nat} {ca_4 : Nat} (ha_2 : IsSlice H RU8 1 (.slice aa_2 na_2 ca_2) p_1) (ha_4 : IsSlice H RU8 1 (.slice aa_4 na_4 ca_4) p_3) (r : UInt32) (hx : ref03_Of p_1 p_3 = some r) :
  Does Try.prog 101 #[.slice aa_2 na_2 ca_2, .slice aa_4 na_4 ca_4] [] H (fun u K' H' => u = .int .u32 (r.toNat : Int) ∧ K' = [] ∧ H = H' ∧ True) := by
 refine Does.enterL (vs := [.slice aa_2 na_2 ca_2, .slice aa_4 na_4 ca_4]) (l := [(0, .slice aa_2 na_2 ca_2), (1, .slice aa_4 na_4 ca_4)]) Try.func101 rfl rfl ⟨rfl, rfl, trivial⟩ (fun w hlt => ?_)
 unfold ref03_Of at hx
 refine ZF (ZB (ZA rfl rfl (ZE rfl) (ZD (ZC (ZF (ZB (ZA rfl rfl (ZE rfl) (ZD (ZC (ZF (ZB ?_)))))))))))
 refine ZA rfl rfl (ZG rfl) (ZA rfl rfl (ZG rfl) (JL.seg0 ?_))
 obtain ⟨q_6, hm_7, hl_8, hx⟩ := Z6 hx
 refine YC (HF := (New H H)) 0 U23 I5 rfl rfl (ZU _ RU8 _ _ _) rfl (SrcF.sliceC RU8.const RU8.one U23 ha_2) hm_7 hl_8 rfl (Nat.le_refl _) rfl (fun vr_9 Kr_9 hr_9 => ?_)
 obtain ⟨ar_9, cr_9, rfl⟩ := RowOf.val hr_9
 refine ZA rfl rfl (ZE rfl) (ZD (ZC (ZF (ZB (ZA rfl rfl (ZG rfl) (JL.bslF (HF := (New H H)) (R := RU8) (ls := [(2 : UInt8)]) (vs := [.int .u8 ((2 : UInt8).toNat : Int)]) U23 I5 rfl rfl (⟨_, _, rfl, rfl, rfl, rfl⟩) RU8.one rfl rfl rfl (by simp [maxLen]) rfl (fun vr_10 Kr_10 hr_10 => ?_)))))))
 obtain ⟨ar_10, cr_10, rfl⟩ := RowOf.val hr_10
 obtain ⟨q_11, hm_12, hl_13, hx⟩ := Z6 hx
 refine YC (HF := (New H H)) 1 U23 I5 rfl rfl hr_9 rfl (SrcF.row 0 U23 rfl hr_10) hm_12 hl_13 rfl (Nat.le_refl _) rfl (fun vr_14 Kr_14 hr_14 => ?_)
 obtain ⟨ar_14, cr_14, rfl⟩ := RowOf.val hr_14
 refine ZA rfl rfl (ZE rfl) (ZD (ZC (ZF (ZB (ZA rfl rfl (ZG rfl) (ZA rfl rfl (ZG rfl) (ZA rfl rfl (ZG rfl) ?_)))))))
 obtain ⟨x_15, hr_16, hx⟩ := ZJ hx
 refine ZS (vs := [_, _]) (args := [_, _]) (K := []) (rst := [_, _]) E113 rfl rfl rfl ZI (ref03_Inner_ok p_1 p_3 _ ha_2 ha_4 _ hr_16) rfl (fun u_17 Ku_17 Hu_17 hRu_17 hleu_17 hfu_17 => ?_)
 obtain ⟨ar_18, nr_18, cr_18, Kr_18, rfl, rfl, rfl, hr_18, hnewr_18, -⟩ := hRu_17
 replace hr_18 := (RowOf.base (Zf (H2 := New H H) RU8.const hr_18) (fun p hp => (hfu_17 p (Zh 0 rfl hp)).resolve_left (hnewr_18 p hp)))
 obtain ⟨q_19, hm_20, hl_21, hx⟩ := Z6 hx
 refine YC (HF := (New H H)) 2 U23 I5 rfl rfl hr_14 rfl (SrcF.row 0 U23 rfl hr_18) hm_20 hl_21 rfl (Nat.le_refl _) rfl (fun vr_22 Kr_22 hr_22 => ?_)
 obtain ⟨ar_22, cr_22, rfl⟩ := RowOf.val hr_22
 refine ZA rfl rfl (ZE rfl) (ZD (ZC (ZF (ZB (ZA rfl rfl (ZG rfl) ?_)))))
 obtain ⟨x_26, hr_27, hx⟩ := ZJ hx
 refine JL.callL2 (vs := [_]) (v := .int .u32 (x_26.toNat : Int)) E63 rfl rfl (fun H_25 hle_24 hl_23 => Does.mono (ref02_Sum_ok q_19 _ (Lent.row' 2 hl_23 RU8.mono hle_24 rfl (hr_22.old RU8.mono)) _ hr_27) (fun _ _ _ h => h.1)) rfl (ZA rfl rfl (ZE rfl) (ZD (ZC (ZT (ZR (vs := [.int .u32 (x_26.toNat : Int)]) (K := []) (rst := [_, _, _]) (.inl rfl) rfl rfl (ZN rfl rfl) ZI ?_)))))
 obtain rfl := Option.some.inj hx
 exact ⟨rfl, rfl, rfl, trivial⟩

set_option maxHeartbeats 8000000 in
theorem ref06_Tag_ok (p_1 : List UInt8) (p_3 : UInt32) (p_4 : List UInt8) (H : Heaplet) {aa_2 : Option Addr} {na_2 : Nat} {ca_2 : Nat} {aa_5 : Option Addr} {na_5 : Nat} {ca_5 : Nat} (ha_2 : IsSlice H RU8 1 (.slice aa_2 na_2 ca_2) p_1) (ha_5 : IsSlice H RU8 1 (.slice aa_5 na_5 ca_5) p_4) (r : UInt32) (hx : ref06_Tag p_1 p_3 p_4 = some r) :
  Does Try.prog 85 #[.slice aa_2 na_2 ca_2, .int .u32 (p_3.toNat : Int), .slice aa_5 na_5 ca_5] [] H (fun u K' H' => u = .int .u32 (r.toNat : Int) ∧ K' = [] ∧ H = H' ∧ True) := by
 refine Does.enterL (vs := [.slice aa_2 na_2 ca_2, .int .u32 (p_3.toNat : Int), .slice aa_5 na_5 ca_5]) (l := [(0, .slice aa_2 na_2 ca_2), (1, .int .u32 (p_3.toNat : Int)), (2, .slice aa_5 na_5 ca_5)]) Try.func85 rfl rfl ⟨rfl, rfl, rfl, trivial⟩ (fun w hlt => ?_)
 unfold ref06_Tag at hx
 refine ZF (ZB (ZA rfl rfl (ZE rfl) (ZD (ZC (ZF (ZB (ZA rfl rfl (ZG rfl) (ZA rfl rfl (R.cv_u32_i64 (a := p_3) U22 U3 rfl) ?_))))))))
 obtain ⟨x_6, hr_7, hx⟩ := ZJ hx
 refine ZS (vs := [_, _]) (args := [_, _]) (K := []) (rst := []) E47 rfl rfl rfl ZI (ref01_Bytes_ok (p_3.toNat : Int) 4 _ _ hr_7) rfl (fun u_8 Ku_8 Hu_8 hRu_8 hleu_8 hfu_8 => ?_)
 obtain ⟨ar_9, nr_9, cr_9, Kr_9, rfl, rfl, rfl, hr_9, hnewr_9, -⟩ := hRu_8
 replace hr_9 := (RowOf.base (Zf (H2 := New H H) RU8.const hr_9) (fun p hp => (hfu_8 p (Zh 0 rfl hp)).resolve_left (hnewr_9 p hp)))
 refine ZA rfl rfl (ZE rfl) (ZD (ZC (ZF (ZB (ZA rfl rfl (ZG rfl) (ZA rfl rfl (ZG rfl) (ZA rfl rfl (ZG rfl) ?_)))))))
 obtain ⟨q_10, hm_11, hl_12, hx⟩ := Z6 hx
 refine YC (HF := (New H H)) 0 U23 I5 rfl rfl hr_9 rfl (SrcF.sliceC RU8.const RU8.one U23 ha_5) hm_11 hl_12 rfl (Nat.le_refl _) rfl (fun vr_13 Kr_13 hr_13 => ?_)
 obtain ⟨ar_13, cr_13, rfl⟩ := RowOf.val hr_13
 obtain ⟨x_17, hr_18, hx⟩ := ZJ hx
 refine JL.callL2 (vs := [_, _]) (v := .int .u32 (x_17.toNat : Int)) E101 rfl rfl (fun H_16 hle_15 hl_14 => Does.mono (ref03_Of_ok p_1 q_10 _ (IsSlice.mono RU8.mono hle_15 ha_2) (Lent.row' 0 hl_14 RU8.mono hle_15 rfl (hr_13.old RU8.mono)) _ hr_18) (fun _ _ _ h => h.1)) rfl (ZA rfl rfl (ZE rfl) (ZD (ZC (ZT (ZR (vs := [.int .u32 (x_17.toNat : Int)]) (K := []) (rst := [_]) (.inl rfl) rfl rfl (ZN rfl rfl) ZI ?_)))))
 obtain rfl := Option.some.inj hx
 exact ⟨rfl, rfl, rfl, trivial⟩

set_option maxHeartbeats 8000000 in
theorem ref06_Seal_ok (p_1 : List UInt8) (p_3 : UInt32) (p_4 : List UInt8) (H : Heaplet) {aa_2 : Option Addr} {na_2 : Nat} {ca_2 : Nat} {aa_5 : Option Addr} {na_5 : Nat} {ca_5 : Nat} (ha_2 : IsSlice H RU8 1 (.slice aa_2 na_2 ca_2) p_1) (ha_5 : IsSlice H RU8 1 (.slice aa_5 na_5 ca_5) p_4) (r : List UInt8 × UInt32 × Int) (hx : ref06_Seal p_1 p_3 p_4 = some r) :
  Does Try.prog 59 #[.slice aa_2 na_2 ca_2, .int .u32 (p_3.toNat : Int), .slice aa_5 na_5 ca_5] [] H (fun u K' H' => ∃ ao0 : Option Addr, ∃ n0 : Nat, ∃ cap0 : Nat, ∃ K0 : Own, u = .tuple #[.slice ao0 n0 cap0, .int .u32 (r.2.1.toNat : Int), .int .i64 r.2.2] ∧ K' = [K0] ∧ RowOf (New H H') RU8 0 5 1 (.slice ao0 n0 cap0) r.1 K0 ∧ (∀ p ∈ K0, p.1 ∉ ids (List.flatten [])) ∧ True) := by
 refine Does.enterL (vs := [.slice aa_2 na_2 ca_2, .int .u32 (p_3.toNat : Int), .slice aa_5 na_5 ca_5]) (l := [(0, .slice aa_2 na_2 ca_2), (1, .int .u32 (p_3.toNat : Int)), (2, .slice aa_5 na_5 ca_5)]) Try.func59 rfl rfl ⟨rfl, rfl, rfl, trivial⟩ (fun w hlt => ?_)
 unfold ref06_Seal at hx
 refine ZF (ZB (ZA rfl rfl (ZE rfl) (ZA rfl rfl (ZE rfl) (ZA rfl rfl (ZE rfl) (ZD (ZC (ZF (ZB (ZA rfl rfl (ZG rfl) (ZA rfl rfl (ZG rfl) ?_))))))))))
 obtain ⟨x_6, hr_7, hx⟩ := ZJ hx
 refine ZS (vs := [_, _]) (args := [_, _]) (K := []) (rst := []) E83 rfl rfl rfl ZI (ref06_asked_ok p_1 p_4 _ ha_2 ha_5 _ hr_7) rfl (fun u_8 Ku_8 Hu_8 hRu_8 hleu_8 hfu_8 => ?_)
 obtain ⟨rfl, rfl, rfl, -⟩ := hRu_8
 refine ZA rfl rfl (ZE rfl) (ZD (ZC (ZF (ZF (ZB (ZA rfl rfl (ZG rfl) (ZA rfl rfl (YA rfl rfl) (ZD (ZC (ZW rfl (fun c_9 => ?_) (fun c_9 => ?_)))))))))))
 ·
  replace hx := ZX c_9 hx
  refine ZF (ZB (ZA rfl rfl (ZG rfl) (ZA rfl rfl (ZE rfl) (ZA rfl rfl (ZE rfl) (ZA rfl rfl (ZE rfl) (ZD (ZC (ZT (ZV (Zl (ZR (vs := [.slice none 0 0, .int .u32 ((0 : UInt32).toNat : Int), .int .i64 x_6]) (K := [_]) (rst := []) (.inl rfl) rfl rfl (ZN rfl (ZN rfl (ZN rfl rfl))) (ZK 0 rfl ZI) ?_)))))))))))
  obtain rfl := Option.some.inj hx
  exact ⟨none, 0, 0, [], rfl, rfl, (ZU _ _ _ _ _), (fun p hp => by cases hp), trivial⟩
 ·
  replace hx := ZY c_9 hx
  refine JC.skip (ZC (ZF (ZB (ZA rfl rfl (ZG rfl) (ZA rfl rfl (ZG rfl) (ZA rfl rfl (ZG rfl) ?_))))))
  obtain ⟨x_10, hr_11, hx⟩ := ZJ hx
  refine ZS (vs := [_, _, _]) (args := [_, _, _]) (K := []) (rst := []) E84 rfl rfl rfl ZI (ref05_Turned_ok p_1 p_3 p_4 _ ha_2 ha_5 _ hr_11) rfl (fun u_12 Ku_12 Hu_12 hRu_12 hleu_12 hfu_12 => ?_)
  obtain ⟨ar_13, nr_13, cr_13, Kr_13, rfl, rfl, hr_13, hnewr_13, -⟩ := hRu_12
  replace hr_13 := (RowOf.base (Zf (H2 := New H Hu_12) RU8.const hr_13) (fun p hp => (hfu_12 p (Zh 0 rfl hp)).resolve_left (hnewr_13 p hp)))
  refine ZA rfl rfl (ZE rfl) (ZD (ZC (ZF (ZB (ZA rfl rfl (ZG rfl) (ZA rfl rfl (ZG rfl) (ZA rfl rfl (ZG rfl) (ZA rfl rfl (ZG rfl) ?_))))))))
  obtain ⟨x_17, hr_18, hx⟩ := ZJ hx
  refine JL.callL2 (vs := [_, _, _]) (v := .int .u32 (x_17.toNat : Int)) E85 rfl rfl (fun H_16 hle_15 hl_14 => Does.mono (ref06_Tag_ok p_1 p_3 x_10 _ (IsSlice.mono RU8.mono hle_15 (ha_2.mono RU8.mono hleu_12)) (Lent.row' 0 hl_14 RU8.mono hle_15 rfl (hr_13.old RU8.mono)) _ hr_18) (fun _ _ _ h => h.1)) rfl (ZA rfl rfl (ZE rfl) (ZA rfl rfl (ZE rfl) (ZA rfl rfl (ZE rfl) (ZD (ZC (ZT (ZR (vs := [.slice ar_13 nr_13 cr_13, .int .u32 (x_17.toNat : Int), .int .i64 0]) (K := [_]) (rst := []) (.inl rfl) rfl rfl (ZN rfl (ZN rfl (ZN rfl rfl))) (ZK 0 rfl ZI) ?_)))))))
  obtain rfl := Option.some.inj hx
  exact ⟨ar_13, nr_13, cr_13, Kr_13, rfl, rfl, (Zg (Nat.zero_le _) hr_13), (Zx hr_13 hlt), trivial⟩

set_option maxHeartbeats 8000000 in
theorem ref13_Sealed_ok (p_1 : Store) (p_5 : UInt32) (p_6 : List UInt8) (p_8 : List UInt8) (H : Heaplet) {aa_2 : Option Addr} {na_2 : Nat} {ca_2 : Nat} {aa_3 : Option Addr} {na_3 : Nat} {ca_3 : Nat} {aa_4 : Option Addr} {na_4 : Nat} {ca_4 : Nat} {aa_7 : Option Addr} {na_7 : Nat} {ca_7 : Nat} {aa_9 : Option Addr} {na_9 : Nat} {ca_9 : Nat} (ha_2 : IsSlice H (RSl RU8 1) 1 (.slice aa_2 na_2 ca_2) p_1.Disk.Blocks) (ha_3 : IsSlice H R_Write 2 (.slice aa_3 na_3 ca_3) p_1.Disk.Waits) (ha_4 : IsSlice H RU8 1 (.slice aa_4 na_4 ca_4) p_1.Space) (ha_7 : IsSlice H RU8 1 (.slice aa_7 na_7 ca_7) p_6) (ha_9 : IsSlice H RU8 1 (.slice aa_9 na_9 ca_9) p_8) (r : Store × Ptr × Int) (hx : ref13_Sealed p_1 p_5 p_6 p_8 = some r) :
  Does Try.prog 36 #[.agg #[.slice aa_2 na_2 ca_2, .slice aa_3 na_3 ca_3, .slice aa_4 na_4 ca_4, .int .u32 (p_1.Epoch.toNat : Int), .int .u32 (p_1.Count.toNat : Int)], .int .u32 (p_5.toNat : Int), .slice aa_7 na_7 ca_7, .slice aa_9 na_9 ca_9] [] H (fun u K' H' => ∃ ao0 : Option Addr, ∃ n0 : Nat, ∃ cap0 : Nat, ∃ K0 : Own, ∃ ao1 : Option Addr, ∃ n1 : Nat, ∃ cap1 : Nat, ∃ K1 : Own, ∃ ao2 : Option Addr, ∃ n2 : Nat, ∃ cap2 : Nat, ∃ K2 : Own, u = .tuple #[.agg #[.slice ao0 n0 cap0, .slice ao1 n1 cap1, .slice ao2 n2 cap2, .int .u32 (r.1.Epoch.toNat : Int), .int .u32 (r.1.Count.toNat : Int)], .agg #[.int .i64 r.2.1.At, .int .u32 (r.2.1.Birth.toNat : Int), .int .u32 (r.2.1.Iv.toNat : Int), .int .u32 (r.2.1.Tag.toNat : Int), .int .u32 (r.2.1.Sum.toNat : Int)], .int .i64 r.2.2] ∧ K' = [K0, K1, K2] ∧ RowOf (New H H') (RSl RU8 1) 0 23 1 (.slice ao0 n0 cap0) r.1.Disk.Blocks K0 ∧ (∀ p ∈ K0, p.1 ∉ ids (List.flatten [])) ∧ RowOf (New H H') R_Write 0 80 2 (.slice ao1 n1 cap1) r.1.Disk.Waits K1 ∧ (∀ p ∈ K1, p.1 ∉ ids (List.flatten [])) ∧ RowOf (New H H') RU8 0 5 1 (.slice ao2 n2 cap2) r.1.Space K2 ∧ (∀ p ∈ K2, p.1 ∉ ids (List.flatten [])) ∧ True) := by
 refine Does.enterL (vs := [.agg #[.slice aa_2 na_2 ca_2, .slice aa_3 na_3 ca_3, .slice aa_4 na_4 ca_4, .int .u32 (p_1.Epoch.toNat : Int), .int .u32 (p_1.Count.toNat : Int)], .int .u32 (p_5.toNat : Int), .slice aa_7 na_7 ca_7, .slice aa_9 na_9 ca_9]) (l := [(0, .agg #[.slice aa_2 na_2 ca_2, .slice aa_3 na_3 ca_3, .slice aa_4 na_4 ca_4, .int .u32 (p_1.Epoch.toNat : Int), .int .u32 (p_1.Count.toNat : Int)]), (1, .int .u32 (p_5.toNat : Int)), (2, .slice aa_7 na_7 ca_7), (3, .slice aa_9 na_9 ca_9)]) Try.func36 rfl rfl ⟨rfl, rfl, rfl, rfl, trivial⟩ (fun w hlt => ?_)
 unfold ref13_Sealed at hx
 refine ZF (ZB (YF rfl rfl (fun b_10 hb_10 => JL.alloc Z46 rfl (fun b_11 hb_11 => JL.alloc Z50 rfl (fun b_12 hb_12 => ZA rfl rfl (ZE rfl) (ZD (ZC (ZF (ZF (ZB (ZA rfl rfl (Zt F46_3 rfl) ?_)))))))))))
 refine ZA rfl rfl (Ze 2 S22 rfl rfl rfl) (ZA rfl rfl (R.geq32 (a := p_1.Count) (b := (65535 : UInt32)) rfl rfl) (ZD (ZC (ZW rfl (fun c_13 => ?_) (fun c_13 => ?_)))))
 ·
  replace hx := ZX c_13 hx
  refine ZF (ZB (ZA rfl rfl (Z7 (vs := []) (cs := [.slice none 0 0, .slice none 0 0, .slice none 0 0, .int .u32 ((0 : UInt32).toNat : Int), .int .u32 ((0 : UInt32).toNat : Int)]) Z46 B46 rfl rfl rfl) (ZA rfl rfl (Z7 (vs := []) (cs := [.int .i64 0, .int .u32 ((0 : UInt32).toNat : Int), .int .u32 ((0 : UInt32).toNat : Int), .int .u32 ((0 : UInt32).toNat : Int), .int .u32 ((0 : UInt32).toNat : Int)]) Z50 B50 rfl rfl rfl) (ZQ 1 S46 rfl rfl rfl rfl rfl (Nat.le_of_ble_eq_true rfl) (ZQ 0 S50 rfl rfl rfl rfl rfl (Nat.le_of_ble_eq_true rfl) (ZA rfl rfl (ZE rfl) (ZD (ZC (ZT (ZV (Zl ?_)))))))))))
  refine Zl (Zl (ZR (vs := [.agg #[.slice none 0 0, .slice none 0 0, .slice none 0 0, .int .u32 ((0 : UInt32).toNat : Int), .int .u32 ((0 : UInt32).toNat : Int)], .agg #[.int .i64 0, .int .u32 ((0 : UInt32).toNat : Int), .int .u32 ((0 : UInt32).toNat : Int), .int .u32 ((0 : UInt32).toNat : Int), .int .u32 ((0 : UInt32).toNat : Int)], .int .i64 132]) (K := [_, _, _]) (rst := [_, _, _]) (.inl rfl) rfl rfl (Zb 4 rfl rfl S46 (Zb 3 rfl rfl S50 (ZN rfl rfl))) (ZK 0 rfl (ZK 0 rfl (ZK 0 rfl ZI))) ?_))
  obtain rfl := Option.some.inj hx
  exact ⟨none, 0, 0, [], none, 0, 0, [], none, 0, 0, [], rfl, rfl, (ZU _ _ _ _ _), (fun p hp => by cases hp), (ZU _ _ _ _ _), (fun p hp => by cases hp), (ZU _ _ _ _ _), (fun p hp => by cases hp), trivial⟩
 ·
  replace hx := ZY c_13 hx
  refine JC.skip (ZC (ZF (ZB (ZA rfl rfl (Zt F46_3 rfl) (ZA rfl rfl (Ze 2 S22 rfl rfl rfl) (ZA rfl rfl (R.add32 (a := p_1.Count) (b := (1 : UInt32)) rfl rfl) (ZA rfl rfl (Zt F46_3 rfl) (ZQ 2 S22 rfl rfl rfl rfl rfl (Nat.le_of_ble_eq_true rfl) (ZD (ZC (ZF ?_)))))))))))
  refine ZB (ZA rfl rfl (Zt F46_2 rfl) (ZA rfl rfl (Ze 2 S22 rfl rfl rfl) (ZA rfl rfl (R.mul32 (a := p_1.Epoch) (b := (65536 : UInt32)) rfl rfl) (ZA rfl rfl (Zt F46_3 rfl) (ZA rfl rfl (Ze 2 S22 rfl rfl rfl) (ZA rfl rfl (R.add32 (a := p_1.Epoch * (65536 : UInt32)) (b := p_1.Count + (1 : UInt32)) rfl rfl) (ZA rfl rfl (ZE rfl) (ZD (ZC (ZF (ZB ?_)))))))))))
  refine ZA rfl rfl (ZG rfl) (ZA rfl rfl (ZG rfl) (ZA rfl rfl (ZG rfl) ?_))
  obtain ⟨x_14, hr_15, hx⟩ := ZJ hx
  refine ZS (vs := [_, _, _]) (args := [_, _, _]) (K := []) (rst := [_, _, _]) E59 rfl rfl rfl ZI (ref06_Seal_ok p_6 ((p_1.Epoch * (65536 : UInt32)) + (p_1.Count + (1 : UInt32))) p_8 _ ha_7 ha_9 _ hr_15) rfl (fun u_16 Ku_16 Hu_16 hRu_16 hleu_16 hfu_16 => ?_)
  obtain ⟨ar_17, nr_17, cr_17, Kr_17, rfl, rfl, hr_17, hnewr_17, -⟩ := hRu_16
  replace hr_17 := (RowOf.base (Zf (H2 := New H Hu_16) RU8.const hr_17) (fun p hp => (hfu_16 p (Zh 0 rfl hp)).resolve_left (hnewr_17 p hp)))
  refine ZA rfl rfl (ZG rfl) (ZA rfl rfl (R.extract rfl rfl) (ZA rfl rfl (R.extract rfl rfl) (ZA rfl rfl (R.extract rfl rfl) (ZA rfl rfl (ZE rfl) (ZA rfl rfl (ZE rfl) (ZA rfl rfl (ZE rfl) (ZD (ZC (ZF (ZB (ZA rfl rfl (Zu 3 (vs := [.slice aa_2 na_2 ca_2, .slice aa_3 na_3 ca_3, .slice aa_4 na_4 ca_4, .int .u32 (p_1.Epoch.toNat : Int), .int .u32 ((p_1.Count + (1 : UInt32)).toNat : Int)]) S46 rfl rfl rfl rfl) ?_)))))))))))
  refine ZA rfl rfl (ZG rfl) (ZA rfl rfl (ZG rfl) (ZA rfl rfl (ZG rfl) (ZA rfl rfl (ZG rfl) (JL.pubN 0 RU8.mono rfl hr_17 (Nat.le_refl _) (fun H_18 hleH_18 hsH_18 => JL.forget 0 ?_)))))
  obtain ⟨x_19, hr_20, hx⟩ := ZJ hx
  refine ZS (vs := [_, _, _, _, _]) (args := [_, _, _, _, _]) (K := []) (rst := [_, _, _]) E37 rfl rfl rfl ZI (ref13_Put_ok (Store.mk (Disk.mk p_1.Disk.Blocks p_1.Disk.Waits) p_1.Space p_1.Epoch (p_1.Count + (1 : UInt32))) p_5 ((p_1.Epoch * (65536 : UInt32)) + (p_1.Count + (1 : UInt32))) x_14.2.1 x_14.1 _ (ha_2.mono (RSl.mono RU8.mono) (hleu_16.trans hleH_18)) (ha_3.mono R_Write.mono (hleu_16.trans hleH_18)) (ha_4.mono RU8.mono (hleu_16.trans hleH_18)) (hsH_18.old RU8.mono) _ hr_20) rfl (fun u_21 Ku_21 Hu_21 hRu_21 hleu_21 hfu_21 => ?_)
  obtain ⟨ar_22, nr_22, cr_22, Kr_22, ar_23, nr_23, cr_23, Kr_23, ar_24, nr_24, cr_24, Kr_24, rfl, rfl, hr_22, hnewr_22, hr_23, hnewr_23, hr_24, hnewr_24, -⟩ := hRu_21
  replace hr_22 := (RowOf.base (RowOf.mono (RSl.mono RU8.mono) (New.call (hleu_16.trans hleH_18)) hr_22) (fun p hp => (hfu_21 p (Zh 0 rfl hp)).resolve_left (hnewr_22 p hp)))
  replace hr_23 := (RowOf.base (RowOf.mono R_Write.mono (New.call (hleu_16.trans hleH_18)) hr_23) (fun p hp => (hfu_21 p (Zh 1 rfl hp)).resolve_left (hnewr_23 p hp)))
  replace hr_24 := (RowOf.base (Zf (H2 := New H Hu_21) RU8.const hr_24) (fun p hp => (hfu_21 p (Zh 2 rfl hp)).resolve_left (hnewr_24 p hp)))
  refine ZA rfl rfl (ZG rfl) (ZA rfl rfl (R.extract rfl rfl) (ZA rfl rfl (R.extract rfl rfl) (ZA rfl rfl (R.extract rfl rfl) (JL.alloc Z46 rfl (fun b_25 hb_25 => JL.alloc Z50 rfl (fun b_26 hb_26 => ZQ 1 S46 rfl rfl rfl rfl rfl (Nat.le_of_ble_eq_true rfl) (ZQ 0 S50 rfl rfl rfl rfl rfl (Nat.le_of_ble_eq_true rfl) (ZA rfl rfl (ZE rfl) (ZD (ZC (JC.tidy (l' := [(8, .pointer (some ⟨b_11, 0, none⟩)), (9, .pointer (some ⟨b_12, 0, none⟩)), (10, .int .i64 0), (15, .pointer (some ⟨b_25, 0, none⟩)), (16, .pointer (some ⟨b_26, 0, none⟩)), (17, .bool x_19.2.2)]) (own' := [[(b_26, .cells #[.int .i64 x_19.2.1.At, .int .u32 (x_19.2.1.Birth.toNat : Int), .int .u32 (x_19.2.1.Iv.toNat : Int), .int .u32 (x_19.2.1.Tag.toNat : Int), .int .u32 (x_19.2.1.Sum.toNat : Int)] 50 (0, 0))], [(b_25, .cells #[.slice ar_22 nr_22 cr_22, .slice ar_23 nr_23 cr_23, .slice ar_24 nr_24 cr_24, .int .u32 (x_19.1.Epoch.toNat : Int), .int .u32 (x_19.1.Count.toNat : Int)] 46 (0, 0))], Kr_22, Kr_23, Kr_24, [(b_12, .cells #[.int .i64 0, .int .u32 ((0 : UInt32).toNat : Int), .int .u32 ((0 : UInt32).toNat : Int), .int .u32 ((0 : UInt32).toNat : Int), .int .u32 ((0 : UInt32).toNat : Int)] 50 (0, 0))], [(b_11, .cells #[.slice none 0 0, .slice none 0 0, .slice none 0 0, .int .u32 ((0 : UInt32).toNat : Int), .int .u32 ((0 : UInt32).toNat : Int)] 46 (0, 0))], [(b_10, .cells #[.slice aa_2 na_2 ca_2, .slice aa_3 na_3 ca_3, .slice aa_4 na_4 ca_4, .int .u32 (p_1.Epoch.toNat : Int), .int .u32 ((p_1.Count + (1 : UInt32)).toNat : Int)] 46 (0, 0))]]) ⟨rfl, rfl, rfl, rfl, rfl, rfl, trivial⟩ rfl ?_)))))))))))
  refine YD (l' := [(8, .pointer (some ⟨b_11, 0, none⟩)), (9, .pointer (some ⟨b_12, 0, none⟩)), (10, .int .i64 0), (15, .pointer (some ⟨b_25, 0, none⟩)), (16, .pointer (some ⟨b_26, 0, none⟩)), (17, .bool x_19.2.2)]) (own' := [[(b_26, .cells #[.int .i64 x_19.2.1.At, .int .u32 (x_19.2.1.Birth.toNat : Int), .int .u32 (x_19.2.1.Iv.toNat : Int), .int .u32 (x_19.2.1.Tag.toNat : Int), .int .u32 (x_19.2.1.Sum.toNat : Int)] 50 (0, 0))], [(b_25, .cells #[.slice ar_22 nr_22 cr_22, .slice ar_23 nr_23 cr_23, .slice ar_24 nr_24 cr_24, .int .u32 (x_19.1.Epoch.toNat : Int), .int .u32 (x_19.1.Count.toNat : Int)] 46 (0, 0))], Kr_22, Kr_23, Kr_24, [(b_12, .cells #[.int .i64 0, .int .u32 ((0 : UInt32).toNat : Int), .int .u32 ((0 : UInt32).toNat : Int), .int .u32 ((0 : UInt32).toNat : Int), .int .u32 ((0 : UInt32).toNat : Int)] 50 (0, 0))], [(b_11, .cells #[.slice none 0 0, .slice none 0 0, .slice none 0 0, .int .u32 ((0 : UInt32).toNat : Int), .int .u32 ((0 : UInt32).toNat : Int)] 46 (0, 0))]]) (rst := [_]) ⟨rfl, rfl, rfl, rfl, rfl, rfl, trivial⟩ (ZK 0 rfl (ZK 0 rfl (ZK 0 rfl (ZK 0 rfl (ZK 0 rfl (ZK 0 rfl (ZK 0 rfl ZI))))))) (ZF (ZF (ZB (ZA rfl rfl (ZG rfl) (ZA rfl rfl (R.not rfl) (ZD (ZC (ZW rfl (fun c_27 => ?_) (fun c_27 => ?_)))))))))
  ·
   replace hx := ZX c_27 hx
   refine ZF (ZB (ZA rfl rfl (Z7 (vs := []) (cs := [.slice none 0 0, .slice none 0 0, .slice none 0 0, .int .u32 ((0 : UInt32).toNat : Int), .int .u32 ((0 : UInt32).toNat : Int)]) Z46 B46 rfl rfl rfl) (ZA rfl rfl (Z7 (vs := []) (cs := [.int .i64 0, .int .u32 ((0 : UInt32).toNat : Int), .int .u32 ((0 : UInt32).toNat : Int), .int .u32 ((0 : UInt32).toNat : Int), .int .u32 ((0 : UInt32).toNat : Int)]) Z50 B50 rfl rfl rfl) (ZQ 6 S46 rfl rfl rfl rfl rfl (Nat.le_of_ble_eq_true rfl) (ZQ 5 S50 rfl rfl rfl rfl rfl (Nat.le_of_ble_eq_true rfl) (ZA rfl rfl (ZE rfl) (ZD (ZC (ZT (ZV (Zl ?_)))))))))))
   refine Zl (Zl (ZR (vs := [.agg #[.slice none 0 0, .slice none 0 0, .slice none 0 0, .int .u32 ((0 : UInt32).toNat : Int), .int .u32 ((0 : UInt32).toNat : Int)], .agg #[.int .i64 0, .int .u32 ((0 : UInt32).toNat : Int), .int .u32 ((0 : UInt32).toNat : Int), .int .u32 ((0 : UInt32).toNat : Int), .int .u32 ((0 : UInt32).toNat : Int)], .int .i64 9]) (K := [_, _, _]) (rst := [_, _, _, _, _, _, _]) (.inl rfl) rfl rfl (Zb 9 rfl rfl S46 (Zb 8 rfl rfl S50 (ZN rfl rfl))) (ZK 0 rfl (ZK 0 rfl (ZK 0 rfl ZI))) ?_))
   obtain rfl := Option.some.inj hx
   exact ⟨none, 0, 0, [], none, 0, 0, [], none, 0, 0, [], rfl, rfl, (ZU _ _ _ _ _), (fun p hp => by cases hp), (ZU _ _ _ _ _), (fun p hp => by cases hp), (ZU _ _ _ _ _), (fun p hp => by cases hp), trivial⟩
  ·
   replace hx := ZY c_27 hx
   refine JC.skip (ZC (ZF (JC.drawB (so := [(_, []), (_, []), (_, []), (_, []), (_, []), (_, [3]), (_, [2])]) 5 rfl Mixed ⟨by kernel_rfl, by kernel_rfl⟩ (kept0 [0, 1, 2, 3, 4, 5, 6] rfl) ?_)))
   refine JB.val (i := 0) [] rfl (Zu 1 (vs := [.slice ar_22 nr_22 cr_22, .slice ar_23 nr_23 cr_23, .slice ar_24 nr_24 cr_24, .int .u32 (x_19.1.Epoch.toNat : Int), .int .u32 (x_19.1.Count.toNat : Int)]) S46 rfl rfl rfl rfl) ?_
   refine JB.val (i := 1) [] rfl (Zu 0 (vs := [.int .i64 x_19.2.1.At, .int .u32 (x_19.2.1.Birth.toNat : Int), .int .u32 (x_19.2.1.Iv.toNat : Int), .int .u32 (x_19.2.1.Tag.toNat : Int), .int .u32 (x_19.2.1.Sum.toNat : Int)]) S50 rfl rfl rfl rfl) ?_
   refine JB.one (i := 2) (by kernel_rfl) ?_
   refine JOB.step rfl trivial rfl (fun K hK => ZQ 6 S46 rfl rfl rfl rfl rfl (Nat.le_of_ble_eq_true rfl) (ZD (hK _ _ _ (Hle.refl _) (kept1 [false, false, false, false, false, false, true] [0, 1, 2, 3, 4, 5, 0] (by kernel_rfl) rfl) ?_)))
   refine JB.one (i := 3) (by kernel_rfl) ?_
   refine JOB.step rfl trivial rfl (fun K hK => ZQ 5 S50 rfl rfl rfl rfl rfl (Nat.le_of_ble_eq_true rfl) (ZD (hK _ _ _ (Hle.refl _) (kept1 [false, false, false, false, false, true, true] [0, 1, 2, 3, 4, 0, 0] (by kernel_rfl) rfl) ?_)))
   refine JB.val (i := 4) [] rfl (ZE rfl) ?_
   refine JB.doneN (by kernel_rfl) ?_
   refine ZC (ZT (ZR (vs := [.agg #[.slice ar_22 nr_22 cr_22, .slice ar_23 nr_23 cr_23, .slice ar_24 nr_24 cr_24, .int .u32 (x_19.1.Epoch.toNat : Int), .int .u32 (x_19.1.Count.toNat : Int)], .agg #[.int .i64 x_19.2.1.At, .int .u32 (x_19.2.1.Birth.toNat : Int), .int .u32 (x_19.2.1.Iv.toNat : Int), .int .u32 (x_19.2.1.Tag.toNat : Int), .int .u32 (x_19.2.1.Sum.toNat : Int)], .int .i64 0]) (K := [_, _, _]) (rst := [_, _, _, _]) (.inl rfl) rfl rfl (Zb 6 rfl rfl S46 (Zb 5 rfl rfl S50 (ZN rfl rfl))) (ZK 2 rfl (ZK 2 rfl (ZK 2 rfl ZI))) ?_))
   obtain rfl := Option.some.inj hx
   exact ⟨ar_22, nr_22, cr_22, Kr_22, ar_23, nr_23, cr_23, Kr_23, ar_24, nr_24, cr_24, Kr_24, rfl, rfl, (Zg (Nat.zero_le _) hr_22), (Zx hr_22 hlt), (Zg (Nat.zero_le _) hr_23), (Zx hr_23 hlt), (Zg (Nat.zero_le _) hr_24), (Zx hr_24 hlt), trivial⟩

set_option maxHeartbeats 8000000 in
theorem ref13_Seal_ok (p_1 : Store) (p_5 : UInt32) (p_6 : List UInt8) (p_8 : List UInt8) (H : Heaplet) {aa_2 : Option Addr} {na_2 : Nat} {ca_2 : Nat} {aa_3 : Option Addr} {na_3 : Nat} {ca_3 : Nat} {aa_4 : Option Addr} {na_4 : Nat} {ca_4 : Nat} {aa_7 : Option Addr} {na_7 : Nat} {ca_7 : Nat} {aa_9 : Option Addr} {na_9 : Nat} {ca_9 : Nat} (ha_2 : IsSlice H (RSl RU8 1) 1 (.slice aa_2 na_2 ca_2) p_1.Disk.Blocks) (ha_3 : IsSlice H R_Write 2 (.slice aa_3 na_3 ca_3) p_1.Disk.Waits) (ha_4 : IsSlice H RU8 1 (.slice aa_4 na_4 ca_4) p_1.Space) (ha_7 : IsSlice H RU8 1 (.slice aa_7 na_7 ca_7) p_6) (ha_9 : IsSlice H RU8 1 (.slice aa_9 na_9 ca_9) p_8) (r : Store × Ptr × Int) (hx : ref13_Seal p_1 p_5 p_6 p_8 = some r) :
  Does Try.prog 16 #[.agg #[.slice aa_2 na_2 ca_2, .slice aa_3 na_3 ca_3, .slice aa_4 na_4 ca_4, .int .u32 (p_1.Epoch.toNat : Int), .int .u32 (p_1.Count.toNat : Int)], .int .u32 (p_5.toNat : Int), .slice aa_7 na_7 ca_7, .slice aa_9 na_9 ca_9] [] H (fun u K' H' => ∃ ao0 : Option Addr, ∃ n0 : Nat, ∃ cap0 : Nat, ∃ K0 : Own, ∃ ao1 : Option Addr, ∃ n1 : Nat, ∃ cap1 : Nat, ∃ K1 : Own, ∃ ao2 : Option Addr, ∃ n2 : Nat, ∃ cap2 : Nat, ∃ K2 : Own, u = .tuple #[.agg #[.slice ao0 n0 cap0, .slice ao1 n1 cap1, .slice ao2 n2 cap2, .int .u32 (r.1.Epoch.toNat : Int), .int .u32 (r.1.Count.toNat : Int)], .agg #[.int .i64 r.2.1.At, .int .u32 (r.2.1.Birth.toNat : Int), .int .u32 (r.2.1.Iv.toNat : Int), .int .u32 (r.2.1.Tag.toNat : Int), .int .u32 (r.2.1.Sum.toNat : Int)], .int .i64 r.2.2] ∧ K' = [K0, K1, K2] ∧ RowOf (New H H') (RSl RU8 1) 0 23 1 (.slice ao0 n0 cap0) r.1.Disk.Blocks K0 ∧ (∀ p ∈ K0, p.1 ∉ ids (List.flatten [])) ∧ RowOf (New H H') R_Write 0 80 2 (.slice ao1 n1 cap1) r.1.Disk.Waits K1 ∧ (∀ p ∈ K1, p.1 ∉ ids (List.flatten [])) ∧ RowOf (New H H') RU8 0 5 1 (.slice ao2 n2 cap2) r.1.Space K2 ∧ (∀ p ∈ K2, p.1 ∉ ids (List.flatten [])) ∧ True) := by
 refine Does.enterL (vs := [.agg #[.slice aa_2 na_2 ca_2, .slice aa_3 na_3 ca_3, .slice aa_4 na_4 ca_4, .int .u32 (p_1.Epoch.toNat : Int), .int .u32 (p_1.Count.toNat : Int)], .int .u32 (p_5.toNat : Int), .slice aa_7 na_7 ca_7, .slice aa_9 na_9 ca_9]) (l := [(0, .agg #[.slice aa_2 na_2 ca_2, .slice aa_3 na_3 ca_3, .slice aa_4 na_4 ca_4, .int .u32 (p_1.Epoch.toNat : Int), .int .u32 (p_1.Count.toNat : Int)]), (1, .int .u32 (p_5.toNat : Int)), (2, .slice aa_7 na_7 ca_7), (3, .slice aa_9 na_9 ca_9)]) Try.func16 rfl rfl ⟨rfl, rfl, rfl, rfl, trivial⟩ (fun w hlt => ?_)
 unfold ref13_Seal at hx
 refine ZF (ZB (YF rfl rfl (fun b_10 hb_10 => JL.alloc Z46 rfl (fun b_11 hb_11 => JL.alloc Z50 rfl (fun b_12 hb_12 => ZA rfl rfl (ZE rfl) (ZD (ZC (ZF (ZF (ZB (ZA rfl rfl (Zu 2 (vs := [.slice aa_2 na_2 ca_2, .slice aa_3 na_3 ca_3, .slice aa_4 na_4 ca_4, .int .u32 (p_1.Epoch.toNat : Int), .int .u32 (p_1.Count.toNat : Int)]) S46 rfl rfl rfl rfl) ?_)))))))))))
 obtain ⟨x_13, hr_14, hx⟩ := ZJ hx
 refine ZS (vs := [_]) (args := [_]) (K := []) (rst := [_, _, _]) E35 rfl rfl rfl ZI (ref13_May_ok p_1 _ ha_2 ha_3 ha_4 _ hr_14) rfl (fun u_15 Ku_15 Hu_15 hRu_15 hleu_15 hfu_15 => ?_)
 obtain ⟨rfl, rfl, rfl, -⟩ := hRu_15
 refine ZA rfl rfl (R.not rfl) (ZD (ZC (ZW rfl (fun c_16 => ?_) (fun c_16 => ?_))))
 ·
  replace hx := ZX c_16 hx
  refine ZF (ZB (ZA rfl rfl (Z7 (vs := []) (cs := [.slice none 0 0, .slice none 0 0, .slice none 0 0, .int .u32 ((0 : UInt32).toNat : Int), .int .u32 ((0 : UInt32).toNat : Int)]) Z46 B46 rfl rfl rfl) (ZA rfl rfl (Z7 (vs := []) (cs := [.int .i64 0, .int .u32 ((0 : UInt32).toNat : Int), .int .u32 ((0 : UInt32).toNat : Int), .int .u32 ((0 : UInt32).toNat : Int), .int .u32 ((0 : UInt32).toNat : Int)]) Z50 B50 rfl rfl rfl) (ZQ 1 S46 rfl rfl rfl rfl rfl (Nat.le_of_ble_eq_true rfl) (ZQ 0 S50 rfl rfl rfl rfl rfl (Nat.le_of_ble_eq_true rfl) (ZA rfl rfl (ZE rfl) (ZD (ZC (ZT (ZV (Zl ?_)))))))))))
  refine Zl (Zl (ZR (vs := [.agg #[.slice none 0 0, .slice none 0 0, .slice none 0 0, .int .u32 ((0 : UInt32).toNat : Int), .int .u32 ((0 : UInt32).toNat : Int)], .agg #[.int .i64 0, .int .u32 ((0 : UInt32).toNat : Int), .int .u32 ((0 : UInt32).toNat : Int), .int .u32 ((0 : UInt32).toNat : Int), .int .u32 ((0 : UInt32).toNat : Int)], .int .i64 8]) (K := [_, _, _]) (rst := [_, _, _]) (.inl rfl) rfl rfl (Zb 4 rfl rfl S46 (Zb 3 rfl rfl S50 (ZN rfl rfl))) (ZK 0 rfl (ZK 0 rfl (ZK 0 rfl ZI))) ?_))
  obtain rfl := Option.some.inj hx
  exact ⟨none, 0, 0, [], none, 0, 0, [], none, 0, 0, [], rfl, rfl, (ZU _ _ _ _ _), (fun p hp => by cases hp), (ZU _ _ _ _ _), (fun p hp => by cases hp), (ZU _ _ _ _ _), (fun p hp => by cases hp), trivial⟩
 ·
  replace hx := ZY c_16 hx
  refine JC.skip (ZC (ZF (ZF (ZB (ZA rfl rfl (ZG rfl) (ZA rfl rfl (R.lss32 (a := p_5) (b := (1 : UInt32)) rfl rfl) (ZA rfl rfl (ZG rfl) (Zj (t := 18) rfl (fun c_17 => ?_) (fun c_17 => ?_)))))))))
  ·
   replace hx := ZX c_17 hx
   refine ZH rfl rfl rfl rfl rfl (ZH rfl rfl rfl rfl rfl (ZA rfl rfl (Zd rfl rfl) (ZD (ZC (Z5 rfl (ZF (ZB (ZA rfl rfl (Z7 (vs := []) (cs := [.slice none 0 0, .slice none 0 0, .slice none 0 0, .int .u32 ((0 : UInt32).toNat : Int), .int .u32 ((0 : UInt32).toNat : Int)]) Z46 B46 rfl rfl rfl) (ZA rfl rfl (Z7 (vs := []) (cs := [.int .i64 0, .int .u32 ((0 : UInt32).toNat : Int), .int .u32 ((0 : UInt32).toNat : Int), .int .u32 ((0 : UInt32).toNat : Int), .int .u32 ((0 : UInt32).toNat : Int)]) Z50 B50 rfl rfl rfl) (ZQ 1 S46 rfl rfl rfl rfl rfl (Nat.le_of_ble_eq_true rfl) (ZQ 0 S50 rfl rfl rfl rfl rfl (Nat.le_of_ble_eq_true rfl) ?_)))))))))))
   refine ZA rfl rfl (ZE rfl) (ZD (ZC (ZT (ZV (Zl (Zl (Zl (ZR (vs := [.agg #[.slice none 0 0, .slice none 0 0, .slice none 0 0, .int .u32 ((0 : UInt32).toNat : Int), .int .u32 ((0 : UInt32).toNat : Int)], .agg #[.int .i64 0, .int .u32 ((0 : UInt32).toNat : Int), .int .u32 ((0 : UInt32).toNat : Int), .int .u32 ((0 : UInt32).toNat : Int), .int .u32 ((0 : UInt32).toNat : Int)], .int .i64 2]) (K := [_, _, _]) (rst := [_, _, _]) (.inl rfl) rfl rfl (Zb 4 rfl rfl S46 (Zb 3 rfl rfl S50 (ZN rfl rfl))) (ZK 0 rfl (ZK 0 rfl (ZK 0 rfl ZI))) ?_))))))))
   obtain rfl := Option.some.inj hx
   exact ⟨none, 0, 0, [], none, 0, 0, [], none, 0, 0, [], rfl, rfl, (ZU _ _ _ _ _), (fun p hp => by cases hp), (ZU _ _ _ _ _), (fun p hp => by cases hp), (ZU _ _ _ _ _), (fun p hp => by cases hp), trivial⟩
  ·
   replace hx := ZY c_17 hx
   refine ZL rfl rfl rfl (ZA rfl rfl (ZG rfl) (ZL rfl rfl rfl (ZA rfl rfl (R.gtr32 (a := p_5) (b := (16777215 : UInt32)) rfl rfl) (ZA rfl rfl (Zm rfl rfl) (ZD (ZC (ZW rfl (fun c_18 => ?_) (fun c_18 => ?_))))))))
   ·
    replace hx := ZX c_18 hx
    refine ZF (ZB (ZA rfl rfl (Z7 (vs := []) (cs := [.slice none 0 0, .slice none 0 0, .slice none 0 0, .int .u32 ((0 : UInt32).toNat : Int), .int .u32 ((0 : UInt32).toNat : Int)]) Z46 B46 rfl rfl rfl) (ZA rfl rfl (Z7 (vs := []) (cs := [.int .i64 0, .int .u32 ((0 : UInt32).toNat : Int), .int .u32 ((0 : UInt32).toNat : Int), .int .u32 ((0 : UInt32).toNat : Int), .int .u32 ((0 : UInt32).toNat : Int)]) Z50 B50 rfl rfl rfl) (ZQ 1 S46 rfl rfl rfl rfl rfl (Nat.le_of_ble_eq_true rfl) (ZQ 0 S50 rfl rfl rfl rfl rfl (Nat.le_of_ble_eq_true rfl) (ZA rfl rfl (ZE rfl) (ZD (ZC (ZT (ZV (Zl ?_)))))))))))
    refine Zl (Zl (ZR (vs := [.agg #[.slice none 0 0, .slice none 0 0, .slice none 0 0, .int .u32 ((0 : UInt32).toNat : Int), .int .u32 ((0 : UInt32).toNat : Int)], .agg #[.int .i64 0, .int .u32 ((0 : UInt32).toNat : Int), .int .u32 ((0 : UInt32).toNat : Int), .int .u32 ((0 : UInt32).toNat : Int), .int .u32 ((0 : UInt32).toNat : Int)], .int .i64 2]) (K := [_, _, _]) (rst := [_, _, _]) (.inl rfl) rfl rfl (Zb 4 rfl rfl S46 (Zb 3 rfl rfl S50 (ZN rfl rfl))) (ZK 0 rfl (ZK 0 rfl (ZK 0 rfl ZI))) ?_))
    obtain rfl := Option.some.inj hx
    exact ⟨none, 0, 0, [], none, 0, 0, [], none, 0, 0, [], rfl, rfl, (ZU _ _ _ _ _), (fun p hp => by cases hp), (ZU _ _ _ _ _), (fun p hp => by cases hp), (ZU _ _ _ _ _), (fun p hp => by cases hp), trivial⟩
   ·
    replace hx := ZY c_18 hx
    refine JC.skip (ZC (ZF (ZF (ZB (ZA rfl rfl (ZG rfl) (ZA rfl rfl (Zk U23 rfl (IsSlice.long ha_7)) (ZA rfl rfl (YA rfl rfl) (ZA rfl rfl (ZG rfl) (Zj (t := 27) rfl (fun c_19 => ?_) (fun c_19 => ?_))))))))))
    ·
     replace hx := ZX c_19 hx
     refine ZH rfl rfl rfl rfl rfl (ZH rfl rfl rfl rfl rfl (ZH rfl rfl rfl rfl rfl (ZA rfl rfl (Zd rfl rfl) (ZD (ZC (Z5 rfl (ZF (ZB (ZA rfl rfl (Z7 (vs := []) (cs := [.slice none 0 0, .slice none 0 0, .slice none 0 0, .int .u32 ((0 : UInt32).toNat : Int), .int .u32 ((0 : UInt32).toNat : Int)]) Z46 B46 rfl rfl rfl) (ZA rfl rfl (Z7 (vs := []) (cs := [.int .i64 0, .int .u32 ((0 : UInt32).toNat : Int), .int .u32 ((0 : UInt32).toNat : Int), .int .u32 ((0 : UInt32).toNat : Int), .int .u32 ((0 : UInt32).toNat : Int)]) Z50 B50 rfl rfl rfl) (ZQ 1 S46 rfl rfl rfl rfl rfl (Nat.le_of_ble_eq_true rfl) ?_)))))))))))
     refine ZQ 0 S50 rfl rfl rfl rfl rfl (Nat.le_of_ble_eq_true rfl) (ZA rfl rfl (ZE rfl) (ZD (ZC (ZT (ZV (Zl (Zl (Zl (ZR (vs := [.agg #[.slice none 0 0, .slice none 0 0, .slice none 0 0, .int .u32 ((0 : UInt32).toNat : Int), .int .u32 ((0 : UInt32).toNat : Int)], .agg #[.int .i64 0, .int .u32 ((0 : UInt32).toNat : Int), .int .u32 ((0 : UInt32).toNat : Int), .int .u32 ((0 : UInt32).toNat : Int), .int .u32 ((0 : UInt32).toNat : Int)], .int .i64 3]) (K := [_, _, _]) (rst := [_, _, _]) (.inl rfl) rfl rfl (Zb 4 rfl rfl S46 (Zb 3 rfl rfl S50 (ZN rfl rfl))) (ZK 0 rfl (ZK 0 rfl (ZK 0 rfl ZI))) ?_)))))))))
     obtain rfl := Option.some.inj hx
     exact ⟨none, 0, 0, [], none, 0, 0, [], none, 0, 0, [], rfl, rfl, (ZU _ _ _ _ _), (fun p hp => by cases hp), (ZU _ _ _ _ _), (fun p hp => by cases hp), (ZU _ _ _ _ _), (fun p hp => by cases hp), trivial⟩
    ·
     replace hx := ZY c_19 hx
     refine ZL rfl rfl rfl (ZA rfl rfl (ZG rfl) (ZL rfl rfl rfl (ZA rfl rfl (Zk U23 rfl (IsSlice.long ha_9)) (ZL rfl rfl rfl (ZA rfl rfl (YA rfl rfl) (ZA rfl rfl (Zm rfl rfl) (ZD (ZC (ZW rfl (fun c_20 => ?_) (fun c_20 => ?_))))))))))
     ·
      replace hx := ZX c_20 hx
      refine ZF (ZB (ZA rfl rfl (Z7 (vs := []) (cs := [.slice none 0 0, .slice none 0 0, .slice none 0 0, .int .u32 ((0 : UInt32).toNat : Int), .int .u32 ((0 : UInt32).toNat : Int)]) Z46 B46 rfl rfl rfl) (ZA rfl rfl (Z7 (vs := []) (cs := [.int .i64 0, .int .u32 ((0 : UInt32).toNat : Int), .int .u32 ((0 : UInt32).toNat : Int), .int .u32 ((0 : UInt32).toNat : Int), .int .u32 ((0 : UInt32).toNat : Int)]) Z50 B50 rfl rfl rfl) (ZQ 1 S46 rfl rfl rfl rfl rfl (Nat.le_of_ble_eq_true rfl) (ZQ 0 S50 rfl rfl rfl rfl rfl (Nat.le_of_ble_eq_true rfl) (ZA rfl rfl (ZE rfl) (ZD (ZC (ZT (ZV (Zl ?_)))))))))))
      refine Zl (Zl (ZR (vs := [.agg #[.slice none 0 0, .slice none 0 0, .slice none 0 0, .int .u32 ((0 : UInt32).toNat : Int), .int .u32 ((0 : UInt32).toNat : Int)], .agg #[.int .i64 0, .int .u32 ((0 : UInt32).toNat : Int), .int .u32 ((0 : UInt32).toNat : Int), .int .u32 ((0 : UInt32).toNat : Int), .int .u32 ((0 : UInt32).toNat : Int)], .int .i64 3]) (K := [_, _, _]) (rst := [_, _, _]) (.inl rfl) rfl rfl (Zb 4 rfl rfl S46 (Zb 3 rfl rfl S50 (ZN rfl rfl))) (ZK 0 rfl (ZK 0 rfl (ZK 0 rfl ZI))) ?_))
      obtain rfl := Option.some.inj hx
      exact ⟨none, 0, 0, [], none, 0, 0, [], none, 0, 0, [], rfl, rfl, (ZU _ _ _ _ _), (fun p hp => by cases hp), (ZU _ _ _ _ _), (fun p hp => by cases hp), (ZU _ _ _ _ _), (fun p hp => by cases hp), trivial⟩
     ·
      replace hx := ZY c_20 hx
      refine JC.skip (ZC (ZF (ZB (ZA rfl rfl (Zu 2 (vs := [.slice aa_2 na_2 ca_2, .slice aa_3 na_3 ca_3, .slice aa_4 na_4 ca_4, .int .u32 (p_1.Epoch.toNat : Int), .int .u32 (p_1.Count.toNat : Int)]) S46 rfl rfl rfl rfl) (ZA rfl rfl (ZG rfl) (ZA rfl rfl (ZG rfl) (ZA rfl rfl (ZG rfl) ?_)))))))
      obtain ⟨x_21, hr_22, hx⟩ := ZJ hx
      refine ZS (vs := [_, _, _, _]) (args := [_, _, _, _]) (K := []) (rst := [_, _, _]) E36 rfl rfl rfl ZI (ref13_Sealed_ok p_1 p_5 p_6 p_8 _ ha_2 ha_3 ha_4 ha_7 ha_9 _ hr_22) rfl (fun u_23 Ku_23 Hu_23 hRu_23 hleu_23 hfu_23 => ?_)
      obtain ⟨ar_24, nr_24, cr_24, Kr_24, ar_25, nr_25, cr_25, Kr_25, ar_26, nr_26, cr_26, Kr_26, rfl, rfl, hr_24, hnewr_24, hr_25, hnewr_25, hr_26, hnewr_26, -⟩ := hRu_23
      replace hr_24 := (RowOf.base (RowOf.mono (RSl.mono RU8.mono) (New.call (Hle.refl _)) hr_24) (fun p hp => (hfu_23 p (Zh 0 rfl hp)).resolve_left (hnewr_24 p hp)))
      replace hr_25 := (RowOf.base (RowOf.mono R_Write.mono (New.call (Hle.refl _)) hr_25) (fun p hp => (hfu_23 p (Zh 1 rfl hp)).resolve_left (hnewr_25 p hp)))
      replace hr_26 := (RowOf.base (Zf (H2 := New H Hu_23) RU8.const hr_26) (fun p hp => (hfu_23 p (Zh 2 rfl hp)).resolve_left (hnewr_26 p hp)))
      refine ZA rfl rfl (R.extract rfl rfl) (ZA rfl rfl (R.extract rfl rfl) (ZA rfl rfl (R.extract rfl rfl) (ZQ 4 S46 rfl rfl rfl rfl rfl (Nat.le_of_ble_eq_true rfl) (ZQ 3 S50 rfl rfl rfl rfl rfl (Nat.le_of_ble_eq_true rfl) (ZA rfl rfl (ZE rfl) (ZD (ZC (ZT (ZR (vs := [.agg #[.slice ar_24 nr_24 cr_24, .slice ar_25 nr_25 cr_25, .slice ar_26 nr_26 cr_26, .int .u32 (x_21.1.Epoch.toNat : Int), .int .u32 (x_21.1.Count.toNat : Int)], .agg #[.int .i64 x_21.2.1.At, .int .u32 (x_21.2.1.Birth.toNat : Int), .int .u32 (x_21.2.1.Iv.toNat : Int), .int .u32 (x_21.2.1.Tag.toNat : Int), .int .u32 (x_21.2.1.Sum.toNat : Int)], .int .i64 x_21.2.2]) (K := [_, _, _]) (rst := [_, _, _]) (.inl rfl) rfl rfl (Zb 4 rfl rfl S46 (Zb 3 rfl rfl S50 (ZN rfl rfl))) (ZK 0 rfl (ZK 0 rfl (ZK 0 rfl ZI))) ?_)))))))))
      obtain rfl := Option.some.inj hx
      exact ⟨ar_24, nr_24, cr_24, Kr_24, ar_25, nr_25, cr_25, Kr_25, ar_26, nr_26, cr_26, Kr_26, rfl, rfl, (Zg (Nat.zero_le _) hr_24), (Zx hr_24 hlt), (Zg (Nat.zero_le _) hr_25), (Zx hr_25 hlt), (Zg (Nat.zero_le _) hr_26), (Zx hr_26 hlt), trivial⟩

set_option maxHeartbeats 8000000 in
theorem ref09_Same_ok (p_1 : Disk) (p_4 : Disk) (H : Heaplet) {aa_2 : Option Addr} {na_2 : Nat} {ca_2 : Nat} {aa_3 : Option Addr} {na_3 : Nat} {ca_3 : Nat} {aa_5 : Option Addr} {na_5 : Nat} {ca_5 : Nat} {aa_6 : Option Addr} {na_6 : Nat} {ca_6 : Nat} (ha_2 : IsSlice H (RSl RU8 1) 1 (.slice aa_2 na_2 ca_2) p_1.Blocks) (ha_3 : IsSlice H R_Write 2 (.slice aa_3 na_3 ca_3) p_1.Waits) (ha_5 : IsSlice H (RSl RU8 1) 1 (.slice aa_5 na_5 ca_5) p_4.Blocks) (ha_6 : IsSlice H R_Write 2 (.slice aa_6 na_6 ca_6) p_4.Waits) (r : Bool) (hx : ref09_Same p_1 p_4 = some r) :
  Does Try.prog 38 #[.agg #[.slice aa_2 na_2 ca_2, .slice aa_3 na_3 ca_3], .agg #[.slice aa_5 na_5 ca_5, .slice aa_6 na_6 ca_6]] [] H (fun u K' H' => u = .bool r ∧ K' = [] ∧ H = H' ∧ True) := by
 refine Does.enterL (vs := [.agg #[.slice aa_2 na_2 ca_2, .slice aa_3 na_3 ca_3], .agg #[.slice aa_5 na_5 ca_5, .slice aa_6 na_6 ca_6]]) (l := [(0, .agg #[.slice aa_2 na_2 ca_2, .slice aa_3 na_3 ca_3]), (1, .agg #[.slice aa_5 na_5 ca_5, .slice aa_6 na_6 ca_6])]) Try.func38 rfl rfl ⟨rfl, rfl, trivial⟩ (fun w hlt => ?_)
 unfold ref09_Same at hx
 refine ZF (ZB (YF rfl rfl (fun b_7 hb_7 => YF rfl rfl (fun b_8 hb_8 => ZA rfl rfl (ZE rfl) (ZD (ZC (ZF (ZF (ZB (ZA rfl rfl (Zt F44_0 rfl) (ZA rfl rfl (Ze 1 S41 rfl rfl rfl) ?_)))))))))))
 refine ZA rfl rfl (Zk U41 rfl (IsSlice.long ha_2)) (ZA rfl rfl (Zt F44_0 rfl) (ZA rfl rfl (Ze 0 S41 rfl rfl rfl) (ZA rfl rfl (Zk U41 rfl (IsSlice.long ha_5)) (ZA rfl rfl (YA rfl rfl) (ZA rfl rfl (ZG rfl) (Zj (t := 17) rfl (fun c_9 => ?_) (fun c_9 => ?_)))))))
 ·
  replace hx := ZX c_9 hx
  refine ZH rfl rfl rfl rfl rfl (ZH rfl rfl rfl rfl rfl (ZH rfl rfl rfl rfl rfl (ZH rfl rfl rfl rfl rfl (ZH rfl rfl rfl rfl rfl (ZH rfl rfl rfl rfl rfl (ZH rfl rfl rfl rfl rfl (ZA rfl rfl (Zd rfl rfl) (ZD (ZC (Z5 rfl (ZF ?_)))))))))))
  refine ZB (ZA rfl rfl (ZE rfl) (ZD (ZC (ZT (ZV (ZR (vs := [.bool false]) (K := []) (rst := [_, _]) (.inl rfl) rfl rfl (ZN rfl rfl) ZI ?_))))))
  obtain rfl := Option.some.inj hx
  exact ⟨rfl, rfl, rfl, trivial⟩
 ·
  replace hx := ZY c_9 hx
  refine ZL rfl rfl rfl (ZA rfl rfl (Zt F44_1 rfl) (ZL rfl rfl rfl (ZA rfl rfl (Ze 1 S42 rfl rfl rfl) (ZL rfl rfl rfl (ZA rfl rfl (Zk U42 rfl (IsSlice.long ha_3)) (ZL rfl rfl rfl (ZA rfl rfl (Zt F44_1 rfl) (ZL rfl rfl rfl (ZA rfl rfl (Ze 0 S42 rfl rfl rfl) (ZL rfl rfl rfl (ZA rfl rfl (Zk U42 rfl (IsSlice.long ha_6)) ?_)))))))))))
  refine ZL rfl rfl rfl (ZA rfl rfl (YA rfl rfl) (ZA rfl rfl (Zm rfl rfl) (ZD (ZC (ZW rfl (fun c_10 => ?_) (fun c_10 => ?_))))))
  ·
   replace hx := ZX c_10 hx
   refine ZF (ZB (ZA rfl rfl (ZE rfl) (ZD (ZC (ZT (ZV (ZR (vs := [.bool false]) (K := []) (rst := [_, _]) (.inl rfl) rfl rfl (ZN rfl rfl) ZI ?_)))))))
   obtain rfl := Option.some.inj hx
   exact ⟨rfl, rfl, rfl, trivial⟩
  ·
   replace hx := ZY c_10 hx
   refine JC.skip (ZC (ZF (ZB (ZA rfl rfl (ZE rfl) (ZD (ZC (ZF (ZF (ZB (ZA rfl rfl (ZE rfl) (ZD ?_)))))))))))
   refine ZC ?_
   obtain ⟨t_11, ht_13, hx⟩ := ZJ hx
   refine Z4 (fun l o g => l = [(2, .pointer (some ⟨b_7, 0, none⟩)), (3, .pointer (some ⟨b_8, 0, none⟩)), (5, .int .i64 t_11)] ∧ o = [[(b_7, .cells #[.slice aa_2 na_2 ca_2, .slice aa_3 na_3 ca_3] 44 (0, 0))], [(b_8, .cells #[.slice aa_5 na_5 ca_5, .slice aa_6 na_6 ca_6] 44 (0, 0))]] ∧ H = g) ?_ ?_
   ·
    rintro _ _ _ ⟨rfl, rfl, rfl⟩
    refine ZC (ZF (ZF (ZB (ZA rfl rfl (ZE rfl) (ZD (ZC ?_))))))
    obtain ⟨t_17, ht_19, hx⟩ := ZJ hx
    refine Z4 (fun l o g => l = [(5, .int .i64 t_17)] ∧ o = [] ∧ H = g) ?_ ?_
    ·
     rintro _ _ _ ⟨rfl, rfl, rfl⟩
     refine ZC (ZF (ZB (ZA rfl rfl (ZG rfl) (ZA rfl rfl (R.eql_i rfl rfl) (ZA rfl rfl (ZE rfl) (ZD (ZC (ZT (ZR (vs := [.bool (decide (t_17 = 0))]) (K := []) (rst := []) (.inl rfl) rfl rfl (ZN rfl rfl) ZI ?_)))))))))
     obtain rfl := Option.some.inj hx
     exact ⟨rfl, rfl, rfl, trivial⟩
    ·
     have hxo_18 := hx; clear hx; have hx := ht_19; clear ht_19
     refine JC.block (Zw 1 rfl (Zw 1 rfl (Z2 (fun n l o g => ∃ s_20 : Int × Nat, l = [(2, .pointer (some ⟨b_7, 0, none⟩)), (3, .pointer (some ⟨b_8, 0, none⟩)), (5, .int .i64 s_20.1), (7, .int .i64 ((s_20.2 : Nat) : Int))] ∧ o = [[(b_7, .cells #[.slice aa_2 na_2 ca_2, .slice aa_3 na_3 ca_3] 44 (0, 0))], [(b_8, .cells #[.slice aa_5 na_5 ca_5, .slice aa_6 na_6 ca_6] 44 (0, 0))]] ∧ H = g ∧ run (ref09_Same_l2 p_1 p_4) n s_20 = some t_17) FUEL ?_ ⟨(t_11, 0), rfl, rfl, rfl, hx⟩ ⟨rfl, rfl, rfl, rfl, trivial⟩ ?_)))
     ·
      rintro _ _ _ ⟨s_20, rfl, rfl, rfl, hn_21⟩
      exact Zz hn_21
     ·
      rintro n_22 _ _ _ ⟨s_20, rfl, rfl, rfl, hn_21⟩
      clear hx; obtain ⟨oo_24, hx, hd_23⟩ := Z0 hn_21
      unfold ref09_Same_l2 at hx
      refine ZF (ZF (ZB (ZA rfl rfl (ZG rfl) (ZA rfl rfl (Zt F44_1 rfl) (ZA rfl rfl (Ze 0 S42 rfl rfl rfl) (ZA rfl rfl (Zk U42 rfl (IsSlice.long ha_3)) (ZA rfl rfl (Zy rfl rfl) (ZD (ZC (ZW rfl (fun c_23 => ?_) (fun c_23 => ?_)))))))))))
      ·
       replace hx := ZX c_23 hx
       refine JC.skip (ZC (ZF (JC.block (ZF (ZB (ZA rfl rfl (Zt F44_1 rfl) (ZA rfl rfl (Ze 0 S42 rfl rfl rfl) (ZA rfl rfl (ZG rfl) ?_))))))))
       obtain ⟨y_24, hN_25, hx⟩ := Zq hx
       obtain ⟨b_26, o_27, cs_28, hE_29, hR_30, hl_31, hc_32⟩ := IsSlice.elem ha_3 hN_25
       obtain ⟨v_33, rfl, hs_34⟩ := hR_30
       obtain ⟨av_33, cv_33', rfl⟩ := IsSlice.val hs_34
       refine ZA rfl rfl (R.ix U42 S80 rfl rfl hE_29) (ZA rfl rfl (R.ldHE (cs := [.int .i64 y_24.At, .slice av_33 y_24.Data.length cv_33']) (k := 0) (vs := [.int .i64 y_24.At, .slice av_33 y_24.Data.length cv_33']) S80 rfl hc_32 rfl rfl) (JL.alloc Z80 rfl (fun b_35 hb_35 => ZQ 0 S80 rfl rfl rfl rfl rfl (Nat.le_of_ble_eq_true rfl) (ZD (ZC (ZF (ZB (ZA rfl rfl (Zt F44_1 rfl) (ZA rfl rfl (Ze 2 S42 rfl rfl rfl) (ZA rfl rfl (ZG rfl) ?_))))))))))
       obtain ⟨y_36, hN_37, hx⟩ := Zq hx
       obtain ⟨b_38, o_39, cs_40, hE_41, hR_42, hl_43, hc_44⟩ := IsSlice.elem ha_6 hN_37
       obtain ⟨v_45, rfl, hs_46⟩ := hR_42
       obtain ⟨av_45, cv_45, rfl⟩ := IsSlice.val hs_46
       refine ZA rfl rfl (R.ix U42 S80 rfl rfl hE_41) (ZA rfl rfl (R.ldHE (cs := [.int .i64 y_36.At, .slice av_45 y_36.Data.length cv_45]) (k := 0) (vs := [.int .i64 y_36.At, .slice av_45 y_36.Data.length cv_45]) S80 rfl hc_44 rfl rfl) (JL.alloc Z80 rfl (fun b_47 hb_47 => ZQ 0 S80 rfl rfl rfl rfl rfl (Nat.le_of_ble_eq_true rfl) (ZD (ZC (ZF (ZB (ZA rfl rfl (Zt F80_0 rfl) (ZA rfl rfl (Ze 1 S3 rfl rfl rfl) (ZA rfl rfl (Zt F80_0 rfl) (ZA rfl rfl (Ze 0 S3 rfl rfl rfl) ?_)))))))))))
       refine ZA rfl rfl (YA rfl rfl) (ZA rfl rfl (ZG rfl) (Zj (t := 70) rfl (fun c_48 => ?_) (fun c_48 => ?_)))
       ·
        replace hx := ZX c_48 hx
        refine ZH rfl rfl rfl rfl rfl (ZH rfl rfl rfl rfl rfl (ZH rfl rfl rfl rfl rfl (ZH rfl rfl rfl rfl rfl (ZH rfl rfl rfl rfl rfl (ZH rfl rfl rfl rfl rfl (ZH rfl rfl rfl rfl rfl (ZA rfl rfl (Zd rfl rfl) (ZD (ZC (Z5 rfl (ZB ?_)))))))))))
        refine ZA rfl rfl (ZG rfl) (ZA rfl rfl (YB rfl rfl) (ZA rfl rfl (ZE rfl) (ZD (Zo (ZC (ZB (ZA rfl rfl (ZG rfl) (ZA rfl rfl (R.inc rfl rfl (of_decide_eq_true c_23) (IsSlice.lenI ha_3)) (ZA rfl rfl (ZE rfl) (ZD ?_))))))))))
        replace hx := Zp hd_23 hx
        refine JN.forget 1 (JN.forget 0 (ZP 1 rfl (ZP 1 rfl ?_)))
        exact Za ⟨(w64 (s_20.1 + 1), s_20.2 + 1), rfl, rfl, rfl, hx⟩ ⟨rfl, rfl, rfl, rfl, trivial⟩ rfl rfl
       ·
        replace hx := ZY c_48 hx
        refine ZL rfl rfl rfl (ZA rfl rfl (Zt F80_1 rfl) (ZL rfl rfl rfl (ZA rfl rfl (Ze 1 S23 rfl rfl rfl) (ZL rfl rfl rfl (ZA rfl rfl (R.toStr U23 U5 U9 rfl hs_34) (ZL rfl rfl rfl (ZA rfl rfl (Zt F80_1 rfl) (ZL rfl rfl rfl (ZA rfl rfl (Ze 0 S23 rfl rfl rfl) (ZL rfl rfl rfl (ZA rfl rfl (R.toStr U23 U5 U9 rfl hs_46) ?_)))))))))))
        refine ZL rfl rfl rfl (ZA rfl rfl (R.neqStr (a := y_24.Data) (b := y_36.Data) rfl rfl) (ZA rfl rfl (Zm rfl rfl) (ZD (ZC (ZW rfl (fun c_49 => ?_) (fun c_49 => ?_))))))
        ·
         replace hx := ZX c_49 hx
         refine ZB (ZA rfl rfl (ZG rfl) (ZA rfl rfl (YB rfl rfl) (ZA rfl rfl (ZE rfl) (ZD (Zo (ZC (ZB (ZA rfl rfl (ZG rfl) (ZA rfl rfl (R.inc rfl rfl (of_decide_eq_true c_23) (IsSlice.lenI ha_3)) (ZA rfl rfl (ZE rfl) (ZD ?_)))))))))))
         replace hx := Zp hd_23 hx
         refine JN.forget 1 (JN.forget 0 (ZP 1 rfl (ZP 1 rfl ?_)))
         exact Za ⟨(w64 (s_20.1 + 1), s_20.2 + 1), rfl, rfl, rfl, hx⟩ ⟨rfl, rfl, rfl, rfl, trivial⟩ rfl rfl
        ·
         replace hx := ZY c_49 hx
         refine JC.skip (Zo (ZC (ZB (ZA rfl rfl (ZG rfl) (ZA rfl rfl (R.inc rfl rfl (of_decide_eq_true c_23) (IsSlice.lenI ha_3)) (ZA rfl rfl (ZE rfl) (ZD ?_)))))))
         replace hx := Zp hd_23 hx
         refine JN.forget 1 (JN.forget 0 (ZP 1 rfl (ZP 1 rfl ?_)))
         exact Za ⟨(s_20.1, s_20.2 + 1), rfl, rfl, rfl, hx⟩ ⟨rfl, rfl, rfl, rfl, trivial⟩ rfl rfl
      ·
       replace hx := ZY c_23 hx
       refine Z1 (Zc ?_)
       obtain rfl := Zv hd_23 hx
       refine Zc (Zi (JN.forget 1 (JN.forget 0 ?_)))
       exact Za ⟨rfl, rfl, rfl⟩ ⟨rfl, trivial⟩ rfl rfl
   ·
    have hxo_12 := hx; clear hx; have hx := ht_13; clear ht_13
    refine JC.block (Zw 1 rfl (Z2 (fun n l o g => ∃ s_14 : Int × Nat, l = [(2, .pointer (some ⟨b_7, 0, none⟩)), (3, .pointer (some ⟨b_8, 0, none⟩)), (5, .int .i64 s_14.1), (6, .int .i64 ((s_14.2 : Nat) : Int))] ∧ o = [[(b_7, .cells #[.slice aa_2 na_2 ca_2, .slice aa_3 na_3 ca_3] 44 (0, 0))], [(b_8, .cells #[.slice aa_5 na_5 ca_5, .slice aa_6 na_6 ca_6] 44 (0, 0))]] ∧ H = g ∧ run (ref09_Same_l1 p_1 p_4) n s_14 = some t_11) FUEL ?_ ⟨(0, 0), rfl, rfl, rfl, hx⟩ ⟨rfl, rfl, rfl, rfl, trivial⟩ ?_))
    ·
     rintro _ _ _ ⟨s_14, rfl, rfl, rfl, hn_15⟩
     exact Zz hn_15
    ·
     rintro n_16 _ _ _ ⟨s_14, rfl, rfl, rfl, hn_15⟩
     clear hx; obtain ⟨oo_18, hx, hd_17⟩ := Z0 hn_15
     unfold ref09_Same_l1 at hx
     refine ZF (ZF (ZB (ZA rfl rfl (ZG rfl) (ZA rfl rfl (Zt F44_0 rfl) (ZA rfl rfl (Ze 0 S41 rfl rfl rfl) (ZA rfl rfl (Zk U41 rfl (IsSlice.long ha_2)) (ZA rfl rfl (Zy rfl rfl) (ZD (ZC (ZW rfl (fun c_17 => ?_) (fun c_17 => ?_)))))))))))
     ·
      replace hx := ZX c_17 hx
      refine JC.skip (ZC (ZF (JC.block (ZF (JC.draw (so := [_, _]) 13 rfl Mixed ⟨⟨0, rfl⟩, ⟨1, rfl⟩, trivial⟩ (JA.val ⟨by kernel_rfl, by kernel_rfl⟩ (ZO _) (i := 0) rfl ⟨by kernel_rfl, by kernel_rfl, rfl⟩ trivial (ZM (Hle.refl _) ⟨⟨0, rfl⟩, ⟨1, rfl⟩, trivial⟩) (Zt F44_0 rfl) rfl (JA.val ⟨by kernel_rfl, by kernel_rfl⟩ (ZO _) (i := 1) rfl ⟨by kernel_rfl, by kernel_rfl, rfl⟩ trivial (ZM (Hle.refl _) ⟨⟨0, rfl⟩, ⟨1, rfl⟩, trivial⟩) (Ze 0 S41 rfl rfl rfl) rfl (JA.val ⟨by kernel_rfl, by kernel_rfl⟩ (ZO _) (i := 2) rfl ⟨by kernel_rfl, by kernel_rfl, rfl⟩ trivial (ZM (Hle.refl _) ⟨⟨0, rfl⟩, ⟨1, rfl⟩, trivial⟩) (ZG rfl) rfl ?_))))))))
      obtain ⟨y_18, hN_19, hx⟩ := Zq hx
      obtain ⟨b_20, o_21, cs_22, hE_23, hR_24, hl_25, hc_26⟩ := IsSlice.elem ha_2 hN_19
      obtain ⟨v_27, rfl, hs_28⟩ := hR_24
      obtain ⟨av_27, cv_27, rfl⟩ := IsSlice.val hs_28
      refine JA.val ⟨by kernel_rfl, by kernel_rfl⟩ (ZO _) (i := 3) rfl ⟨by kernel_rfl, by kernel_rfl, rfl⟩ trivial (ZM (Hle.refl _) ⟨⟨0, rfl⟩, ⟨1, rfl⟩, trivial⟩) (R.ix U41 S23 rfl rfl hE_23) rfl (JA.val ⟨by kernel_rfl, by kernel_rfl⟩ (ZO _) (i := 4) rfl ⟨by kernel_rfl, by kernel_rfl, rfl⟩ trivial (ZM (Hle.refl _) ⟨⟨0, rfl⟩, ⟨1, rfl⟩, trivial⟩) (R.ldH S23 rfl (hc_26 0 _ rfl)) rfl (JA.val ⟨by kernel_rfl, by kernel_rfl⟩ (ZO _) (i := 5) rfl ⟨by kernel_rfl, by kernel_rfl, rfl⟩ trivial (ZM (Hle.refl _) ⟨⟨0, rfl⟩, ⟨1, rfl⟩, trivial⟩) (R.toStr U23 U5 U9 rfl hs_28) rfl (JA.val ⟨by kernel_rfl, by kernel_rfl⟩ (ZO _) (i := 6) rfl ⟨by kernel_rfl, by kernel_rfl, rfl⟩ trivial (ZM (Hle.refl _) ⟨⟨0, rfl⟩, ⟨1, rfl⟩, trivial⟩) (Zt F44_0 rfl) rfl (JA.val ⟨by kernel_rfl, by kernel_rfl⟩ (ZO _) (i := 7) rfl ⟨by kernel_rfl, by kernel_rfl, rfl⟩ trivial (ZM (Hle.refl _) ⟨⟨0, rfl⟩, ⟨1, rfl⟩, trivial⟩) (Ze 1 S41 rfl rfl rfl) rfl (JA.val ⟨by kernel_rfl, by kernel_rfl⟩ (ZO _) (i := 8) rfl ⟨by kernel_rfl, by kernel_rfl, rfl⟩ trivial (ZM (Hle.refl _) ⟨⟨0, rfl⟩, ⟨1, rfl⟩, trivial⟩) (ZG rfl) rfl ?_)))))
      obtain ⟨y_29, hN_30, hx⟩ := Zq hx
      obtain ⟨b_31, o_32, cs_33, hE_34, hR_35, hl_36, hc_37⟩ := IsSlice.elem ha_5 hN_30
      obtain ⟨v_38, rfl, hs_39⟩ := hR_35
      obtain ⟨av_38, cv_38, rfl⟩ := IsSlice.val hs_39
      refine JA.val ⟨by kernel_rfl, by kernel_rfl⟩ (ZO _) (i := 9) rfl ⟨by kernel_rfl, by kernel_rfl, rfl⟩ trivial (ZM (Hle.refl _) ⟨⟨0, rfl⟩, ⟨1, rfl⟩, trivial⟩) (R.ix U41 S23 rfl rfl hE_34) rfl (JA.val ⟨by kernel_rfl, by kernel_rfl⟩ (ZO _) (i := 10) rfl ⟨by kernel_rfl, by kernel_rfl, rfl⟩ trivial (ZM (Hle.refl _) ⟨⟨0, rfl⟩, ⟨1, rfl⟩, trivial⟩) (R.ldH S23 rfl (hc_37 0 _ rfl)) rfl (JA.val ⟨by kernel_rfl, by kernel_rfl⟩ (ZO _) (i := 11) rfl ⟨by kernel_rfl, by kernel_rfl, rfl⟩ trivial (ZM (Hle.refl _) ⟨⟨0, rfl⟩, ⟨1, rfl⟩, trivial⟩) (R.toStr U23 U5 U9 rfl hs_39) rfl (JA.val ⟨by kernel_rfl, by kernel_rfl⟩ (ZO _) (i := 12) rfl ⟨by kernel_rfl, by kernel_rfl, rfl⟩ trivial (ZM (Hle.refl _) ⟨⟨0, rfl⟩, ⟨1, rfl⟩, trivial⟩) (R.neqStr (a := y_18) (b := y_29) rfl rfl) rfl (JA.doneN (by kernel_rfl) (ZC (ZW rfl (fun c_40 => ?_) (fun c_40 => ?_)))))))
      ·
       replace hx := ZX c_40 hx
       refine ZB (ZA rfl rfl (ZG rfl) (ZA rfl rfl (YB rfl rfl) (ZA rfl rfl (ZE rfl) (ZD (Zo (ZC (ZB (ZA rfl rfl (ZG rfl) (ZA rfl rfl (R.inc rfl rfl (of_decide_eq_true c_17) (IsSlice.lenI ha_2)) (ZA rfl rfl (ZE rfl) (ZD ?_)))))))))))
       replace hx := Zp hd_17 hx
       refine ZP 1 rfl (ZP 1 rfl ?_)
       exact Za ⟨(w64 (s_14.1 + 1), s_14.2 + 1), rfl, rfl, rfl, hx⟩ ⟨rfl, rfl, rfl, rfl, trivial⟩ rfl rfl
      ·
       replace hx := ZY c_40 hx
       refine JC.skip (Zo (ZC (ZB (ZA rfl rfl (ZG rfl) (ZA rfl rfl (R.inc rfl rfl (of_decide_eq_true c_17) (IsSlice.lenI ha_2)) (ZA rfl rfl (ZE rfl) (ZD ?_)))))))
       replace hx := Zp hd_17 hx
       refine ZP 1 rfl (ZP 1 rfl ?_)
       exact Za ⟨(s_14.1, s_14.2 + 1), rfl, rfl, rfl, hx⟩ ⟨rfl, rfl, rfl, rfl, trivial⟩ rfl rfl
     ·
      replace hx := ZY c_17 hx
      refine Z1 (Zc ?_)
      obtain rfl := Zv hd_17 hx
      refine Zc (Zi (ZP 1 rfl (ZP 1 rfl ?_)))
      exact Za ⟨rfl, rfl, rfl⟩ ⟨rfl, rfl, rfl, trivial⟩ rfl rfl

set_option maxHeartbeats 8000000 in
theorem ref13_Same_ok (p_1 : Store) (p_5 : Store) (H : Heaplet) {aa_2 : Option Addr} {na_2 : Nat} {ca_2 : Nat} {aa_3 : Option Addr} {na_3 : Nat} {ca_3 : Nat} {aa_4 : Option Addr} {na_4 : Nat} {ca_4 : Nat} {aa_6 : Option Addr} {na_6 : Nat} {ca_6 : Nat} {aa_7 : Option Addr} {na_7 : Nat} {ca_7 : Nat} {aa_8 : Option Addr} {na_8 : Nat} {ca_8 : Nat} (ha_2 : IsSlice H (RSl RU8 1) 1 (.slice aa_2 na_2 ca_2) p_1.Disk.Blocks) (ha_3 : IsSlice H R_Write 2 (.slice aa_3 na_3 ca_3) p_1.Disk.Waits) (ha_4 : IsSlice H RU8 1 (.slice aa_4 na_4 ca_4) p_1.Space) (ha_6 : IsSlice H (RSl RU8 1) 1 (.slice aa_6 na_6 ca_6) p_5.Disk.Blocks) (ha_7 : IsSlice H R_Write 2 (.slice aa_7 na_7 ca_7) p_5.Disk.Waits) (ha_8 : IsSlice H RU8 1 (.slice aa_8 na_8 ca_8) p_5.Space) (r : Bool) (hx : ref13_Same p_1 p_5 = some r) :
  Does Try.prog 19 #[.agg #[.slice aa_2 na_2 ca_2, .slice aa_3 na_3 ca_3, .slice aa_4 na_4 ca_4, .int .u32 (p_1.Epoch.toNat : Int), .int .u32 (p_1.Count.toNat : Int)], .agg #[.slice aa_6 na_6 ca_6, .slice aa_7 na_7 ca_7, .slice aa_8 na_8 ca_8, .int .u32 (p_5.Epoch.toNat : Int), .int .u32 (p_5.Count.toNat : Int)]] [] H (fun u K' H' => u = .bool r ∧ K' = [] ∧ H = H' ∧ True) := by
 refine Does.enterL (vs := [.agg #[.slice aa_2 na_2 ca_2, .slice aa_3 na_3 ca_3, .slice aa_4 na_4 ca_4, .int .u32 (p_1.Epoch.toNat : Int), .int .u32 (p_1.Count.toNat : Int)], .agg #[.slice aa_6 na_6 ca_6, .slice aa_7 na_7 ca_7, .slice aa_8 na_8 ca_8, .int .u32 (p_5.Epoch.toNat : Int), .int .u32 (p_5.Count.toNat : Int)]]) (l := [(0, .agg #[.slice aa_2 na_2 ca_2, .slice aa_3 na_3 ca_3, .slice aa_4 na_4 ca_4, .int .u32 (p_1.Epoch.toNat : Int), .int .u32 (p_1.Count.toNat : Int)]), (1, .agg #[.slice aa_6 na_6 ca_6, .slice aa_7 na_7 ca_7, .slice aa_8 na_8 ca_8, .int .u32 (p_5.Epoch.toNat : Int), .int .u32 (p_5.Count.toNat : Int)])]) Try.func19 rfl rfl ⟨rfl, rfl, trivial⟩ (fun w hlt => ?_)
 unfold ref13_Same at hx
 refine ZF (ZB (YF rfl rfl (fun b_9 hb_9 => YF rfl rfl (fun b_10 hb_10 => ZA rfl rfl (ZE rfl) (ZD (ZC (ZF ?_)))))))
 obtain ⟨t_11, ht_13, hx⟩ := ZJ hx
 refine Z4 (fun l o g => l = [(4, .bool t_11)] ∧ o = [] ∧ H = g) ?_ ?_
 ·
  rintro _ _ _ ⟨rfl, rfl, rfl⟩
  refine ZC (ZT (ZR (vs := [.bool t_11]) (K := []) (rst := []) (.inl rfl) rfl rfl (ZN rfl rfl) ZI ?_))
  obtain rfl := Option.some.inj hx
  exact ⟨rfl, rfl, rfl, trivial⟩
 ·
  have hxo_12 := hx; clear hx; have hx := ht_13; clear ht_13
  refine ZB (ZA rfl rfl (Zt F46_0 rfl) (ZA rfl rfl (Zu 1 (vs := [.slice aa_2 na_2 ca_2, .slice aa_3 na_3 ca_3]) S44 rfl rfl rfl rfl) (ZA rfl rfl (Zt F46_0 rfl) (ZA rfl rfl (Zu 0 (vs := [.slice aa_6 na_6 ca_6, .slice aa_7 na_7 ca_7]) S44 rfl rfl rfl rfl) ?_))))
  obtain ⟨x_14, hr_15, hx⟩ := ZJ hx
  refine ZS (vs := [_, _]) (args := [_, _]) (K := []) (rst := [_, _]) E38 rfl rfl rfl ZI (ref09_Same_ok (Disk.mk p_1.Disk.Blocks p_1.Disk.Waits) (Disk.mk p_5.Disk.Blocks p_5.Disk.Waits) _ ha_2 ha_3 ha_6 ha_7 _ hr_15) rfl (fun u_16 Ku_16 Hu_16 hRu_16 hleu_16 hfu_16 => ?_)
  obtain ⟨rfl, rfl, rfl, -⟩ := hRu_16
  refine ZA rfl rfl (ZG rfl) (Zj (t := 10) rfl (fun c_17 => ?_) (fun c_17 => ?_))
  ·
   replace hx := ZX c_17 hx
   refine ZL rfl rfl rfl (ZA rfl rfl (Zt F46_1 rfl) (ZL rfl rfl rfl (ZA rfl rfl (Ze 1 S23 rfl rfl rfl) (ZL rfl rfl rfl (ZA rfl rfl (R.toStr U23 U5 U9 rfl ha_4) (ZL rfl rfl rfl (ZA rfl rfl (Zt F46_1 rfl) (ZL rfl rfl rfl (ZA rfl rfl (Ze 0 S23 rfl rfl rfl) (ZL rfl rfl rfl (ZA rfl rfl (R.toStr U23 U5 U9 rfl ha_8) ?_)))))))))))
   refine ZL rfl rfl rfl (ZA rfl rfl (R.eqlStr (a := p_1.Space) (b := p_5.Space) rfl rfl) (ZA rfl rfl (Zd rfl rfl) (ZA rfl rfl (ZG rfl) (Zj (t := 19) rfl (fun c_18 => ?_) (fun c_18 => ?_)))))
   ·
    replace hx := ZX c_18 hx
    refine ZL rfl rfl rfl (ZA rfl rfl (Zt F46_2 rfl) (ZL rfl rfl rfl (ZA rfl rfl (Ze 1 S22 rfl rfl rfl) (ZL rfl rfl rfl (ZA rfl rfl (Zt F46_2 rfl) (ZL rfl rfl rfl (ZA rfl rfl (Ze 0 S22 rfl rfl rfl) (ZL rfl rfl rfl (ZA rfl rfl (R.eql32 (a := p_1.Epoch) (b := p_5.Epoch) rfl rfl) (ZA rfl rfl (Zd rfl rfl) (ZA rfl rfl (ZG rfl) ?_)))))))))))
    refine Zj (t := 26) rfl (fun c_19 => ?_) (fun c_19 => ?_)
    ·
     replace hx := ZX c_19 hx
     refine ZL rfl rfl rfl (ZA rfl rfl (Zt F46_3 rfl) (ZL rfl rfl rfl (ZA rfl rfl (Ze 1 S22 rfl rfl rfl) (ZL rfl rfl rfl (ZA rfl rfl (Zt F46_3 rfl) (ZL rfl rfl rfl (ZA rfl rfl (Ze 0 S22 rfl rfl rfl) (ZL rfl rfl rfl (ZA rfl rfl (R.eql32 (a := p_1.Count) (b := p_5.Count) rfl rfl) (ZA rfl rfl (Zd rfl rfl) (ZA rfl rfl (ZE rfl) ?_)))))))))))
     refine ZD ?_
     obtain rfl := Option.some.inj hx
     refine JN.forget 1 (JN.forget 0 ?_)
     exact Za ⟨rfl, rfl, rfl⟩ ⟨rfl, trivial⟩ rfl rfl
    ·
     replace hx := ZY c_19 hx
     refine ZH rfl rfl rfl rfl rfl (ZH rfl rfl rfl rfl rfl (ZH rfl rfl rfl rfl rfl (ZH rfl rfl rfl rfl rfl (ZH rfl rfl rfl rfl rfl (ZA rfl rfl (Zm rfl rfl) (ZA rfl rfl (ZE rfl) (ZD ?_)))))))
     obtain rfl := Option.some.inj hx
     refine JN.forget 1 (JN.forget 0 ?_)
     exact Za ⟨rfl, rfl, rfl⟩ ⟨rfl, trivial⟩ rfl rfl
   ·
    replace hx := ZY c_18 hx
    refine ZH rfl rfl rfl rfl rfl (ZH rfl rfl rfl rfl rfl (ZH rfl rfl rfl rfl rfl (ZH rfl rfl rfl rfl rfl (ZH rfl rfl rfl rfl rfl (ZA rfl rfl (Zm rfl rfl) (ZA rfl rfl (ZG rfl) (ZH rfl rfl rfl rfl rfl (ZH rfl rfl rfl rfl rfl (ZH rfl rfl rfl rfl rfl (ZH rfl rfl rfl rfl rfl (ZH rfl rfl rfl rfl rfl ?_)))))))))))
    refine ZA rfl rfl (Zm rfl rfl) (ZA rfl rfl (ZE rfl) (ZD ?_))
    obtain rfl := Option.some.inj hx
    refine JN.forget 1 (JN.forget 0 ?_)
    exact Za ⟨rfl, rfl, rfl⟩ ⟨rfl, trivial⟩ rfl rfl
  ·
   replace hx := ZY c_17 hx
   refine ZH rfl rfl rfl rfl rfl (ZH rfl rfl rfl rfl rfl (ZH rfl rfl rfl rfl rfl (ZH rfl rfl rfl rfl rfl (ZH rfl rfl rfl rfl rfl (ZH rfl rfl rfl rfl rfl (ZH rfl rfl rfl rfl rfl (ZA rfl rfl (Zm rfl rfl) (ZA rfl rfl (ZG rfl) (ZH rfl rfl rfl rfl rfl (ZH rfl rfl rfl rfl rfl (ZH rfl rfl rfl rfl rfl ?_)))))))))))
   refine ZH rfl rfl rfl rfl rfl (ZH rfl rfl rfl rfl rfl (ZA rfl rfl (Zm rfl rfl) (ZA rfl rfl (ZG rfl) (ZH rfl rfl rfl rfl rfl (ZH rfl rfl rfl rfl rfl (ZH rfl rfl rfl rfl rfl (ZH rfl rfl rfl rfl rfl (ZH rfl rfl rfl rfl rfl (ZA rfl rfl (Zm rfl rfl) (ZA rfl rfl (ZE rfl) (ZD ?_)))))))))))
   obtain rfl := Option.some.inj hx
   refine JN.forget 1 (JN.forget 0 ?_)
   exact Za ⟨rfl, rfl, rfl⟩ ⟨rfl, trivial⟩ rfl rfl

set_option maxHeartbeats 8000000 in
theorem law13_spoil_ok (p_1 : Store) (H : Heaplet) {N_ : Heaplet} {D_ : Own} {aa_2 : Option Addr} {na_2 : Nat} {ca_2 : Nat} {aa_3 : Option Addr} {na_3 : Nat} {ca_3 : Nat} {aa_4 : Option Addr} {na_4 : Nat} {ca_4 : Nat} (hT_ : TH N_ D_) (ha_2 : IsSlice N_ (RSl RU8 1) 1 (.slice aa_2 na_2 ca_2) p_1.Disk.Blocks) (ha_3 : IsSlice N_ R_Write 2 (.slice aa_3 na_3 ca_3) p_1.Disk.Waits) (ha_4 : IsSlice N_ RU8 1 (.slice aa_4 na_4 ca_4) p_1.Space) (r : Unit) (hx : law13_spoil p_1 = some r) :
  Does Try.prog 20 #[.agg #[.slice aa_2 na_2 ca_2, .slice aa_3 na_3 ca_3, .slice aa_4 na_4 ca_4, .int .u32 (p_1.Epoch.toNat : Int), .int .u32 (p_1.Count.toNat : Int)]] [D_] H (fun u K' H' => ∃ D' : Own, u = .tuple #[] ∧ K' = [D'] ∧ H = H' ∧ TH N_ D' ∧ True) := by
 refine Does.enterL (vs := [.agg #[.slice aa_2 na_2 ca_2, .slice aa_3 na_3 ca_3, .slice aa_4 na_4 ca_4, .int .u32 (p_1.Epoch.toNat : Int), .int .u32 (p_1.Count.toNat : Int)]]) (l := [(0, .agg #[.slice aa_2 na_2 ca_2, .slice aa_3 na_3 ca_3, .slice aa_4 na_4 ca_4, .int .u32 (p_1.Epoch.toNat : Int), .int .u32 (p_1.Count.toNat : Int)])]) Try.func20 rfl rfl ⟨rfl, trivial⟩ (fun w hlt => ?_)
 unfold law13_spoil at hx
 refine ZF (ZB (YF rfl rfl (fun b_5 hb_5 => ZD (ZC (ZF (ZF (ZB (ZA rfl rfl (ZE rfl) (ZD (ZC ?_))))))))))
 obtain ⟨t_6, ht_8, hx⟩ := ZJ hx
 refine Z4 (fun l o g => ∃ D_14 : Own, l = [(1, .pointer (some ⟨b_5, 0, none⟩))] ∧ o = [[(b_5, .cells #[.slice aa_2 na_2 ca_2, .slice aa_3 na_3 ca_3, .slice aa_4 na_4 ca_4, .int .u32 (p_1.Epoch.toNat : Int), .int .u32 (p_1.Count.toNat : Int)] 46 (0, 0))], D_14] ∧ H = g ∧ TH N_ D_14) ?_ ?_
 ·
  rintro _ _ _ ⟨D_14, rfl, rfl, rfl, hT_15⟩
  refine ZC (ZF (ZF (ZB (ZA rfl rfl (ZE rfl) (ZD (ZC ?_))))))
  obtain ⟨t_16, ht_18, hx⟩ := ZJ hx
  refine Z4 (fun l o g => ∃ D_24 : Own, l = [(1, .pointer (some ⟨b_5, 0, none⟩))] ∧ o = [[(b_5, .cells #[.slice aa_2 na_2 ca_2, .slice aa_3 na_3 ca_3, .slice aa_4 na_4 ca_4, .int .u32 (p_1.Epoch.toNat : Int), .int .u32 (p_1.Count.toNat : Int)] 46 (0, 0))], D_24] ∧ H = g ∧ TH N_ D_24) ?_ ?_
  ·
   rintro _ _ _ ⟨D_24, rfl, rfl, rfl, hT_25⟩
   refine ZC (ZF (ZB (ZA rfl rfl (ZE rfl) (ZD (ZC ?_)))))
   obtain ⟨t_26, ht_28, hx⟩ := ZJ hx
   refine Z4 (fun l o g => ∃ D_34 : Own, l = [] ∧ o = [D_34] ∧ H = g ∧ TH N_ D_34) ?_ ?_
   ·
    rintro _ _ _ ⟨D_34, rfl, rfl, rfl, hT_35⟩
    refine ZR (vs := []) (K := [_]) (rst := []) (.inr rfl) rfl rfl rfl (ZK 0 rfl ZI) ?_
    obtain rfl := Option.some.inj hx
    exact ⟨D_34, rfl, rfl, rfl, hT_35, trivial⟩
   ·
    have hxo_27 := hx; clear hx; have hx := ht_28; clear ht_28
    refine JC.block (Zw 1 rfl (Zw 1 rfl (Z2 (fun n l o g => ∃ s_29 : Nat, ∃ D_32 : Own, l = [(1, .pointer (some ⟨b_5, 0, none⟩)), (4, .int .i64 ((s_29 : Nat) : Int))] ∧ o = [[(b_5, .cells #[.slice aa_2 na_2 ca_2, .slice aa_3 na_3 ca_3, .slice aa_4 na_4 ca_4, .int .u32 (p_1.Epoch.toNat : Int), .int .u32 (p_1.Count.toNat : Int)] 46 (0, 0))], D_32] ∧ H = g ∧ run (law13_spoil_l3 p_1) n s_29 = some t_26 ∧ TH N_ D_32) FUEL ?_ ⟨0, D_24, rfl, rfl, rfl, hx, hT_25⟩ ⟨rfl, rfl, trivial⟩ ?_)))
    ·
     rintro _ _ _ ⟨s_29, D_32, rfl, rfl, rfl, hn_30, hT_33⟩
     exact Zz hn_30
    ·
     rintro n_31 _ _ _ ⟨s_29, D_32, rfl, rfl, rfl, hn_30, hT_33⟩
     clear hx; obtain ⟨oo_35, hx, hd_34⟩ := Z0 hn_30
     unfold law13_spoil_l3 at hx
     refine ZF (ZF (ZB (ZA rfl rfl (ZG rfl) (ZA rfl rfl (Zt F46_1 rfl) (ZA rfl rfl (Ze 0 S23 rfl rfl rfl) (ZA rfl rfl (Zk U23 rfl (IsSlice.long ha_4)) (ZA rfl rfl (Zy rfl rfl) (ZD (ZC (ZW rfl (fun c_34 => ?_) (fun c_34 => ?_)))))))))))
     ·
      replace hx := ZX c_34 hx
      refine JC.skip (ZC (ZF (JC.block (JC.drawB (so := [(_, []), (_, [10])]) 11 rfl Mixed ⟨by kernel_rfl, by kernel_rfl⟩ (kept0 [0, 1] rfl) ?_))))
      refine JB.val (i := 0) [] rfl (Zt F46_1 rfl) ?_
      refine JB.val (i := 1) [] rfl (Ze 0 S23 rfl rfl rfl) ?_
      refine JB.val (i := 2) [] rfl (ZG rfl) ?_
      refine JB.val (i := 3) [] rfl (Zt F46_1 rfl) ?_
      refine JB.val (i := 4) [] rfl (Ze 0 S23 rfl rfl rfl) ?_
      refine JB.val (i := 5) [] rfl (ZG rfl) ?_
      obtain ⟨y_35, hN_36, hx⟩ := Zq hx
      obtain ⟨b_37, o_38, cs_39, hE_40, hR_41, hl_42, hc_43⟩ := IsSlice.elem ha_4 hN_36
      obtain rfl := hR_41
      refine JB.val (i := 6) [] rfl (R.ix U23 S5 rfl rfl hE_40) ?_
      refine JB.one (i := 7) (by kernel_rfl) ?_
      refine JOB.step rfl trivial rfl (fun K hK => ?_)
      obtain ⟨ua_48, cur_44, tt_45, hm_46, hcc_47⟩ := TH.u8 (y := y_35) hT_33 (hc_43 0 _ rfl)
      refine ZA rfl rfl (R.ldM 1 S5 rfl rfl hm_46 hcc_47) (ZD (hK _ _ _ (Hle.refl _) (kept0 [0, 1] rfl) ?_))
      refine JB.val (i := 8) [] rfl (R.add8 (a := ua_48) (b := (1 : UInt8)) rfl rfl) ?_
      obtain ⟨y_49, hN_50, hx⟩ := Zq hx
      obtain ⟨b_51, o_52, cs_53, hE_54, hR_55, hl_56, hc_57⟩ := IsSlice.elem ha_4 hN_50
      obtain rfl := hR_55
      refine JB.val (i := 9) [] rfl (R.ix U23 S5 rfl rfl hE_54) ?_
      refine JB.one (i := 10) (by kernel_rfl) ?_
      refine JOB.step rfl trivial rfl (fun K hK => JL.stT 1 S5 rfl hT_33 (hc_57 0 _ rfl) rfl rfl ⟨_, _, rfl⟩ (Kin.u8 (y := y_49) (a := ua_48 + (1 : UInt8))) (fun D_58 hTD_58 => ZD (hK _ _ _ (Hle.refl _) (kept1 [false, true] [0, 0] (by kernel_rfl) rfl) ?_)))
      refine JB.doneN (by kernel_rfl) ?_
      refine Zo (ZC (ZB (ZA rfl rfl (ZG rfl) (ZA rfl rfl (R.inc rfl rfl (of_decide_eq_true c_34) (IsSlice.lenI ha_4)) (ZA rfl rfl (ZE rfl) (ZD ?_))))))
      replace hx := Zp hd_34 hx
      refine ZP 1 rfl (ZP 1 rfl ?_)
      exact Za ⟨s_29 + 1, D_58, rfl, rfl, rfl, hx, hTD_58⟩ ⟨rfl, rfl, trivial⟩ rfl rfl
     ·
      replace hx := ZY c_34 hx
      refine Z1 (Zc ?_)
      obtain rfl := Zv hd_34 hx
      refine Zc (Zi (JN.forget 0 ?_))
      exact Za ⟨D_32, rfl, rfl, rfl, hT_33⟩ trivial rfl rfl
  ·
   have hxo_17 := hx; clear hx; have hx := ht_18; clear ht_18
   refine JC.block (Zw 1 rfl (Zw 1 rfl (Z2 (fun n l o g => ∃ s_19 : Nat, ∃ D_22 : Own, l = [(1, .pointer (some ⟨b_5, 0, none⟩)), (3, .int .i64 ((s_19 : Nat) : Int))] ∧ o = [[(b_5, .cells #[.slice aa_2 na_2 ca_2, .slice aa_3 na_3 ca_3, .slice aa_4 na_4 ca_4, .int .u32 (p_1.Epoch.toNat : Int), .int .u32 (p_1.Count.toNat : Int)] 46 (0, 0))], D_22] ∧ H = g ∧ run (law13_spoil_l2 p_1) n s_19 = some t_16 ∧ TH N_ D_22) FUEL ?_ ⟨0, D_14, rfl, rfl, rfl, hx, hT_15⟩ ⟨rfl, rfl, trivial⟩ ?_)))
   ·
    rintro _ _ _ ⟨s_19, D_22, rfl, rfl, rfl, hn_20, hT_23⟩
    exact Zz hn_20
   ·
    rintro n_21 _ _ _ ⟨s_19, D_22, rfl, rfl, rfl, hn_20, hT_23⟩
    clear hx; obtain ⟨oo_25, hx, hd_24⟩ := Z0 hn_20
    unfold law13_spoil_l2 at hx
    refine ZF (ZF (ZB (ZA rfl rfl (ZG rfl) (ZA rfl rfl (Zt F46_0 rfl) (ZA rfl rfl (Zt F44_1 rfl) (ZA rfl rfl (Ze 0 S42 rfl rfl rfl) (ZA rfl rfl (Zk U42 rfl (IsSlice.long ha_3)) (ZA rfl rfl (Zy rfl rfl) (ZD (ZC (ZW rfl (fun c_24 => ?_) (fun c_24 => ?_))))))))))))
    ·
     replace hx := ZX c_24 hx
     refine JC.skip (ZC (ZF (JC.block (ZF (ZB (ZA rfl rfl (Zt F46_0 rfl) (ZA rfl rfl (Zt F44_1 rfl) (ZA rfl rfl (Ze 0 S42 rfl rfl rfl) (ZA rfl rfl (ZG rfl) ?_)))))))))
     obtain ⟨y_25, hN_26, hx⟩ := Zq hx
     obtain ⟨b_27, o_28, cs_29, hE_30, hR_31, hl_32, hc_33⟩ := IsSlice.elem ha_3 hN_26
     obtain ⟨v_34, rfl, hs_35⟩ := hR_31
     obtain ⟨av_34, cv_34, rfl⟩ := IsSlice.val hs_35
     refine ZA rfl rfl (R.ix U42 S80 rfl rfl hE_30) (ZA rfl rfl (Zt F80_1 rfl) ?_)
     obtain ⟨cur_36, tt_37, hm_38, hcc_39⟩ := TH.exact hT_23 (hc_33 1 _ rfl) (by intro k n e; cases e)
     refine ZA rfl rfl (R.ldM 1 S23 rfl rfl hm_38 hcc_39) (ZA rfl rfl (Zk U23 rfl (IsSlice.long hs_35)) (ZA rfl rfl (R.gtr_i rfl rfl) (ZD (ZC (ZW rfl (fun c_41 => ?_) (fun c_41 => ?_))))))
     ·
      replace hx := ZX c_41 hx
      refine JC.drawB (so := [(_, []), (_, [18])]) 19 rfl Mixed ⟨by kernel_rfl, by kernel_rfl⟩ (kept0 [0, 1] rfl) ?_
      refine JB.val (i := 0) [] rfl (Zt F46_0 rfl) ?_
      refine JB.val (i := 1) [] rfl (Zt F44_1 rfl) ?_
      refine JB.val (i := 2) [] rfl (Ze 0 S42 rfl rfl rfl) ?_
      refine JB.val (i := 3) [] rfl (ZG rfl) ?_
      obtain ⟨y_42, hN_43, hx⟩ := Zq hx
      obtain ⟨b_44, o_45, cs_46, hE_47, hR_48, hl_49, hc_50⟩ := IsSlice.elem ha_3 hN_43
      obtain ⟨v_51, rfl, hs_52⟩ := hR_48
      obtain ⟨av_51, cv_51, rfl⟩ := IsSlice.val hs_52
      refine JB.val (i := 4) [] rfl (R.ix U42 S80 rfl rfl hE_47) ?_
      refine JB.val (i := 5) [] rfl (Zt F80_1 rfl) ?_
      refine JB.val (i := 7) [] rfl (Zt F46_0 rfl) ?_
      refine JB.val (i := 8) [] rfl (Zt F44_1 rfl) ?_
      refine JB.val (i := 9) [] rfl (Ze 0 S42 rfl rfl rfl) ?_
      refine JB.val (i := 10) [] rfl (ZG rfl) ?_
      obtain ⟨y_53, hN_54, hx⟩ := Zq hx
      obtain ⟨b_55, o_56, cs_57, hE_58, hR_59, hl_60, hc_61⟩ := IsSlice.elem ha_3 hN_54
      obtain ⟨v_62, rfl, hs_63⟩ := hR_59
      obtain ⟨av_62, cv_62, rfl⟩ := IsSlice.val hs_63
      refine JB.val (i := 11) [] rfl (R.ix U42 S80 rfl rfl hE_58) ?_
      refine JB.val (i := 12) [] rfl (Zt F80_1 rfl) ?_
      obtain ⟨y_74, hN_75, hx⟩ := Zq hx
      obtain ⟨y_88, hN_89, hx⟩ := Zq hx
      refine JB.two (i := 6) (j := 13) (by kernel_rfl) ?_ ?_
      ·
       refine JOB.step rfl trivial rfl (fun K hK => ?_)
       obtain ⟨cur_64, tt_65, hm_66, hcc_67⟩ := TH.exact hT_23 (hc_50 1 _ rfl) (by intro k n e; cases e)
       refine ZA rfl rfl (R.ldM 1 S23 rfl rfl hm_66 hcc_67) (ZD (hK _ _ _ (Hle.refl _) (kept0 [0, 1] rfl) ?_))
       refine JB.one (i := 13) (by kernel_rfl) ?_
       refine JOB.step rfl trivial rfl (fun K hK => ?_)
       obtain ⟨cur_69, tt_70, hm_71, hcc_72⟩ := TH.exact hT_23 (hc_61 1 _ rfl) (by intro k n e; cases e)
       refine ZA rfl rfl (R.ldM 1 S23 rfl rfl hm_71 hcc_72) (ZD (hK _ _ _ (Hle.refl _) (kept0 [0, 1] rfl) ?_))
       obtain ⟨b_76, o_77, cs_78, hE_79, hR_80, hl_81, hc_82⟩ := IsSlice.elem hs_63 hN_75
       obtain rfl := hR_80
       refine JB.val (i := 14) [] rfl (R.ix U23 S5 rfl rfl hE_79) ?_
       refine JB.one (i := 15) (by kernel_rfl) ?_
       refine JOB.step rfl trivial rfl (fun K hK => ?_)
       obtain ⟨ua_87, cur_83, tt_84, hm_85, hcc_86⟩ := TH.u8 (y := y_74) hT_23 (hc_82 0 _ rfl)
       refine ZA rfl rfl (R.ldM 1 S5 rfl rfl hm_85 hcc_86) (ZD (hK _ _ _ (Hle.refl _) (kept0 [0, 1] rfl) ?_))
       refine JB.val (i := 16) [] rfl (R.add8 (a := ua_87) (b := (1 : UInt8)) rfl rfl) ?_
       obtain ⟨b_90, o_91, cs_92, hE_93, hR_94, hl_95, hc_96⟩ := IsSlice.elem hs_52 hN_89
       obtain rfl := hR_94
       refine JB.val (i := 17) [] rfl (R.ix U23 S5 rfl rfl hE_93) ?_
       refine JB.one (i := 18) (by kernel_rfl) ?_
       refine JOB.step rfl trivial rfl (fun K hK => JL.stT 1 S5 rfl hT_23 (hc_96 0 _ rfl) rfl rfl ⟨_, _, rfl⟩ (Kin.u8 (y := y_88) (a := ua_87 + (1 : UInt8))) (fun D_97 hTD_97 => ZD (hK _ _ _ (Hle.refl _) (kept1 [false, true] [0, 0] (by kernel_rfl) rfl) ?_)))
       refine JB.doneN (by kernel_rfl) ?_
       refine Zo (ZC (ZB (ZA rfl rfl (ZG rfl) (ZA rfl rfl (R.inc rfl rfl (of_decide_eq_true c_24) (IsSlice.lenI ha_3)) (ZA rfl rfl (ZE rfl) (ZD ?_))))))
       replace hx := Zp hd_24 hx
       refine ZP 1 rfl (ZP 1 rfl ?_)
       exact Za ⟨s_19 + 1, D_97, rfl, rfl, rfl, hx, hTD_97⟩ ⟨rfl, rfl, trivial⟩ rfl rfl
      ·
       refine JOB.step rfl trivial rfl (fun K hK => ?_)
       obtain ⟨cur_69, tt_70, hm_71, hcc_72⟩ := TH.exact hT_23 (hc_61 1 _ rfl) (by intro k n e; cases e)
       refine ZA rfl rfl (R.ldM 1 S23 rfl rfl hm_71 hcc_72) (ZD (hK _ _ _ (Hle.refl _) (kept0 [0, 1] rfl) ?_))
       obtain ⟨b_76, o_77, cs_78, hE_79, hR_80, hl_81, hc_82⟩ := IsSlice.elem hs_63 hN_75
       obtain rfl := hR_80
       refine JB.val (i := 14) [] rfl (R.ix U23 S5 rfl rfl hE_79) ?_
       refine JB.two (i := 6) (j := 15) (by kernel_rfl) ?_ ?_
       ·
        refine JOB.step rfl trivial rfl (fun K hK => ?_)
        obtain ⟨cur_64, tt_65, hm_66, hcc_67⟩ := TH.exact hT_23 (hc_50 1 _ rfl) (by intro k n e; cases e)
        refine ZA rfl rfl (R.ldM 1 S23 rfl rfl hm_66 hcc_67) (ZD (hK _ _ _ (Hle.refl _) (kept0 [0, 1] rfl) ?_))
        refine JB.one (i := 15) (by kernel_rfl) ?_
        refine JOB.step rfl trivial rfl (fun K hK => ?_)
        obtain ⟨ua_87, cur_83, tt_84, hm_85, hcc_86⟩ := TH.u8 (y := y_74) hT_23 (hc_82 0 _ rfl)
        refine ZA rfl rfl (R.ldM 1 S5 rfl rfl hm_85 hcc_86) (ZD (hK _ _ _ (Hle.refl _) (kept0 [0, 1] rfl) ?_))
        refine JB.val (i := 16) [] rfl (R.add8 (a := ua_87) (b := (1 : UInt8)) rfl rfl) ?_
        obtain ⟨b_90, o_91, cs_92, hE_93, hR_94, hl_95, hc_96⟩ := IsSlice.elem hs_52 hN_89
        obtain rfl := hR_94
        refine JB.val (i := 17) [] rfl (R.ix U23 S5 rfl rfl hE_93) ?_
        refine JB.one (i := 18) (by kernel_rfl) ?_
        refine JOB.step rfl trivial rfl (fun K hK => JL.stT 1 S5 rfl hT_23 (hc_96 0 _ rfl) rfl rfl ⟨_, _, rfl⟩ (Kin.u8 (y := y_88) (a := ua_87 + (1 : UInt8))) (fun D_97 hTD_97 => ZD (hK _ _ _ (Hle.refl _) (kept1 [false, true] [0, 0] (by kernel_rfl) rfl) ?_)))
        refine JB.doneN (by kernel_rfl) ?_
        refine Zo (ZC (ZB (ZA rfl rfl (ZG rfl) (ZA rfl rfl (R.inc rfl rfl (of_decide_eq_true c_24) (IsSlice.lenI ha_3)) (ZA rfl rfl (ZE rfl) (ZD ?_))))))
        replace hx := Zp hd_24 hx
        refine ZP 1 rfl (ZP 1 rfl ?_)
        exact Za ⟨s_19 + 1, D_97, rfl, rfl, rfl, hx, hTD_97⟩ ⟨rfl, rfl, trivial⟩ rfl rfl
       ·
        refine JOB.step rfl trivial rfl (fun K hK => ?_)
        obtain ⟨ua_87, cur_83, tt_84, hm_85, hcc_86⟩ := TH.u8 (y := y_74) hT_23 (hc_82 0 _ rfl)
        refine ZA rfl rfl (R.ldM 1 S5 rfl rfl hm_85 hcc_86) (ZD (hK _ _ _ (Hle.refl _) (kept0 [0, 1] rfl) ?_))
        refine JB.val (i := 16) [] rfl (R.add8 (a := ua_87) (b := (1 : UInt8)) rfl rfl) ?_
        refine JB.one (i := 6) (by kernel_rfl) ?_
        refine JOB.step rfl trivial rfl (fun K hK => ?_)
        obtain ⟨cur_64, tt_65, hm_66, hcc_67⟩ := TH.exact hT_23 (hc_50 1 _ rfl) (by intro k n e; cases e)
        refine ZA rfl rfl (R.ldM 1 S23 rfl rfl hm_66 hcc_67) (ZD (hK _ _ _ (Hle.refl _) (kept0 [0, 1] rfl) ?_))
        obtain ⟨b_90, o_91, cs_92, hE_93, hR_94, hl_95, hc_96⟩ := IsSlice.elem hs_52 hN_89
        obtain rfl := hR_94
        refine JB.val (i := 17) [] rfl (R.ix U23 S5 rfl rfl hE_93) ?_
        refine JB.one (i := 18) (by kernel_rfl) ?_
        refine JOB.step rfl trivial rfl (fun K hK => JL.stT 1 S5 rfl hT_23 (hc_96 0 _ rfl) rfl rfl ⟨_, _, rfl⟩ (Kin.u8 (y := y_88) (a := ua_87 + (1 : UInt8))) (fun D_97 hTD_97 => ZD (hK _ _ _ (Hle.refl _) (kept1 [false, true] [0, 0] (by kernel_rfl) rfl) ?_)))
        refine JB.doneN (by kernel_rfl) ?_
        refine Zo (ZC (ZB (ZA rfl rfl (ZG rfl) (ZA rfl rfl (R.inc rfl rfl (of_decide_eq_true c_24) (IsSlice.lenI ha_3)) (ZA rfl rfl (ZE rfl) (ZD ?_))))))
        replace hx := Zp hd_24 hx
        refine ZP 1 rfl (ZP 1 rfl ?_)
        exact Za ⟨s_19 + 1, D_97, rfl, rfl, rfl, hx, hTD_97⟩ ⟨rfl, rfl, trivial⟩ rfl rfl
     ·
      replace hx := ZY c_41 hx
      refine JC.skip (Zo (ZC (ZB (ZA rfl rfl (ZG rfl) (ZA rfl rfl (R.inc rfl rfl (of_decide_eq_true c_24) (IsSlice.lenI ha_3)) (ZA rfl rfl (ZE rfl) (ZD ?_)))))))
      replace hx := Zp hd_24 hx
      refine ZP 1 rfl (ZP 1 rfl ?_)
      exact Za ⟨s_19 + 1, D_22, rfl, rfl, rfl, hx, hT_23⟩ ⟨rfl, rfl, trivial⟩ rfl rfl
    ·
     replace hx := ZY c_24 hx
     refine Z1 (Zc ?_)
     obtain rfl := Zv hd_24 hx
     refine Zc (Zi (ZP 1 rfl (ZP 1 rfl ?_)))
     exact Za ⟨D_22, rfl, rfl, rfl, hT_23⟩ ⟨rfl, trivial⟩ rfl rfl
 ·
  have hxo_7 := hx; clear hx; have hx := ht_8; clear ht_8
  refine JC.block (Zw 1 rfl (Zw 1 rfl (Z2 (fun n l o g => ∃ s_9 : Nat, ∃ D_12 : Own, l = [(1, .pointer (some ⟨b_5, 0, none⟩)), (2, .int .i64 ((s_9 : Nat) : Int))] ∧ o = [[(b_5, .cells #[.slice aa_2 na_2 ca_2, .slice aa_3 na_3 ca_3, .slice aa_4 na_4 ca_4, .int .u32 (p_1.Epoch.toNat : Int), .int .u32 (p_1.Count.toNat : Int)] 46 (0, 0))], D_12] ∧ H = g ∧ run (law13_spoil_l1 p_1) n s_9 = some t_6 ∧ TH N_ D_12) FUEL ?_ ⟨0, D_, rfl, rfl, rfl, hx, hT_⟩ ⟨rfl, rfl, trivial⟩ ?_)))
  ·
   rintro _ _ _ ⟨s_9, D_12, rfl, rfl, rfl, hn_10, hT_13⟩
   exact Zz hn_10
  ·
   rintro n_11 _ _ _ ⟨s_9, D_12, rfl, rfl, rfl, hn_10, hT_13⟩
   clear hx; obtain ⟨oo_15, hx, hd_14⟩ := Z0 hn_10
   unfold law13_spoil_l1 at hx
   refine ZF (ZF (ZB (ZA rfl rfl (ZG rfl) (ZA rfl rfl (Zt F46_0 rfl) (ZA rfl rfl (Zt F44_0 rfl) (ZA rfl rfl (Ze 0 S41 rfl rfl rfl) (ZA rfl rfl (Zk U41 rfl (IsSlice.long ha_2)) (ZA rfl rfl (Zy rfl rfl) (ZD (ZC (ZW rfl (fun c_14 => ?_) (fun c_14 => ?_))))))))))))
   ·
    replace hx := ZX c_14 hx
    refine JC.skip (ZC (ZF (JC.block (ZF (ZB (ZA rfl rfl (Zt F46_0 rfl) (ZA rfl rfl (Zt F44_0 rfl) (ZA rfl rfl (Ze 0 S41 rfl rfl rfl) (ZA rfl rfl (ZG rfl) ?_)))))))))
    obtain ⟨y_15, hN_16, hx⟩ := Zq hx
    obtain ⟨b_17, o_18, cs_19, hE_20, hR_21, hl_22, hc_23⟩ := IsSlice.elem ha_2 hN_16
    obtain ⟨v_24, rfl, hs_25⟩ := hR_21
    obtain ⟨av_24, cv_24, rfl⟩ := IsSlice.val hs_25
    refine ZA rfl rfl (R.ix U41 S23 rfl rfl hE_20) ?_
    obtain ⟨cur_26, tt_27, hm_28, hcc_29⟩ := TH.exact hT_13 (hc_23 0 _ rfl) (by intro k n e; cases e)
    refine ZA rfl rfl (R.ldM 1 S23 rfl rfl hm_28 hcc_29) (ZA rfl rfl (Zk U23 rfl (IsSlice.long hs_25)) (ZA rfl rfl (R.gtr_i rfl rfl) (ZD (ZC (ZW rfl (fun c_31 => ?_) (fun c_31 => ?_))))))
    ·
     replace hx := ZX c_31 hx
     refine JC.drawB (so := [(_, []), (_, [16])]) 17 rfl Mixed ⟨by kernel_rfl, by kernel_rfl⟩ (kept0 [0, 1] rfl) ?_
     refine JB.val (i := 0) [] rfl (Zt F46_0 rfl) ?_
     refine JB.val (i := 1) [] rfl (Zt F44_0 rfl) ?_
     refine JB.val (i := 2) [] rfl (Ze 0 S41 rfl rfl rfl) ?_
     refine JB.val (i := 3) [] rfl (ZG rfl) ?_
     obtain ⟨y_32, hN_33, hx⟩ := Zq hx
     obtain ⟨b_34, o_35, cs_36, hE_37, hR_38, hl_39, hc_40⟩ := IsSlice.elem ha_2 hN_33
     obtain ⟨v_41, rfl, hs_42⟩ := hR_38
     obtain ⟨av_41, cv_41, rfl⟩ := IsSlice.val hs_42
     refine JB.val (i := 4) [] rfl (R.ix U41 S23 rfl rfl hE_37) ?_
     refine JB.val (i := 6) [] rfl (Zt F46_0 rfl) ?_
     refine JB.val (i := 7) [] rfl (Zt F44_0 rfl) ?_
     refine JB.val (i := 8) [] rfl (Ze 0 S41 rfl rfl rfl) ?_
     refine JB.val (i := 9) [] rfl (ZG rfl) ?_
     obtain ⟨y_43, hN_44, hx⟩ := Zq hx
     obtain ⟨b_45, o_46, cs_47, hE_48, hR_49, hl_50, hc_51⟩ := IsSlice.elem ha_2 hN_44
     obtain ⟨v_52, rfl, hs_53⟩ := hR_49
     obtain ⟨av_52, cv_52, rfl⟩ := IsSlice.val hs_53
     refine JB.val (i := 10) [] rfl (R.ix U41 S23 rfl rfl hE_48) ?_
     obtain ⟨y_64, hN_65, hx⟩ := Zq hx
     obtain ⟨y_78, hN_79, hx⟩ := Zq hx
     refine JB.two (i := 5) (j := 11) (by kernel_rfl) ?_ ?_
     ·
      refine JOB.step rfl trivial rfl (fun K hK => ?_)
      obtain ⟨cur_54, tt_55, hm_56, hcc_57⟩ := TH.exact hT_13 (hc_40 0 _ rfl) (by intro k n e; cases e)
      refine ZA rfl rfl (R.ldM 1 S23 rfl rfl hm_56 hcc_57) (ZD (hK _ _ _ (Hle.refl _) (kept0 [0, 1] rfl) ?_))
      refine JB.one (i := 11) (by kernel_rfl) ?_
      refine JOB.step rfl trivial rfl (fun K hK => ?_)
      obtain ⟨cur_59, tt_60, hm_61, hcc_62⟩ := TH.exact hT_13 (hc_51 0 _ rfl) (by intro k n e; cases e)
      refine ZA rfl rfl (R.ldM 1 S23 rfl rfl hm_61 hcc_62) (ZD (hK _ _ _ (Hle.refl _) (kept0 [0, 1] rfl) ?_))
      obtain ⟨b_66, o_67, cs_68, hE_69, hR_70, hl_71, hc_72⟩ := IsSlice.elem hs_53 hN_65
      obtain rfl := hR_70
      refine JB.val (i := 12) [] rfl (R.ix U23 S5 rfl rfl hE_69) ?_
      refine JB.one (i := 13) (by kernel_rfl) ?_
      refine JOB.step rfl trivial rfl (fun K hK => ?_)
      obtain ⟨ua_77, cur_73, tt_74, hm_75, hcc_76⟩ := TH.u8 (y := y_64) hT_13 (hc_72 0 _ rfl)
      refine ZA rfl rfl (R.ldM 1 S5 rfl rfl hm_75 hcc_76) (ZD (hK _ _ _ (Hle.refl _) (kept0 [0, 1] rfl) ?_))
      refine JB.val (i := 14) [] rfl (R.add8 (a := ua_77) (b := (1 : UInt8)) rfl rfl) ?_
      obtain ⟨b_80, o_81, cs_82, hE_83, hR_84, hl_85, hc_86⟩ := IsSlice.elem hs_42 hN_79
      obtain rfl := hR_84
      refine JB.val (i := 15) [] rfl (R.ix U23 S5 rfl rfl hE_83) ?_
      refine JB.one (i := 16) (by kernel_rfl) ?_
      refine JOB.step rfl trivial rfl (fun K hK => JL.stT 1 S5 rfl hT_13 (hc_86 0 _ rfl) rfl rfl ⟨_, _, rfl⟩ (Kin.u8 (y := y_78) (a := ua_77 + (1 : UInt8))) (fun D_87 hTD_87 => ZD (hK _ _ _ (Hle.refl _) (kept1 [false, true] [0, 0] (by kernel_rfl) rfl) ?_)))
      refine JB.doneN (by kernel_rfl) ?_
      refine Zo (ZC (ZB (ZA rfl rfl (ZG rfl) (ZA rfl rfl (R.inc rfl rfl (of_decide_eq_true c_14) (IsSlice.lenI ha_2)) (ZA rfl rfl (ZE rfl) (ZD ?_))))))
      replace hx := Zp hd_14 hx
      refine ZP 1 rfl (ZP 1 rfl ?_)
      exact Za ⟨s_9 + 1, D_87, rfl, rfl, rfl, hx, hTD_87⟩ ⟨rfl, rfl, trivial⟩ rfl rfl
     ·
      refine JOB.step rfl trivial rfl (fun K hK => ?_)
      obtain ⟨cur_59, tt_60, hm_61, hcc_62⟩ := TH.exact hT_13 (hc_51 0 _ rfl) (by intro k n e; cases e)
      refine ZA rfl rfl (R.ldM 1 S23 rfl rfl hm_61 hcc_62) (ZD (hK _ _ _ (Hle.refl _) (kept0 [0, 1] rfl) ?_))
      obtain ⟨b_66, o_67, cs_68, hE_69, hR_70, hl_71, hc_72⟩ := IsSlice.elem hs_53 hN_65
      obtain rfl := hR_70
      refine JB.val (i := 12) [] rfl (R.ix U23 S5 rfl rfl hE_69) ?_
      refine JB.two (i := 5) (j := 13) (by kernel_rfl) ?_ ?_
      ·
       refine JOB.step rfl trivial rfl (fun K hK => ?_)
       obtain ⟨cur_54, tt_55, hm_56, hcc_57⟩ := TH.exact hT_13 (hc_40 0 _ rfl) (by intro k n e; cases e)
       refine ZA rfl rfl (R.ldM 1 S23 rfl rfl hm_56 hcc_57) (ZD (hK _ _ _ (Hle.refl _) (kept0 [0, 1] rfl) ?_))
       refine JB.one (i := 13) (by kernel_rfl) ?_
       refine JOB.step rfl trivial rfl (fun K hK => ?_)
       obtain ⟨ua_77, cur_73, tt_74, hm_75, hcc_76⟩ := TH.u8 (y := y_64) hT_13 (hc_72 0 _ rfl)
       refine ZA rfl rfl (R.ldM 1 S5 rfl rfl hm_75 hcc_76) (ZD (hK _ _ _ (Hle.refl _) (kept0 [0, 1] rfl) ?_))
       refine JB.val (i := 14) [] rfl (R.add8 (a := ua_77) (b := (1 : UInt8)) rfl rfl) ?_
       obtain ⟨b_80, o_81, cs_82, hE_83, hR_84, hl_85, hc_86⟩ := IsSlice.elem hs_42 hN_79
       obtain rfl := hR_84
       refine JB.val (i := 15) [] rfl (R.ix U23 S5 rfl rfl hE_83) ?_
       refine JB.one (i := 16) (by kernel_rfl) ?_
       refine JOB.step rfl trivial rfl (fun K hK => JL.stT 1 S5 rfl hT_13 (hc_86 0 _ rfl) rfl rfl ⟨_, _, rfl⟩ (Kin.u8 (y := y_78) (a := ua_77 + (1 : UInt8))) (fun D_87 hTD_87 => ZD (hK _ _ _ (Hle.refl _) (kept1 [false, true] [0, 0] (by kernel_rfl) rfl) ?_)))
       refine JB.doneN (by kernel_rfl) ?_
       refine Zo (ZC (ZB (ZA rfl rfl (ZG rfl) (ZA rfl rfl (R.inc rfl rfl (of_decide_eq_true c_14) (IsSlice.lenI ha_2)) (ZA rfl rfl (ZE rfl) (ZD ?_))))))
       replace hx := Zp hd_14 hx
       refine ZP 1 rfl (ZP 1 rfl ?_)
       exact Za ⟨s_9 + 1, D_87, rfl, rfl, rfl, hx, hTD_87⟩ ⟨rfl, rfl, trivial⟩ rfl rfl
      ·
       refine JOB.step rfl trivial rfl (fun K hK => ?_)
       obtain ⟨ua_77, cur_73, tt_74, hm_75, hcc_76⟩ := TH.u8 (y := y_64) hT_13 (hc_72 0 _ rfl)
       refine ZA rfl rfl (R.ldM 1 S5 rfl rfl hm_75 hcc_76) (ZD (hK _ _ _ (Hle.refl _) (kept0 [0, 1] rfl) ?_))
       refine JB.val (i := 14) [] rfl (R.add8 (a := ua_77) (b := (1 : UInt8)) rfl rfl) ?_
       refine JB.one (i := 5) (by kernel_rfl) ?_
       refine JOB.step rfl trivial rfl (fun K hK => ?_)
       obtain ⟨cur_54, tt_55, hm_56, hcc_57⟩ := TH.exact hT_13 (hc_40 0 _ rfl) (by intro k n e; cases e)
       refine ZA rfl rfl (R.ldM 1 S23 rfl rfl hm_56 hcc_57) (ZD (hK _ _ _ (Hle.refl _) (kept0 [0, 1] rfl) ?_))
       obtain ⟨b_80, o_81, cs_82, hE_83, hR_84, hl_85, hc_86⟩ := IsSlice.elem hs_42 hN_79
       obtain rfl := hR_84
       refine JB.val (i := 15) [] rfl (R.ix U23 S5 rfl rfl hE_83) ?_
       refine JB.one (i := 16) (by kernel_rfl) ?_
       refine JOB.step rfl trivial rfl (fun K hK => JL.stT 1 S5 rfl hT_13 (hc_86 0 _ rfl) rfl rfl ⟨_, _, rfl⟩ (Kin.u8 (y := y_78) (a := ua_77 + (1 : UInt8))) (fun D_87 hTD_87 => ZD (hK _ _ _ (Hle.refl _) (kept1 [false, true] [0, 0] (by kernel_rfl) rfl) ?_)))
       refine JB.doneN (by kernel_rfl) ?_
       refine Zo (ZC (ZB (ZA rfl rfl (ZG rfl) (ZA rfl rfl (R.inc rfl rfl (of_decide_eq_true c_14) (IsSlice.lenI ha_2)) (ZA rfl rfl (ZE rfl) (ZD ?_))))))
       replace hx := Zp hd_14 hx
       refine ZP 1 rfl (ZP 1 rfl ?_)
       exact Za ⟨s_9 + 1, D_87, rfl, rfl, rfl, hx, hTD_87⟩ ⟨rfl, rfl, trivial⟩ rfl rfl
    ·
     replace hx := ZY c_31 hx
     refine JC.skip (Zo (ZC (ZB (ZA rfl rfl (ZG rfl) (ZA rfl rfl (R.inc rfl rfl (of_decide_eq_true c_14) (IsSlice.lenI ha_2)) (ZA rfl rfl (ZE rfl) (ZD ?_)))))))
     replace hx := Zp hd_14 hx
     refine ZP 1 rfl (ZP 1 rfl ?_)
     exact Za ⟨s_9 + 1, D_12, rfl, rfl, rfl, hx, hT_13⟩ ⟨rfl, rfl, trivial⟩ rfl rfl
   ·
    replace hx := ZY c_14 hx
    refine Z1 (Zc ?_)
    obtain rfl := Zv hd_14 hx
    refine Zc (Zi (ZP 1 rfl (ZP 1 rfl ?_)))
    exact Za ⟨D_12, rfl, rfl, rfl, hT_13⟩ ⟨rfl, trivial⟩ rfl rfl
end Go.Proofs.Ytebhagohhbmgoaa
