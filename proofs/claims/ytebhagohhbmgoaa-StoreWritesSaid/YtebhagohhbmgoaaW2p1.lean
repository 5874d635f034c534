import Derived.Test.YtebhagohhbmgoaaW2p0
/- walks: what the code computes, function by function. -/
namespace Go.Proofs.Ytebhagohhbmgoaa
open Go.Ow Go.RowKit Go.Proofs
set_option linter.unusedVariables false
set_option linter.unusedSimpArgs false
set_option maxHeartbeats 8000000 in
theorem code_Get_ok (p_1 : List UInt8) (p_3 : Int) (p_4 : Int) (H : Heaplet) {aa_2 : Option Addr} {na_2 : Nat} {ca_2 : Nat} (ha_2 : IsSlice H RU8 1 (.slice aa_2 na_2 ca_2) p_1) (r : Int × Int) (hx : code_Get p_1 p_3 p_4 = some r) :
  Does Try.prog 28 #[.slice aa_2 na_2 ca_2, .int .i64 p_3, .int .i64 p_4] [] H (fun u K' H' => u = .tuple #[.int .i64 r.1, .int .i64 r.2] ∧ K' = [] ∧ True) := by
 refine Does.enterML (vs := [.slice aa_2 na_2 ca_2, .int .i64 p_3, .int .i64 p_4]) (l := [(0, .slice aa_2 na_2 ca_2), (1, .int .i64 p_3), (2, .int .i64 p_4)]) Try.func28 rfl rfl ⟨rfl, rfl, rfl, trivial⟩ (fun w hlt => ?_)
 unfold code_Get at hx
 refine ZF (ZB (ZA rfl rfl (ZE rfl) (ZA rfl rfl (ZE rfl) (ZD (ZC (ZF (JC.block (ZF (ZF (ZB (ZA rfl rfl (ZG rfl) ?_)))))))))))
 obtain ⟨x_5, hr_6, hx⟩ := ZJ hx
 refine ZS (vs := [_]) (args := [_]) (K := []) (rst := []) E48 rfl rfl rfl ZI (code_sized_ok p_4 _ _ hr_6) rfl (fun u_7 Ku_7 Hu_7 hRu_7 hleu_7 hfu_7 => ?_)
 obtain ⟨rfl, rfl, rfl, -⟩ := hRu_7
 refine ZA rfl rfl (R.not rfl) (ZA rfl rfl (ZE rfl) (ZD (ZC ?_)))
 obtain ⟨t_8, ht_10, hx⟩ := ZJ hx
 refine Z4 (fun l o g => l = [(0, .slice aa_2 na_2 ca_2), (1, .int .i64 p_3), (2, .int .i64 p_4), (11, .bool t_8)] ∧ o = [] ∧ H = g) ?_ ?_
 ·
  rintro _ _ _ ⟨rfl, rfl, rfl⟩
  refine ZC (ZW rfl (fun c_13 => ?_) (fun c_13 => ?_))
  ·
   replace hx := ZX c_13 hx
   refine ZF (ZB (ZA rfl rfl (ZE rfl) (ZA rfl rfl (ZE rfl) (ZD (ZC (ZT (JN.blkR (ZV (JN.outMP (vs := [.int .i64 0, .int .i64 2]) (K := []) (rst := []) (own2 := []) [] (.inl rfl) ⟨rfl, rfl, rfl, rfl⟩ rfl rfl ZI (ZN rfl (ZN rfl rfl)) ZI ?_)))))))))
   obtain rfl := Option.some.inj hx
   exact ⟨rfl, rfl, trivial⟩
  ·
   replace hx := ZY c_13 hx
   refine ZF (ZB (ZA rfl rfl (ZG rfl) (ZA rfl rfl (ZG rfl) (ZA rfl rfl (YB rfl rfl) (ZA rfl rfl (ZG rfl) (ZA rfl rfl (Zk U23 rfl (IsSlice.long ha_2)) (ZA rfl rfl (R.gtr_i rfl rfl) (ZA rfl rfl (ZE rfl) (ZD (ZC (ZW rfl (fun c_14 => ?_) (fun c_14 => ?_))))))))))))
   ·
    replace hx := ZX c_14 hx
    refine ZF (ZB (ZA rfl rfl (ZE rfl) (ZA rfl rfl (ZE rfl) (ZD (ZC (ZT (JN.blkR (ZV (JN.outMP (vs := [.int .i64 0, .int .i64 8]) (K := []) (rst := []) (own2 := []) [] (.inl rfl) ⟨rfl, rfl, rfl, rfl⟩ rfl rfl ZI (ZN rfl (ZN rfl rfl)) ZI ?_)))))))))
    obtain rfl := Option.some.inj hx
    exact ⟨rfl, rfl, trivial⟩
   ·
    replace hx := ZY c_14 hx
    refine JC.skip (Zo (ZC (ZF (ZB (JL.alloc Z3 rfl (fun b_15 hb_15 => ZQ 0 S3 rfl rfl rfl rfl rfl (Nat.le_of_ble_eq_true rfl) (ZD (ZC (ZF (ZF (ZB ?_)))))))))))
    refine ZA rfl rfl (ZG rfl) (ZA rfl rfl (ZG rfl) (ZA rfl rfl (ZG rfl) (ZA rfl rfl (ZG rfl) (ZA rfl rfl (YB rfl rfl) ?_))))
    obtain ⟨m_16, hm_18, hb_17, hx⟩ := slc_some hx
    obtain ⟨vv_19, cv_19, h1v_19, h2v_19, h3v_19, hsv_19⟩ := IsSlice.cutv ha_2 hm_18 hb_17
    refine ZA rfl rfl (R.slc (cap := cv_19) (a := p_3) (b := w64 (p_3 + p_4)) (c := (cv_19 : Int)) (m := p_1) (R := RU8) U23 S5 rfl ⟨_, rfl⟩ ⟨_, rfl⟩ (by obtain ⟨ao, n, e, _⟩ := h1v_19; exact ⟨ao, n, e, rfl⟩) ⟨hb_17.1, hb_17.2.1, h2v_19⟩ h3v_19 (.inl rfl)) ?_
    obtain ⟨av_19, cv_19', rfl⟩ := IsSlice.val hsv_19
    obtain ⟨x_20, hr_21, hx⟩ := ZJ hx
    refine ZS (vs := [_]) (args := [_]) (K := []) (rst := [_]) E49 rfl rfl rfl ZI (slices_Backward_byte_ok m_16 _ hsv_19 _ hr_21) rfl (fun u_22 Ku_22 Hu_22 hRu_22 hleu_22 hfu_22 => ?_)
    obtain ⟨bit_23, rfl, rfl, hit_23, -⟩ := hRu_22
    refine ZD (ZC (JC.block ?_))
    obtain ⟨t_24, ht_26, hx⟩ := ZJ hx
    refine JC.rangeL (RA := fun _ args (y : Nat × UInt8) => args = #[.int .i64 ((y.1 : Nat) : Int), .int .u8 (y.2.toNat : Int)]) rfl code_Get_r1 0 t_24 ht_26 (fun s_27 o g => ∃ H_33 : Heaplet, o = [[(b_15, .cells #[.int .i64 s_27] 3 (0, 0))]] ∧ H_33 = g ∧ Hle Hu_22 H_33) (fun e c o g => False) rfl E68 (slices_Backward_byte_it m_16 _ (hsv_19.mono RU8.mono hleu_22) hit_23) (fun _ _ _ h => by rw [h]; rfl) rfl ⟨Hu_22, rfl, rfl, (Hle.refl _)⟩ ?_ ?_ ?_
    ·
     rintro lr_29 y_28 s_27 args o g out_31 ⟨H_33, rfl, rfl, hleH_33⟩ hA hx2
     clear hx; have hx := hx2; clear hx2; unfold code_Get_r1 at hx
     subst hA
     refine ⟨[(8, .pointer (some ⟨b_15, 0, none⟩)), (10, .int .u8 (y_28.2.toNat : Int))], fun wb_30 hwb_30 => ?_, fun wb_30 hwb_30 => ?_⟩
     ·
      refine ZB (ZA rfl rfl (ZE rfl) (ZD ?_))
      exact JN.assigned ⟨rfl, rfl, trivial⟩
     ·
      refine JC.block (ZB (ZA rfl rfl (Ze 0 S3 rfl rfl rfl) (ZA rfl rfl (R.mul_i rfl rfl) (ZA rfl rfl (ZG rfl) (ZA rfl rfl (R.cv_u8_i64 (a := y_28.2) U5 U3 rfl) (ZA rfl rfl (YB rfl rfl) (ZQ 0 S3 rfl rfl rfl rfl rfl (Nat.le_of_ble_eq_true rfl) (ZD (Zo ?_)))))))))
      obtain rfl := Option.some.inj hx
      exact JN.rN ⟨H_33, rfl, rfl, (hleH_33)⟩
    ·
     rintro D_32 s_27 o g hD_32 htt ⟨H_33, rfl, rfl, hleH_33⟩ hle2
     subst htt; simp only [Sum.elim_inl] at hx
     refine Zo (ZC (ZF (ZB (ZA rfl rfl (Ze 1 S3 rfl rfl rfl) (ZA rfl rfl (ZE rfl) (ZA rfl rfl (ZE rfl) (ZD (ZC (ZT (JN.outMP (vs := [.int .i64 s_27, .int .i64 0]) (K := []) (rst := [_]) (own2 := [_]) [D_32] (.inl rfl) ⟨rfl, rfl, rfl, rfl⟩ rfl rfl (ZK 0 rfl ZI) (ZN rfl (ZN rfl rfl)) ZI ?_))))))))))
     obtain rfl := Option.some.inj hx
     exact ⟨rfl, rfl, trivial⟩
    ·
     rintro D c e o g hD htt hX; exact hX.elim
 ·
  have hxo_9 := hx; clear hx; have hx := ht_10; clear ht_10
  refine ZW rfl (fun c_11 => ?_) (fun c_11 => ?_)
  ·
   replace hx := ZX c_11 hx
   refine JC.skip ?_
   obtain rfl := Option.some.inj hx
   exact Za ⟨rfl, rfl, rfl⟩ ⟨rfl, rfl, rfl, rfl, trivial⟩ rfl rfl
  ·
   replace hx := ZY c_11 hx
   refine ZF (ZB (ZA rfl rfl (ZG rfl) (ZA rfl rfl (Zy rfl rfl) (ZA rfl rfl (ZE rfl) (ZD (ZC (ZW rfl (fun c_12 => ?_) (fun c_12 => ?_))))))))
   ·
    replace hx := ZX c_12 hx
    refine JC.skip ?_
    obtain rfl := Option.some.inj hx
    exact Za ⟨rfl, rfl, rfl⟩ ⟨rfl, rfl, rfl, rfl, trivial⟩ rfl rfl
   ·
    replace hx := ZY c_12 hx
    refine ZB (ZA rfl rfl (ZG rfl) (ZA rfl rfl (ZG rfl) (ZA rfl rfl (Zk U23 rfl (IsSlice.long ha_2)) (ZA rfl rfl (R.gtr_i rfl rfl) (ZA rfl rfl (ZE rfl) (ZD ?_))))))
    obtain rfl := Option.some.inj hx
    exact Za ⟨rfl, rfl, rfl⟩ ⟨rfl, rfl, rfl, rfl, trivial⟩ rfl rfl

set_option maxHeartbeats 8000000 in
theorem mix_number_ok (p_1 : List UInt8) (H : Heaplet) {aa_2 : Option Addr} {na_2 : Nat} {ca_2 : Nat} (ha_2 : IsSlice H RU8 1 (.slice aa_2 na_2 ca_2) p_1) (r : UInt32) (hx : mix_number p_1 = some r) :
  Does Try.prog 98 #[.slice aa_2 na_2 ca_2] [] H (fun u K' H' => u = .int .u32 (r.toNat : Int) ∧ K' = [] ∧ True) := by
 refine Does.enterL (vs := [.slice aa_2 na_2 ca_2]) (l := [(0, .slice aa_2 na_2 ca_2)]) Try.func98 rfl rfl ⟨rfl, trivial⟩ (fun w hlt => ?_)
 unfold mix_number at hx
 refine ZF (ZB (ZA rfl rfl (ZE rfl) (ZD (ZC (ZF (ZB (ZA rfl rfl (ZG rfl) ?_)))))))
 obtain ⟨x_3, hr_4, hx⟩ := ZJ hx
 refine ZS (vs := [_, _, _]) (args := [_, _, _]) (K := []) (rst := []) E28 rfl rfl rfl ZI (code_Get_ok p_1 0 4 _ ha_2 _ hr_4) rfl (fun u_5 Ku_5 Hu_5 hRu_5 hleu_5 hfu_5 => ?_)
 obtain ⟨rfl, rfl, -⟩ := hRu_5
 refine ZA rfl rfl (ZG rfl) (ZA rfl rfl (R.extract rfl rfl) (ZA rfl rfl (R.extract rfl rfl) (ZA rfl rfl (ZE rfl) (ZA rfl rfl (ZE rfl) (ZD (ZC (ZF (ZB (ZA rfl rfl (ZG rfl) (ZA rfl rfl (R.cv_i64_u32 U3 U22 rfl) (ZA rfl rfl (ZE rfl) ?_)))))))))))
 refine ZD (ZC (ZT (ZR (vs := [.int .u32 ((u32i x_3.1).toNat : Int)]) (K := []) (rst := []) (.inl rfl) rfl rfl (ZN rfl rfl) ZI ?_)))
 obtain rfl := Option.some.inj hx
 exact ⟨rfl, rfl, trivial⟩

set_option maxHeartbeats 8000000 in
theorem math_bits_RotateLeft32_ok (p_1 : UInt32) (p_2 : Int) (H : Heaplet) (r : UInt32) (hx : math_bits_RotateLeft32 p_1 p_2 = some r) :
  Does Try.prog 125 #[.int .u32 (p_1.toNat : Int), .int .i64 p_2] [] H (fun u K' H' => u = .int .u32 (r.toNat : Int) ∧ K' = [] ∧ H = H' ∧ True) := by
 refine Does.enterL (vs := [.int .u32 (p_1.toNat : Int), .int .i64 p_2]) (l := [(0, .int .u32 (p_1.toNat : Int)), (1, .int .i64 p_2)]) Try.func125 rfl rfl ⟨rfl, rfl, trivial⟩ (fun w hlt => ?_)
 unfold math_bits_RotateLeft32 at hx
 refine ZF (ZB (ZA rfl rfl (ZE rfl) (ZD (ZC (ZF (ZB (ZA rfl rfl (ZG rfl) (ZA rfl rfl (R.cv_i64_u64 U3 U72 rfl) (ZA rfl rfl (R.and64 (a := u64i p_2) (b := (31 : UInt64)) rfl rfl) (ZA rfl rfl (ZE rfl) (ZD ?_)))))))))))
 refine ZC (ZF (ZB (ZA rfl rfl (ZG rfl) (ZA rfl rfl (ZG rfl) (ZA rfl rfl (R.shl32 (n := (((u64i p_2) &&& (31 : UInt64)).toNat : Int)) (a := p_1) rfl rfl (Int.natCast_nonneg _)) (ZA rfl rfl (ZG rfl) (ZA rfl rfl (ZG rfl) (ZA rfl rfl (R.sub64 (a := (32 : UInt64)) (b := (u64i p_2) &&& (31 : UInt64)) rfl rfl) (ZA rfl rfl (R.shr32 (n := (((32 : UInt64) - ((u64i p_2) &&& (31 : UInt64))).toNat : Int)) (a := p_1) rfl rfl (Int.natCast_nonneg _)) (ZA rfl rfl (R.or32 (a := sl32 p_1 ((((u64i p_2) &&& (31 : UInt64)).toNat : Int)).toNat) (b := sr32 p_1 ((((32 : UInt64) - ((u64i p_2) &&& (31 : UInt64))).toNat : Int)).toNat) rfl rfl) (ZA rfl rfl (ZE rfl) ?_)))))))))))
 refine ZD (ZC (ZT (ZR (vs := [.int .u32 (((sl32 p_1 ((((u64i p_2) &&& (31 : UInt64)).toNat : Int)).toNat) ||| (sr32 p_1 ((((32 : UInt64) - ((u64i p_2) &&& (31 : UInt64))).toNat : Int)).toNat)).toNat : Int)]) (K := []) (rst := []) (.inl rfl) rfl rfl (ZN rfl rfl) ZI ?_)))
 obtain rfl := Option.some.inj hx
 exact ⟨rfl, rfl, rfl, trivial⟩

set_option maxHeartbeats 8000000 in
theorem mix_words_turned_1_ok (p_1 : Int) (p_2 : Int) (p_4 : A4 UInt32) (H : Heaplet) {b_3 : Nat} (r : A4 UInt32) (hx : mix_words_turned_1 p_1 p_2 p_4 = some r) :
  Does Try.prog 124 #[.int .i64 p_1, .int .i64 p_2, .pointer (some ⟨b_3, 0, none⟩)] [[(b_3, .cells #[.int .u32 (p_4.e0.toNat : Int), .int .u32 (p_4.e1.toNat : Int), .int .u32 (p_4.e2.toNat : Int), .int .u32 (p_4.e3.toNat : Int)] 121 (0, 0))]] H (fun u K' H' => u = .tuple #[] ∧ K' = [[(b_3, .cells #[.int .u32 (r.e0.toNat : Int), .int .u32 (r.e1.toNat : Int), .int .u32 (r.e2.toNat : Int), .int .u32 (r.e3.toNat : Int)] 121 (0, 0))]] ∧ H = H' ∧ True) := by
 refine Does.enterL (vs := [.int .i64 p_1, .int .i64 p_2, .pointer (some ⟨b_3, 0, none⟩)]) (l := [(0, .int .i64 p_1), (1, .int .i64 p_2), (2, .pointer (some ⟨b_3, 0, none⟩))]) Try.func124 rfl rfl ⟨rfl, rfl, rfl, trivial⟩ (fun w hlt => ?_)
 unfold mix_words_turned_1 at hx
 refine ZF (ZB (ZA rfl rfl (R.ixA 0 U121 S22 rfl rfl rfl) (ZA rfl rfl (Ze 0 S22 rfl rfl rfl) (ZA rfl rfl (R.ixA 1 U121 S22 rfl rfl rfl) (ZA rfl rfl (Ze 0 S22 rfl rfl rfl) (ZA rfl rfl (R.add32 (a := p_4.e0) (b := p_4.e1) rfl rfl) (ZA rfl rfl (R.ixA 0 U121 S22 rfl rfl rfl) (ZQ 0 S22 rfl rfl rfl rfl rfl (Nat.le_of_ble_eq_true rfl) (ZD (ZC (ZF ?_)))))))))))
 refine ZB (ZA rfl rfl (R.ixA 3 U121 S22 rfl rfl rfl) (ZA rfl rfl (Ze 0 S22 rfl rfl rfl) (ZA rfl rfl (R.ixA 0 U121 S22 rfl rfl rfl) (ZA rfl rfl (Ze 0 S22 rfl rfl rfl) (ZA rfl rfl (R.xor32 (a := p_4.e3) (b := p_4.e0 + p_4.e1) rfl rfl) (ZA rfl rfl (ZG rfl) ?_))))))
 obtain ⟨x_5, hr_6, hx⟩ := ZJ hx
 refine ZS (vs := [_, _]) (args := [_, _]) (K := []) (rst := [_]) E125 rfl rfl rfl ZI (math_bits_RotateLeft32_ok (p_4.e3 ^^^ (p_4.e0 + p_4.e1)) p_1 _ _ hr_6) rfl (fun u_7 Ku_7 Hu_7 hRu_7 hleu_7 hfu_7 => ?_)
 obtain ⟨rfl, rfl, rfl, -⟩ := hRu_7
 refine ZA rfl rfl (R.ixA 3 U121 S22 rfl rfl rfl) (ZQ 0 S22 rfl rfl rfl rfl rfl (Nat.le_of_ble_eq_true rfl) (ZD (ZC (ZF (ZB (ZA rfl rfl (R.ixA 2 U121 S22 rfl rfl rfl) (ZA rfl rfl (Ze 0 S22 rfl rfl rfl) (ZA rfl rfl (R.ixA 3 U121 S22 rfl rfl rfl) (ZA rfl rfl (Ze 0 S22 rfl rfl rfl) (ZA rfl rfl (R.add32 (a := p_4.e2) (b := x_5) rfl rfl) (ZA rfl rfl (R.ixA 2 U121 S22 rfl rfl rfl) ?_)))))))))))
 refine ZQ 0 S22 rfl rfl rfl rfl rfl (Nat.le_of_ble_eq_true rfl) (ZD (ZC (ZB (ZA rfl rfl (R.ixA 1 U121 S22 rfl rfl rfl) (ZA rfl rfl (Ze 0 S22 rfl rfl rfl) (ZA rfl rfl (R.ixA 2 U121 S22 rfl rfl rfl) (ZA rfl rfl (Ze 0 S22 rfl rfl rfl) (ZA rfl rfl (R.xor32 (a := p_4.e1) (b := p_4.e2 + x_5) rfl rfl) (ZA rfl rfl (ZG rfl) ?_)))))))))
 obtain ⟨x_8, hr_9, hx⟩ := ZJ hx
 refine ZS (vs := [_, _]) (args := [_, _]) (K := []) (rst := [_]) E125 rfl rfl rfl ZI (math_bits_RotateLeft32_ok (p_4.e1 ^^^ (p_4.e2 + x_5)) p_2 _ _ hr_9) rfl (fun u_10 Ku_10 Hu_10 hRu_10 hleu_10 hfu_10 => ?_)
 obtain ⟨rfl, rfl, rfl, -⟩ := hRu_10
 refine ZA rfl rfl (R.ixA 1 U121 S22 rfl rfl rfl) (ZQ 0 S22 rfl rfl rfl rfl rfl (Nat.le_of_ble_eq_true rfl) (ZD (ZR (vs := []) (K := [_]) (rst := []) (.inr rfl) rfl rfl rfl (ZK 0 rfl ZI) ?_)))
 obtain rfl := Option.some.inj hx
 exact ⟨rfl, rfl, rfl, trivial⟩

set_option maxHeartbeats 8000000 in
theorem mix_words_turned_ok (p_1 : A4 UInt32) (H : Heaplet) (r : A4 UInt32) (hx : mix_words_turned p_1 = some r) :
  Does Try.prog 111 #[.agg #[.int .u32 (p_1.e0.toNat : Int), .int .u32 (p_1.e1.toNat : Int), .int .u32 (p_1.e2.toNat : Int), .int .u32 (p_1.e3.toNat : Int)]] [] H (fun u K' H' => u = .agg #[.int .u32 (r.e0.toNat : Int), .int .u32 (r.e1.toNat : Int), .int .u32 (r.e2.toNat : Int), .int .u32 (r.e3.toNat : Int)] ∧ K' = [] ∧ H = H' ∧ True) := by
 refine Does.enterL (vs := [.agg #[.int .u32 (p_1.e0.toNat : Int), .int .u32 (p_1.e1.toNat : Int), .int .u32 (p_1.e2.toNat : Int), .int .u32 (p_1.e3.toNat : Int)]]) (l := [(0, .agg #[.int .u32 (p_1.e0.toNat : Int), .int .u32 (p_1.e1.toNat : Int), .int .u32 (p_1.e2.toNat : Int), .int .u32 (p_1.e3.toNat : Int)])]) Try.func111 rfl rfl ⟨rfl, trivial⟩ (fun w hlt => ?_)
 unfold mix_words_turned at hx
 refine ZF (ZB (YF rfl rfl (fun b_2 hb_2 => JL.alloc Z121 rfl (fun b_3 hb_3 => ZD (ZC (ZF (ZB (ZA rfl rfl (R.func (vf := []) (vc := [_]) rfl rfl) (ZA rfl rfl (ZE rfl) (ZD (ZC ?_)))))))))))
 refine ZF (ZB (ZA rfl rfl (ZG rfl) ?_))
 obtain ⟨x_4, hr_5, hx⟩ := ZJ hx
 refine ZS (vs := [_, _]) (args := [_, _, _]) (K := [_]) (rst := [_]) E124 rfl rfl rfl (ZK 1 rfl ZI) (mix_words_turned_1_ok 15 11 p_1 _ _ hr_5) rfl (fun u_6 Ku_6 Hu_6 hRu_6 hleu_6 hfu_6 => ?_)
 obtain ⟨rfl, rfl, rfl, -⟩ := hRu_6
 refine ZD (ZC (ZF (ZB (ZA rfl rfl (ZG rfl) ?_))))
 obtain ⟨x_7, hr_8, hx⟩ := ZJ hx
 refine ZS (vs := [_, _]) (args := [_, _, _]) (K := [_]) (rst := [_]) E124 rfl rfl rfl (ZK 0 rfl ZI) (mix_words_turned_1_ok 9 6 x_4 _ _ hr_8) rfl (fun u_9 Ku_9 Hu_9 hRu_9 hleu_9 hfu_9 => ?_)
 obtain ⟨rfl, rfl, rfl, -⟩ := hRu_9
 refine ZD (ZC (ZF (ZB (ZA rfl rfl (Zu 0 (vs := [.int .u32 (x_7.e0.toNat : Int), .int .u32 (x_7.e1.toNat : Int), .int .u32 (x_7.e2.toNat : Int), .int .u32 (x_7.e3.toNat : Int)]) S121 rfl rfl rfl rfl) (ZQ 1 S121 rfl rfl rfl rfl rfl (Nat.le_of_ble_eq_true rfl) (ZD (ZC (ZT (ZR (vs := [.agg #[.int .u32 (x_7.e0.toNat : Int), .int .u32 (x_7.e1.toNat : Int), .int .u32 (x_7.e2.toNat : Int), .int .u32 (x_7.e3.toNat : Int)]]) (K := []) (rst := [_, _]) (.inl rfl) rfl rfl (Zb 1 rfl rfl S121 rfl) ZI ?_)))))))))
 obtain rfl := Option.some.inj hx
 exact ⟨rfl, rfl, rfl, trivial⟩

set_option maxHeartbeats 8000000 in
theorem mix_words_often_ok (p_1 : A4 UInt32) (p_2 : Int) (H : Heaplet) (r : A4 UInt32) (hx : mix_words_often p_1 p_2 = some r) :
  Does Try.prog 99 #[.agg #[.int .u32 (p_1.e0.toNat : Int), .int .u32 (p_1.e1.toNat : Int), .int .u32 (p_1.e2.toNat : Int), .int .u32 (p_1.e3.toNat : Int)], .int .i64 p_2] [] H (fun u K' H' => u = .agg #[.int .u32 (r.e0.toNat : Int), .int .u32 (r.e1.toNat : Int), .int .u32 (r.e2.toNat : Int), .int .u32 (r.e3.toNat : Int)] ∧ K' = [] ∧ H = H' ∧ True) := by
 refine Does.enterL (vs := [.agg #[.int .u32 (p_1.e0.toNat : Int), .int .u32 (p_1.e1.toNat : Int), .int .u32 (p_1.e2.toNat : Int), .int .u32 (p_1.e3.toNat : Int)], .int .i64 p_2]) (l := [(0, .agg #[.int .u32 (p_1.e0.toNat : Int), .int .u32 (p_1.e1.toNat : Int), .int .u32 (p_1.e2.toNat : Int), .int .u32 (p_1.e3.toNat : Int)]), (1, .int .i64 p_2)]) Try.func99 rfl rfl ⟨rfl, rfl, trivial⟩ (fun w hlt => ?_)
 unfold mix_words_often at hx
 refine ZF (ZB (YF rfl rfl (fun b_3 hb_3 => JL.alloc Z121 rfl (fun b_4 hb_4 => ZD (ZC (ZF (ZF (ZB (ZA rfl rfl (ZG rfl) (ZA rfl rfl (ZG rfl) (ZD ?_)))))))))))
 refine ZC ?_
 obtain ⟨t_5, ht_7, hx⟩ := ZJ hx
 refine Z4 (fun l o g => l = [(2, .pointer (some ⟨b_3, 0, none⟩)), (4, .pointer (some ⟨b_4, 0, none⟩))] ∧ o = [[(b_3, .cells #[.int .u32 (t_5.1.toNat : Int), .int .u32 (t_5.2.1.toNat : Int), .int .u32 (t_5.2.2.1.toNat : Int), .int .u32 (t_5.2.2.2.toNat : Int)] 121 (0, 0))], [(b_4, .cells #[.int .u32 ((0 : UInt32).toNat : Int), .int .u32 ((0 : UInt32).toNat : Int), .int .u32 ((0 : UInt32).toNat : Int), .int .u32 ((0 : UInt32).toNat : Int)] 121 (0, 0))]] ∧ H = g) ?_ ?_
 ·
  rintro _ _ _ ⟨rfl, rfl, rfl⟩
  refine ZC (ZF (ZB (ZA rfl rfl (Zu 0 (vs := [.int .u32 (t_5.1.toNat : Int), .int .u32 (t_5.2.1.toNat : Int), .int .u32 (t_5.2.2.1.toNat : Int), .int .u32 (t_5.2.2.2.toNat : Int)]) S121 rfl rfl rfl rfl) (ZQ 1 S121 rfl rfl rfl rfl rfl (Nat.le_of_ble_eq_true rfl) (ZD (ZC (ZT (ZR (vs := [.agg #[.int .u32 (t_5.1.toNat : Int), .int .u32 (t_5.2.1.toNat : Int), .int .u32 (t_5.2.2.1.toNat : Int), .int .u32 (t_5.2.2.2.toNat : Int)]]) (K := []) (rst := [_, _]) (.inl rfl) rfl rfl (Zb 1 rfl rfl S121 rfl) ZI ?_))))))))
  obtain rfl := Option.some.inj hx
  exact ⟨rfl, rfl, rfl, trivial⟩
 ·
  have hxo_6 := hx; clear hx; have hx := ht_7; clear ht_7
  refine JC.block (Zw 1 rfl (Z2 (fun n l o g => ∃ s_8 : UInt32 × UInt32 × UInt32 × UInt32 × Int, l = [(2, .pointer (some ⟨b_3, 0, none⟩)), (4, .pointer (some ⟨b_4, 0, none⟩)), (5, .int .i64 p_2), (6, .int .i64 s_8.2.2.2.2)] ∧ o = [[(b_3, .cells #[.int .u32 (s_8.1.toNat : Int), .int .u32 (s_8.2.1.toNat : Int), .int .u32 (s_8.2.2.1.toNat : Int), .int .u32 (s_8.2.2.2.1.toNat : Int)] 121 (0, 0))], [(b_4, .cells #[.int .u32 ((0 : UInt32).toNat : Int), .int .u32 ((0 : UInt32).toNat : Int), .int .u32 ((0 : UInt32).toNat : Int), .int .u32 ((0 : UInt32).toNat : Int)] 121 (0, 0))]] ∧ H = g ∧ run (mix_words_often_l1 p_2) n s_8 = some t_5) FUEL ?_ ⟨(p_1.e0, p_1.e1, p_1.e2, p_1.e3, 0), rfl, rfl, rfl, hx⟩ ⟨rfl, rfl, rfl, rfl, trivial⟩ ?_))
  ·
   rintro _ _ _ ⟨s_8, rfl, rfl, rfl, hn_9⟩
   exact Zz hn_9
  ·
   rintro n_10 _ _ _ ⟨s_8, rfl, rfl, rfl, hn_9⟩
   clear hx; obtain ⟨oo_12, hx, hd_11⟩ := Z0 hn_9
   unfold mix_words_often_l1 at hx
   refine ZF (ZB (ZA rfl rfl (Zy rfl rfl) (ZD (ZC (ZF (ZW rfl (fun c_11 => ?_) (fun c_11 => ?_)))))))
   ·
    replace hx := ZX c_11 hx
    refine JC.skip (ZC (ZF (JC.block (ZB (ZA rfl rfl (Zu 0 (vs := [.int .u32 (s_8.1.toNat : Int), .int .u32 (s_8.2.1.toNat : Int), .int .u32 (s_8.2.2.1.toNat : Int), .int .u32 (s_8.2.2.2.1.toNat : Int)]) S121 rfl rfl rfl rfl) ?_)))))
    obtain ⟨x_12, hr_13, hx⟩ := ZJ hx
    refine ZS (vs := [_]) (args := [_]) (K := []) (rst := [_, _]) E111 rfl rfl rfl ZI (mix_words_turned_ok (A4.mk s_8.1 s_8.2.1 s_8.2.2.1 s_8.2.2.2.1) _ _ hr_13) rfl (fun u_14 Ku_14 Hu_14 hRu_14 hleu_14 hfu_14 => ?_)
    obtain ⟨rfl, rfl, rfl, -⟩ := hRu_14
    refine ZQ 0 S121 rfl rfl rfl rfl rfl (Nat.le_of_ble_eq_true rfl) (ZD (Zo (ZC (ZB (ZA rfl rfl (YB rfl rfl) (ZA rfl rfl (ZG rfl) (ZD ?_)))))))
    replace hx := Zp hd_11 hx
    refine ZP 1 rfl (ZP 1 rfl ?_)
    exact Za ⟨(x_12.e0, x_12.e1, x_12.e2, x_12.e3, w64 (s_8.2.2.2.2 + 1)), rfl, rfl, rfl, hx⟩ ⟨rfl, rfl, rfl, rfl, trivial⟩ rfl rfl
   ·
    replace hx := ZY c_11 hx
    refine Z1 (Zc ?_)
    obtain rfl := Zv hd_11 hx
    refine Zc (Zi (ZP 1 rfl (ZP 1 rfl ?_)))
    exact Za ⟨rfl, rfl, rfl⟩ ⟨rfl, rfl, trivial⟩ rfl rfl

set_option maxHeartbeats 8000000 in
theorem mix_four_ok (p_1 : List UInt8) (H : Heaplet) {aa_2 : Option Addr} {na_2 : Nat} {ca_2 : Nat} (ha_2 : IsSlice H RU8 1 (.slice aa_2 na_2 ca_2) p_1) (r : A4 UInt32) (hx : mix_four p_1 = some r) :
  Does Try.prog 81 #[.slice aa_2 na_2 ca_2] [] H (fun u K' H' => u = .agg #[.int .u32 (r.e0.toNat : Int), .int .u32 (r.e1.toNat : Int), .int .u32 (r.e2.toNat : Int), .int .u32 (r.e3.toNat : Int)] ∧ K' = [] ∧ True) := by
 refine Does.enterML (vs := [.slice aa_2 na_2 ca_2]) (l := [(0, .slice aa_2 na_2 ca_2)]) Try.func81 rfl rfl ⟨rfl, trivial⟩ (fun w hlt => ?_)
 unfold mix_four at hx
 refine ZF (ZB (JL.alloc Z121 rfl (fun b_3 hb_3 => ZD (ZC (ZF (ZB (ZA rfl rfl (R.bldA (vs := [(0, .int .u32 ((1 : UInt32).toNat : Int)), (1, .int .u32 ((2 : UInt32).toNat : Int)), (2, .int .u32 ((3 : UInt32).toNat : Int)), (3, .int .u32 ((4 : UInt32).toNat : Int))]) (cells := #[.int .u32 ((1 : UInt32).toNat : Int), .int .u32 ((2 : UInt32).toNat : Int), .int .u32 ((3 : UInt32).toNat : Int), .int .u32 ((4 : UInt32).toNat : Int)]) Z121 B121 rfl rfl rfl rfl) (JL.alloc Z121 rfl (fun b_4 hb_4 => ZQ 0 S121 rfl rfl rfl rfl rfl (Nat.le_of_ble_eq_true rfl) (ZD (ZC ?_)))))))))))
 refine ZF (ZB (ZA rfl rfl (ZG rfl) ?_))
 obtain ⟨x_5, hr_6, hx⟩ := ZJ hx
 refine ZS (vs := [_]) (args := [_]) (K := []) (rst := [_, _]) E26 rfl rfl rfl ZI (slices_Clone_byte_ok p_1 _ ha_2 _ hr_6) rfl (fun u_7 Ku_7 Hu_7 hRu_7 hleu_7 hfu_7 => ?_)
 obtain ⟨ar_8, nr_8, cr_8, Kr_8, rfl, rfl, rfl, hr_8, hnewr_8, -⟩ := hRu_7
 replace hr_8 := (RowOf.base (Zf (H2 := New H H) RU8.const hr_8) (fun p hp => (hfu_7 p (Zh 0 rfl hp)).resolve_left (hnewr_8 p hp)))
 refine JL.pubN 0 RU8.mono rfl hr_8 (Nat.le_refl _) (fun H_9 hleH_9 hsH_9 => JL.forget 0 ?_)
 obtain ⟨x_10, hr_11, hx⟩ := ZJ hx
 refine ZS (vs := [_]) (args := [_]) (K := []) (rst := [_, _]) E96 rfl rfl rfl ZI (slices_Clip_byte_ok x_5 _ (hsH_9.old RU8.mono) _ hr_11) rfl (fun u_12 Ku_12 Hu_12 hRu_12 hleu_12 hfu_12 => ?_)
 obtain ⟨az_13, nz_13, rfl, rfl, rfl, hz_13, -⟩ := hRu_12
 refine JL.bslF (HF := (New H H_9)) (R := RU8) (ls := [(1 : UInt8)]) (vs := [.int .u8 ((1 : UInt8).toNat : Int)]) U23 I5 rfl rfl (⟨_, _, rfl, rfl, rfl, rfl⟩) RU8.one rfl rfl rfl (by simp [maxLen]) rfl (fun vr_14 Kr_14 hr_14 => ?_)
 obtain ⟨ar_14, cr_14, rfl⟩ := RowOf.val hr_14
 obtain ⟨q_15, hm_16, hl_17, hx⟩ := Z6 hx
 refine JL.appC (HF := (New H H_9)) U23 I5 rfl RU8.one (Hle.refl _) hz_13 (fun _ _ h => RU8.const _ _ _ _ h) rfl (SrcF.row 0 U23 rfl (Zf RU8.const hr_14)) (List.cons_ne_nil _ _) hm_16 hl_17 rfl rfl (fun vr_18 Kr_18 hr_18 => ?_)
 obtain ⟨ar_18, cr_18, rfl⟩ := RowOf.val hr_18
 refine ZA rfl rfl (ZE rfl) (ZD (ZC (ZF ?_)))
 obtain ⟨t_19, ht_21, hx⟩ := ZJ hx
 refine Z4 (fun l o g => ∃ ar_26 : Option Addr, ∃ nr_26 : Nat, ∃ cr_26 : Nat, ∃ Kr_26 : Own, l = [(0, .slice aa_2 na_2 ca_2), (2, .pointer (some ⟨b_3, 0, none⟩)), (3, .pointer (some ⟨b_4, 0, none⟩)), (4, .slice ar_26 nr_26 cr_26)] ∧ o = [[(b_3, .cells #[.int .u32 ((0 : UInt32).toNat : Int), .int .u32 ((0 : UInt32).toNat : Int), .int .u32 ((0 : UInt32).toNat : Int), .int .u32 ((0 : UInt32).toNat : Int)] 121 (0, 0))], [(b_4, .cells #[.int .u32 ((1 : UInt32).toNat : Int), .int .u32 ((2 : UInt32).toNat : Int), .int .u32 ((3 : UInt32).toNat : Int), .int .u32 ((4 : UInt32).toNat : Int)] 121 (0, 0))], Kr_26] ∧ H_9 = g ∧ RowOf (New H H_9) RU8 w.heap.size 5 1 (.slice ar_26 nr_26 cr_26) t_19 Kr_26) ?_ ?_
 ·
  rintro _ _ _ ⟨ar_26, nr_26, cr_26, Kr_26, rfl, rfl, rfl, hr_26⟩
  refine ZC (ZF (ZF (ZB (ZA rfl rfl (ZG rfl) (JL.pubN 2 RU8.mono rfl hr_26 (Nat.le_refl _) (fun H_27 hleH_27 hsH_27 => JL.forget 2 ?_))))))
  obtain ⟨x_28, hr_29, hx⟩ := ZJ hx
  refine ZS (vs := [_, _]) (args := [_, _]) (K := []) (rst := [_, _]) E97 rfl rfl rfl ZI (slices_Chunk_byte_ok t_19 8 _ (hsH_27.old RU8.mono) _ hr_29) rfl (fun u_30 Ku_30 Hu_30 hRu_30 hleu_30 hfu_30 => ?_)
  obtain ⟨bit_31, cit_31, rfl, rfl, hit_31, kit_31, pit_31, -⟩ := hRu_30
  refine ZD (ZC (JC.block ?_))
  obtain ⟨t_32, ht_34, hx⟩ := ZJ hx
  refine Zw 1 rfl (Zw 1 rfl (JC.rangeL (RA := fun H' args (y : List UInt8) => ∃ ao : Option Addr, args = #[.slice ao y.length y.length] ∧ IsSlice H' RU8 1 (.slice ao y.length y.length) y) rfl mix_four_r2 ((1 : UInt32), (2 : UInt32), (3 : UInt32), (4 : UInt32)) t_32 ht_34 (fun s_35 o g => ∃ H_41 : Heaplet, o = [[(b_3, .cells #[.int .u32 ((0 : UInt32).toNat : Int), .int .u32 ((0 : UInt32).toNat : Int), .int .u32 ((0 : UInt32).toNat : Int), .int .u32 ((0 : UInt32).toNat : Int)] 121 (0, 0))], [(b_4, .cells #[.int .u32 (s_35.1.toNat : Int), .int .u32 (s_35.2.1.toNat : Int), .int .u32 (s_35.2.2.1.toNat : Int), .int .u32 (s_35.2.2.2.toNat : Int)] 121 (0, 0))]] ∧ H_41 = g ∧ Hle Hu_30 H_41) (fun e c o g => False) rfl E110 (slices_Chunk_byte_it t_19 8 pit_31 _ ((hsH_27.mono RU8.mono (New.mono hleu_30)).old RU8.mono) hit_31 kit_31) (fun _ _ _ h => by obtain ⟨_, h, _⟩ := h; rw [h]; rfl) rfl ⟨Hu_30, rfl, rfl, (Hle.refl _)⟩ ?_ ?_ ?_))
  ·
   rintro lr_37 y_36 s_35 args o g out_39 ⟨H_41, rfl, rfl, hleH_41⟩ hA hx2
   clear hx; have hx := hx2; clear hx2; unfold mix_four_r2 at hx
   obtain ⟨aoit_31, rfl, hyit_31⟩ := hA
   refine ⟨[(0, .slice aa_2 na_2 ca_2), (2, .pointer (some ⟨b_3, 0, none⟩)), (3, .pointer (some ⟨b_4, 0, none⟩)), (5, .slice aoit_31 y_36.length y_36.length)], fun wb_38 hwb_38 => ?_, fun wb_38 hwb_38 => ?_⟩
   ·
    refine ZB (ZA rfl rfl (ZE rfl) (ZD ?_))
    exact JN.assigned ⟨rfl, rfl, rfl, rfl, trivial⟩
   ·
    refine JC.block (ZF ?_)
    obtain ⟨t_42, ht_44, hx⟩ := ZJ hx
    refine Z4 (fun l o g => ∃ H_55 : Heaplet, l = [(0, .slice aa_2 na_2 ca_2), (2, .pointer (some ⟨b_3, 0, none⟩)), (3, .pointer (some ⟨b_4, 0, none⟩)), (5, .slice aoit_31 y_36.length y_36.length)] ∧ o = [[(b_3, .cells #[.int .u32 ((0 : UInt32).toNat : Int), .int .u32 ((0 : UInt32).toNat : Int), .int .u32 ((0 : UInt32).toNat : Int), .int .u32 ((0 : UInt32).toNat : Int)] 121 (0, 0))], [(b_4, .cells #[.int .u32 (t_42.toNat : Int), .int .u32 (s_35.2.1.toNat : Int), .int .u32 (s_35.2.2.1.toNat : Int), .int .u32 (s_35.2.2.2.toNat : Int)] 121 (0, 0))]] ∧ H_55 = g ∧ Hle H_41 H_55) ?_ ?_
    ·
     rintro _ _ _ ⟨H_55, rfl, rfl, rfl, hleH_55⟩
     refine ZC (ZF (JC.draw (so := [_]) 8 rfl Mixed ⟨⟨0, rfl⟩, trivial⟩ (JA.val ⟨by kernel_rfl, by kernel_rfl⟩ (ZO _) (i := 0) rfl ⟨by kernel_rfl, by kernel_rfl, rfl⟩ trivial (ZM (Hle.refl _) ⟨⟨0, rfl⟩, trivial⟩) (R.ixA 2 U121 S22 rfl rfl rfl) rfl (JA.val ⟨by kernel_rfl, by kernel_rfl⟩ (ZO _) (i := 2) rfl ⟨by kernel_rfl, by kernel_rfl, rfl⟩ trivial (ZM (Hle.refl _) ⟨⟨0, rfl⟩, trivial⟩) (ZG rfl) rfl ?_))))
     obtain ⟨m_56, hm_58, hb_57, hx⟩ := slc_some hx
     obtain ⟨vv_59, cv_59, h1v_59, h2v_59, h3v_59, hsv_59⟩ := IsSlice.cutv (hyit_31.mono RU8.mono hleH_55) hm_58 hb_57
     refine JA.val ⟨by kernel_rfl, by kernel_rfl⟩ (ZO _) (i := 3) rfl ⟨by kernel_rfl, by kernel_rfl, rfl⟩ trivial (ZM (Hle.refl _) ⟨⟨0, rfl⟩, trivial⟩) (R.slc (cap := cv_59) (a := 4) (b := (y_36.length : Int)) (c := (cv_59 : Int)) (m := y_36) (R := RU8) U23 S5 rfl ⟨_, rfl⟩ rfl (by obtain ⟨ao, n, e, _⟩ := h1v_59; exact ⟨ao, n, e, rfl⟩) ⟨hb_57.1, hb_57.2.1, h2v_59⟩ h3v_59 (.inl rfl)) rfl ?_
     obtain ⟨av_59, cv_59', rfl⟩ := IsSlice.val hsv_59
     refine JA.two (i := 1) (j := 4) (by kernel_rfl) ?_ ?_
     ·
      refine Zn rfl trivial rfl (fun K hK => ZA rfl rfl (Ze 1 S22 rfl rfl rfl) (ZD (hK _ _ _ (ZM (Hle.refl _) ⟨⟨0, rfl⟩, trivial⟩) (JA.one (i := 4) (by kernel_rfl) (Zn rfl trivial rfl (fun K hK => ?_))))))
      obtain ⟨x_60, hr_61, hx⟩ := ZJ hx
      refine ZS (vs := [_]) (args := [_]) (K := []) (rst := [_, _]) E98 rfl rfl rfl ZI (mix_number_ok m_56 _ hsv_59 _ hr_61) rfl (fun u_62 Ku_62 Hu_62 hRu_62 hleu_62 hfu_62 => ?_)
      obtain ⟨rfl, rfl, -⟩ := hRu_62
      refine ZD (hK _ _ _ (ZM hleu_62 ⟨⟨0, rfl⟩, trivial⟩) (JA.val ⟨by kernel_rfl, by kernel_rfl⟩ (ZO _) (i := 5) rfl ⟨by kernel_rfl, by kernel_rfl, rfl⟩ trivial (ZM hleu_62 ⟨⟨0, rfl⟩, trivial⟩) (R.xor32 (a := s_35.2.2.1) (b := x_60) rfl rfl) rfl (JA.val ⟨by kernel_rfl, by kernel_rfl⟩ (ZO _) (i := 6) rfl ⟨by kernel_rfl, by kernel_rfl, rfl⟩ trivial (ZM hleu_62 ⟨⟨0, rfl⟩, trivial⟩) (R.ixA 2 U121 S22 rfl rfl rfl) rfl (JA.one (i := 7) (by kernel_rfl) (Zn rfl trivial rfl (fun K hK => ZQ 1 S22 rfl rfl rfl rfl rfl (Nat.le_of_ble_eq_true rfl) (ZD (hK _ _ _ (ZM hleu_62 ⟨⟨0, rfl⟩, trivial⟩) (JA.doneN (by kernel_rfl) (ZC (ZB ?_)))))))))))
      refine ZA rfl rfl (Zu 1 (vs := [.int .u32 (t_42.toNat : Int), .int .u32 (s_35.2.1.toNat : Int), .int .u32 ((s_35.2.2.1 ^^^ x_60).toNat : Int), .int .u32 (s_35.2.2.2.toNat : Int)]) S121 rfl rfl rfl rfl) ?_
      obtain ⟨x_63, hr_64, hx⟩ := ZJ hx
      refine ZS (vs := [_, _]) (args := [_, _]) (K := []) (rst := [_, _]) E99 rfl rfl rfl ZI (mix_words_often_ok (A4.mk t_42 s_35.2.1 (s_35.2.2.1 ^^^ x_60) s_35.2.2.2) 4 _ _ hr_64) rfl (fun u_65 Ku_65 Hu_65 hRu_65 hleu_65 hfu_65 => ?_)
      obtain ⟨rfl, rfl, rfl, -⟩ := hRu_65
      refine ZQ 1 S121 rfl rfl rfl rfl rfl (Nat.le_of_ble_eq_true rfl) (ZD (Zo ?_))
      obtain rfl := Option.some.inj hx
      refine ZP 1 rfl (ZP 1 rfl ?_)
      exact JN.rN ⟨Hu_62, rfl, rfl, ((hleH_41.trans (hleH_55.trans hleu_62)))⟩
     ·
      refine Zn rfl trivial rfl (fun K hK => ?_)
      obtain ⟨x_66, hr_67, hx⟩ := ZJ hx
      refine ZS (vs := [_]) (args := [_]) (K := []) (rst := [_, _]) E98 rfl rfl rfl ZI (mix_number_ok m_56 _ hsv_59 _ hr_67) rfl (fun u_68 Ku_68 Hu_68 hRu_68 hleu_68 hfu_68 => ?_)
      obtain ⟨rfl, rfl, -⟩ := hRu_68
      refine ZD (hK _ _ _ (ZM hleu_68 ⟨⟨0, rfl⟩, trivial⟩) (JA.one (i := 1) (by kernel_rfl) (Zn rfl trivial rfl (fun K hK => ZA rfl rfl (Ze 1 S22 rfl rfl rfl) (ZD (hK _ _ _ (ZM hleu_68 ⟨⟨0, rfl⟩, trivial⟩) (JA.val ⟨by kernel_rfl, by kernel_rfl⟩ (ZO _) (i := 5) rfl ⟨by kernel_rfl, by kernel_rfl, rfl⟩ trivial (ZM hleu_68 ⟨⟨0, rfl⟩, trivial⟩) (R.xor32 (a := s_35.2.2.1) (b := x_66) rfl rfl) rfl (JA.val ⟨by kernel_rfl, by kernel_rfl⟩ (ZO _) (i := 6) rfl ⟨by kernel_rfl, by kernel_rfl, rfl⟩ trivial (ZM hleu_68 ⟨⟨0, rfl⟩, trivial⟩) (R.ixA 2 U121 S22 rfl rfl rfl) rfl (JA.one (i := 7) (by kernel_rfl) (Zn rfl trivial rfl (fun K hK => ZQ 1 S22 rfl rfl rfl rfl rfl (Nat.le_of_ble_eq_true rfl) ?_)))))))))))
      refine ZD (hK _ _ _ (ZM hleu_68 ⟨⟨0, rfl⟩, trivial⟩) (JA.doneN (by kernel_rfl) (ZC (ZB (ZA rfl rfl (Zu 1 (vs := [.int .u32 (t_42.toNat : Int), .int .u32 (s_35.2.1.toNat : Int), .int .u32 ((s_35.2.2.1 ^^^ x_66).toNat : Int), .int .u32 (s_35.2.2.2.toNat : Int)]) S121 rfl rfl rfl rfl) ?_)))))
      obtain ⟨x_69, hr_70, hx⟩ := ZJ hx
      refine ZS (vs := [_, _]) (args := [_, _]) (K := []) (rst := [_, _]) E99 rfl rfl rfl ZI (mix_words_often_ok (A4.mk t_42 s_35.2.1 (s_35.2.2.1 ^^^ x_66) s_35.2.2.2) 4 _ _ hr_70) rfl (fun u_71 Ku_71 Hu_71 hRu_71 hleu_71 hfu_71 => ?_)
      obtain ⟨rfl, rfl, rfl, -⟩ := hRu_71
      refine ZQ 1 S121 rfl rfl rfl rfl rfl (Nat.le_of_ble_eq_true rfl) (ZD (Zo ?_))
      obtain rfl := Option.some.inj hx
      refine ZP 1 rfl (ZP 1 rfl ?_)
      exact JN.rN ⟨Hu_68, rfl, rfl, ((hleH_41.trans (hleH_55.trans hleu_68)))⟩
    ·
     have hxo_43 := hx; clear hx; have hx := ht_44; clear ht_44
     refine JC.draw (so := [_]) 8 rfl Mixed ⟨⟨0, rfl⟩, trivial⟩ (JA.val ⟨by kernel_rfl, by kernel_rfl⟩ (ZO _) (i := 0) rfl ⟨by kernel_rfl, by kernel_rfl, rfl⟩ trivial (ZM (Hle.refl _) ⟨⟨0, rfl⟩, trivial⟩) (R.ixA 0 U121 S22 rfl rfl rfl) rfl (JA.val ⟨by kernel_rfl, by kernel_rfl⟩ (ZO _) (i := 2) rfl ⟨by kernel_rfl, by kernel_rfl, rfl⟩ trivial (ZM (Hle.refl _) ⟨⟨0, rfl⟩, trivial⟩) (ZG rfl) rfl ?_))
     obtain ⟨m_45, hm_47, hb_46, hx⟩ := slc_some hx
     obtain ⟨vv_48, cv_48, h1v_48, h2v_48, h3v_48, hsv_48⟩ := IsSlice.cutv hyit_31 hm_47 hb_46
     refine JA.val ⟨by kernel_rfl, by kernel_rfl⟩ (ZO _) (i := 3) rfl ⟨by kernel_rfl, by kernel_rfl, rfl⟩ trivial (ZM (Hle.refl _) ⟨⟨0, rfl⟩, trivial⟩) (R.slc (cap := cv_48) (a := 0) (b := 4) (c := (cv_48 : Int)) (m := y_36) (R := RU8) U23 S5 rfl rfl ⟨_, rfl⟩ (by obtain ⟨ao, n, e, _⟩ := h1v_48; exact ⟨ao, n, e, rfl⟩) ⟨hb_46.1, hb_46.2.1, h2v_48⟩ h3v_48 (.inl rfl)) rfl ?_
     obtain ⟨av_48, cv_48', rfl⟩ := IsSlice.val hsv_48
     refine JA.two (i := 1) (j := 4) (by kernel_rfl) ?_ ?_
     ·
      refine Zn rfl trivial rfl (fun K hK => ZA rfl rfl (Ze 1 S22 rfl rfl rfl) (ZD (hK _ _ _ (ZM (Hle.refl _) ⟨⟨0, rfl⟩, trivial⟩) (JA.one (i := 4) (by kernel_rfl) (Zn rfl trivial rfl (fun K hK => ?_))))))
      obtain ⟨x_49, hr_50, hx⟩ := ZJ hx
      refine ZS (vs := [_]) (args := [_]) (K := []) (rst := [_, _]) E98 rfl rfl rfl ZI (mix_number_ok m_45 _ hsv_48 _ hr_50) rfl (fun u_51 Ku_51 Hu_51 hRu_51 hleu_51 hfu_51 => ?_)
      obtain ⟨rfl, rfl, -⟩ := hRu_51
      refine ZD (hK _ _ _ (ZM hleu_51 ⟨⟨0, rfl⟩, trivial⟩) (JA.val ⟨by kernel_rfl, by kernel_rfl⟩ (ZO _) (i := 5) rfl ⟨by kernel_rfl, by kernel_rfl, rfl⟩ trivial (ZM hleu_51 ⟨⟨0, rfl⟩, trivial⟩) (R.xor32 (a := s_35.1) (b := x_49) rfl rfl) rfl (JA.val ⟨by kernel_rfl, by kernel_rfl⟩ (ZO _) (i := 6) rfl ⟨by kernel_rfl, by kernel_rfl, rfl⟩ trivial (ZM hleu_51 ⟨⟨0, rfl⟩, trivial⟩) (R.ixA 0 U121 S22 rfl rfl rfl) rfl (JA.one (i := 7) (by kernel_rfl) (Zn rfl trivial rfl (fun K hK => ZQ 1 S22 rfl rfl rfl rfl rfl (Nat.le_of_ble_eq_true rfl) (ZD (hK _ _ _ (ZM hleu_51 ⟨⟨0, rfl⟩, trivial⟩) (JA.doneN (by kernel_rfl) ?_)))))))))
      obtain rfl := Option.some.inj hx
      refine ZP 1 rfl (ZP 1 rfl ?_)
      exact Za ⟨Hu_51, rfl, rfl, rfl, (hleu_51)⟩ ⟨rfl, rfl, rfl, rfl, trivial⟩ rfl rfl
     ·
      refine Zn rfl trivial rfl (fun K hK => ?_)
      obtain ⟨x_52, hr_53, hx⟩ := ZJ hx
      refine ZS (vs := [_]) (args := [_]) (K := []) (rst := [_, _]) E98 rfl rfl rfl ZI (mix_number_ok m_45 _ hsv_48 _ hr_53) rfl (fun u_54 Ku_54 Hu_54 hRu_54 hleu_54 hfu_54 => ?_)
      obtain ⟨rfl, rfl, -⟩ := hRu_54
      refine ZD (hK _ _ _ (ZM hleu_54 ⟨⟨0, rfl⟩, trivial⟩) (JA.one (i := 1) (by kernel_rfl) (Zn rfl trivial rfl (fun K hK => ZA rfl rfl (Ze 1 S22 rfl rfl rfl) (ZD (hK _ _ _ (ZM hleu_54 ⟨⟨0, rfl⟩, trivial⟩) (JA.val ⟨by kernel_rfl, by kernel_rfl⟩ (ZO _) (i := 5) rfl ⟨by kernel_rfl, by kernel_rfl, rfl⟩ trivial (ZM hleu_54 ⟨⟨0, rfl⟩, trivial⟩) (R.xor32 (a := s_35.1) (b := x_52) rfl rfl) rfl (JA.val ⟨by kernel_rfl, by kernel_rfl⟩ (ZO _) (i := 6) rfl ⟨by kernel_rfl, by kernel_rfl, rfl⟩ trivial (ZM hleu_54 ⟨⟨0, rfl⟩, trivial⟩) (R.ixA 0 U121 S22 rfl rfl rfl) rfl (JA.one (i := 7) (by kernel_rfl) (Zn rfl trivial rfl (fun K hK => ZQ 1 S22 rfl rfl rfl rfl rfl (Nat.le_of_ble_eq_true rfl) ?_)))))))))))
      refine ZD (hK _ _ _ (ZM hleu_54 ⟨⟨0, rfl⟩, trivial⟩) (JA.doneN (by kernel_rfl) ?_))
      obtain rfl := Option.some.inj hx
      refine ZP 1 rfl (ZP 1 rfl ?_)
      exact Za ⟨Hu_54, rfl, rfl, rfl, (hleu_54)⟩ ⟨rfl, rfl, rfl, rfl, trivial⟩ rfl rfl
  ·
   rintro D_40 s_35 o g hD_40 htt ⟨H_41, rfl, rfl, hleH_41⟩ hle2
   subst htt; simp only [Sum.elim_inl] at hx
   refine Zo (ZC (ZF (ZB (ZA rfl rfl (R.ixA 1 U121 S22 rfl rfl rfl) (ZA rfl rfl (Ze 2 S22 rfl rfl rfl) (ZA rfl rfl (ZG rfl) (ZA rfl rfl (Zk U23 rfl (IsSlice.long ha_2)) (ZA rfl rfl (R.cv_i64_u32 U3 U22 rfl) (ZA rfl rfl (R.xor32 (a := s_35.2.1) (b := u32i (p_1.length : Int)) rfl rfl) (ZA rfl rfl (R.ixA 1 U121 S22 rfl rfl rfl) (ZQ 2 S22 rfl rfl rfl rfl rfl (Nat.le_of_ble_eq_true rfl) ?_)))))))))))
   refine ZD (ZC (ZF (ZB (ZA rfl rfl (Zu 2 (vs := [.int .u32 (s_35.1.toNat : Int), .int .u32 ((s_35.2.1 ^^^ (u32i (p_1.length : Int))).toNat : Int), .int .u32 (s_35.2.2.1.toNat : Int), .int .u32 (s_35.2.2.2.toNat : Int)]) S121 rfl rfl rfl rfl) ?_))))
   obtain ⟨x_42, hr_43, hx⟩ := ZJ hx
   refine ZS (vs := [_, _]) (args := [_, _]) (K := []) (rst := [_, _, _]) E99 rfl rfl rfl ZI (mix_words_often_ok (A4.mk s_35.1 (s_35.2.1 ^^^ (u32i (p_1.length : Int))) s_35.2.2.1 s_35.2.2.2) 8 _ _ hr_43) rfl (fun u_44 Ku_44 Hu_44 hRu_44 hleu_44 hfu_44 => ?_)
   obtain ⟨rfl, rfl, rfl, -⟩ := hRu_44
   refine ZQ 1 S121 rfl rfl rfl rfl rfl (Nat.le_of_ble_eq_true rfl) (ZD (ZC (ZT (JN.outMP (vs := [.agg #[.int .u32 (x_42.e0.toNat : Int), .int .u32 (x_42.e1.toNat : Int), .int .u32 (x_42.e2.toNat : Int), .int .u32 (x_42.e3.toNat : Int)]]) (K := []) (rst := [_, _]) (own2 := [_, _]) [D_40] (.inl rfl) ⟨rfl, rfl, rfl, rfl⟩ rfl rfl (ZK 0 rfl ZI) (Zb 0 rfl rfl S121 rfl) ZI ?_))))
   obtain rfl := Option.some.inj hx
   exact ⟨rfl, rfl, trivial⟩
  ·
   rintro D c e o g hD htt hX; exact hX.elim
 ·
  have hxo_20 := hx; clear hx; have hx := ht_21; clear ht_21
  refine JC.block (JC.forget 1 (Zw 1 rfl (Zw 2 rfl (Z2 (fun n l o g => ∃ s_22 : List UInt8, ∃ ar_25 : Option Addr, ∃ nr_25 : Nat, ∃ cr_25 : Nat, ∃ Kr_25 : Own, l = [(0, .slice aa_2 na_2 ca_2), (2, .pointer (some ⟨b_3, 0, none⟩)), (3, .pointer (some ⟨b_4, 0, none⟩)), (4, .slice ar_25 nr_25 cr_25)] ∧ o = [[(b_3, .cells #[.int .u32 ((0 : UInt32).toNat : Int), .int .u32 ((0 : UInt32).toNat : Int), .int .u32 ((0 : UInt32).toNat : Int), .int .u32 ((0 : UInt32).toNat : Int)] 121 (0, 0))], [(b_4, .cells #[.int .u32 ((1 : UInt32).toNat : Int), .int .u32 ((2 : UInt32).toNat : Int), .int .u32 ((3 : UInt32).toNat : Int), .int .u32 ((4 : UInt32).toNat : Int)] 121 (0, 0))], Kr_25] ∧ H_9 = g ∧ run mix_four_l1 n s_22 = some t_19 ∧ RowOf (New H H_9) RU8 w.heap.size 5 1 (.slice ar_25 nr_25 cr_25) s_22 Kr_25) FUEL ?_ ⟨q_15, ar_18, q_15.length, cr_18, Kr_18, rfl, rfl, rfl, hx, hr_18⟩ ⟨rfl, rfl, rfl, rfl, trivial⟩ ?_))))
  ·
   rintro _ _ _ ⟨s_22, ar_25, nr_25, cr_25, Kr_25, rfl, rfl, rfl, hn_23, hr_25⟩
   exact Zz hn_23
  ·
   rintro n_24 _ _ _ ⟨s_22, ar_25, nr_25, cr_25, Kr_25, rfl, rfl, rfl, hn_23, hr_25⟩
   clear hx; obtain ⟨oo_27, hx, hd_26⟩ := Z0 hn_23
   unfold mix_four_l1 at hx
   refine ZF (ZF (ZB (ZA rfl rfl (ZG rfl) (ZA rfl rfl (Zk U23 rfl (RowOf.long hr_25)) (ZA rfl rfl (R.rem_i rfl rfl (by decide)) (ZA rfl rfl (YA rfl rfl) (ZD (ZC (ZW rfl (fun c_26 => ?_) (fun c_26 => ?_))))))))))
   ·
    replace hx := ZX c_26 hx
    refine JC.skip (ZC (JC.block (ZB (ZA rfl rfl (ZG rfl) (JL.bslF (HF := (New H H_9)) (R := RU8) (ls := [(0 : UInt8)]) (vs := [.int .u8 ((0 : UInt8).toNat : Int)]) U23 I5 rfl rfl (⟨_, _, rfl, rfl, rfl, rfl⟩) RU8.one rfl rfl rfl (by simp [maxLen]) rfl (fun vr_27 Kr_27 hr_27 => ?_))))))
    obtain ⟨ar_27, cr_27, rfl⟩ := RowOf.val hr_27
    obtain ⟨q_28, hm_29, hl_30, hx⟩ := Z6 hx
    refine YC (HF := (New H H_9)) 3 U23 I5 rfl rfl hr_25 rfl (SrcF.row 0 U23 rfl hr_27) hm_29 hl_30 rfl (Nat.le_refl _) rfl (fun vr_31 Kr_31 hr_31 => ?_)
    obtain ⟨ar_31, cr_31, rfl⟩ := RowOf.val hr_31
    refine ZA rfl rfl (ZE rfl) (ZD (Zo ?_))
    replace hx := Zp hd_26 hx
    refine JN.forget 0 (ZP 2 rfl (ZP 2 rfl (ZP 2 rfl ?_)))
    exact Za ⟨q_28, ar_31, q_28.length, cr_31, Kr_31, rfl, rfl, rfl, hx, hr_31⟩ ⟨rfl, rfl, rfl, rfl, trivial⟩ rfl rfl
   ·
    replace hx := ZY c_26 hx
    refine Z1 (Zc ?_)
    obtain rfl := Zv hd_26 hx
    refine Zc (Zi (ZP 2 rfl (ZP 2 rfl (ZP 2 rfl ?_))))
    exact Za ⟨ar_25, nr_25, cr_25, Kr_25, rfl, rfl, rfl, hr_25⟩ ⟨rfl, rfl, rfl, rfl, trivial⟩ rfl rfl

set_option maxHeartbeats 8000000 in
theorem mix_Sum_ok (p_1 : List UInt8) (H : Heaplet) {aa_2 : Option Addr} {na_2 : Nat} {ca_2 : Nat} (ha_2 : IsSlice H RU8 1 (.slice aa_2 na_2 ca_2) p_1) (r : UInt32) (hx : mix_Sum p_1 = some r) :
  Does Try.prog 56 #[.slice aa_2 na_2 ca_2] [] H (fun u K' H' => u = .int .u32 (r.toNat : Int) ∧ K' = [] ∧ True) := by
 refine Does.enterL (vs := [.slice aa_2 na_2 ca_2]) (l := [(0, .slice aa_2 na_2 ca_2)]) Try.func56 rfl rfl ⟨rfl, trivial⟩ (fun w hlt => ?_)
 unfold mix_Sum at hx
 refine ZF (ZB (ZA rfl rfl (ZE rfl) (ZD (ZC (ZF (ZB (ZA rfl rfl (ZG rfl) ?_)))))))
 obtain ⟨x_3, hr_4, hx⟩ := ZJ hx
 refine ZS (vs := [_]) (args := [_]) (K := []) (rst := []) E81 rfl rfl rfl ZI (mix_four_ok p_1 _ ha_2 _ hr_4) rfl (fun u_5 Ku_5 Hu_5 hRu_5 hleu_5 hfu_5 => ?_)
 obtain ⟨rfl, rfl, -⟩ := hRu_5
 refine ZA rfl rfl (R.idxAk 0 U121 S22 rfl rfl rfl rfl rfl) (ZA rfl rfl (ZE rfl) (ZD (ZC (ZT (ZR (vs := [.int .u32 (x_3.e0.toNat : Int)]) (K := []) (rst := []) (.inl rfl) rfl rfl (ZN rfl rfl) ZI ?_)))))
 obtain rfl := Option.some.inj hx
 exact ⟨rfl, rfl, trivial⟩

set_option maxHeartbeats 8000000 in
theorem store_put_ok (p_1 : Store) (p_5 : Ptr) (p_6 : List UInt8) (H : Heaplet) {aa_2 : Option Addr} {na_2 : Nat} {ca_2 : Nat} {aa_3 : Option Addr} {na_3 : Nat} {ca_3 : Nat} {aa_4 : Option Addr} {na_4 : Nat} {ca_4 : Nat} {aa_7 : Option Addr} {na_7 : Nat} {ca_7 : Nat} (ha_2 : IsSlice H (RSl RU8 1) 1 (.slice aa_2 na_2 ca_2) p_1.Disk.Blocks) (ha_3 : IsSlice H R_Write 2 (.slice aa_3 na_3 ca_3) p_1.Disk.Waits) (ha_4 : IsSlice H RU8 1 (.slice aa_4 na_4 ca_4) p_1.Space) (ha_7 : IsSlice H RU8 1 (.slice aa_7 na_7 ca_7) p_6) (r : Store × Ptr × Int) (hx : store_put p_1 p_5 p_6 = some r) :
  Does Try.prog 34 #[.agg #[.slice aa_2 na_2 ca_2, .slice aa_3 na_3 ca_3, .slice aa_4 na_4 ca_4, .int .u32 (p_1.Epoch.toNat : Int), .int .u32 (p_1.Count.toNat : Int)], .agg #[.int .i64 p_5.At, .int .u32 (p_5.Birth.toNat : Int), .int .u32 (p_5.Iv.toNat : Int), .int .u32 (p_5.Tag.toNat : Int), .int .u32 (p_5.Sum.toNat : Int)], .slice aa_7 na_7 ca_7] [] H (fun u K' H' => ∃ ao0 : Option Addr, ∃ n0 : Nat, ∃ cap0 : Nat, ∃ ao1 : Option Addr, ∃ n1 : Nat, ∃ cap1 : Nat, ∃ K1 : Own, ∃ ao2 : Option Addr, ∃ n2 : Nat, ∃ cap2 : Nat, ∃ K2 : Own, u = .tuple #[.agg #[.slice ao0 n0 cap0, .slice ao1 n1 cap1, .slice ao2 n2 cap2, .int .u32 (r.1.Epoch.toNat : Int), .int .u32 (r.1.Count.toNat : Int)], .agg #[.int .i64 r.2.1.At, .int .u32 (r.2.1.Birth.toNat : Int), .int .u32 (r.2.1.Iv.toNat : Int), .int .u32 (r.2.1.Tag.toNat : Int), .int .u32 (r.2.1.Sum.toNat : Int)], .int .i64 r.2.2] ∧ K' = [K1, K2] ∧ IsSlice (New H H') (RSl RU8 1) 1 (.slice ao0 n0 cap0) r.1.Disk.Blocks ∧ RowOf (New H H') R_Write 0 80 2 (.slice ao1 n1 cap1) r.1.Disk.Waits K1 ∧ (∀ p ∈ K1, p.1 ∉ ids (List.flatten [])) ∧ RowOf (New H H') RU8 0 5 1 (.slice ao2 n2 cap2) r.1.Space K2 ∧ (∀ p ∈ K2, p.1 ∉ ids (List.flatten [])) ∧ True) := by
 refine Does.enterL (vs := [.agg #[.slice aa_2 na_2 ca_2, .slice aa_3 na_3 ca_3, .slice aa_4 na_4 ca_4, .int .u32 (p_1.Epoch.toNat : Int), .int .u32 (p_1.Count.toNat : Int)], .agg #[.int .i64 p_5.At, .int .u32 (p_5.Birth.toNat : Int), .int .u32 (p_5.Iv.toNat : Int), .int .u32 (p_5.Tag.toNat : Int), .int .u32 (p_5.Sum.toNat : Int)], .slice aa_7 na_7 ca_7]) (l := [(0, .agg #[.slice aa_2 na_2 ca_2, .slice aa_3 na_3 ca_3, .slice aa_4 na_4 ca_4, .int .u32 (p_1.Epoch.toNat : Int), .int .u32 (p_1.Count.toNat : Int)]), (1, .agg #[.int .i64 p_5.At, .int .u32 (p_5.Birth.toNat : Int), .int .u32 (p_5.Iv.toNat : Int), .int .u32 (p_5.Tag.toNat : Int), .int .u32 (p_5.Sum.toNat : Int)]), (2, .slice aa_7 na_7 ca_7)]) Try.func34 rfl rfl ⟨rfl, rfl, rfl, trivial⟩ (fun w hlt => ?_)
 unfold store_put at hx
 refine ZF (ZB (YF rfl rfl (fun b_8 hb_8 => YF rfl rfl (fun b_9 hb_9 => JL.alloc Z46 rfl (fun b_10 hb_10 => JL.alloc Z50 rfl (fun b_11 hb_11 => ZA rfl rfl (ZE rfl) (ZD (ZC (ZF (ZF (ZB ?_)))))))))))
 refine ZA rfl rfl (Zt F46_1 rfl) (ZA rfl rfl (Ze 3 S23 rfl rfl rfl) ?_)
 obtain ⟨x_12, hr_13, hx⟩ := ZJ hx
 refine ZS (vs := [_]) (args := [_]) (K := []) (rst := [_, _, _, _]) E54 rfl rfl rfl ZI (space_Take_ok p_1.Space _ ha_4 _ hr_13) rfl (fun u_14 Ku_14 Hu_14 hRu_14 hleu_14 hfu_14 => ?_)
 obtain ⟨ar_15, nr_15, cr_15, Kr_15, rfl, rfl, rfl, hr_15, hnewr_15, -⟩ := hRu_14
 replace hr_15 := (RowOf.base (Zf (H2 := New H H) RU8.const hr_15) (fun p hp => (hfu_14 p (Zh 0 rfl hp)).resolve_left (hnewr_15 p hp)))
 refine ZA rfl rfl (ZG rfl) (ZA rfl rfl (R.extract rfl rfl) (ZA rfl rfl (R.extract rfl rfl) (ZA rfl rfl (R.extract rfl rfl) (ZA rfl rfl (Zt F46_1 rfl) (ZQ 2 S23 rfl rfl rfl rfl rfl (Nat.le_of_ble_eq_true rfl) (ZA rfl rfl (Zt F50_0 rfl) (ZQ 3 S3 rfl rfl rfl rfl rfl (Nat.le_of_ble_eq_true rfl) (ZA rfl rfl (ZE rfl) (ZD (ZC (ZF ?_)))))))))))
 refine ZB (ZA rfl rfl (ZG rfl) (ZA rfl rfl (YA rfl rfl) (ZD (ZC (ZW rfl (fun c_16 => ?_) (fun c_16 => ?_))))))
 ·
  replace hx := ZX c_16 hx
  refine ZF (ZB (ZA rfl rfl (Z7 (vs := []) (cs := [.slice none 0 0, .slice none 0 0, .slice none 0 0, .int .u32 ((0 : UInt32).toNat : Int), .int .u32 ((0 : UInt32).toNat : Int)]) Z46 B46 rfl rfl rfl) (ZA rfl rfl (Z7 (vs := []) (cs := [.int .i64 0, .int .u32 ((0 : UInt32).toNat : Int), .int .u32 ((0 : UInt32).toNat : Int), .int .u32 ((0 : UInt32).toNat : Int), .int .u32 ((0 : UInt32).toNat : Int)]) Z50 B50 rfl rfl rfl) (ZA rfl rfl (ZG rfl) (ZQ 2 S46 rfl rfl rfl rfl rfl (Nat.le_of_ble_eq_true rfl) (ZQ 1 S50 rfl rfl rfl rfl rfl (Nat.le_of_ble_eq_true rfl) (ZA rfl rfl (ZE rfl) (ZD (ZC (ZT (ZV ?_)))))))))))
  refine Zl (Zl (ZR (vs := [.agg #[.slice none 0 0, .slice none 0 0, .slice none 0 0, .int .u32 ((0 : UInt32).toNat : Int), .int .u32 ((0 : UInt32).toNat : Int)], .agg #[.int .i64 0, .int .u32 ((0 : UInt32).toNat : Int), .int .u32 ((0 : UInt32).toNat : Int), .int .u32 ((0 : UInt32).toNat : Int), .int .u32 ((0 : UInt32).toNat : Int)], .int .i64 x_12.2.2]) (K := [_, _]) (rst := [_, _, _, _, _]) (.inl rfl) rfl rfl (Zb 4 rfl rfl S46 (Zb 3 rfl rfl S50 (ZN rfl rfl))) (ZK 0 rfl (ZK 0 rfl ZI)) ?_))
  obtain rfl := Option.some.inj hx
  exact ⟨none, 0, 0, none, 0, 0, [], none, 0, 0, [], rfl, rfl, (IsSlice.nil _ _ _), (ZU _ _ _ _ _), (fun p hp => by cases hp), (ZU _ _ _ _ _), (fun p hp => by cases hp), trivial⟩
 ·
  replace hx := ZY c_16 hx
  refine JC.skip (ZC (ZF (ZF (ZB (ZA rfl rfl (Zt F46_0 rfl) (ZA rfl rfl (Zu 4 (vs := [.slice aa_2 na_2 ca_2, .slice aa_3 na_3 ca_3]) S44 rfl rfl rfl rfl) (ZA rfl rfl (Zt F50_0 rfl) (ZA rfl rfl (Ze 3 S3 rfl rfl rfl) (ZA rfl rfl (ZG rfl) ?_)))))))))
  obtain ⟨x_17, hr_18, hx⟩ := ZJ hx
  refine ZS (vs := [_, _, _]) (args := [_, _, _]) (K := []) (rst := [_, _, _, _, _]) E55 rfl rfl rfl ZI (dev_Write_ok (Disk.mk p_1.Disk.Blocks p_1.Disk.Waits) x_12.2.1 p_6 _ ha_2 ha_3 ha_7 _ hr_18) rfl (fun u_19 Ku_19 Hu_19 hRu_19 hleu_19 hfu_19 => ?_)
  obtain ⟨az_20, nz_20, cz_20, ar_21, nr_21, cr_21, Kr_21, rfl, rfl, hz_20, hr_21, hnewr_21, -⟩ := hRu_19
  replace hr_21 := (RowOf.base (RowOf.mono R_Write.mono (New.call (Hle.refl _)) hr_21) (fun p hp => (hfu_19 p (Zh 0 rfl hp)).resolve_left (hnewr_21 p hp)))
  replace hz_20 := IsSlice.mono (RSl.mono RU8.mono) (New.call (Hle.refl _)) hz_20
  refine ZA rfl rfl (ZG rfl) (ZA rfl rfl (R.extract rfl rfl) (ZA rfl rfl (R.extract rfl rfl) (ZA rfl rfl (Zt F46_0 rfl) (ZQ 3 S44 rfl rfl rfl rfl rfl (Nat.le_of_ble_eq_true rfl) (ZA rfl rfl (ZE rfl) (ZD (ZC (ZF (ZB (ZA rfl rfl (ZG rfl) (ZA rfl rfl (YA rfl rfl) ?_)))))))))))
  refine ZD (ZC (ZW rfl (fun c_22 => ?_) (fun c_22 => ?_)))
  ·
   replace hx := ZX c_22 hx
   refine ZF (ZB (ZA rfl rfl (Z7 (vs := []) (cs := [.slice none 0 0, .slice none 0 0, .slice none 0 0, .int .u32 ((0 : UInt32).toNat : Int), .int .u32 ((0 : UInt32).toNat : Int)]) Z46 B46 rfl rfl rfl) (ZA rfl rfl (Z7 (vs := []) (cs := [.int .i64 0, .int .u32 ((0 : UInt32).toNat : Int), .int .u32 ((0 : UInt32).toNat : Int), .int .u32 ((0 : UInt32).toNat : Int), .int .u32 ((0 : UInt32).toNat : Int)]) Z50 B50 rfl rfl rfl) (ZA rfl rfl (ZG rfl) (ZQ 3 S46 rfl rfl rfl rfl rfl (Nat.le_of_ble_eq_true rfl) (ZQ 2 S50 rfl rfl rfl rfl rfl (Nat.le_of_ble_eq_true rfl) (ZA rfl rfl (ZE rfl) (ZD (ZC (ZT (ZV ?_)))))))))))
   refine Zl (Zl (ZR (vs := [.agg #[.slice none 0 0, .slice none 0 0, .slice none 0 0, .int .u32 ((0 : UInt32).toNat : Int), .int .u32 ((0 : UInt32).toNat : Int)], .agg #[.int .i64 0, .int .u32 ((0 : UInt32).toNat : Int), .int .u32 ((0 : UInt32).toNat : Int), .int .u32 ((0 : UInt32).toNat : Int), .int .u32 ((0 : UInt32).toNat : Int)], .int .i64 x_17.2]) (K := [_, _]) (rst := [_, _, _, _, _, _]) (.inl rfl) rfl rfl (Zb 5 rfl rfl S46 (Zb 4 rfl rfl S50 (ZN rfl rfl))) (ZK 0 rfl (ZK 0 rfl ZI)) ?_))
   obtain rfl := Option.some.inj hx
   exact ⟨none, 0, 0, none, 0, 0, [], none, 0, 0, [], rfl, rfl, (IsSlice.nil _ _ _), (ZU _ _ _ _ _), (fun p hp => by cases hp), (ZU _ _ _ _ _), (fun p hp => by cases hp), trivial⟩
  ·
   replace hx := ZY c_22 hx
   refine JC.skip (ZC (ZF (JC.draw (so := [_, _, _, _, _]) 8 rfl Mixed ⟨⟨0, rfl⟩, ⟨1, rfl⟩, ⟨2, rfl⟩, ⟨4, rfl⟩, ⟨5, rfl⟩, trivial⟩ (JA.val ⟨by kernel_rfl, by kernel_rfl⟩ (ZO _) (i := 0) rfl ⟨by kernel_rfl, by kernel_rfl, rfl⟩ trivial (ZM (Hle.refl _) ⟨⟨0, rfl⟩, ⟨1, rfl⟩, ⟨2, rfl⟩, ⟨4, rfl⟩, ⟨5, rfl⟩, trivial⟩) (Zt F46_2 rfl) rfl (JA.val ⟨by kernel_rfl, by kernel_rfl⟩ (ZO _) (i := 1) rfl ⟨by kernel_rfl, by kernel_rfl, rfl⟩ trivial (ZM (Hle.refl _) ⟨⟨0, rfl⟩, ⟨1, rfl⟩, ⟨2, rfl⟩, ⟨4, rfl⟩, ⟨5, rfl⟩, trivial⟩) (Ze 4 S22 rfl rfl rfl) rfl (JA.val ⟨by kernel_rfl, by kernel_rfl⟩ (ZO _) (i := 2) rfl ⟨by kernel_rfl, by kernel_rfl, rfl⟩ trivial (ZM (Hle.refl _) ⟨⟨0, rfl⟩, ⟨1, rfl⟩, ⟨2, rfl⟩, ⟨4, rfl⟩, ⟨5, rfl⟩, trivial⟩) (Zt F46_3 rfl) rfl (JA.val ⟨by kernel_rfl, by kernel_rfl⟩ (ZO _) (i := 3) rfl ⟨by kernel_rfl, by kernel_rfl, rfl⟩ trivial (ZM (Hle.refl _) ⟨⟨0, rfl⟩, ⟨1, rfl⟩, ⟨2, rfl⟩, ⟨4, rfl⟩, ⟨5, rfl⟩, trivial⟩) (Ze 4 S22 rfl rfl rfl) rfl (JA.val ⟨by kernel_rfl, by kernel_rfl⟩ (ZO _) (i := 4) rfl ⟨by kernel_rfl, by kernel_rfl, rfl⟩ trivial (ZM (Hle.refl _) ⟨⟨0, rfl⟩, ⟨1, rfl⟩, ⟨2, rfl⟩, ⟨4, rfl⟩, ⟨5, rfl⟩, trivial⟩) (Zt F46_2 rfl) rfl (JA.one (i := 5) (by kernel_rfl) (Zn rfl trivial rfl (fun K hK => ZQ 3 S22 rfl rfl rfl rfl rfl (Nat.le_of_ble_eq_true rfl) ?_)))))))))))
   refine ZD (hK _ _ _ (ZM (Hle.refl _) ⟨⟨0, rfl⟩, ⟨1, rfl⟩, ⟨2, rfl⟩, ⟨4, rfl⟩, ⟨5, rfl⟩, trivial⟩) (JA.val ⟨by kernel_rfl, by kernel_rfl⟩ (ZO _) (i := 6) rfl ⟨by kernel_rfl, by kernel_rfl, rfl⟩ trivial (ZM (Hle.refl _) ⟨⟨0, rfl⟩, ⟨1, rfl⟩, ⟨2, rfl⟩, ⟨4, rfl⟩, ⟨5, rfl⟩, trivial⟩) (Zt F46_3 rfl) rfl (JA.one (i := 7) (by kernel_rfl) (Zn rfl trivial rfl (fun K hK => ZQ 3 S22 rfl rfl rfl rfl rfl (Nat.le_of_ble_eq_true rfl) (ZD (hK _ _ _ (ZM (Hle.refl _) ⟨⟨0, rfl⟩, ⟨1, rfl⟩, ⟨2, rfl⟩, ⟨4, rfl⟩, ⟨5, rfl⟩, trivial⟩) (JA.doneN (by kernel_rfl) (ZC (JC.tidy (l' := [(2, .slice aa_7 na_7 ca_7), (4, .pointer (some ⟨b_9, 0, none⟩)), (6, .pointer (some ⟨b_10, 0, none⟩)), (7, .pointer (some ⟨b_11, 0, none⟩)), (8, .int .i64 x_17.2)]) (own' := [Kr_21, Kr_15, [(b_11, .cells #[.int .i64 0, .int .u32 ((0 : UInt32).toNat : Int), .int .u32 ((0 : UInt32).toNat : Int), .int .u32 ((0 : UInt32).toNat : Int), .int .u32 ((0 : UInt32).toNat : Int)] 50 (0, 0))], [(b_10, .cells #[.slice az_20 nz_20 cz_20, .slice ar_21 nr_21 cr_21, .slice ar_15 nr_15 cr_15, .int .u32 (p_1.Epoch.toNat : Int), .int .u32 (p_1.Count.toNat : Int)] 46 (0, 0))], [(b_9, .cells #[.int .i64 x_12.2.1, .int .u32 (p_5.Birth.toNat : Int), .int .u32 (p_5.Iv.toNat : Int), .int .u32 (p_5.Tag.toNat : Int), .int .u32 (p_5.Sum.toNat : Int)] 50 (0, 0))], [(b_8, .cells #[.slice aa_2 na_2 ca_2, .slice aa_3 na_3 ca_3, .slice aa_4 na_4 ca_4, .int .u32 (p_1.Epoch.toNat : Int), .int .u32 (p_1.Count.toNat : Int)] 46 (0, 0))]]) ⟨rfl, rfl, rfl, rfl, rfl, trivial⟩ rfl (YD (l' := [(2, .slice aa_7 na_7 ca_7), (4, .pointer (some ⟨b_9, 0, none⟩)), (6, .pointer (some ⟨b_10, 0, none⟩)), (7, .pointer (some ⟨b_11, 0, none⟩)), (8, .int .i64 x_17.2)]) (own' := [Kr_21, Kr_15, [(b_11, .cells #[.int .i64 0, .int .u32 ((0 : UInt32).toNat : Int), .int .u32 ((0 : UInt32).toNat : Int), .int .u32 ((0 : UInt32).toNat : Int), .int .u32 ((0 : UInt32).toNat : Int)] 50 (0, 0))], [(b_10, .cells #[.slice az_20 nz_20 cz_20, .slice ar_21 nr_21 cr_21, .slice ar_15 nr_15 cr_15, .int .u32 (p_1.Epoch.toNat : Int), .int .u32 (p_1.Count.toNat : Int)] 46 (0, 0))], [(b_9, .cells #[.int .i64 x_12.2.1, .int .u32 (p_5.Birth.toNat : Int), .int .u32 (p_5.Iv.toNat : Int), .int .u32 (p_5.Tag.toNat : Int), .int .u32 (p_5.Sum.toNat : Int)] 50 (0, 0))]]) (rst := [_]) ⟨rfl, rfl, rfl, rfl, rfl, trivial⟩ (ZK 0 rfl (ZK 0 rfl (ZK 0 rfl (ZK 0 rfl (ZK 0 rfl ZI))))) ?_)))))))))))
   refine ZF (ZB (ZA rfl rfl (ZG rfl) ?_))
   obtain ⟨x_23, hr_24, hx⟩ := ZJ hx
   refine ZS (vs := [_]) (args := [_]) (K := []) (rst := [_, _, _, _, _]) E56 rfl rfl rfl ZI (mix_Sum_ok p_6 _ (ha_7.mono RU8.mono hleu_19) _ hr_24) rfl (fun u_25 Ku_25 Hu_25 hRu_25 hleu_25 hfu_25 => ?_)
   obtain ⟨rfl, rfl, -⟩ := hRu_25
   refine ZA rfl rfl (Zt F50_4 rfl) (ZQ 4 S22 rfl rfl rfl rfl rfl (Nat.le_of_ble_eq_true rfl) (ZD (ZC (ZF (JC.draw (so := [_, _, _]) 5 rfl Mixed ⟨⟨0, rfl⟩, ⟨1, rfl⟩, ⟨4, rfl⟩, trivial⟩ (JA.val ⟨by kernel_rfl, by kernel_rfl⟩ (ZO _) (i := 1) rfl ⟨by kernel_rfl, by kernel_rfl, rfl⟩ trivial (ZM (Hle.refl _) ⟨⟨0, rfl⟩, ⟨1, rfl⟩, ⟨4, rfl⟩, trivial⟩) (Zu 2 (vs := [.int .i64 x_12.2.1, .int .u32 (p_5.Birth.toNat : Int), .int .u32 (p_5.Iv.toNat : Int), .int .u32 (p_5.Tag.toNat : Int), .int .u32 (x_23.toNat : Int)]) S50 rfl rfl rfl rfl) rfl (JA.one (i := 0) (by kernel_rfl) (Zn rfl trivial rfl (fun K hK => ZA rfl rfl (Zu 3 (vs := [.slice az_20 nz_20 cz_20, .slice ar_21 nr_21 cr_21, .slice ar_15 nr_15 cr_15, .int .u32 (p_1.Epoch.toNat : Int), .int .u32 (p_1.Count.toNat : Int)]) S46 rfl rfl rfl rfl) (ZD (hK _ _ _ (ZM (Hle.refl _) ⟨⟨0, rfl⟩, ⟨1, rfl⟩, ⟨4, rfl⟩, trivial⟩) ?_)))))))))))
   refine JA.one (i := 2) (by kernel_rfl) (Zn rfl trivial rfl (fun K hK => ZQ 3 S46 rfl rfl rfl rfl rfl (Nat.le_of_ble_eq_true rfl) (ZD (hK _ _ _ (ZM (Hle.refl _) ⟨⟨0, rfl⟩, ⟨1, rfl⟩, ⟨4, rfl⟩, trivial⟩) (JA.one (i := 3) (by kernel_rfl) (Zn rfl trivial rfl (fun K hK => ZQ 2 S50 rfl rfl rfl rfl rfl (Nat.le_of_ble_eq_true rfl) (ZD (hK _ _ _ (ZM (Hle.refl _) ⟨⟨0, rfl⟩, ⟨1, rfl⟩, ⟨4, rfl⟩, trivial⟩) (JA.val ⟨by kernel_rfl, by kernel_rfl⟩ (ZO _) (i := 4) rfl ⟨by kernel_rfl, by kernel_rfl, rfl⟩ trivial (ZM (Hle.refl _) ⟨⟨0, rfl⟩, ⟨1, rfl⟩, ⟨4, rfl⟩, trivial⟩) (ZE rfl) rfl (JA.doneN (by kernel_rfl) ?_)))))))))))
   refine ZC (ZT (ZR (vs := [.agg #[.slice az_20 nz_20 cz_20, .slice ar_21 nr_21 cr_21, .slice ar_15 nr_15 cr_15, .int .u32 (p_1.Epoch.toNat : Int), .int .u32 (p_1.Count.toNat : Int)], .agg #[.int .i64 x_12.2.1, .int .u32 (p_5.Birth.toNat : Int), .int .u32 (p_5.Iv.toNat : Int), .int .u32 (p_5.Tag.toNat : Int), .int .u32 (x_23.toNat : Int)], .int .i64 0]) (K := [_, _]) (rst := [_, _, _]) (.inl rfl) rfl rfl (Zb 3 rfl rfl S46 (Zb 2 rfl rfl S50 (ZN rfl rfl))) (ZK 0 rfl (ZK 0 rfl ZI)) ?_))
   obtain rfl := Option.some.inj hx
   exact ⟨az_20, nz_20, cz_20, ar_21, nr_21, cr_21, Kr_21, ar_15, nr_15, cr_15, Kr_15, rfl, rfl, (hz_20.mono (RSl.mono RU8.mono) (New.mono hleu_25)), (Zg (Nat.zero_le _) (hr_21.mono R_Write.mono (New.mono hleu_25))), (Zx (hr_21.mono R_Write.mono (New.mono hleu_25)) hlt), (Zg (Nat.zero_le _) (hr_15.mono RU8.mono (New.mono (hleu_19.trans hleu_25)))), (Zx (hr_15.mono RU8.mono (New.mono (hleu_19.trans hleu_25))) hlt), trivial⟩

set_option maxHeartbeats 8000000 in
theorem store_Raw_ok (p_1 : Store) (p_5 : UInt32) (p_6 : UInt32) (p_7 : UInt32) (p_8 : List UInt8) (H : Heaplet) {aa_2 : Option Addr} {na_2 : Nat} {ca_2 : Nat} {aa_3 : Option Addr} {na_3 : Nat} {ca_3 : Nat} {aa_4 : Option Addr} {na_4 : Nat} {ca_4 : Nat} {aa_9 : Option Addr} {na_9 : Nat} {ca_9 : Nat} (ha_2 : IsSlice H (RSl RU8 1) 1 (.slice aa_2 na_2 ca_2) p_1.Disk.Blocks) (ha_3 : IsSlice H R_Write 2 (.slice aa_3 na_3 ca_3) p_1.Disk.Waits) (ha_4 : IsSlice H RU8 1 (.slice aa_4 na_4 ca_4) p_1.Space) (ha_9 : IsSlice H RU8 1 (.slice aa_9 na_9 ca_9) p_8) (r : Store × Ptr × Int) (hx : store_Raw p_1 p_5 p_6 p_7 p_8 = some r) :
  Does Try.prog 17 #[.agg #[.slice aa_2 na_2 ca_2, .slice aa_3 na_3 ca_3, .slice aa_4 na_4 ca_4, .int .u32 (p_1.Epoch.toNat : Int), .int .u32 (p_1.Count.toNat : Int)], .int .u32 (p_5.toNat : Int), .int .u32 (p_6.toNat : Int), .int .u32 (p_7.toNat : Int), .slice aa_9 na_9 ca_9] [] H (fun u K' H' => ∃ ao0 : Option Addr, ∃ n0 : Nat, ∃ cap0 : Nat, ∃ ao1 : Option Addr, ∃ n1 : Nat, ∃ cap1 : Nat, ∃ K1 : Own, ∃ ao2 : Option Addr, ∃ n2 : Nat, ∃ cap2 : Nat, ∃ K2 : Own, u = .tuple #[.agg #[.slice ao0 n0 cap0, .slice ao1 n1 cap1, .slice ao2 n2 cap2, .int .u32 (r.1.Epoch.toNat : Int), .int .u32 (r.1.Count.toNat : Int)], .agg #[.int .i64 r.2.1.At, .int .u32 (r.2.1.Birth.toNat : Int), .int .u32 (r.2.1.Iv.toNat : Int), .int .u32 (r.2.1.Tag.toNat : Int), .int .u32 (r.2.1.Sum.toNat : Int)], .int .i64 r.2.2] ∧ K' = [K1, K2] ∧ IsSlice (New H H') (RSl RU8 1) 1 (.slice ao0 n0 cap0) r.1.Disk.Blocks ∧ RowOf (New H H') R_Write 0 80 2 (.slice ao1 n1 cap1) r.1.Disk.Waits K1 ∧ (∀ p ∈ K1, p.1 ∉ ids (List.flatten [])) ∧ RowOf (New H H') RU8 0 5 1 (.slice ao2 n2 cap2) r.1.Space K2 ∧ (∀ p ∈ K2, p.1 ∉ ids (List.flatten [])) ∧ True) := by
 refine Does.enterL (vs := [.agg #[.slice aa_2 na_2 ca_2, .slice aa_3 na_3 ca_3, .slice aa_4 na_4 ca_4, .int .u32 (p_1.Epoch.toNat : Int), .int .u32 (p_1.Count.toNat : Int)], .int .u32 (p_5.toNat : Int), .int .u32 (p_6.toNat : Int), .int .u32 (p_7.toNat : Int), .slice aa_9 na_9 ca_9]) (l := [(0, .agg #[.slice aa_2 na_2 ca_2, .slice aa_3 na_3 ca_3, .slice aa_4 na_4 ca_4, .int .u32 (p_1.Epoch.toNat : Int), .int .u32 (p_1.Count.toNat : Int)]), (1, .int .u32 (p_5.toNat : Int)), (2, .int .u32 (p_6.toNat : Int)), (3, .int .u32 (p_7.toNat : Int)), (4, .slice aa_9 na_9 ca_9)]) Try.func17 rfl rfl ⟨rfl, rfl, rfl, rfl, rfl, trivial⟩ (fun w hlt => ?_)
 unfold store_Raw at hx
 refine ZF (ZB (YF rfl rfl (fun b_10 hb_10 => JL.alloc Z46 rfl (fun b_11 hb_11 => JL.alloc Z50 rfl (fun b_12 hb_12 => ZA rfl rfl (ZE rfl) (ZD (ZC (ZF (ZF (ZB (ZA rfl rfl (Zu 2 (vs := [.slice aa_2 na_2 ca_2, .slice aa_3 na_3 ca_3, .slice aa_4 na_4 ca_4, .int .u32 (p_1.Epoch.toNat : Int), .int .u32 (p_1.Count.toNat : Int)]) S46 rfl rfl rfl rfl) ?_)))))))))))
 refine ZA rfl rfl (ZG rfl) (ZA rfl rfl (ZG rfl) (JL.bslF (HF := H) (R := (RSl RU8 1)) (ls := [p_8]) (vs := [.slice aa_9 na_9 ca_9]) U41 I23 rfl rfl (⟨_, _, rfl, rfl, ⟨_, rfl, ha_9⟩, rfl⟩) RSl.one rfl rfl rfl (by simp [maxLen]) rfl (fun vr_13 Kr_13 hr_13 => ?_)))
 obtain ⟨ar_13, cr_13, rfl⟩ := RowOf.val hr_13
 obtain ⟨x_17, hr_18, hx⟩ := ZJ hx
 refine JL.callL2 (vs := [_, _, _, _]) (v := .int .i64 x_17) E32 rfl rfl (fun H_16 hle_15 hl_14 => Does.mono (store_asked_ok p_1 p_5 256 ([p_8]) _ (IsSlice.mono (RSl.mono RU8.mono) hle_15 ha_2) (IsSlice.mono R_Write.mono hle_15 ha_3) (IsSlice.mono RU8.mono hle_15 ha_4) (Lent.row' 0 hl_14 (RSl.mono RU8.mono) hle_15 rfl hr_13) _ hr_18) (fun _ _ _ h => h.1)) rfl (ZA rfl rfl (ZE rfl) (ZD (ZC (ZF (ZB (ZA rfl rfl (ZG rfl) (ZA rfl rfl (YA rfl rfl) (ZD (ZC (ZW rfl (fun c_19 => ?_) (fun c_19 => ?_)))))))))))
 ·
  replace hx := ZX c_19 hx
  refine ZT (ZV (Zl (Zl (ZR (vs := [.agg #[.slice none 0 0, .slice none 0 0, .slice none 0 0, .int .u32 ((0 : UInt32).toNat : Int), .int .u32 ((0 : UInt32).toNat : Int)], .agg #[.int .i64 0, .int .u32 ((0 : UInt32).toNat : Int), .int .u32 ((0 : UInt32).toNat : Int), .int .u32 ((0 : UInt32).toNat : Int), .int .u32 ((0 : UInt32).toNat : Int)], .int .i64 x_17]) (K := [_, _]) (rst := [_, _, _, _]) (.inl rfl) rfl rfl (Zb 4 rfl rfl S46 (Zb 3 rfl rfl S50 (ZN rfl rfl))) (ZK 0 rfl (ZK 0 rfl ZI)) ?_))))
  obtain rfl := Option.some.inj hx
  exact ⟨none, 0, 0, none, 0, 0, [], none, 0, 0, [], rfl, rfl, (IsSlice.nil _ _ _), (ZU _ _ _ _ _), (fun p hp => by cases hp), (ZU _ _ _ _ _), (fun p hp => by cases hp), trivial⟩
 ·
  replace hx := ZY c_19 hx
  refine JC.skip (ZC (ZF (ZB (ZA rfl rfl (Zu 3 (vs := [.slice aa_2 na_2 ca_2, .slice aa_3 na_3 ca_3, .slice aa_4 na_4 ca_4, .int .u32 (p_1.Epoch.toNat : Int), .int .u32 (p_1.Count.toNat : Int)]) S46 rfl rfl rfl rfl) (ZA rfl rfl (ZG rfl) (ZA rfl rfl (ZG rfl) (ZA rfl rfl (ZG rfl) (ZA rfl rfl (Z7 (vs := [(1, .int .u32 (p_5.toNat : Int)), (2, .int .u32 (p_6.toNat : Int)), (3, .int .u32 (p_7.toNat : Int))]) (cs := [.int .i64 0, .int .u32 (p_5.toNat : Int), .int .u32 (p_6.toNat : Int), .int .u32 (p_7.toNat : Int), .int .u32 ((0 : UInt32).toNat : Int)]) Z50 B50 rfl rfl rfl) (ZA rfl rfl (ZG rfl) ?_)))))))))
  obtain ⟨x_20, hr_21, hx⟩ := ZJ hx
  refine ZS (vs := [_, _, _]) (args := [_, _, _]) (K := []) (rst := [_, _, _, _]) E34 rfl rfl rfl ZI (store_put_ok p_1 (Ptr.mk 0 p_5 p_6 p_7 (0 : UInt32)) p_8 _ ha_2 ha_3 ha_4 ha_9 _ hr_21) rfl (fun u_22 Ku_22 Hu_22 hRu_22 hleu_22 hfu_22 => ?_)
  obtain ⟨az_23, nz_23, cz_23, ar_24, nr_24, cr_24, Kr_24, ar_25, nr_25, cr_25, Kr_25, rfl, rfl, hz_23, hr_24, hnewr_24, hr_25, hnewr_25, -⟩ := hRu_22
  replace hr_24 := (RowOf.base (RowOf.mono R_Write.mono (New.call (Hle.refl _)) hr_24) (fun p hp => (hfu_22 p (Zh 0 rfl hp)).resolve_left (hnewr_24 p hp)))
  replace hr_25 := (RowOf.base (Zf (H2 := New H Hu_22) RU8.const hr_25) (fun p hp => (hfu_22 p (Zh 1 rfl hp)).resolve_left (hnewr_25 p hp)))
  replace hz_23 := IsSlice.mono (RSl.mono RU8.mono) (New.call (Hle.refl _)) hz_23
  refine ZA rfl rfl (R.extract rfl rfl) (ZA rfl rfl (R.extract rfl rfl) (ZA rfl rfl (R.extract rfl rfl) (ZQ 4 S46 rfl rfl rfl rfl rfl (Nat.le_of_ble_eq_true rfl) (ZQ 3 S50 rfl rfl rfl rfl rfl (Nat.le_of_ble_eq_true rfl) (ZA rfl rfl (ZE rfl) (ZD (ZC (ZT (ZR (vs := [.agg #[.slice az_23 nz_23 cz_23, .slice ar_24 nr_24 cr_24, .slice ar_25 nr_25 cr_25, .int .u32 (x_20.1.Epoch.toNat : Int), .int .u32 (x_20.1.Count.toNat : Int)], .agg #[.int .i64 x_20.2.1.At, .int .u32 (x_20.2.1.Birth.toNat : Int), .int .u32 (x_20.2.1.Iv.toNat : Int), .int .u32 (x_20.2.1.Tag.toNat : Int), .int .u32 (x_20.2.1.Sum.toNat : Int)], .int .i64 x_20.2.2]) (K := [_, _]) (rst := [_, _, _, _]) (.inl rfl) rfl rfl (Zb 4 rfl rfl S46 (Zb 3 rfl rfl S50 (ZN rfl rfl))) (ZK 0 rfl (ZK 0 rfl ZI)) ?_)))))))))
  obtain rfl := Option.some.inj hx
  exact ⟨az_23, nz_23, cz_23, ar_24, nr_24, cr_24, Kr_24, ar_25, nr_25, cr_25, Kr_25, rfl, rfl, hz_23, (Zg (Nat.zero_le _) hr_24), (Zx hr_24 hlt), (Zg (Nat.zero_le _) hr_25), (Zx hr_25 hlt), trivial⟩

set_option maxHeartbeats 8000000 in
theorem store_Lay_ok (p_1 : Store) (p_5 : UInt32) (p_6 : List UInt8) (H : Heaplet) {aa_2 : Option Addr} {na_2 : Nat} {ca_2 : Nat} {aa_3 : Option Addr} {na_3 : Nat} {ca_3 : Nat} {aa_4 : Option Addr} {na_4 : Nat} {ca_4 : Nat} {aa_7 : Option Addr} {na_7 : Nat} {ca_7 : Nat} (ha_2 : IsSlice H (RSl RU8 1) 1 (.slice aa_2 na_2 ca_2) p_1.Disk.Blocks) (ha_3 : IsSlice H R_Write 2 (.slice aa_3 na_3 ca_3) p_1.Disk.Waits) (ha_4 : IsSlice H RU8 1 (.slice aa_4 na_4 ca_4) p_1.Space) (ha_7 : IsSlice H RU8 1 (.slice aa_7 na_7 ca_7) p_6) (r : Store × Ptr × Int) (hx : store_Lay p_1 p_5 p_6 = some r) :
  Does Try.prog 13 #[.agg #[.slice aa_2 na_2 ca_2, .slice aa_3 na_3 ca_3, .slice aa_4 na_4 ca_4, .int .u32 (p_1.Epoch.toNat : Int), .int .u32 (p_1.Count.toNat : Int)], .int .u32 (p_5.toNat : Int), .slice aa_7 na_7 ca_7] [] H (fun u K' H' => ∃ ao0 : Option Addr, ∃ n0 : Nat, ∃ cap0 : Nat, ∃ ao1 : Option Addr, ∃ n1 : Nat, ∃ cap1 : Nat, ∃ K1 : Own, ∃ ao2 : Option Addr, ∃ n2 : Nat, ∃ cap2 : Nat, ∃ K2 : Own, u = .tuple #[.agg #[.slice ao0 n0 cap0, .slice ao1 n1 cap1, .slice ao2 n2 cap2, .int .u32 (r.1.Epoch.toNat : Int), .int .u32 (r.1.Count.toNat : Int)], .agg #[.int .i64 r.2.1.At, .int .u32 (r.2.1.Birth.toNat : Int), .int .u32 (r.2.1.Iv.toNat : Int), .int .u32 (r.2.1.Tag.toNat : Int), .int .u32 (r.2.1.Sum.toNat : Int)], .int .i64 r.2.2] ∧ K' = [K1, K2] ∧ IsSlice (New H H') (RSl RU8 1) 1 (.slice ao0 n0 cap0) r.1.Disk.Blocks ∧ RowOf (New H H') R_Write 0 80 2 (.slice ao1 n1 cap1) r.1.Disk.Waits K1 ∧ (∀ p ∈ K1, p.1 ∉ ids (List.flatten [])) ∧ RowOf (New H H') RU8 0 5 1 (.slice ao2 n2 cap2) r.1.Space K2 ∧ (∀ p ∈ K2, p.1 ∉ ids (List.flatten [])) ∧ True) := by
 refine Does.enterL (vs := [.agg #[.slice aa_2 na_2 ca_2, .slice aa_3 na_3 ca_3, .slice aa_4 na_4 ca_4, .int .u32 (p_1.Epoch.toNat : Int), .int .u32 (p_1.Count.toNat : Int)], .int .u32 (p_5.toNat : Int), .slice aa_7 na_7 ca_7]) (l := [(0, .agg #[.slice aa_2 na_2 ca_2, .slice aa_3 na_3 ca_3, .slice aa_4 na_4 ca_4, .int .u32 (p_1.Epoch.toNat : Int), .int .u32 (p_1.Count.toNat : Int)]), (1, .int .u32 (p_5.toNat : Int)), (2, .slice aa_7 na_7 ca_7)]) Try.func13 rfl rfl ⟨rfl, rfl, rfl, trivial⟩ (fun w hlt => ?_)
 unfold store_Lay at hx
 refine ZF (ZB (YF rfl rfl (fun b_8 hb_8 => JL.alloc Z46 rfl (fun b_9 hb_9 => JL.alloc Z50 rfl (fun b_10 hb_10 => ZA rfl rfl (ZE rfl) (ZD (ZC (ZF (ZB (ZA rfl rfl (Zu 2 (vs := [.slice aa_2 na_2 ca_2, .slice aa_3 na_3 ca_3, .slice aa_4 na_4 ca_4, .int .u32 (p_1.Epoch.toNat : Int), .int .u32 (p_1.Count.toNat : Int)]) S46 rfl rfl rfl rfl) (ZA rfl rfl (ZG rfl) ?_)))))))))))
 refine ZA rfl rfl (ZG rfl) ?_
 obtain ⟨x_11, hr_12, hx⟩ := ZJ hx
 refine ZS (vs := [_, _, _, _, _]) (args := [_, _, _, _, _]) (K := []) (rst := [_, _, _]) E17 rfl rfl rfl ZI (store_Raw_ok p_1 p_5 (0 : UInt32) (0 : UInt32) p_6 _ ha_2 ha_3 ha_4 ha_7 _ hr_12) rfl (fun u_13 Ku_13 Hu_13 hRu_13 hleu_13 hfu_13 => ?_)
 obtain ⟨az_14, nz_14, cz_14, ar_15, nr_15, cr_15, Kr_15, ar_16, nr_16, cr_16, Kr_16, rfl, rfl, hz_14, hr_15, hnewr_15, hr_16, hnewr_16, -⟩ := hRu_13
 replace hr_15 := (RowOf.base (RowOf.mono R_Write.mono (New.call (Hle.refl _)) hr_15) (fun p hp => (hfu_13 p (Zh 0 rfl hp)).resolve_left (hnewr_15 p hp)))
 replace hr_16 := (RowOf.base (Zf (H2 := New H Hu_13) RU8.const hr_16) (fun p hp => (hfu_13 p (Zh 1 rfl hp)).resolve_left (hnewr_16 p hp)))
 replace hz_14 := IsSlice.mono (RSl.mono RU8.mono) (New.call (Hle.refl _)) hz_14
 refine ZA rfl rfl (R.extract rfl rfl) (ZA rfl rfl (R.extract rfl rfl) (ZA rfl rfl (R.extract rfl rfl) (ZQ 3 S46 rfl rfl rfl rfl rfl (Nat.le_of_ble_eq_true rfl) (ZQ 2 S50 rfl rfl rfl rfl rfl (Nat.le_of_ble_eq_true rfl) (ZA rfl rfl (ZE rfl) (ZD (ZC (ZT (ZR (vs := [.agg #[.slice az_14 nz_14 cz_14, .slice ar_15 nr_15 cr_15, .slice ar_16 nr_16 cr_16, .int .u32 (x_11.1.Epoch.toNat : Int), .int .u32 (x_11.1.Count.toNat : Int)], .agg #[.int .i64 x_11.2.1.At, .int .u32 (x_11.2.1.Birth.toNat : Int), .int .u32 (x_11.2.1.Iv.toNat : Int), .int .u32 (x_11.2.1.Tag.toNat : Int), .int .u32 (x_11.2.1.Sum.toNat : Int)], .int .i64 x_11.2.2]) (K := [_, _]) (rst := [_, _, _]) (.inl rfl) rfl rfl (Zb 3 rfl rfl S46 (Zb 2 rfl rfl S50 (ZN rfl rfl))) (ZK 0 rfl (ZK 0 rfl ZI)) ?_)))))))))
 obtain rfl := Option.some.inj hx
 exact ⟨az_14, nz_14, cz_14, ar_15, nr_15, cr_15, Kr_15, ar_16, nr_16, cr_16, Kr_16, rfl, rfl, hz_14, (Zg (Nat.zero_le _) hr_15), (Zx hr_15 hlt), (Zg (Nat.zero_le _) hr_16), (Zx hr_16 hlt), trivial⟩

set_option maxHeartbeats 8000000 in
theorem ref09_place_ok (p_1 : Int) (H : Heaplet) (r : Bool) (hx : ref09_place p_1 = some r) :
  Does Try.prog 82 #[.int .i64 p_1] [] H (fun u K' H' => u = .bool r ∧ K' = [] ∧ H = H' ∧ True) := by
 refine Does.enterL (vs := [.int .i64 p_1]) (l := [(0, .int .i64 p_1)]) Try.func82 rfl rfl ⟨rfl, trivial⟩ (fun w hlt => ?_)
 unfold ref09_place at hx
 refine ZF (ZB (ZA rfl rfl (ZE rfl) (ZD (ZC (ZF ?_)))))
 obtain ⟨t_2, ht_4, hx⟩ := ZJ hx
 refine Z4 (fun l o g => l = [(2, .bool t_2)] ∧ o = [] ∧ H = g) ?_ ?_
 ·
  rintro _ _ _ ⟨rfl, rfl, rfl⟩
  refine ZC (ZT (ZR (vs := [.bool t_2]) (K := []) (rst := []) (.inl rfl) rfl rfl (ZN rfl rfl) ZI ?_))
  obtain rfl := Option.some.inj hx
  exact ⟨rfl, rfl, rfl, trivial⟩
 ·
  have hxo_3 := hx; clear hx; have hx := ht_4; clear ht_4
  refine ZB (ZA rfl rfl (ZG rfl) (ZA rfl rfl (R.leq_i rfl rfl) (ZA rfl rfl (ZG rfl) (Zj (t := 5) rfl (fun c_5 => ?_) (fun c_5 => ?_)))))
  ·
   replace hx := ZX c_5 hx
   refine ZL rfl rfl rfl (ZA rfl rfl (ZG rfl) (ZL rfl rfl rfl (ZA rfl rfl (Zy rfl rfl) (ZA rfl rfl (Zd rfl rfl) (ZA rfl rfl (ZE rfl) (ZD ?_))))))
   obtain rfl := Option.some.inj hx
   exact Za ⟨rfl, rfl, rfl⟩ ⟨rfl, trivial⟩ rfl rfl
  ·
   replace hx := ZY c_5 hx
   refine ZH rfl rfl rfl rfl rfl (ZH rfl rfl rfl rfl rfl (ZA rfl rfl (Zm rfl rfl) (ZA rfl rfl (ZE rfl) (ZD ?_))))
   obtain rfl := Option.some.inj hx
   exact Za ⟨rfl, rfl, rfl⟩ ⟨rfl, trivial⟩ rfl rfl

set_option maxHeartbeats 8000000 in
theorem ref09_May_ok (p_1 : Disk) (H : Heaplet) {aa_2 : Option Addr} {na_2 : Nat} {ca_2 : Nat} {aa_3 : Option Addr} {na_3 : Nat} {ca_3 : Nat} (ha_2 : IsSlice H (RSl RU8 1) 1 (.slice aa_2 na_2 ca_2) p_1.Blocks) (ha_3 : IsSlice H R_Write 2 (.slice aa_3 na_3 ca_3) p_1.Waits) (r : Bool) (hx : ref09_May p_1 = some r) :
  Does Try.prog 57 #[.agg #[.slice aa_2 na_2 ca_2, .slice aa_3 na_3 ca_3]] [] H (fun u K' H' => u = .bool r ∧ K' = [] ∧ H = H' ∧ True) := by
 refine Does.enterL (vs := [.agg #[.slice aa_2 na_2 ca_2, .slice aa_3 na_3 ca_3]]) (l := [(0, .agg #[.slice aa_2 na_2 ca_2, .slice aa_3 na_3 ca_3])]) Try.func57 rfl rfl ⟨rfl, trivial⟩ (fun w hlt => ?_)
 unfold ref09_May at hx
 refine ZF (ZB (YF rfl rfl (fun b_4 hb_4 => ZA rfl rfl (ZE rfl) (ZD (ZC (ZF (ZB (ZA rfl rfl (ZE rfl) (ZD (ZC (ZF ?_)))))))))))
 refine ZF (ZB (ZA rfl rfl (ZE rfl) (ZD (ZC ?_))))
 obtain ⟨t_5, ht_7, hx⟩ := ZJ hx
 refine Z4 (fun l o g => l = [(1, .pointer (some ⟨b_4, 0, none⟩)), (3, .int .i64 t_5)] ∧ o = [[(b_4, .cells #[.slice aa_2 na_2 ca_2, .slice aa_3 na_3 ca_3] 44 (0, 0))]] ∧ H = g) ?_ ?_
 ·
  rintro _ _ _ ⟨rfl, rfl, rfl⟩
  refine ZC (ZF (ZF (ZB (ZA rfl rfl (ZE rfl) (ZD (ZC ?_))))))
  obtain ⟨t_11, ht_13, hx⟩ := ZJ hx
  refine Z4 (fun l o g => l = [(1, .pointer (some ⟨b_4, 0, none⟩)), (3, .int .i64 t_11)] ∧ o = [[(b_4, .cells #[.slice aa_2 na_2 ca_2, .slice aa_3 na_3 ca_3] 44 (0, 0))]] ∧ H = g) ?_ ?_
  ·
   rintro _ _ _ ⟨rfl, rfl, rfl⟩
   refine ZC (ZF ?_)
   obtain ⟨t_17, ht_19, hx⟩ := ZJ hx
   refine Z4 (fun l o g => l = [(2, .bool t_17)] ∧ o = [] ∧ H = g) ?_ ?_
   ·
    rintro _ _ _ ⟨rfl, rfl, rfl⟩
    refine ZC (ZT (ZR (vs := [.bool t_17]) (K := []) (rst := []) (.inl rfl) rfl rfl (ZN rfl rfl) ZI ?_))
    obtain rfl := Option.some.inj hx
    exact ⟨rfl, rfl, rfl, trivial⟩
   ·
    have hxo_18 := hx; clear hx; have hx := ht_19; clear ht_19
    refine ZB (ZA rfl rfl (ZG rfl) (ZA rfl rfl (R.eql_i rfl rfl) (ZA rfl rfl (ZG rfl) (Zj (t := 59) rfl (fun c_20 => ?_) (fun c_20 => ?_)))))
    ·
     replace hx := ZX c_20 hx
     refine ZL rfl rfl rfl (ZA rfl rfl (Zt F44_0 rfl) (ZL rfl rfl rfl (ZA rfl rfl (Ze 0 S41 rfl rfl rfl) (ZL rfl rfl rfl (ZA rfl rfl (Zk U41 rfl (IsSlice.long ha_2)) (ZL rfl rfl rfl (ZA rfl rfl (R.eql_i rfl rfl) (ZA rfl rfl (Zd rfl rfl) (ZA rfl rfl (ZG rfl) (Zj (t := 65) rfl (fun c_21 => ?_) (fun c_21 => ?_)))))))))))
     ·
      replace hx := ZX c_21 hx
      refine ZL rfl rfl rfl (ZA rfl rfl (Zt F44_1 rfl) (ZL rfl rfl rfl (ZA rfl rfl (Ze 0 S42 rfl rfl rfl) (ZL rfl rfl rfl (ZA rfl rfl (Zk U42 rfl (IsSlice.long ha_3)) (ZL rfl rfl rfl (ZA rfl rfl (R.leq_i rfl rfl) (ZA rfl rfl (Zd rfl rfl) (ZA rfl rfl (ZE rfl) (ZD ?_))))))))))
      obtain rfl := Option.some.inj hx
      refine JN.forget 0 ?_
      exact Za ⟨rfl, rfl, rfl⟩ ⟨rfl, trivial⟩ rfl rfl
     ·
      replace hx := ZY c_21 hx
      refine ZH rfl rfl rfl rfl rfl (ZH rfl rfl rfl rfl rfl (ZH rfl rfl rfl rfl rfl (ZH rfl rfl rfl rfl rfl (ZA rfl rfl (Zm rfl rfl) (ZA rfl rfl (ZE rfl) (ZD ?_))))))
      obtain rfl := Option.some.inj hx
      refine JN.forget 0 ?_
      exact Za ⟨rfl, rfl, rfl⟩ ⟨rfl, trivial⟩ rfl rfl
    ·
     replace hx := ZY c_20 hx
     refine ZH rfl rfl rfl rfl rfl (ZH rfl rfl rfl rfl rfl (ZH rfl rfl rfl rfl rfl (ZH rfl rfl rfl rfl rfl (ZA rfl rfl (Zm rfl rfl) (ZA rfl rfl (ZG rfl) (ZH rfl rfl rfl rfl rfl (ZH rfl rfl rfl rfl rfl (ZH rfl rfl rfl rfl rfl (ZH rfl rfl rfl rfl rfl (ZA rfl rfl (Zm rfl rfl) (ZA rfl rfl (ZE rfl) ?_)))))))))))
     refine ZD ?_
     obtain rfl := Option.some.inj hx
     refine JN.forget 0 ?_
     exact Za ⟨rfl, rfl, rfl⟩ ⟨rfl, trivial⟩ rfl rfl
  ·
   have hxo_12 := hx; clear hx; have hx := ht_13; clear ht_13
   refine JC.block (Z2 (fun n l o g => ∃ s_14 : Int × Nat, l = [(1, .pointer (some ⟨b_4, 0, none⟩)), (3, .int .i64 s_14.1), (5, .int .i64 ((s_14.2 : Nat) : Int))] ∧ o = [[(b_4, .cells #[.slice aa_2 na_2 ca_2, .slice aa_3 na_3 ca_3] 44 (0, 0))]] ∧ H = g ∧ run (ref09_May_l2 p_1) n s_14 = some t_11) FUEL ?_ ⟨(t_5, 0), rfl, rfl, rfl, hx⟩ ⟨rfl, rfl, rfl, trivial⟩ ?_)
   ·
    rintro _ _ _ ⟨s_14, rfl, rfl, rfl, hn_15⟩
    exact Zz hn_15
   ·
    rintro n_16 _ _ _ ⟨s_14, rfl, rfl, rfl, hn_15⟩
    clear hx; obtain ⟨oo_18, hx, hd_17⟩ := Z0 hn_15
    unfold ref09_May_l2 at hx
    refine ZF (ZF (ZB (ZA rfl rfl (ZG rfl) (ZA rfl rfl (Zt F44_1 rfl) (ZA rfl rfl (Ze 0 S42 rfl rfl rfl) (ZA rfl rfl (Zk U42 rfl (IsSlice.long ha_3)) (ZA rfl rfl (Zy rfl rfl) (ZA rfl rfl (ZG rfl) (Zj (t := 31) rfl (fun c_17 => ?_) (fun c_17 => ?_))))))))))
    ·
     replace hx := ZX c_17 hx
     refine ZL rfl rfl rfl (ZA rfl rfl (ZG rfl) (ZL rfl rfl rfl (ZA rfl rfl (R.leq_i rfl rfl) (ZA rfl rfl (Zd rfl rfl) (ZD (ZC (ZW rfl (fun c_18 => ?_) (fun c_18 => ?_))))))))
     ·
      replace hx := ZX c_18 hx
      refine JC.skip (ZC (ZF (JC.block (ZF (ZB (ZA rfl rfl (Zt F44_1 rfl) (ZA rfl rfl (Ze 0 S42 rfl rfl rfl) (ZA rfl rfl (ZG rfl) ?_))))))))
      obtain ⟨y_19, hN_20, hx⟩ := Zq hx
      obtain ⟨b_21, o_22, cs_23, hE_24, hR_25, hl_26, hc_27⟩ := IsSlice.elem ha_3 hN_20
      obtain ⟨v_28, rfl, hs_29⟩ := hR_25
      obtain ⟨av_28, cv_28, rfl⟩ := IsSlice.val hs_29
      refine ZA rfl rfl (R.ix U42 S80 rfl rfl hE_24) (ZA rfl rfl (Zt F80_1 rfl) (ZA rfl rfl (R.ldH S23 rfl (hc_27 1 _ rfl)) (ZA rfl rfl (Zk U23 rfl (IsSlice.long hs_29)) (ZA rfl rfl (YA rfl rfl) (ZA rfl rfl (ZG rfl) (Zj (t := 45) rfl (fun c_30 => ?_) (fun c_30 => ?_)))))))
      ·
       replace hx := ZX c_30 hx
       refine ZH rfl rfl rfl rfl rfl (ZH rfl rfl rfl rfl rfl (ZH rfl rfl rfl rfl rfl (ZH rfl rfl rfl rfl rfl (ZH rfl rfl rfl rfl rfl (ZH rfl rfl rfl rfl rfl (ZH rfl rfl rfl rfl rfl (ZH rfl rfl rfl rfl rfl (ZA rfl rfl (Zd rfl rfl) (ZD (ZC (Z5 rfl ?_)))))))))))
       refine ZB (ZA rfl rfl (ZG rfl) (ZA rfl rfl (YB rfl rfl) (ZA rfl rfl (ZE rfl) (ZD (Zo (ZC (ZB (ZA rfl rfl (ZG rfl) (ZA rfl rfl (R.inc rfl rfl (of_decide_eq_true c_17) (IsSlice.lenI ha_3)) (ZA rfl rfl (ZE rfl) (ZD ?_)))))))))))
       replace hx := Zp hd_17 hx
       exact Za ⟨(w64 (s_14.1 + 1), s_14.2 + 1), rfl, rfl, rfl, hx⟩ ⟨rfl, rfl, rfl, trivial⟩ rfl rfl
      ·
       replace hx := ZY c_30 hx
       refine ZL rfl rfl rfl (ZA rfl rfl (Zt F44_1 rfl) (ZL rfl rfl rfl (ZA rfl rfl (Ze 0 S42 rfl rfl rfl) (ZL rfl rfl rfl (ZA rfl rfl (ZG rfl) (ZL rfl rfl rfl ?_))))))
       obtain ⟨y_31, hN_32, hx⟩ := Zq hx
       obtain ⟨b_33, o_34, cs_35, hE_36, hR_37, hl_38, hc_39⟩ := IsSlice.elem ha_3 hN_32
       obtain ⟨v_40, rfl, hs_41⟩ := hR_37
       obtain ⟨av_40, cv_40, rfl⟩ := IsSlice.val hs_41
       refine ZA rfl rfl (R.ix U42 S80 rfl rfl hE_36) (ZL rfl rfl rfl (ZA rfl rfl (Zt F80_0 rfl) (ZL rfl rfl rfl (ZA rfl rfl (R.ldH S3 rfl (hc_39 0 _ rfl)) (ZL rfl rfl rfl ?_)))))
       obtain ⟨x_42, hr_43, hx⟩ := ZJ hx
       refine ZS (vs := [_]) (args := [_]) (K := []) (rst := [_]) E82 rfl rfl rfl ZI (ref09_place_ok y_31.At _ _ hr_43) rfl (fun u_44 Ku_44 Hu_44 hRu_44 hleu_44 hfu_44 => ?_)
       obtain ⟨rfl, rfl, rfl, -⟩ := hRu_44
       refine ZL rfl rfl rfl (ZA rfl rfl (R.not rfl) (ZA rfl rfl (Zm rfl rfl) (ZD (ZC (ZW rfl (fun c_45 => ?_) (fun c_45 => ?_))))))
       ·
        replace hx := ZX c_45 hx
        refine ZB (ZA rfl rfl (ZG rfl) (ZA rfl rfl (YB rfl rfl) (ZA rfl rfl (ZE rfl) (ZD (Zo (ZC (ZB (ZA rfl rfl (ZG rfl) (ZA rfl rfl (R.inc rfl rfl (of_decide_eq_true c_17) (IsSlice.lenI ha_3)) (ZA rfl rfl (ZE rfl) (ZD ?_)))))))))))
        replace hx := Zp hd_17 hx
        exact Za ⟨(w64 (s_14.1 + 1), s_14.2 + 1), rfl, rfl, rfl, hx⟩ ⟨rfl, rfl, rfl, trivial⟩ rfl rfl
       ·
        replace hx := ZY c_45 hx
        refine JC.skip (Zo (ZC (ZB (ZA rfl rfl (ZG rfl) (ZA rfl rfl (R.inc rfl rfl (of_decide_eq_true c_17) (IsSlice.lenI ha_3)) (ZA rfl rfl (ZE rfl) (ZD ?_)))))))
        replace hx := Zp hd_17 hx
        exact Za ⟨(s_14.1, s_14.2 + 1), rfl, rfl, rfl, hx⟩ ⟨rfl, rfl, rfl, trivial⟩ rfl rfl
     ·
      replace hx := ZY c_18 hx
      refine Z1 (Zc ?_)
      obtain rfl := Zv hd_17 hx
      refine Zc (Zi ?_)
      exact Za ⟨rfl, rfl, rfl⟩ ⟨rfl, rfl, trivial⟩ rfl rfl
    ·
     replace hx := ZY c_17 hx
     refine ZH rfl rfl rfl rfl rfl (ZH rfl rfl rfl rfl rfl (ZA rfl rfl (Zm rfl rfl) (ZD (ZC (JC.condF rfl (Z1 (Zc ?_)))))))
     obtain rfl := Zv hd_17 hx
     refine Zc (Zi ?_)
     exact Za ⟨rfl, rfl, rfl⟩ ⟨rfl, rfl, trivial⟩ rfl rfl
 ·
  have hxo_6 := hx; clear hx; have hx := ht_7; clear ht_7
  refine JC.block (Z2 (fun n l o g => ∃ s_8 : Int × Nat, l = [(1, .pointer (some ⟨b_4, 0, none⟩)), (3, .int .i64 s_8.1), (4, .int .i64 ((s_8.2 : Nat) : Int))] ∧ o = [[(b_4, .cells #[.slice aa_2 na_2 ca_2, .slice aa_3 na_3 ca_3] 44 (0, 0))]] ∧ H = g ∧ run (ref09_May_l1 p_1) n s_8 = some t_5) FUEL ?_ ⟨(0, 0), rfl, rfl, rfl, hx⟩ ⟨rfl, rfl, rfl, trivial⟩ ?_)
  ·
   rintro _ _ _ ⟨s_8, rfl, rfl, rfl, hn_9⟩
   exact Zz hn_9
  ·
   rintro n_10 _ _ _ ⟨s_8, rfl, rfl, rfl, hn_9⟩
   clear hx; obtain ⟨oo_12, hx, hd_11⟩ := Z0 hn_9
   unfold ref09_May_l1 at hx
   refine ZF (ZF (ZB (ZA rfl rfl (ZG rfl) (ZA rfl rfl (Zt F44_0 rfl) (ZA rfl rfl (Ze 0 S41 rfl rfl rfl) (ZA rfl rfl (Zk U41 rfl (IsSlice.long ha_2)) (ZA rfl rfl (Zy rfl rfl) (ZA rfl rfl (ZG rfl) (Zj (t := 11) rfl (fun c_11 => ?_) (fun c_11 => ?_))))))))))
   ·
    replace hx := ZX c_11 hx
    refine ZL rfl rfl rfl (ZA rfl rfl (ZG rfl) (ZL rfl rfl rfl (ZA rfl rfl (R.leq_i rfl rfl) (ZA rfl rfl (Zd rfl rfl) (ZD (ZC (ZW rfl (fun c_12 => ?_) (fun c_12 => ?_))))))))
    ·
     replace hx := ZX c_12 hx
     refine JC.skip (ZC (ZF (JC.block (ZF (ZB (ZA rfl rfl (Zt F44_0 rfl) (ZA rfl rfl (Ze 0 S41 rfl rfl rfl) (ZA rfl rfl (ZG rfl) ?_))))))))
     obtain ⟨y_13, hN_14, hx⟩ := Zq hx
     obtain ⟨b_15, o_16, cs_17, hE_18, hR_19, hl_20, hc_21⟩ := IsSlice.elem ha_2 hN_14
     obtain ⟨v_22, rfl, hs_23⟩ := hR_19
     obtain ⟨av_22, cv_22, rfl⟩ := IsSlice.val hs_23
     refine ZA rfl rfl (R.ix U41 S23 rfl rfl hE_18) (ZA rfl rfl (R.ldH S23 rfl (hc_21 0 _ rfl)) (ZA rfl rfl (Zk U23 rfl (IsSlice.long hs_23)) (ZA rfl rfl (YA rfl rfl) (ZD (ZC (ZW rfl (fun c_24 => ?_) (fun c_24 => ?_)))))))
     ·
      replace hx := ZX c_24 hx
      refine ZB (ZA rfl rfl (ZG rfl) (ZA rfl rfl (YB rfl rfl) (ZA rfl rfl (ZE rfl) (ZD (Zo (ZC (ZB (ZA rfl rfl (ZG rfl) (ZA rfl rfl (R.inc rfl rfl (of_decide_eq_true c_11) (IsSlice.lenI ha_2)) (ZA rfl rfl (ZE rfl) (ZD ?_)))))))))))
      replace hx := Zp hd_11 hx
      exact Za ⟨(w64 (s_8.1 + 1), s_8.2 + 1), rfl, rfl, rfl, hx⟩ ⟨rfl, rfl, rfl, trivial⟩ rfl rfl
     ·
      replace hx := ZY c_24 hx
      refine JC.skip (Zo (ZC (ZB (ZA rfl rfl (ZG rfl) (ZA rfl rfl (R.inc rfl rfl (of_decide_eq_true c_11) (IsSlice.lenI ha_2)) (ZA rfl rfl (ZE rfl) (ZD ?_)))))))
      replace hx := Zp hd_11 hx
      exact Za ⟨(s_8.1, s_8.2 + 1), rfl, rfl, rfl, hx⟩ ⟨rfl, rfl, rfl, trivial⟩ rfl rfl
    ·
     replace hx := ZY c_12 hx
     refine Z1 (Zc ?_)
     obtain rfl := Zv hd_11 hx
     refine Zc (Zi ?_)
     exact Za ⟨rfl, rfl, rfl⟩ ⟨rfl, rfl, trivial⟩ rfl rfl
   ·
    replace hx := ZY c_11 hx
    refine ZH rfl rfl rfl rfl rfl (ZH rfl rfl rfl rfl rfl (ZA rfl rfl (Zm rfl rfl) (ZD (ZC (JC.condF rfl (Z1 (Zc ?_)))))))
    obtain rfl := Zv hd_11 hx
    refine Zc (Zi ?_)
    exact Za ⟨rfl, rfl, rfl⟩ ⟨rfl, rfl, trivial⟩ rfl rfl

set_option maxHeartbeats 8000000 in
theorem ref12_May_ok (p_1 : List UInt8) (H : Heaplet) {aa_2 : Option Addr} {na_2 : Nat} {ca_2 : Nat} (ha_2 : IsSlice H RU8 1 (.slice aa_2 na_2 ca_2) p_1) (r : Bool) (hx : ref12_May p_1 = some r) :
  Does Try.prog 58 #[.slice aa_2 na_2 ca_2] [] H (fun u K' H' => u = .bool r ∧ K' = [] ∧ H = H' ∧ True) := by
 refine Does.enterL (vs := [.slice aa_2 na_2 ca_2]) (l := [(0, .slice aa_2 na_2 ca_2)]) Try.func58 rfl rfl ⟨rfl, trivial⟩ (fun w hlt => ?_)
 unfold ref12_May at hx
 refine ZF (ZB (ZA rfl rfl (ZE rfl) (ZD (ZC (ZF (ZF (ZB (ZA rfl rfl (ZG rfl) (ZA rfl rfl (Zk U23 rfl (IsSlice.long ha_2)) (ZA rfl rfl (YA rfl rfl) (ZD ?_)))))))))))
 refine ZC (ZW rfl (fun c_3 => ?_) (fun c_3 => ?_))
 ·
  replace hx := ZX c_3 hx
  refine ZF (ZB (ZA rfl rfl (ZE rfl) (ZD (ZC (ZT (ZV (ZR (vs := [.bool false]) (K := []) (rst := []) (.inl rfl) rfl rfl (ZN rfl rfl) ZI ?_)))))))
  obtain rfl := Option.some.inj hx
  exact ⟨rfl, rfl, rfl, trivial⟩
 ·
  replace hx := ZY c_3 hx
  refine JC.skip (ZC (ZF (ZF (ZB (ZA rfl rfl (ZE rfl) (ZD (ZC ?_)))))))
  obtain ⟨t_4, ht_6, hx⟩ := ZJ hx
  refine Z4 (fun l o g => ∃ t_4a : Unit, l = [] ∧ o = [] ∧ H = g ∧ t_4 = .inl t_4a) ?_ ?_
  ·
   rintro _ _ _ ⟨t_4a, rfl, rfl, rfl, rfl⟩
   simp only [Sum.elim_inl] at hx
   refine ZC (ZF (ZB (ZA rfl rfl (ZE rfl) (ZD (ZC (ZT (ZR (vs := [.bool true]) (K := []) (rst := []) (.inl rfl) rfl rfl (ZN rfl rfl) ZI ?_)))))))
   obtain rfl := Option.some.inj hx
   exact ⟨rfl, rfl, rfl, trivial⟩
  ·
   have hxo_5 := hx; clear hx; have hx := ht_6; clear ht_6
   refine JC.block (Z2 (fun n l o g => ∃ s_7 : Nat, l = [(0, .slice aa_2 na_2 ca_2), (3, .int .i64 ((s_7 : Nat) : Int))] ∧ o = [] ∧ H = g ∧ run (ref12_May_l1 p_1) n s_7 = some t_4) FUEL ?_ ⟨0, rfl, rfl, rfl, hx⟩ ⟨rfl, rfl, trivial⟩ ?_)
   ·
    rintro _ _ _ ⟨s_7, rfl, rfl, rfl, hn_8⟩
    exact Zz hn_8
   ·
    rintro n_9 _ _ _ ⟨s_7, rfl, rfl, rfl, hn_8⟩
    clear hx; obtain ⟨oo_11, hx, hd_10⟩ := Z0 hn_8
    unfold ref12_May_l1 at hx
    refine ZF (ZF (ZB (ZA rfl rfl (ZG rfl) (ZA rfl rfl (Zy rfl rfl) (ZD (ZC (ZW rfl (fun c_10 => ?_) (fun c_10 => ?_))))))))
    ·
     replace hx := ZX c_10 hx
     refine JC.skip (ZC (ZF (JC.block (ZF (ZB (ZA rfl rfl (ZG rfl) (ZA rfl rfl (ZG rfl) ?_)))))))
     obtain ⟨y_11, hN_12, hx⟩ := Zq hx
     obtain ⟨b_13, o_14, cs_15, hE_16, hR_17, hl_18, hc_19⟩ := IsSlice.elem ha_2 hN_12
     obtain rfl := hR_17
     refine ZA rfl rfl (R.ix U23 S5 rfl rfl hE_16) (ZA rfl rfl (R.ldH S5 rfl (hc_19 0 _ rfl)) (ZA rfl rfl (R.gtr8 (a := y_11) (b := (2 : UInt8)) rfl rfl) (ZA rfl rfl (ZG rfl) (Zj (t := 16) rfl (fun c_20 => ?_) (fun c_20 => ?_)))))
     ·
      replace hx := ZX c_20 hx
      refine ZH rfl rfl rfl rfl rfl (ZH rfl rfl rfl rfl rfl (ZH rfl rfl rfl rfl rfl (JL.gNoU rfl rfl rfl rfl (JL.gNoU rfl rfl rfl rfl (JL.gNoU rfl rfl rfl rfl (JL.gNoU rfl rfl rfl rfl (JL.gNoU rfl rfl rfl rfl (ZH rfl rfl rfl rfl rfl (ZA rfl rfl (Zd rfl rfl) (ZD (ZC ?_)))))))))))
      refine Z5 rfl (ZF (ZB (ZA rfl rfl (ZE rfl) (ZD (ZC (ZT (JN.blkR (ZV ?_))))))))
      obtain rfl := Zv hd_10 hx
      refine ZV (JN.blkR ?_)
      clear hx; have hx := hxo_5
      simp only [Sum.elim_inl, Sum.elim_inr] at hx
      refine ZV (ZV (ZR (vs := [.bool false]) (K := []) (rst := []) (.inl rfl) rfl rfl (ZN rfl rfl) ZI ?_))
      obtain rfl := Option.some.inj hx
      exact ⟨rfl, rfl, rfl, trivial⟩
     ·
      replace hx := ZY c_20 hx
      refine ZL rfl rfl rfl (ZA rfl rfl (ZG rfl) (ZL rfl rfl rfl (ZA rfl rfl (Zy rfl rfl) (ZL rfl rfl rfl (ZA rfl rfl (ZG rfl) (Zj (t := 19) rfl (fun c_21 => ?_) (fun c_21 => ?_)))))))
      ·
       replace hx := ZX c_21 hx
       refine ZL rfl rfl rfl (ZA rfl rfl (ZG rfl) (ZL rfl rfl rfl (ZA rfl rfl (ZG rfl) (ZL rfl rfl rfl ?_))))
       obtain ⟨y_22, hN_23, hx⟩ := Zq hx
       obtain ⟨b_24, o_25, cs_26, hE_27, hR_28, hl_29, hc_30⟩ := IsSlice.elem ha_2 hN_23
       obtain rfl := hR_28
       refine ZA rfl rfl (R.ix U23 S5 rfl rfl hE_27) (ZL rfl rfl rfl (ZA rfl rfl (R.ldH S5 rfl (hc_30 0 _ rfl)) (ZL rfl rfl rfl (ZA rfl rfl (R.neq8 (a := y_22) (b := (1 : UInt8)) rfl rfl) (ZL rfl rfl rfl (ZA rfl rfl (Zd rfl rfl) (ZA rfl rfl (Zm rfl rfl) (ZD (ZC (ZW rfl (fun c_31 => ?_) (fun c_31 => ?_)))))))))))
       ·
        replace hx := ZX c_31 hx
        refine ZF (ZB (ZA rfl rfl (ZE rfl) (ZD (ZC (ZT (JN.blkR (ZV ?_)))))))
        obtain rfl := Zv hd_10 hx
        refine ZV (JN.blkR ?_)
        clear hx; have hx := hxo_5
        simp only [Sum.elim_inl, Sum.elim_inr] at hx
        refine ZV (ZV (ZR (vs := [.bool false]) (K := []) (rst := []) (.inl rfl) rfl rfl (ZN rfl rfl) ZI ?_))
        obtain rfl := Option.some.inj hx
        exact ⟨rfl, rfl, rfl, trivial⟩
       ·
        replace hx := ZY c_31 hx
        refine JC.skip (Zo (ZC (ZB (ZA rfl rfl (ZG rfl) (ZA rfl rfl (R.inc rfl rfl (of_decide_eq_true c_10) (by decide)) (ZA rfl rfl (ZE rfl) (ZD ?_)))))))
        replace hx := Zp hd_10 hx
        exact Za ⟨s_7 + 1, rfl, rfl, rfl, hx⟩ ⟨rfl, rfl, trivial⟩ rfl rfl
      ·
       replace hx := ZY c_21 hx
       refine ZH rfl rfl rfl rfl rfl (ZH rfl rfl rfl rfl rfl (ZH rfl rfl rfl rfl rfl (ZH rfl rfl rfl rfl rfl (ZH rfl rfl rfl rfl rfl (ZL rfl rfl rfl (ZA rfl rfl (Zm rfl rfl) (ZA rfl rfl (Zm rfl rfl) (ZD (ZC (JC.condF rfl (JC.skip ?_)))))))))))
       refine Zo (ZC (ZB (ZA rfl rfl (ZG rfl) (ZA rfl rfl (R.inc rfl rfl (of_decide_eq_true c_10) (by decide)) (ZA rfl rfl (ZE rfl) (ZD ?_))))))
       replace hx := Zp hd_10 hx
       exact Za ⟨s_7 + 1, rfl, rfl, rfl, hx⟩ ⟨rfl, rfl, trivial⟩ rfl rfl
    ·
     replace hx := ZY c_10 hx
     refine Z1 (Zc ?_)
     obtain rfl := Zv hd_10 hx
     refine Zc (Zi ?_)
     exact Za ⟨(), rfl, rfl, rfl, rfl⟩ trivial rfl rfl

set_option maxHeartbeats 8000000 in
theorem ref13_May_ok (p_1 : Store) (H : Heaplet) {aa_2 : Option Addr} {na_2 : Nat} {ca_2 : Nat} {aa_3 : Option Addr} {na_3 : Nat} {ca_3 : Nat} {aa_4 : Option Addr} {na_4 : Nat} {ca_4 : Nat} (ha_2 : IsSlice H (RSl RU8 1) 1 (.slice aa_2 na_2 ca_2) p_1.Disk.Blocks) (ha_3 : IsSlice H R_Write 2 (.slice aa_3 na_3 ca_3) p_1.Disk.Waits) (ha_4 : IsSlice H RU8 1 (.slice aa_4 na_4 ca_4) p_1.Space) (r : Bool) (hx : ref13_May p_1 = some r) :
  Does Try.prog 35 #[.agg #[.slice aa_2 na_2 ca_2, .slice aa_3 na_3 ca_3, .slice aa_4 na_4 ca_4, .int .u32 (p_1.Epoch.toNat : Int), .int .u32 (p_1.Count.toNat : Int)]] [] H (fun u K' H' => u = .bool r ∧ K' = [] ∧ H = H' ∧ True) := by
 refine Does.enterL (vs := [.agg #[.slice aa_2 na_2 ca_2, .slice aa_3 na_3 ca_3, .slice aa_4 na_4 ca_4, .int .u32 (p_1.Epoch.toNat : Int), .int .u32 (p_1.Count.toNat : Int)]]) (l := [(0, .agg #[.slice aa_2 na_2 ca_2, .slice aa_3 na_3 ca_3, .slice aa_4 na_4 ca_4, .int .u32 (p_1.Epoch.toNat : Int), .int .u32 (p_1.Count.toNat : Int)])]) Try.func35 rfl rfl ⟨rfl, trivial⟩ (fun w hlt => ?_)
 unfold ref13_May at hx
 refine ZF (ZB (YF rfl rfl (fun b_5 hb_5 => ZA rfl rfl (ZE rfl) (ZD (ZC (ZF ?_))))))
 obtain ⟨t_6, ht_8, hx⟩ := ZJ hx
 refine Z4 (fun l o g => l = [(2, .bool t_6)] ∧ o = [] ∧ H = g) ?_ ?_
 ·
  rintro _ _ _ ⟨rfl, rfl, rfl⟩
  refine ZC (ZT (ZR (vs := [.bool t_6]) (K := []) (rst := []) (.inl rfl) rfl rfl (ZN rfl rfl) ZI ?_))
  obtain rfl := Option.some.inj hx
  exact ⟨rfl, rfl, rfl, trivial⟩
 ·
  have hxo_7 := hx; clear hx; have hx := ht_8; clear ht_8
  refine ZB (ZA rfl rfl (Zt F46_0 rfl) (ZA rfl rfl (Zu 0 (vs := [.slice aa_2 na_2 ca_2, .slice aa_3 na_3 ca_3]) S44 rfl rfl rfl rfl) ?_))
  obtain ⟨x_9, hr_10, hx⟩ := ZJ hx
  refine ZS (vs := [_]) (args := [_]) (K := []) (rst := [_]) E57 rfl rfl rfl ZI (ref09_May_ok (Disk.mk p_1.Disk.Blocks p_1.Disk.Waits) _ ha_2 ha_3 _ hr_10) rfl (fun u_11 Ku_11 Hu_11 hRu_11 hleu_11 hfu_11 => ?_)
  obtain ⟨rfl, rfl, rfl, -⟩ := hRu_11
  refine ZA rfl rfl (ZG rfl) (Zj (t := 6) rfl (fun c_12 => ?_) (fun c_12 => ?_))
  ·
   replace hx := ZX c_12 hx
   refine ZL rfl rfl rfl (ZA rfl rfl (Zt F46_1 rfl) (ZL rfl rfl rfl (ZA rfl rfl (Ze 0 S23 rfl rfl rfl) (ZL rfl rfl rfl ?_))))
   obtain ⟨x_13, hr_14, hx⟩ := ZJ hx
   refine ZS (vs := [_]) (args := [_]) (K := []) (rst := [_]) E58 rfl rfl rfl ZI (ref12_May_ok p_1.Space _ ha_4 _ hr_14) rfl (fun u_15 Ku_15 Hu_15 hRu_15 hleu_15 hfu_15 => ?_)
   obtain ⟨rfl, rfl, rfl, -⟩ := hRu_15
   refine ZA rfl rfl (Zd rfl rfl) (ZA rfl rfl (ZG rfl) (Zj (t := 11) rfl (fun c_16 => ?_) (fun c_16 => ?_)))
   ·
    replace hx := ZX c_16 hx
    refine ZL rfl rfl rfl (ZA rfl rfl (Zt F46_2 rfl) (ZL rfl rfl rfl (ZA rfl rfl (Ze 0 S22 rfl rfl rfl) (ZL rfl rfl rfl (ZA rfl rfl (R.geq32 (a := p_1.Epoch) (b := (1 : UInt32)) rfl rfl) (ZA rfl rfl (Zd rfl rfl) (ZA rfl rfl (ZG rfl) (Zj (t := 16) rfl (fun c_17 => ?_) (fun c_17 => ?_)))))))))
    ·
     replace hx := ZX c_17 hx
     refine ZL rfl rfl rfl (ZA rfl rfl (Zt F46_2 rfl) (ZL rfl rfl rfl (ZA rfl rfl (Ze 0 S22 rfl rfl rfl) (ZL rfl rfl rfl (ZA rfl rfl (R.leq32 (a := p_1.Epoch) (b := (65535 : UInt32)) rfl rfl) (ZA rfl rfl (Zd rfl rfl) (ZA rfl rfl (ZG rfl) (Zj (t := 21) rfl (fun c_18 => ?_) (fun c_18 => ?_)))))))))
     ·
      replace hx := ZX c_18 hx
      refine ZL rfl rfl rfl (ZA rfl rfl (Zt F46_3 rfl) (ZL rfl rfl rfl (ZA rfl rfl (Ze 0 S22 rfl rfl rfl) (ZL rfl rfl rfl (ZA rfl rfl (R.leq32 (a := p_1.Count) (b := (65535 : UInt32)) rfl rfl) (ZA rfl rfl (Zd rfl rfl) (ZA rfl rfl (ZE rfl) (ZD ?_))))))))
      obtain rfl := Option.some.inj hx
      refine JN.forget 0 ?_
      exact Za ⟨rfl, rfl, rfl⟩ ⟨rfl, trivial⟩ rfl rfl
     ·
      replace hx := ZY c_18 hx
      refine ZH rfl rfl rfl rfl rfl (ZH rfl rfl rfl rfl rfl (ZH rfl rfl rfl rfl rfl (ZA rfl rfl (Zm rfl rfl) (ZA rfl rfl (ZE rfl) (ZD ?_)))))
      obtain rfl := Option.some.inj hx
      refine JN.forget 0 ?_
      exact Za ⟨rfl, rfl, rfl⟩ ⟨rfl, trivial⟩ rfl rfl
    ·
     replace hx := ZY c_17 hx
     refine ZH rfl rfl rfl rfl rfl (ZH rfl rfl rfl rfl rfl (ZH rfl rfl rfl rfl rfl (ZA rfl rfl (Zm rfl rfl) (ZA rfl rfl (ZG rfl) (ZH rfl rfl rfl rfl rfl (ZH rfl rfl rfl rfl rfl (ZH rfl rfl rfl rfl rfl (ZA rfl rfl (Zm rfl rfl) (ZA rfl rfl (ZE rfl) (ZD ?_))))))))))
     obtain rfl := Option.some.inj hx
     refine JN.forget 0 ?_
     exact Za ⟨rfl, rfl, rfl⟩ ⟨rfl, trivial⟩ rfl rfl
   ·
    replace hx := ZY c_16 hx
    refine ZH rfl rfl rfl rfl rfl (ZH rfl rfl rfl rfl rfl (ZH rfl rfl rfl rfl rfl (ZA rfl rfl (Zm rfl rfl) (ZA rfl rfl (ZG rfl) (ZH rfl rfl rfl rfl rfl (ZH rfl rfl rfl rfl rfl (ZH rfl rfl rfl rfl rfl (ZA rfl rfl (Zm rfl rfl) (ZA rfl rfl (ZG rfl) (ZH rfl rfl rfl rfl rfl (ZH rfl rfl rfl rfl rfl ?_)))))))))))
    refine ZH rfl rfl rfl rfl rfl (ZA rfl rfl (Zm rfl rfl) (ZA rfl rfl (ZE rfl) (ZD ?_)))
    obtain rfl := Option.some.inj hx
    refine JN.forget 0 ?_
    exact Za ⟨rfl, rfl, rfl⟩ ⟨rfl, trivial⟩ rfl rfl
  ·
   replace hx := ZY c_12 hx
   refine ZH rfl rfl rfl rfl rfl (ZH rfl rfl rfl rfl rfl (ZH rfl rfl rfl rfl rfl (ZA rfl rfl (Zm rfl rfl) (ZA rfl rfl (ZG rfl) (ZH rfl rfl rfl rfl rfl (ZH rfl rfl rfl rfl rfl (ZH rfl rfl rfl rfl rfl (ZA rfl rfl (Zm rfl rfl) (ZA rfl rfl (ZG rfl) (ZH rfl rfl rfl rfl rfl (ZH rfl rfl rfl rfl rfl ?_)))))))))))
   refine ZH rfl rfl rfl rfl rfl (ZA rfl rfl (Zm rfl rfl) (ZA rfl rfl (ZG rfl) (ZH rfl rfl rfl rfl rfl (ZH rfl rfl rfl rfl rfl (ZH rfl rfl rfl rfl rfl (ZA rfl rfl (Zm rfl rfl) (ZA rfl rfl (ZE rfl) (ZD ?_))))))))
   obtain rfl := Option.some.inj hx
   refine JN.forget 0 ?_
   exact Za ⟨rfl, rfl, rfl⟩ ⟨rfl, trivial⟩ rfl rfl

set_option maxHeartbeats 8000000 in
theorem ref12_All_ok (p_1 : List UInt8) (H : Heaplet) {aa_2 : Option Addr} {na_2 : Nat} {ca_2 : Nat} (ha_2 : IsSlice H RU8 1 (.slice aa_2 na_2 ca_2) p_1) (r : List Int) (hx : ref12_All p_1 = some r) :
  Does Try.prog 60 #[.slice aa_2 na_2 ca_2] [] H (fun u K' H' => ∃ ao0 : Option Addr, ∃ n0 : Nat, ∃ cap0 : Nat, ∃ K0 : Own, u = .slice ao0 n0 cap0 ∧ K' = [K0] ∧ H = H' ∧ RowOf (New H H) RInt 0 3 1 (.slice ao0 n0 cap0) r K0 ∧ (∀ p ∈ K0, p.1 ∉ ids (List.flatten [])) ∧ True) := by
 refine Does.enterL (vs := [.slice aa_2 na_2 ca_2]) (l := [(0, .slice aa_2 na_2 ca_2)]) Try.func60 rfl rfl ⟨rfl, trivial⟩ (fun w hlt => ?_)
 unfold ref12_All at hx
 refine ZF (ZB (ZA rfl rfl (ZE rfl) (ZD (ZC (ZF (ZB (ZA rfl rfl (ZE rfl) (ZD (ZC (ZF (ZF ?_)))))))))))
 refine ZB (ZA rfl rfl (ZE rfl) (ZD (ZC ?_)))
 obtain ⟨t_3, ht_5, hx⟩ := ZJ hx
 refine Z4 (fun l o g => ∃ ar_10 : Option Addr, ∃ nr_10 : Nat, ∃ cr_10 : Nat, ∃ Kr_10 : Own, l = [(3, .slice ar_10 nr_10 cr_10)] ∧ o = [Kr_10] ∧ H = g ∧ RowOf (New H H) RInt w.heap.size 3 1 (.slice ar_10 nr_10 cr_10) t_3 Kr_10) ?_ ?_
 ·
  rintro _ _ _ ⟨ar_10, nr_10, cr_10, Kr_10, rfl, rfl, rfl, hr_10⟩
  refine ZC (ZF (ZB (ZA rfl rfl (ZG rfl) (ZA rfl rfl (ZE rfl) (ZD (ZC (ZT (ZR (vs := [.slice ar_10 nr_10 cr_10]) (K := [_]) (rst := []) (.inl rfl) rfl rfl (ZN rfl rfl) (ZK 0 rfl ZI) ?_))))))))
  obtain rfl := Option.some.inj hx
  exact ⟨ar_10, nr_10, cr_10, Kr_10, rfl, rfl, rfl, (Zg (Nat.zero_le _) hr_10), (Zx hr_10 hlt), trivial⟩
 ·
  have hxo_4 := hx; clear hx; have hx := ht_5; clear ht_5
  refine JC.block (JC.seg0 (Z2 (fun n l o g => ∃ s_6 : List Int × Nat, ∃ ar_9 : Option Addr, ∃ nr_9 : Nat, ∃ cr_9 : Nat, ∃ Kr_9 : Own, l = [(0, .slice aa_2 na_2 ca_2), (3, .slice ar_9 nr_9 cr_9), (4, .int .i64 ((s_6.2 : Nat) : Int))] ∧ o = [Kr_9] ∧ H = g ∧ run (ref12_All_l1 p_1) n s_6 = some t_3 ∧ RowOf (New H H) RInt w.heap.size 3 1 (.slice ar_9 nr_9 cr_9) s_6.1 Kr_9) FUEL ?_ ⟨(([] : List Int), 0), none, 0, 0, [], rfl, rfl, rfl, hx, (ZU _ _ _ _ _)⟩ ⟨rfl, rfl, rfl, trivial⟩ ?_))
  ·
   rintro _ _ _ ⟨s_6, ar_9, nr_9, cr_9, Kr_9, rfl, rfl, rfl, hn_7, hr_9⟩
   exact Zz hn_7
  ·
   rintro n_8 _ _ _ ⟨s_6, ar_9, nr_9, cr_9, Kr_9, rfl, rfl, rfl, hn_7, hr_9⟩
   clear hx; obtain ⟨oo_11, hx, hd_10⟩ := Z0 hn_7
   unfold ref12_All_l1 at hx
   refine ZF (ZF (ZB (ZA rfl rfl (ZG rfl) (ZA rfl rfl (Zy rfl rfl) (ZD (ZC (ZW rfl (fun c_10 => ?_) (fun c_10 => ?_))))))))
   ·
    replace hx := ZX c_10 hx
    refine JC.skip (ZC (ZF (JC.block (ZF (ZB (ZA rfl rfl (ZG rfl) (ZA rfl rfl (ZG rfl) ?_)))))))
    obtain ⟨y_11, hN_12, hx⟩ := Zq hx
    obtain ⟨b_13, o_14, cs_15, hE_16, hR_17, hl_18, hc_19⟩ := IsSlice.elem ha_2 hN_12
    obtain rfl := hR_17
    refine ZA rfl rfl (R.ix U23 S5 rfl rfl hE_16) (ZA rfl rfl (R.ldH S5 rfl (hc_19 0 _ rfl)) (ZA rfl rfl (R.eql8 (a := y_11) (b := (0 : UInt8)) rfl rfl) (ZD (ZC (ZW rfl (fun c_20 => ?_) (fun c_20 => ?_))))))
    ·
     replace hx := ZX c_20 hx
     refine ZB (ZA rfl rfl (ZG rfl) (ZA rfl rfl (ZG rfl) (JL.bslF (HF := (New H H)) (R := RInt) (ls := [((s_6.2 : Nat) : Int)]) (vs := [.int .i64 ((s_6.2 : Nat) : Int)]) U105 I3 rfl rfl (⟨_, _, rfl, rfl, rfl, rfl⟩) RInt.one rfl rfl rfl (by simp [maxLen]) rfl (fun vr_21 Kr_21 hr_21 => ?_))))
     obtain ⟨ar_21, cr_21, rfl⟩ := RowOf.val hr_21
     obtain ⟨q_22, hm_23, hl_24, hx⟩ := Z6 hx
     refine YC (HF := (New H H)) 1 U105 I3 rfl rfl hr_9 rfl (SrcF.row 0 U105 rfl hr_21) hm_23 hl_24 rfl (Nat.le_refl _) rfl (fun vr_25 Kr_25 hr_25 => ?_)
     obtain ⟨ar_25, cr_25, rfl⟩ := RowOf.val hr_25
     refine ZA rfl rfl (ZE rfl) (ZD (Zo (ZC (ZB (ZA rfl rfl (ZG rfl) (ZA rfl rfl (R.inc rfl rfl (of_decide_eq_true c_10) (by decide)) (ZA rfl rfl (ZE rfl) (ZD ?_))))))))
     replace hx := Zp hd_10 hx
     refine JN.forget 0 ?_
     exact Za ⟨(q_22, s_6.2 + 1), ar_25, q_22.length, cr_25, Kr_25, rfl, rfl, rfl, hx, hr_25⟩ ⟨rfl, rfl, rfl, trivial⟩ rfl rfl
    ·
     replace hx := ZY c_20 hx
     refine JC.skip (Zo (ZC (ZB (ZA rfl rfl (ZG rfl) (ZA rfl rfl (R.inc rfl rfl (of_decide_eq_true c_10) (by decide)) (ZA rfl rfl (ZE rfl) (ZD ?_)))))))
     replace hx := Zp hd_10 hx
     exact Za ⟨(s_6.1, s_6.2 + 1), ar_9, nr_9, cr_9, Kr_9, rfl, rfl, rfl, hx, hr_9⟩ ⟨rfl, rfl, rfl, trivial⟩ rfl rfl
   ·
    replace hx := ZY c_10 hx
    refine Z1 (Zc ?_)
    obtain rfl := Zv hd_10 hx
    refine Zc (Zi ?_)
    exact Za ⟨ar_9, nr_9, cr_9, Kr_9, rfl, rfl, rfl, hr_9⟩ ⟨rfl, trivial⟩ rfl rfl

set_option maxHeartbeats 8000000 in
theorem ref12_With_ok (p_1 : List UInt8) (p_3 : Int) (p_4 : UInt8) (H : Heaplet) {aa_2 : Option Addr} {na_2 : Nat} {ca_2 : Nat} (ha_2 : IsSlice H RU8 1 (.slice aa_2 na_2 ca_2) p_1) (r : List UInt8) (hx : ref12_With p_1 p_3 p_4 = some r) :
  Does Try.prog 61 #[.slice aa_2 na_2 ca_2, .int .i64 p_3, .int .u8 (p_4.toNat : Int)] [] H (fun u K' H' => ∃ ao0 : Option Addr, ∃ n0 : Nat, ∃ cap0 : Nat, ∃ K0 : Own, u = .slice ao0 n0 cap0 ∧ K' = [K0] ∧ H = H' ∧ RowOf (New H H) RU8 0 5 1 (.slice ao0 n0 cap0) r K0 ∧ (∀ p ∈ K0, p.1 ∉ ids (List.flatten [])) ∧ True) := by
 refine Does.enterL (vs := [.slice aa_2 na_2 ca_2, .int .i64 p_3, .int .u8 (p_4.toNat : Int)]) (l := [(0, .slice aa_2 na_2 ca_2), (1, .int .i64 p_3), (2, .int .u8 (p_4.toNat : Int))]) Try.func61 rfl rfl ⟨rfl, rfl, rfl, trivial⟩ (fun w hlt => ?_)
 unfold ref12_With at hx
 refine ZF (ZB (ZA rfl rfl (ZE rfl) (ZD (ZC (ZF (ZB (ZA rfl rfl (ZG rfl) (JL.seg0 ?_))))))))
 obtain ⟨q_6, hm_7, hl_8, hx⟩ := Z6 hx
 refine YC (HF := (New H H)) 0 U23 I5 rfl rfl (ZU _ RU8 _ _ _) rfl (SrcF.sliceC RU8.const RU8.one U23 ha_2) hm_7 hl_8 rfl (Nat.le_refl _) rfl (fun vr_9 Kr_9 hr_9 => ?_)
 obtain ⟨ar_9, cr_9, rfl⟩ := RowOf.val hr_9
 refine ZA rfl rfl (ZE rfl) (ZD (ZC (ZF (ZB (ZA rfl rfl (ZG rfl) (ZA rfl rfl (ZG rfl) (ZA rfl rfl (ZG rfl) ?_)))))))
 obtain ⟨hp_10, hx⟩ := chk_some hx
 obtain ⟨b_11, o_12, hE_13⟩ := RowOf.place hr_9 hp_10
 refine ZA rfl rfl (R.ix U23 S5 rfl rfl hE_13) ?_
 obtain ⟨m_14, hm_15, hi_16, hx⟩ := setI_some hx
 refine JL.stE 0 (k := p_3) (y := p_4) S5 rfl hr_9 rfl hE_13 rfl rfl (rfl) RU8.one hm_15 (fun Kr_17 hr_17 hlr_17 => ZD (ZC (ZF (ZB (ZA rfl rfl (ZG rfl) (ZA rfl rfl (ZE rfl) (ZD (ZC (ZT (ZR (vs := [.slice ar_9 q_6.length cr_9]) (K := [_]) (rst := []) (.inl rfl) rfl rfl (ZN rfl rfl) (ZK 0 rfl ZI) ?_))))))))))
 obtain rfl := Option.some.inj hx
 exact ⟨ar_9, q_6.length, cr_9, Kr_17, rfl, rfl, rfl, (Zg (Nat.zero_le _) hr_17), (Zx hr_17 hlt), trivial⟩

set_option maxHeartbeats 8000000 in
theorem ref09_With_ok (p_1 : Disk) (p_4 : Int) (p_5 : List UInt8) (H : Heaplet) {aa_2 : Option Addr} {na_2 : Nat} {ca_2 : Nat} {aa_3 : Option Addr} {na_3 : Nat} {ca_3 : Nat} {aa_6 : Option Addr} {na_6 : Nat} {ca_6 : Nat} (ha_2 : IsSlice H (RSl RU8 1) 1 (.slice aa_2 na_2 ca_2) p_1.Blocks) (ha_3 : IsSlice H R_Write 2 (.slice aa_3 na_3 ca_3) p_1.Waits) (ha_6 : IsSlice H RU8 1 (.slice aa_6 na_6 ca_6) p_5) (r : Disk) (hx : ref09_With p_1 p_4 p_5 = some r) :
  Does Try.prog 62 #[.agg #[.slice aa_2 na_2 ca_2, .slice aa_3 na_3 ca_3], .int .i64 p_4, .slice aa_6 na_6 ca_6] [] H (fun u K' H' => ∃ ao0 : Option Addr, ∃ n0 : Nat, ∃ cap0 : Nat, ∃ K0 : Own, ∃ ao1 : Option Addr, ∃ n1 : Nat, ∃ cap1 : Nat, ∃ K1 : Own, u = .agg #[.slice ao0 n0 cap0, .slice ao1 n1 cap1] ∧ K' = [K0, K1] ∧ RowOf (New H H') (RSl RU8 1) 0 23 1 (.slice ao0 n0 cap0) r.Blocks K0 ∧ (∀ p ∈ K0, p.1 ∉ ids (List.flatten [])) ∧ RowOf (New H H') R_Write 0 80 2 (.slice ao1 n1 cap1) r.Waits K1 ∧ (∀ p ∈ K1, p.1 ∉ ids (List.flatten [])) ∧ True) := by
 refine Does.enterL (vs := [.agg #[.slice aa_2 na_2 ca_2, .slice aa_3 na_3 ca_3], .int .i64 p_4, .slice aa_6 na_6 ca_6]) (l := [(0, .agg #[.slice aa_2 na_2 ca_2, .slice aa_3 na_3 ca_3]), (1, .int .i64 p_4), (2, .slice aa_6 na_6 ca_6)]) Try.func62 rfl rfl ⟨rfl, rfl, rfl, trivial⟩ (fun w hlt => ?_)
 unfold ref09_With at hx
 refine ZF (ZB (YF rfl rfl (fun b_7 hb_7 => JL.alloc Z44 rfl (fun b_8 hb_8 => ZD (ZC (ZF (ZB (ZA rfl rfl (Zu 1 (vs := [.slice aa_2 na_2 ca_2, .slice aa_3 na_3 ca_3]) S44 rfl rfl rfl rfl) ?_))))))))
 obtain ⟨x_9, hr_10, hx⟩ := ZJ hx
 refine ZS (vs := [_]) (args := [_]) (K := []) (rst := [_, _]) E31 rfl rfl rfl ZI (ref09_Twin_ok p_1 _ ha_2 ha_3 _ hr_10) rfl (fun u_11 Ku_11 Hu_11 hRu_11 hleu_11 hfu_11 => ?_)
 obtain ⟨ar_12, nr_12, cr_12, Kr_12, ar_13, nr_13, cr_13, Kr_13, rfl, rfl, hr_12, hnewr_12, hr_13, hnewr_13, -⟩ := hRu_11
 replace hr_12 := (RowOf.base (RowOf.mono (RSl.mono RU8.mono) (New.call (Hle.refl _)) hr_12) (fun p hp => (hfu_11 p (Zh 0 rfl hp)).resolve_left (hnewr_12 p hp)))
 replace hr_13 := (RowOf.base (RowOf.mono R_Write.mono (New.call (Hle.refl _)) hr_13) (fun p hp => (hfu_11 p (Zh 1 rfl hp)).resolve_left (hnewr_13 p hp)))
 refine JL.alloc Z44 rfl (fun b_14 hb_14 => ZQ 0 S44 rfl rfl rfl rfl rfl (Nat.le_of_ble_eq_true rfl) (ZD (ZC (ZF (JC.drawB (so := [(_, [7, 9]), (_, []), (_, [7]), (_, []), (_, [])]) 10 rfl Mixed ⟨by kernel_rfl, by kernel_rfl⟩ (kept0 [0, 1, 2, 3, 4] rfl) ?_)))))
 refine JB.val (i := 0) [] rfl (Zt F44_1 rfl) ?_
 refine JB.val (i := 1) [7, 8, 9] rfl (Ze 0 S42 rfl rfl rfl) ?_
 refine JB.val (i := 2) [] rfl (ZG rfl) ?_
 refine JB.val (i := 3) [] rfl (ZG rfl) ?_
 refine JB.one (i := 4) (by kernel_rfl) ?_
 refine JOB.step rfl trivial rfl (fun K hK => JL.seg0 ?_)
 obtain ⟨q_16, hm_17, hl_18, hx⟩ := Z6 hx
 refine YC (HF := (New H Hu_11)) 0 U23 I5 rfl rfl (ZU _ RU8 _ _ _) rfl (SrcF.sliceC RU8.const RU8.one U23 (ha_6.mono RU8.mono hleu_11)) hm_17 hl_18 rfl (Nat.le_refl _) rfl (fun vr_19 Kr_19 hr_19 => ?_)
 obtain ⟨ar_19, cr_19, rfl⟩ := RowOf.val hr_19
 refine ZD (hK _ _ _ (Hle.refl _) (kept0 [1, 2, 3, 4, 5] rfl) ?_)
 refine JB.val (i := 5) [] rfl (Z7 (vs := [(0, .int .i64 p_4), (1, .slice ar_19 q_16.length cr_19)]) (cs := [.int .i64 p_4, .slice ar_19 q_16.length cr_19]) Z80 B80 rfl rfl rfl) ?_
 refine JB.one (i := 6) (by kernel_rfl) ?_
 refine JOB.step rfl trivial rfl (fun K hK => JL.pubN 0 RU8.mono rfl hr_19 (Nat.le_refl _) (fun H_20 hleH_20 hsH_20 => JL.forget 0 (JL.bslF (HF := (New H H_20)) (R := R_Write) (ls := [Write.mk p_4 q_16]) (vs := [.agg #[.int .i64 p_4, .slice ar_19 q_16.length cr_19]]) U42 I80 rfl rfl (⟨_, _, rfl, rfl, ⟨_, rfl, hsH_20⟩, rfl⟩) R_Write.one rfl rfl rfl (by simp [maxLen]) rfl (fun vr_21 Kr_21 hr_21 => ?_))))
 obtain ⟨ar_21, cr_21, rfl⟩ := RowOf.val hr_21
 refine ZD (hK _ _ _ hleH_20 (kept0 [1, 2, 3, 4, 5] rfl) ?_)
 refine JB.one (i := 7) (by kernel_rfl) ?_
 refine JOB.step rfl trivial rfl (fun K hK => ?_)
 obtain ⟨q_22, hm_23, hl_24, hx⟩ := Z6 hx
 refine YC (HF := (New H H_20)) 3 U42 I80 rfl rfl (hr_13.mono R_Write.mono (New.mono hleH_20)) rfl (SrcF.row 0 U42 rfl hr_21) hm_23 hl_24 rfl (Nat.le_refl _) rfl (fun vr_25 Kr_25 hr_25 => ?_)
 obtain ⟨ar_25, cr_25, rfl⟩ := RowOf.val hr_25
 refine ZD (hK _ _ _ hleH_20 (kept1 [true, false, true, false, false] [0, 2, 0, 4, 5] (by kernel_rfl) rfl) ?_)
 refine JB.val (i := 8) [] rfl (Zt F44_1 rfl) ?_
 refine JB.one (i := 9) (by kernel_rfl) ?_
 refine JOB.step rfl trivial rfl (fun K hK => ZQ 1 S42 rfl rfl rfl rfl rfl (Nat.le_of_ble_eq_true rfl) (ZD (hK _ _ _ hleH_20 (kept1 [true, false, true, false, false] [0, 2, 0, 4, 5] (by kernel_rfl) rfl) ?_)))
 refine JB.doneN (by kernel_rfl) ?_
 refine ZC (ZF (ZB (ZA rfl rfl (Zu 1 (vs := [.slice ar_12 nr_12 cr_12, .slice ar_25 q_22.length cr_25]) S44 rfl rfl rfl rfl) (ZQ 4 S44 rfl rfl rfl rfl rfl (Nat.le_of_ble_eq_true rfl) (ZD (ZC (ZT (ZR (vs := [.agg #[.slice ar_12 nr_12 cr_12, .slice ar_25 q_22.length cr_25]]) (K := [_, _]) (rst := [_, _, _, _]) (.inl rfl) rfl rfl (Zb 4 rfl rfl S44 rfl) (ZK 2 rfl (ZK 2 rfl ZI)) ?_))))))))
 obtain rfl := Option.some.inj hx
 exact ⟨ar_12, nr_12, cr_12, Kr_12, ar_25, q_22.length, cr_25, Kr_25, rfl, rfl, (Zg (Nat.zero_le _) (hr_12.mono (RSl.mono RU8.mono) (New.mono hleH_20))), (Zx (hr_12.mono (RSl.mono RU8.mono) (New.mono hleH_20)) hlt), (Zg (Nat.zero_le _) hr_25), (Zx hr_25 hlt), trivial⟩

set_option maxHeartbeats 8000000 in
theorem ref02_byteAt_ok (p_1 : List UInt8) (p_3 : Int) (H : Heaplet) {aa_2 : Option Addr} {na_2 : Nat} {ca_2 : Nat} (ha_2 : IsSlice H RU8 1 (.slice aa_2 na_2 ca_2) p_1) (r : UInt32) (hx : ref02_byteAt p_1 p_3 = some r) :
  Does Try.prog 114 #[.slice aa_2 na_2 ca_2, .int .i64 p_3] [] H (fun u K' H' => u = .int .u32 (r.toNat : Int) ∧ K' = [] ∧ H = H' ∧ True) := by
 refine Does.enterL (vs := [.slice aa_2 na_2 ca_2, .int .i64 p_3]) (l := [(0, .slice aa_2 na_2 ca_2), (1, .int .i64 p_3)]) Try.func114 rfl rfl ⟨rfl, rfl, trivial⟩ (fun w hlt => ?_)
 unfold ref02_byteAt at hx
 refine ZF (ZB (ZA rfl rfl (ZE rfl) (ZD (ZC (ZF (ZF (ZB (ZA rfl rfl (ZG rfl) (ZA rfl rfl (ZG rfl) (ZA rfl rfl (Zk U23 rfl (IsSlice.long ha_2)) (ZA rfl rfl (Zy rfl rfl) ?_)))))))))))
 refine ZD (ZC (ZW rfl (fun c_4 => ?_) (fun c_4 => ?_)))
 ·
  replace hx := ZX c_4 hx
  refine ZF (ZB (ZA rfl rfl (ZG rfl) (ZA rfl rfl (ZG rfl) ?_)))
  obtain ⟨y_5, hN_6, hx⟩ := Zq hx
  obtain ⟨b_7, o_8, cs_9, hE_10, hR_11, hl_12, hc_13⟩ := IsSlice.elem ha_2 hN_6
  obtain rfl := hR_11
  refine ZA rfl rfl (R.ix U23 S5 rfl rfl hE_10) (ZA rfl rfl (R.ldH S5 rfl (hc_13 0 _ rfl)) (ZA rfl rfl (R.cv_u8_u32 (a := y_5) U5 U22 rfl) (ZA rfl rfl (ZE rfl) (ZD (ZC (ZT (ZV (ZR (vs := [.int .u32 (y_5.toUInt32.toNat : Int)]) (K := []) (rst := []) (.inl rfl) rfl rfl (ZN rfl rfl) ZI ?_))))))))
  obtain rfl := Option.some.inj hx
  exact ⟨rfl, rfl, rfl, trivial⟩
 ·
  replace hx := ZY c_4 hx
  refine JC.skip (ZC (ZF (ZF (ZB (ZA rfl rfl (ZG rfl) (ZA rfl rfl (ZG rfl) (ZA rfl rfl (Zk U23 rfl (IsSlice.long ha_2)) (ZA rfl rfl (R.eql_i rfl rfl) (ZD (ZC (ZW rfl (fun c_14 => ?_) (fun c_14 => ?_))))))))))))
  ·
   replace hx := ZX c_14 hx
   refine ZF (ZB (ZA rfl rfl (ZE rfl) (ZD (ZC (ZT (ZV (ZR (vs := [.int .u32 ((1 : UInt32).toNat : Int)]) (K := []) (rst := []) (.inl rfl) rfl rfl (ZN rfl rfl) ZI ?_)))))))
   obtain rfl := Option.some.inj hx
   exact ⟨rfl, rfl, rfl, trivial⟩
  ·
   replace hx := ZY c_14 hx
   refine JC.skip (ZC (ZF (ZB (ZA rfl rfl (ZE rfl) (ZD (ZC (ZT (ZR (vs := [.int .u32 ((0 : UInt32).toNat : Int)]) (K := []) (rst := []) (.inl rfl) rfl rfl (ZN rfl rfl) ZI ?_))))))))
   obtain rfl := Option.some.inj hx
   exact ⟨rfl, rfl, rfl, trivial⟩

set_option maxHeartbeats 8000000 in
theorem ref02_word_ok (p_1 : List UInt8) (p_3 : Int) (H : Heaplet) {aa_2 : Option Addr} {na_2 : Nat} {ca_2 : Nat} (ha_2 : IsSlice H RU8 1 (.slice aa_2 na_2 ca_2) p_1) (r : UInt32) (hx : ref02_word p_1 p_3 = some r) :
  Does Try.prog 102 #[.slice aa_2 na_2 ca_2, .int .i64 p_3] [] H (fun u K' H' => u = .int .u32 (r.toNat : Int) ∧ K' = [] ∧ H = H' ∧ True) := by
 refine Does.enterL (vs := [.slice aa_2 na_2 ca_2, .int .i64 p_3]) (l := [(0, .slice aa_2 na_2 ca_2), (1, .int .i64 p_3)]) Try.func102 rfl rfl ⟨rfl, rfl, trivial⟩ (fun w hlt => ?_)
 unfold ref02_word at hx
 refine ZF (ZB (ZA rfl rfl (ZE rfl) (ZD (ZC (ZF (ZB (ZA rfl rfl (ZG rfl) (ZA rfl rfl (ZG rfl) ?_))))))))
 obtain ⟨x_4, hr_5, hx⟩ := ZJ hx
 refine ZS (vs := [_, _]) (args := [_, _]) (K := []) (rst := []) E114 rfl rfl rfl ZI (ref02_byteAt_ok p_1 p_3 _ ha_2 _ hr_5) rfl (fun u_6 Ku_6 Hu_6 hRu_6 hleu_6 hfu_6 => ?_)
 obtain ⟨rfl, rfl, rfl, -⟩ := hRu_6
 refine ZA rfl rfl (ZG rfl) (ZA rfl rfl (ZG rfl) (ZA rfl rfl (YB rfl rfl) ?_))
 obtain ⟨x_7, hr_8, hx⟩ := ZJ hx
 refine ZS (vs := [_, _]) (args := [_, _]) (K := []) (rst := []) E114 rfl rfl rfl ZI (ref02_byteAt_ok p_1 (w64 (p_3 + 1)) _ ha_2 _ hr_8) rfl (fun u_9 Ku_9 Hu_9 hRu_9 hleu_9 hfu_9 => ?_)
 obtain ⟨rfl, rfl, rfl, -⟩ := hRu_9
 refine ZA rfl rfl (R.mul32 (a := (256 : UInt32)) (b := x_7) rfl rfl) (ZA rfl rfl (R.add32 (a := x_4) (b := (256 : UInt32) * x_7) rfl rfl) (ZA rfl rfl (ZG rfl) (ZA rfl rfl (ZG rfl) (ZA rfl rfl (YB rfl rfl) ?_))))
 obtain ⟨x_10, hr_11, hx⟩ := ZJ hx
 refine ZS (vs := [_, _]) (args := [_, _]) (K := []) (rst := []) E114 rfl rfl rfl ZI (ref02_byteAt_ok p_1 (w64 (p_3 + 2)) _ ha_2 _ hr_11) rfl (fun u_12 Ku_12 Hu_12 hRu_12 hleu_12 hfu_12 => ?_)
 obtain ⟨rfl, rfl, rfl, -⟩ := hRu_12
 refine ZA rfl rfl (R.mul32 (a := (65536 : UInt32)) (b := x_10) rfl rfl) (ZA rfl rfl (R.add32 (a := x_4 + ((256 : UInt32) * x_7)) (b := (65536 : UInt32) * x_10) rfl rfl) (ZA rfl rfl (ZG rfl) (ZA rfl rfl (ZG rfl) (ZA rfl rfl (YB rfl rfl) ?_))))
 obtain ⟨x_13, hr_14, hx⟩ := ZJ hx
 refine ZS (vs := [_, _]) (args := [_, _]) (K := []) (rst := []) E114 rfl rfl rfl ZI (ref02_byteAt_ok p_1 (w64 (p_3 + 3)) _ ha_2 _ hr_14) rfl (fun u_15 Ku_15 Hu_15 hRu_15 hleu_15 hfu_15 => ?_)
 obtain ⟨rfl, rfl, rfl, -⟩ := hRu_15
 refine ZA rfl rfl (R.mul32 (a := (16777216 : UInt32)) (b := x_13) rfl rfl) (ZA rfl rfl (R.add32 (a := (x_4 + ((256 : UInt32) * x_7)) + ((65536 : UInt32) * x_10)) (b := (16777216 : UInt32) * x_13) rfl rfl) (ZA rfl rfl (ZE rfl) (ZD (ZC (ZT (ZR (vs := [.int .u32 ((((x_4 + ((256 : UInt32) * x_7)) + ((65536 : UInt32) * x_10)) + ((16777216 : UInt32) * x_13)).toNat : Int)]) (K := []) (rst := []) (.inl rfl) rfl rfl (ZN rfl rfl) ZI ?_))))))
 obtain rfl := Option.some.inj hx
 exact ⟨rfl, rfl, rfl, trivial⟩

set_option maxHeartbeats 8000000 in
theorem ref02_plus_ok (p_1 : UInt32) (p_2 : UInt32) (H : Heaplet) (r : UInt32) (hx : ref02_plus p_1 p_2 = some r) :
  Does Try.prog 115 #[.int .u32 (p_1.toNat : Int), .int .u32 (p_2.toNat : Int)] [] H (fun u K' H' => u = .int .u32 (r.toNat : Int) ∧ K' = [] ∧ H = H' ∧ True) := by
 refine Does.enterL (vs := [.int .u32 (p_1.toNat : Int), .int .u32 (p_2.toNat : Int)]) (l := [(0, .int .u32 (p_1.toNat : Int)), (1, .int .u32 (p_2.toNat : Int))]) Try.func115 rfl rfl ⟨rfl, rfl, trivial⟩ (fun w hlt => ?_)
 unfold ref02_plus at hx
 refine ZF (ZB (ZA rfl rfl (ZE rfl) (ZD (ZC (ZF (ZB (ZA rfl rfl (ZG rfl) (ZA rfl rfl (R.cv_u32_i64 (a := p_1) U22 U3 rfl) (ZA rfl rfl (ZG rfl) (ZA rfl rfl (R.cv_u32_i64 (a := p_2) U22 U3 rfl) (ZA rfl rfl (YB rfl rfl) ?_)))))))))))
 refine ZA rfl rfl (R.rem_i rfl rfl (by decide)) (ZA rfl rfl (R.cv_i64_u32 U3 U22 rfl) (ZA rfl rfl (ZE rfl) (ZD (ZC (ZT (ZR (vs := [.int .u32 ((u32i ((w64 ((p_1.toNat : Int) + (p_2.toNat : Int))).tmod 4294967296)).toNat : Int)]) (K := []) (rst := []) (.inl rfl) rfl rfl (ZN rfl rfl) ZI ?_))))))
 obtain rfl := Option.some.inj hx
 exact ⟨rfl, rfl, rfl, trivial⟩

set_option maxHeartbeats 8000000 in
theorem ref02_left_ok (p_1 : UInt32) (p_2 : Int) (H : Heaplet) (r : UInt32) (hx : ref02_left p_1 p_2 = some r) :
  Does Try.prog 116 #[.int .u32 (p_1.toNat : Int), .int .i64 p_2] [] H (fun u K' H' => u = .int .u32 (r.toNat : Int) ∧ K' = [] ∧ H = H' ∧ True) := by
 refine Does.enterL (vs := [.int .u32 (p_1.toNat : Int), .int .i64 p_2]) (l := [(0, .int .u32 (p_1.toNat : Int)), (1, .int .i64 p_2)]) Try.func116 rfl rfl ⟨rfl, rfl, trivial⟩ (fun w hlt => ?_)
 unfold ref02_left at hx
 refine ZF (ZB (ZA rfl rfl (ZE rfl) (ZD (ZC (ZF (ZB (ZA rfl rfl (ZG rfl) (ZA rfl rfl (R.cv_u32_i64 (a := p_1) U22 U3 rfl) (ZA rfl rfl (ZE rfl) (ZD (ZC ?_)))))))))))
 refine ZF (ZF (ZB (ZA rfl rfl (ZE rfl) (ZD (ZC ?_)))))
 obtain ⟨t_3, ht_5, hx⟩ := ZJ hx
 refine Z4 (fun l o g => l = [(5, .int .i64 t_3)] ∧ o = [] ∧ H = g) ?_ ?_
 ·
  rintro _ _ _ ⟨rfl, rfl, rfl⟩
  refine ZC (ZF (ZB (ZA rfl rfl (ZG rfl) (ZA rfl rfl (R.cv_i64_u32 U3 U22 rfl) (ZA rfl rfl (ZE rfl) (ZD (ZC (ZT (ZR (vs := [.int .u32 ((u32i t_3).toNat : Int)]) (K := []) (rst := []) (.inl rfl) rfl rfl (ZN rfl rfl) ZI ?_)))))))))
  obtain rfl := Option.some.inj hx
  exact ⟨rfl, rfl, rfl, trivial⟩
 ·
  have hxo_4 := hx; clear hx; have hx := ht_5; clear ht_5
  refine JC.block (Z2 (fun n l o g => ∃ s_6 : Int × Int, l = [(1, .int .i64 p_2), (5, .int .i64 s_6.1), (6, .int .i64 s_6.2)] ∧ o = [] ∧ H = g ∧ run (ref02_left_l1 p_2) n s_6 = some t_3) FUEL ?_ ⟨((p_1.toNat : Int), 0), rfl, rfl, rfl, hx⟩ ⟨rfl, rfl, rfl, trivial⟩ ?_)
  ·
   rintro _ _ _ ⟨s_6, rfl, rfl, rfl, hn_7⟩
   exact Zz hn_7
  ·
   rintro n_8 _ _ _ ⟨s_6, rfl, rfl, rfl, hn_7⟩
   clear hx; obtain ⟨oo_10, hx, hd_9⟩ := Z0 hn_7
   unfold ref02_left_l1 at hx
   refine ZF (ZF (ZB (ZA rfl rfl (ZG rfl) (ZA rfl rfl (ZG rfl) (ZA rfl rfl (Zy rfl rfl) (ZD (ZC (ZW rfl (fun c_9 => ?_) (fun c_9 => ?_)))))))))
   ·
    replace hx := ZX c_9 hx
    refine JC.skip (ZC (ZF (JC.block (ZB (ZA rfl rfl (ZG rfl) (ZA rfl rfl (R.mul_i rfl rfl) (ZA rfl rfl (R.rem_i rfl rfl (by decide)) (ZA rfl rfl (ZG rfl) (ZA rfl rfl (R.mul_i rfl rfl) (ZA rfl rfl (R.quo_i rfl rfl (by decide)) (ZA rfl rfl (YB rfl rfl) ?_)))))))))))
    refine ZA rfl rfl (ZE rfl) (ZD (Zo (ZC (ZB (ZA rfl rfl (ZG rfl) (ZA rfl rfl (YB rfl rfl) (ZA rfl rfl (ZE rfl) (ZD ?_))))))))
    replace hx := Zp hd_9 hx
    exact Za ⟨(w64 (((w64 (s_6.1 * 2)).tmod 4294967296) + (w64 ((w64 (s_6.1 * 2)).tdiv 4294967296))), w64 (s_6.2 + 1)), rfl, rfl, rfl, hx⟩ ⟨rfl, rfl, rfl, trivial⟩ rfl rfl
   ·
    replace hx := ZY c_9 hx
    refine Z1 (Zc ?_)
    obtain rfl := Zv hd_9 hx
    refine Zc (Zi ?_)
    exact Za ⟨rfl, rfl, rfl⟩ ⟨rfl, trivial⟩ rfl rfl

set_option maxHeartbeats 8000000 in
theorem ref02_Turn_ok (p_1 : A4 UInt32) (H : Heaplet) (r : A4 UInt32) (hx : ref02_Turn p_1 = some r) :
  Does Try.prog 103 #[.agg #[.int .u32 (p_1.e0.toNat : Int), .int .u32 (p_1.e1.toNat : Int), .int .u32 (p_1.e2.toNat : Int), .int .u32 (p_1.e3.toNat : Int)]] [] H (fun u K' H' => u = .agg #[.int .u32 (r.e0.toNat : Int), .int .u32 (r.e1.toNat : Int), .int .u32 (r.e2.toNat : Int), .int .u32 (r.e3.toNat : Int)] ∧ K' = [] ∧ H = H' ∧ True) := by
 refine Does.enterL (vs := [.agg #[.int .u32 (p_1.e0.toNat : Int), .int .u32 (p_1.e1.toNat : Int), .int .u32 (p_1.e2.toNat : Int), .int .u32 (p_1.e3.toNat : Int)]]) (l := [(0, .agg #[.int .u32 (p_1.e0.toNat : Int), .int .u32 (p_1.e1.toNat : Int), .int .u32 (p_1.e2.toNat : Int), .int .u32 (p_1.e3.toNat : Int)])]) Try.func103 rfl rfl ⟨rfl, trivial⟩ (fun w hlt => ?_)
 unfold ref02_Turn at hx
 refine ZF (ZB (YF rfl rfl (fun b_2 hb_2 => JL.alloc Z120 rfl (fun b_3 hb_3 => ZD (ZC (ZF (ZB (ZA rfl rfl (R.ixA 0 U120 S22 rfl rfl rfl) (ZA rfl rfl (Ze 1 S22 rfl rfl rfl) (ZA rfl rfl (ZE rfl) (ZD ?_)))))))))))
 refine ZC (ZF (ZB (ZA rfl rfl (R.ixA 1 U120 S22 rfl rfl rfl) (ZA rfl rfl (Ze 1 S22 rfl rfl rfl) (ZA rfl rfl (ZE rfl) (ZD (ZC (ZF (ZB (ZA rfl rfl (R.ixA 2 U120 S22 rfl rfl rfl) (ZA rfl rfl (Ze 1 S22 rfl rfl rfl) ?_)))))))))))
 refine ZA rfl rfl (ZE rfl) (ZD (ZC (ZF (ZB (ZA rfl rfl (R.ixA 3 U120 S22 rfl rfl rfl) (ZA rfl rfl (Ze 1 S22 rfl rfl rfl) (ZA rfl rfl (ZE rfl) (ZD (ZC (ZF (ZB ?_)))))))))))
 refine ZA rfl rfl (ZG rfl) (ZA rfl rfl (ZG rfl) ?_)
 obtain ⟨x_4, hr_5, hx⟩ := ZJ hx
 refine ZS (vs := [_, _]) (args := [_, _]) (K := []) (rst := [_, _]) E115 rfl rfl rfl ZI (ref02_plus_ok p_1.e0 p_1.e1 _ _ hr_5) rfl (fun u_6 Ku_6 Hu_6 hRu_6 hleu_6 hfu_6 => ?_)
 obtain ⟨rfl, rfl, rfl, -⟩ := hRu_6
 refine ZA rfl rfl (ZE rfl) (ZD (ZC (ZF (ZB (ZA rfl rfl (ZG rfl) (ZA rfl rfl (ZG rfl) (ZA rfl rfl (R.xor32 (a := p_1.e3) (b := x_4) rfl rfl) ?_)))))))
 obtain ⟨x_7, hr_8, hx⟩ := ZJ hx
 refine ZS (vs := [_, _]) (args := [_, _]) (K := []) (rst := [_, _]) E116 rfl rfl rfl ZI (ref02_left_ok (p_1.e3 ^^^ x_4) 15 _ _ hr_8) rfl (fun u_9 Ku_9 Hu_9 hRu_9 hleu_9 hfu_9 => ?_)
 obtain ⟨rfl, rfl, rfl, -⟩ := hRu_9
 refine ZA rfl rfl (ZE rfl) (ZD (ZC (ZF (ZB (ZA rfl rfl (ZG rfl) (ZA rfl rfl (ZG rfl) ?_))))))
 obtain ⟨x_10, hr_11, hx⟩ := ZJ hx
 refine ZS (vs := [_, _]) (args := [_, _]) (K := []) (rst := [_, _]) E115 rfl rfl rfl ZI (ref02_plus_ok p_1.e2 x_7 _ _ hr_11) rfl (fun u_12 Ku_12 Hu_12 hRu_12 hleu_12 hfu_12 => ?_)
 obtain ⟨rfl, rfl, rfl, -⟩ := hRu_12
 refine ZA rfl rfl (ZE rfl) (ZD (ZC (ZF (ZB (ZA rfl rfl (ZG rfl) (ZA rfl rfl (ZG rfl) (ZA rfl rfl (R.xor32 (a := p_1.e1) (b := x_10) rfl rfl) ?_)))))))
 obtain ⟨x_13, hr_14, hx⟩ := ZJ hx
 refine ZS (vs := [_, _]) (args := [_, _]) (K := []) (rst := [_, _]) E116 rfl rfl rfl ZI (ref02_left_ok (p_1.e1 ^^^ x_10) 11 _ _ hr_14) rfl (fun u_15 Ku_15 Hu_15 hRu_15 hleu_15 hfu_15 => ?_)
 obtain ⟨rfl, rfl, rfl, -⟩ := hRu_15
 refine ZA rfl rfl (ZE rfl) (ZD (ZC (ZF (ZB (ZA rfl rfl (ZG rfl) (ZA rfl rfl (ZG rfl) ?_))))))
 obtain ⟨x_16, hr_17, hx⟩ := ZJ hx
 refine ZS (vs := [_, _]) (args := [_, _]) (K := []) (rst := [_, _]) E115 rfl rfl rfl ZI (ref02_plus_ok x_4 x_13 _ _ hr_17) rfl (fun u_18 Ku_18 Hu_18 hRu_18 hleu_18 hfu_18 => ?_)
 obtain ⟨rfl, rfl, rfl, -⟩ := hRu_18
 refine ZA rfl rfl (ZE rfl) (ZD (ZC (ZF (ZB (ZA rfl rfl (ZG rfl) (ZA rfl rfl (ZG rfl) (ZA rfl rfl (R.xor32 (a := x_7) (b := x_16) rfl rfl) ?_)))))))
 obtain ⟨x_19, hr_20, hx⟩ := ZJ hx
 refine ZS (vs := [_, _]) (args := [_, _]) (K := []) (rst := [_, _]) E116 rfl rfl rfl ZI (ref02_left_ok (x_7 ^^^ x_16) 9 _ _ hr_20) rfl (fun u_21 Ku_21 Hu_21 hRu_21 hleu_21 hfu_21 => ?_)
 obtain ⟨rfl, rfl, rfl, -⟩ := hRu_21
 refine ZA rfl rfl (ZE rfl) (ZD (ZC (JC.tidy (l' := [(2, .pointer (some ⟨b_3, 0, none⟩)), (3, .int .u32 (x_16.toNat : Int)), (4, .int .u32 (x_13.toNat : Int)), (5, .int .u32 (x_10.toNat : Int)), (6, .int .u32 (x_19.toNat : Int))]) (own' := [[(b_3, .cells #[.int .u32 ((0 : UInt32).toNat : Int), .int .u32 ((0 : UInt32).toNat : Int), .int .u32 ((0 : UInt32).toNat : Int), .int .u32 ((0 : UInt32).toNat : Int)] 120 (0, 0))], [(b_2, .cells #[.int .u32 (p_1.e0.toNat : Int), .int .u32 (p_1.e1.toNat : Int), .int .u32 (p_1.e2.toNat : Int), .int .u32 (p_1.e3.toNat : Int)] 120 (0, 0))]]) ⟨rfl, rfl, rfl, rfl, rfl, trivial⟩ rfl (YD (l' := [(2, .pointer (some ⟨b_3, 0, none⟩)), (3, .int .u32 (x_16.toNat : Int)), (4, .int .u32 (x_13.toNat : Int)), (5, .int .u32 (x_10.toNat : Int)), (6, .int .u32 (x_19.toNat : Int))]) (own' := [[(b_3, .cells #[.int .u32 ((0 : UInt32).toNat : Int), .int .u32 ((0 : UInt32).toNat : Int), .int .u32 ((0 : UInt32).toNat : Int), .int .u32 ((0 : UInt32).toNat : Int)] 120 (0, 0))]]) (rst := [_]) ⟨rfl, rfl, rfl, rfl, rfl, trivial⟩ (ZK 0 rfl ZI) (ZF (ZB (ZA rfl rfl (ZG rfl) (ZA rfl rfl (ZG rfl) ?_))))))))
 obtain ⟨x_22, hr_23, hx⟩ := ZJ hx
 refine ZS (vs := [_, _]) (args := [_, _]) (K := []) (rst := [_]) E115 rfl rfl rfl ZI (ref02_plus_ok x_10 x_19 _ _ hr_23) rfl (fun u_24 Ku_24 Hu_24 hRu_24 hleu_24 hfu_24 => ?_)
 obtain ⟨rfl, rfl, rfl, -⟩ := hRu_24
 refine ZA rfl rfl (ZE rfl) (ZD (ZC (ZF (ZB (ZA rfl rfl (ZG rfl) (ZA rfl rfl (ZG rfl) (ZA rfl rfl (R.xor32 (a := x_13) (b := x_22) rfl rfl) ?_)))))))
 obtain ⟨x_25, hr_26, hx⟩ := ZJ hx
 refine ZS (vs := [_, _]) (args := [_, _]) (K := []) (rst := [_]) E116 rfl rfl rfl ZI (ref02_left_ok (x_13 ^^^ x_22) 6 _ _ hr_26) rfl (fun u_27 Ku_27 Hu_27 hRu_27 hleu_27 hfu_27 => ?_)
 obtain ⟨rfl, rfl, rfl, -⟩ := hRu_27
 refine ZA rfl rfl (ZE rfl) (ZD (ZC (ZF (ZB (ZA rfl rfl (ZG rfl) (ZA rfl rfl (ZG rfl) (ZA rfl rfl (ZG rfl) (ZA rfl rfl (ZG rfl) (ZA rfl rfl (R.bldA (vs := [(0, .int .u32 (x_16.toNat : Int)), (1, .int .u32 (x_25.toNat : Int)), (2, .int .u32 (x_22.toNat : Int)), (3, .int .u32 (x_19.toNat : Int))]) (cells := #[.int .u32 (x_16.toNat : Int), .int .u32 (x_25.toNat : Int), .int .u32 (x_22.toNat : Int), .int .u32 (x_19.toNat : Int)]) Z120 B120 rfl rfl rfl rfl) (ZQ 0 S120 rfl rfl rfl rfl rfl (Nat.le_of_ble_eq_true rfl) (ZD ?_)))))))))))
 refine ZC (ZT (ZR (vs := [.agg #[.int .u32 (x_16.toNat : Int), .int .u32 (x_25.toNat : Int), .int .u32 (x_22.toNat : Int), .int .u32 (x_19.toNat : Int)]]) (K := []) (rst := [_]) (.inl rfl) rfl rfl (Zb 0 rfl rfl S120 rfl) ZI ?_))
 obtain rfl := Option.some.inj hx
 exact ⟨rfl, rfl, rfl, trivial⟩

set_option maxHeartbeats 8000000 in
theorem ref02_Four_ok (p_1 : List UInt8) (H : Heaplet) {aa_2 : Option Addr} {na_2 : Nat} {ca_2 : Nat} (ha_2 : IsSlice H RU8 1 (.slice aa_2 na_2 ca_2) p_1) (r : A4 UInt32) (hx : ref02_Four p_1 = some r) :
  Does Try.prog 86 #[.slice aa_2 na_2 ca_2] [] H (fun u K' H' => u = .agg #[.int .u32 (r.e0.toNat : Int), .int .u32 (r.e1.toNat : Int), .int .u32 (r.e2.toNat : Int), .int .u32 (r.e3.toNat : Int)] ∧ K' = [] ∧ H = H' ∧ True) := by
 refine Does.enterL (vs := [.slice aa_2 na_2 ca_2]) (l := [(0, .slice aa_2 na_2 ca_2)]) Try.func86 rfl rfl ⟨rfl, trivial⟩ (fun w hlt => ?_)
 unfold ref02_Four at hx
 refine ZF (ZB (JL.alloc Z120 rfl (fun b_3 hb_3 => ZD (ZC (ZF (ZB (ZA rfl rfl (R.bldA (vs := [(0, .int .u32 ((1 : UInt32).toNat : Int)), (1, .int .u32 ((2 : UInt32).toNat : Int)), (2, .int .u32 ((3 : UInt32).toNat : Int)), (3, .int .u32 ((4 : UInt32).toNat : Int))]) (cells := #[.int .u32 ((1 : UInt32).toNat : Int), .int .u32 ((2 : UInt32).toNat : Int), .int .u32 ((3 : UInt32).toNat : Int), .int .u32 ((4 : UInt32).toNat : Int)]) Z120 B120 rfl rfl rfl rfl) (JL.alloc Z120 rfl (fun b_4 hb_4 => ZQ 0 S120 rfl rfl rfl rfl rfl (Nat.le_of_ble_eq_true rfl) (ZD (ZC ?_)))))))))))
 refine ZF (ZF (ZB (ZA rfl rfl (ZE rfl) (ZD (ZC ?_)))))
 obtain ⟨t_5, ht_7, hx⟩ := ZJ hx
 refine Z4 (fun l o g => l = [(0, .slice aa_2 na_2 ca_2), (2, .pointer (some ⟨b_3, 0, none⟩)), (3, .pointer (some ⟨b_4, 0, none⟩))] ∧ o = [[(b_3, .cells #[.int .u32 ((0 : UInt32).toNat : Int), .int .u32 ((0 : UInt32).toNat : Int), .int .u32 ((0 : UInt32).toNat : Int), .int .u32 ((0 : UInt32).toNat : Int)] 120 (0, 0))], [(b_4, .cells #[.int .u32 (t_5.1.toNat : Int), .int .u32 (t_5.2.1.toNat : Int), .int .u32 (t_5.2.2.1.toNat : Int), .int .u32 (t_5.2.2.2.toNat : Int)] 120 (0, 0))]] ∧ H = g) ?_ ?_
 ·
  rintro _ _ _ ⟨rfl, rfl, rfl⟩
  refine ZC (ZF (ZB (ZA rfl rfl (R.ixA 1 U120 S22 rfl rfl rfl) (ZA rfl rfl (Ze 1 S22 rfl rfl rfl) (ZA rfl rfl (ZG rfl) (ZA rfl rfl (Zk U23 rfl (IsSlice.long ha_2)) (ZA rfl rfl (R.cv_i64_u32 U3 U22 rfl) (ZA rfl rfl (R.xor32 (a := t_5.2.1) (b := u32i (p_1.length : Int)) rfl rfl) (ZA rfl rfl (R.ixA 1 U120 S22 rfl rfl rfl) (ZQ 1 S22 rfl rfl rfl rfl rfl (Nat.le_of_ble_eq_true rfl) (ZD ?_)))))))))))
  refine ZC (ZF (ZB (ZA rfl rfl (Zu 1 (vs := [.int .u32 (t_5.1.toNat : Int), .int .u32 ((t_5.2.1 ^^^ (u32i (p_1.length : Int))).toNat : Int), .int .u32 (t_5.2.2.1.toNat : Int), .int .u32 (t_5.2.2.2.toNat : Int)]) S120 rfl rfl rfl rfl) ?_)))
  obtain ⟨x_11, hr_12, hx⟩ := ZJ hx
  refine ZS (vs := [_]) (args := [_]) (K := []) (rst := [_, _]) E103 rfl rfl rfl ZI (ref02_Turn_ok (A4.mk t_5.1 (t_5.2.1 ^^^ (u32i (p_1.length : Int))) t_5.2.2.1 t_5.2.2.2) _ _ hr_12) rfl (fun u_13 Ku_13 Hu_13 hRu_13 hleu_13 hfu_13 => ?_)
  obtain ⟨rfl, rfl, rfl, -⟩ := hRu_13
  obtain ⟨x_14, hr_15, hx⟩ := ZJ hx
  refine ZS (vs := [_]) (args := [_]) (K := []) (rst := [_, _]) E103 rfl rfl rfl ZI (ref02_Turn_ok x_11 _ _ hr_15) rfl (fun u_16 Ku_16 Hu_16 hRu_16 hleu_16 hfu_16 => ?_)
  obtain ⟨rfl, rfl, rfl, -⟩ := hRu_16
  obtain ⟨x_17, hr_18, hx⟩ := ZJ hx
  refine ZS (vs := [_]) (args := [_]) (K := []) (rst := [_, _]) E103 rfl rfl rfl ZI (ref02_Turn_ok x_14 _ _ hr_18) rfl (fun u_19 Ku_19 Hu_19 hRu_19 hleu_19 hfu_19 => ?_)
  obtain ⟨rfl, rfl, rfl, -⟩ := hRu_19
  obtain ⟨x_20, hr_21, hx⟩ := ZJ hx
  refine ZS (vs := [_]) (args := [_]) (K := []) (rst := [_, _]) E103 rfl rfl rfl ZI (ref02_Turn_ok x_17 _ _ hr_21) rfl (fun u_22 Ku_22 Hu_22 hRu_22 hleu_22 hfu_22 => ?_)
  obtain ⟨rfl, rfl, rfl, -⟩ := hRu_22
  refine ZQ 1 S120 rfl rfl rfl rfl rfl (Nat.le_of_ble_eq_true rfl) (ZD (ZC (ZF (ZB (ZA rfl rfl (Zu 1 (vs := [.int .u32 (x_20.e0.toNat : Int), .int .u32 (x_20.e1.toNat : Int), .int .u32 (x_20.e2.toNat : Int), .int .u32 (x_20.e3.toNat : Int)]) S120 rfl rfl rfl rfl) ?_)))))
  obtain ⟨x_23, hr_24, hx⟩ := ZJ hx
  refine ZS (vs := [_]) (args := [_]) (K := []) (rst := [_, _]) E103 rfl rfl rfl ZI (ref02_Turn_ok x_20 _ _ hr_24) rfl (fun u_25 Ku_25 Hu_25 hRu_25 hleu_25 hfu_25 => ?_)
  obtain ⟨rfl, rfl, rfl, -⟩ := hRu_25
  obtain ⟨x_26, hr_27, hx⟩ := ZJ hx
  refine ZS (vs := [_]) (args := [_]) (K := []) (rst := [_, _]) E103 rfl rfl rfl ZI (ref02_Turn_ok x_23 _ _ hr_27) rfl (fun u_28 Ku_28 Hu_28 hRu_28 hleu_28 hfu_28 => ?_)
  obtain ⟨rfl, rfl, rfl, -⟩ := hRu_28
  obtain ⟨x_29, hr_30, hx⟩ := ZJ hx
  refine ZS (vs := [_]) (args := [_]) (K := []) (rst := [_, _]) E103 rfl rfl rfl ZI (ref02_Turn_ok x_26 _ _ hr_30) rfl (fun u_31 Ku_31 Hu_31 hRu_31 hleu_31 hfu_31 => ?_)
  obtain ⟨rfl, rfl, rfl, -⟩ := hRu_31
  obtain ⟨x_32, hr_33, hx⟩ := ZJ hx
  refine ZS (vs := [_]) (args := [_]) (K := []) (rst := [_, _]) E103 rfl rfl rfl ZI (ref02_Turn_ok x_29 _ _ hr_33) rfl (fun u_34 Ku_34 Hu_34 hRu_34 hleu_34 hfu_34 => ?_)
  obtain ⟨rfl, rfl, rfl, -⟩ := hRu_34
  refine ZQ 0 S120 rfl rfl rfl rfl rfl (Nat.le_of_ble_eq_true rfl) (ZD (ZC (ZT (ZR (vs := [.agg #[.int .u32 (x_32.e0.toNat : Int), .int .u32 (x_32.e1.toNat : Int), .int .u32 (x_32.e2.toNat : Int), .int .u32 (x_32.e3.toNat : Int)]]) (K := []) (rst := [_, _]) (.inl rfl) rfl rfl (Zb 0 rfl rfl S120 rfl) ZI ?_))))
  obtain rfl := Option.some.inj hx
  exact ⟨rfl, rfl, rfl, trivial⟩
 ·
  have hxo_6 := hx; clear hx; have hx := ht_7; clear ht_7
  refine JC.block (Zw 1 rfl (Z2 (fun n l o g => ∃ s_8 : UInt32 × UInt32 × UInt32 × UInt32 × Int, l = [(0, .slice aa_2 na_2 ca_2), (2, .pointer (some ⟨b_3, 0, none⟩)), (3, .pointer (some ⟨b_4, 0, none⟩)), (4, .int .i64 s_8.2.2.2.2)] ∧ o = [[(b_3, .cells #[.int .u32 ((0 : UInt32).toNat : Int), .int .u32 ((0 : UInt32).toNat : Int), .int .u32 ((0 : UInt32).toNat : Int), .int .u32 ((0 : UInt32).toNat : Int)] 120 (0, 0))], [(b_4, .cells #[.int .u32 (s_8.1.toNat : Int), .int .u32 (s_8.2.1.toNat : Int), .int .u32 (s_8.2.2.1.toNat : Int), .int .u32 (s_8.2.2.2.1.toNat : Int)] 120 (0, 0))]] ∧ H = g ∧ run (ref02_Four_l1 p_1) n s_8 = some t_5) FUEL ?_ ⟨((1 : UInt32), (2 : UInt32), (3 : UInt32), (4 : UInt32), 0), rfl, rfl, rfl, hx⟩ ⟨rfl, rfl, rfl, rfl, trivial⟩ ?_))
  ·
   rintro _ _ _ ⟨s_8, rfl, rfl, rfl, hn_9⟩
   exact Zz hn_9
  ·
   rintro n_10 _ _ _ ⟨s_8, rfl, rfl, rfl, hn_9⟩
   clear hx; obtain ⟨oo_12, hx, hd_11⟩ := Z0 hn_9
   unfold ref02_Four_l1 at hx
   refine ZF (ZF (ZB (ZA rfl rfl (ZG rfl) (ZA rfl rfl (ZG rfl) (ZA rfl rfl (Zk U23 rfl (IsSlice.long ha_2)) (ZA rfl rfl (R.leq_i rfl rfl) (ZD (ZC (ZW rfl (fun c_11 => ?_) (fun c_11 => ?_))))))))))
   ·
    replace hx := ZX c_11 hx
    refine JC.skip (ZC (ZF (JC.block (ZF ?_))))
    obtain ⟨t_12, ht_14, hx⟩ := ZJ hx
    refine Z4 (fun l o g => l = [(0, .slice aa_2 na_2 ca_2), (2, .pointer (some ⟨b_3, 0, none⟩)), (3, .pointer (some ⟨b_4, 0, none⟩)), (4, .int .i64 s_8.2.2.2.2)] ∧ o = [[(b_3, .cells #[.int .u32 ((0 : UInt32).toNat : Int), .int .u32 ((0 : UInt32).toNat : Int), .int .u32 ((0 : UInt32).toNat : Int), .int .u32 ((0 : UInt32).toNat : Int)] 120 (0, 0))], [(b_4, .cells #[.int .u32 (t_12.toNat : Int), .int .u32 (s_8.2.1.toNat : Int), .int .u32 (s_8.2.2.1.toNat : Int), .int .u32 (s_8.2.2.2.1.toNat : Int)] 120 (0, 0))]] ∧ H = g) ?_ ?_
    ·
     rintro _ _ _ ⟨rfl, rfl, rfl⟩
     refine ZC (ZF ?_)
     obtain ⟨t_21, ht_23, hx⟩ := ZJ hx
     refine Z4 (fun l o g => l = [(0, .slice aa_2 na_2 ca_2), (2, .pointer (some ⟨b_3, 0, none⟩)), (3, .pointer (some ⟨b_4, 0, none⟩)), (4, .int .i64 s_8.2.2.2.2)] ∧ o = [[(b_3, .cells #[.int .u32 ((0 : UInt32).toNat : Int), .int .u32 ((0 : UInt32).toNat : Int), .int .u32 ((0 : UInt32).toNat : Int), .int .u32 ((0 : UInt32).toNat : Int)] 120 (0, 0))], [(b_4, .cells #[.int .u32 (t_12.toNat : Int), .int .u32 (s_8.2.1.toNat : Int), .int .u32 (t_21.toNat : Int), .int .u32 (s_8.2.2.2.1.toNat : Int)] 120 (0, 0))]] ∧ H = g) ?_ ?_
     ·
      rintro _ _ _ ⟨rfl, rfl, rfl⟩
      refine ZC (ZB (ZA rfl rfl (Zu 1 (vs := [.int .u32 (t_12.toNat : Int), .int .u32 (s_8.2.1.toNat : Int), .int .u32 (t_21.toNat : Int), .int .u32 (s_8.2.2.2.1.toNat : Int)]) S120 rfl rfl rfl rfl) ?_))
      obtain ⟨x_30, hr_31, hx⟩ := ZJ hx
      refine ZS (vs := [_]) (args := [_]) (K := []) (rst := [_, _]) E103 rfl rfl rfl ZI (ref02_Turn_ok (A4.mk t_12 s_8.2.1 t_21 s_8.2.2.2.1) _ _ hr_31) rfl (fun u_32 Ku_32 Hu_32 hRu_32 hleu_32 hfu_32 => ?_)
      obtain ⟨rfl, rfl, rfl, -⟩ := hRu_32
      obtain ⟨x_33, hr_34, hx⟩ := ZJ hx
      refine ZS (vs := [_]) (args := [_]) (K := []) (rst := [_, _]) E103 rfl rfl rfl ZI (ref02_Turn_ok x_30 _ _ hr_34) rfl (fun u_35 Ku_35 Hu_35 hRu_35 hleu_35 hfu_35 => ?_)
      obtain ⟨rfl, rfl, rfl, -⟩ := hRu_35
      obtain ⟨x_36, hr_37, hx⟩ := ZJ hx
      refine ZS (vs := [_]) (args := [_]) (K := []) (rst := [_, _]) E103 rfl rfl rfl ZI (ref02_Turn_ok x_33 _ _ hr_37) rfl (fun u_38 Ku_38 Hu_38 hRu_38 hleu_38 hfu_38 => ?_)
      obtain ⟨rfl, rfl, rfl, -⟩ := hRu_38
      obtain ⟨x_39, hr_40, hx⟩ := ZJ hx
      refine ZS (vs := [_]) (args := [_]) (K := []) (rst := [_, _]) E103 rfl rfl rfl ZI (ref02_Turn_ok x_36 _ _ hr_40) rfl (fun u_41 Ku_41 Hu_41 hRu_41 hleu_41 hfu_41 => ?_)
      obtain ⟨rfl, rfl, rfl, -⟩ := hRu_41
      refine ZQ 1 S120 rfl rfl rfl rfl rfl (Nat.le_of_ble_eq_true rfl) (ZD (Zo (ZC (ZB (ZA rfl rfl (ZG rfl) (ZA rfl rfl (YB rfl rfl) (ZA rfl rfl (ZE rfl) (ZD ?_))))))))
      replace hx := Zp hd_11 hx
      refine ZP 1 rfl (ZP 1 rfl ?_)
      exact Za ⟨(x_39.e0, x_39.e1, x_39.e2, x_39.e3, w64 (s_8.2.2.2.2 + 8)), rfl, rfl, rfl, hx⟩ ⟨rfl, rfl, rfl, rfl, trivial⟩ rfl rfl
     ·
      have hxo_22 := hx; clear hx; have hx := ht_23; clear ht_23
      refine JC.draw (so := [_]) 9 rfl Mixed ⟨⟨0, rfl⟩, trivial⟩ (JA.val ⟨by kernel_rfl, by kernel_rfl⟩ (ZO _) (i := 0) rfl ⟨by kernel_rfl, by kernel_rfl, rfl⟩ trivial (ZM (Hle.refl _) ⟨⟨0, rfl⟩, trivial⟩) (R.ixA 2 U120 S22 rfl rfl rfl) rfl (JA.val ⟨by kernel_rfl, by kernel_rfl⟩ (ZO _) (i := 2) rfl ⟨by kernel_rfl, by kernel_rfl, rfl⟩ trivial (ZM (Hle.refl _) ⟨⟨0, rfl⟩, trivial⟩) (ZG rfl) rfl (JA.val ⟨by kernel_rfl, by kernel_rfl⟩ (ZO _) (i := 3) rfl ⟨by kernel_rfl, by kernel_rfl, rfl⟩ trivial (ZM (Hle.refl _) ⟨⟨0, rfl⟩, trivial⟩) (ZG rfl) rfl (JA.val ⟨by kernel_rfl, by kernel_rfl⟩ (ZO _) (i := 4) rfl ⟨by kernel_rfl, by kernel_rfl, rfl⟩ trivial (ZM (Hle.refl _) ⟨⟨0, rfl⟩, trivial⟩) (YB rfl rfl) rfl (JA.two (i := 1) (j := 5) (by kernel_rfl) ?_ ?_)))))
      ·
       refine Zn rfl trivial rfl (fun K hK => ZA rfl rfl (Ze 1 S22 rfl rfl rfl) (ZD (hK _ _ _ (ZM (Hle.refl _) ⟨⟨0, rfl⟩, trivial⟩) (JA.one (i := 5) (by kernel_rfl) (Zn rfl trivial rfl (fun K hK => ?_))))))
       obtain ⟨x_24, hr_25, hx⟩ := ZJ hx
       refine ZS (vs := [_, _]) (args := [_, _]) (K := []) (rst := [_, _]) E102 rfl rfl rfl ZI (ref02_word_ok p_1 (w64 (s_8.2.2.2.2 + 4)) _ ha_2 _ hr_25) rfl (fun u_26 Ku_26 Hu_26 hRu_26 hleu_26 hfu_26 => ?_)
       obtain ⟨rfl, rfl, rfl, -⟩ := hRu_26
       refine ZD (hK _ _ _ (ZM (Hle.refl _) ⟨⟨0, rfl⟩, trivial⟩) (JA.val ⟨by kernel_rfl, by kernel_rfl⟩ (ZO _) (i := 6) rfl ⟨by kernel_rfl, by kernel_rfl, rfl⟩ trivial (ZM (Hle.refl _) ⟨⟨0, rfl⟩, trivial⟩) (R.xor32 (a := s_8.2.2.1) (b := x_24) rfl rfl) rfl (JA.val ⟨by kernel_rfl, by kernel_rfl⟩ (ZO _) (i := 7) rfl ⟨by kernel_rfl, by kernel_rfl, rfl⟩ trivial (ZM (Hle.refl _) ⟨⟨0, rfl⟩, trivial⟩) (R.ixA 2 U120 S22 rfl rfl rfl) rfl (JA.one (i := 8) (by kernel_rfl) (Zn rfl trivial rfl (fun K hK => ZQ 1 S22 rfl rfl rfl rfl rfl (Nat.le_of_ble_eq_true rfl) (ZD (hK _ _ _ (ZM (Hle.refl _) ⟨⟨0, rfl⟩, trivial⟩) (JA.doneN (by kernel_rfl) ?_)))))))))
       obtain rfl := Option.some.inj hx
       refine ZP 1 rfl (ZP 1 rfl ?_)
       exact Za ⟨rfl, rfl, rfl⟩ ⟨rfl, rfl, rfl, rfl, trivial⟩ rfl rfl
      ·
       refine Zn rfl trivial rfl (fun K hK => ?_)
       obtain ⟨x_27, hr_28, hx⟩ := ZJ hx
       refine ZS (vs := [_, _]) (args := [_, _]) (K := []) (rst := [_, _]) E102 rfl rfl rfl ZI (ref02_word_ok p_1 (w64 (s_8.2.2.2.2 + 4)) _ ha_2 _ hr_28) rfl (fun u_29 Ku_29 Hu_29 hRu_29 hleu_29 hfu_29 => ?_)
       obtain ⟨rfl, rfl, rfl, -⟩ := hRu_29
       refine ZD (hK _ _ _ (ZM (Hle.refl _) ⟨⟨0, rfl⟩, trivial⟩) (JA.one (i := 1) (by kernel_rfl) (Zn rfl trivial rfl (fun K hK => ZA rfl rfl (Ze 1 S22 rfl rfl rfl) (ZD (hK _ _ _ (ZM (Hle.refl _) ⟨⟨0, rfl⟩, trivial⟩) (JA.val ⟨by kernel_rfl, by kernel_rfl⟩ (ZO _) (i := 6) rfl ⟨by kernel_rfl, by kernel_rfl, rfl⟩ trivial (ZM (Hle.refl _) ⟨⟨0, rfl⟩, trivial⟩) (R.xor32 (a := s_8.2.2.1) (b := x_27) rfl rfl) rfl (JA.val ⟨by kernel_rfl, by kernel_rfl⟩ (ZO _) (i := 7) rfl ⟨by kernel_rfl, by kernel_rfl, rfl⟩ trivial (ZM (Hle.refl _) ⟨⟨0, rfl⟩, trivial⟩) (R.ixA 2 U120 S22 rfl rfl rfl) rfl (JA.one (i := 8) (by kernel_rfl) (Zn rfl trivial rfl (fun K hK => ZQ 1 S22 rfl rfl rfl rfl rfl (Nat.le_of_ble_eq_true rfl) ?_)))))))))))
       refine ZD (hK _ _ _ (ZM (Hle.refl _) ⟨⟨0, rfl⟩, trivial⟩) (JA.doneN (by kernel_rfl) ?_))
       obtain rfl := Option.some.inj hx
       refine ZP 1 rfl (ZP 1 rfl ?_)
       exact Za ⟨rfl, rfl, rfl⟩ ⟨rfl, rfl, rfl, rfl, trivial⟩ rfl rfl
    ·
     have hxo_13 := hx; clear hx; have hx := ht_14; clear ht_14
     refine JC.draw (so := [_]) 8 rfl Mixed ⟨⟨0, rfl⟩, trivial⟩ (JA.val ⟨by kernel_rfl, by kernel_rfl⟩ (ZO _) (i := 0) rfl ⟨by kernel_rfl, by kernel_rfl, rfl⟩ trivial (ZM (Hle.refl _) ⟨⟨0, rfl⟩, trivial⟩) (R.ixA 0 U120 S22 rfl rfl rfl) rfl (JA.val ⟨by kernel_rfl, by kernel_rfl⟩ (ZO _) (i := 2) rfl ⟨by kernel_rfl, by kernel_rfl, rfl⟩ trivial (ZM (Hle.refl _) ⟨⟨0, rfl⟩, trivial⟩) (ZG rfl) rfl (JA.val ⟨by kernel_rfl, by kernel_rfl⟩ (ZO _) (i := 3) rfl ⟨by kernel_rfl, by kernel_rfl, rfl⟩ trivial (ZM (Hle.refl _) ⟨⟨0, rfl⟩, trivial⟩) (ZG rfl) rfl (JA.two (i := 1) (j := 4) (by kernel_rfl) ?_ ?_))))
     ·
      refine Zn rfl trivial rfl (fun K hK => ZA rfl rfl (Ze 1 S22 rfl rfl rfl) (ZD (hK _ _ _ (ZM (Hle.refl _) ⟨⟨0, rfl⟩, trivial⟩) (JA.one (i := 4) (by kernel_rfl) (Zn rfl trivial rfl (fun K hK => ?_))))))
      obtain ⟨x_15, hr_16, hx⟩ := ZJ hx
      refine ZS (vs := [_, _]) (args := [_, _]) (K := []) (rst := [_, _]) E102 rfl rfl rfl ZI (ref02_word_ok p_1 s_8.2.2.2.2 _ ha_2 _ hr_16) rfl (fun u_17 Ku_17 Hu_17 hRu_17 hleu_17 hfu_17 => ?_)
      obtain ⟨rfl, rfl, rfl, -⟩ := hRu_17
      refine ZD (hK _ _ _ (ZM (Hle.refl _) ⟨⟨0, rfl⟩, trivial⟩) (JA.val ⟨by kernel_rfl, by kernel_rfl⟩ (ZO _) (i := 5) rfl ⟨by kernel_rfl, by kernel_rfl, rfl⟩ trivial (ZM (Hle.refl _) ⟨⟨0, rfl⟩, trivial⟩) (R.xor32 (a := s_8.1) (b := x_15) rfl rfl) rfl (JA.val ⟨by kernel_rfl, by kernel_rfl⟩ (ZO _) (i := 6) rfl ⟨by kernel_rfl, by kernel_rfl, rfl⟩ trivial (ZM (Hle.refl _) ⟨⟨0, rfl⟩, trivial⟩) (R.ixA 0 U120 S22 rfl rfl rfl) rfl (JA.one (i := 7) (by kernel_rfl) (Zn rfl trivial rfl (fun K hK => ZQ 1 S22 rfl rfl rfl rfl rfl (Nat.le_of_ble_eq_true rfl) (ZD (hK _ _ _ (ZM (Hle.refl _) ⟨⟨0, rfl⟩, trivial⟩) (JA.doneN (by kernel_rfl) ?_)))))))))
      obtain rfl := Option.some.inj hx
      refine ZP 1 rfl (ZP 1 rfl ?_)
      exact Za ⟨rfl, rfl, rfl⟩ ⟨rfl, rfl, rfl, rfl, trivial⟩ rfl rfl
     ·
      refine Zn rfl trivial rfl (fun K hK => ?_)
      obtain ⟨x_18, hr_19, hx⟩ := ZJ hx
      refine ZS (vs := [_, _]) (args := [_, _]) (K := []) (rst := [_, _]) E102 rfl rfl rfl ZI (ref02_word_ok p_1 s_8.2.2.2.2 _ ha_2 _ hr_19) rfl (fun u_20 Ku_20 Hu_20 hRu_20 hleu_20 hfu_20 => ?_)
      obtain ⟨rfl, rfl, rfl, -⟩ := hRu_20
      refine ZD (hK _ _ _ (ZM (Hle.refl _) ⟨⟨0, rfl⟩, trivial⟩) (JA.one (i := 1) (by kernel_rfl) (Zn rfl trivial rfl (fun K hK => ZA rfl rfl (Ze 1 S22 rfl rfl rfl) (ZD (hK _ _ _ (ZM (Hle.refl _) ⟨⟨0, rfl⟩, trivial⟩) (JA.val ⟨by kernel_rfl, by kernel_rfl⟩ (ZO _) (i := 5) rfl ⟨by kernel_rfl, by kernel_rfl, rfl⟩ trivial (ZM (Hle.refl _) ⟨⟨0, rfl⟩, trivial⟩) (R.xor32 (a := s_8.1) (b := x_18) rfl rfl) rfl (JA.val ⟨by kernel_rfl, by kernel_rfl⟩ (ZO _) (i := 6) rfl ⟨by kernel_rfl, by kernel_rfl, rfl⟩ trivial (ZM (Hle.refl _) ⟨⟨0, rfl⟩, trivial⟩) (R.ixA 0 U120 S22 rfl rfl rfl) rfl (JA.one (i := 7) (by kernel_rfl) (Zn rfl trivial rfl (fun K hK => ZQ 1 S22 rfl rfl rfl rfl rfl (Nat.le_of_ble_eq_true rfl) ?_)))))))))))
      refine ZD (hK _ _ _ (ZM (Hle.refl _) ⟨⟨0, rfl⟩, trivial⟩) (JA.doneN (by kernel_rfl) ?_))
      obtain rfl := Option.some.inj hx
      refine ZP 1 rfl (ZP 1 rfl ?_)
      exact Za ⟨rfl, rfl, rfl⟩ ⟨rfl, rfl, rfl, rfl, trivial⟩ rfl rfl
   ·
    replace hx := ZY c_11 hx
    refine Z1 (Zc ?_)
    obtain rfl := Zv hd_11 hx
    refine Zc (Zi (ZP 1 rfl (ZP 1 rfl ?_)))
    exact Za ⟨rfl, rfl, rfl⟩ ⟨rfl, rfl, rfl, trivial⟩ rfl rfl

set_option maxHeartbeats 8000000 in
theorem ref02_Sum_ok (p_1 : List UInt8) (H : Heaplet) {aa_2 : Option Addr} {na_2 : Nat} {ca_2 : Nat} (ha_2 : IsSlice H RU8 1 (.slice aa_2 na_2 ca_2) p_1) (r : UInt32) (hx : ref02_Sum p_1 = some r) :
  Does Try.prog 63 #[.slice aa_2 na_2 ca_2] [] H (fun u K' H' => u = .int .u32 (r.toNat : Int) ∧ K' = [] ∧ H = H' ∧ True) := by
 refine Does.enterL (vs := [.slice aa_2 na_2 ca_2]) (l := [(0, .slice aa_2 na_2 ca_2)]) Try.func63 rfl rfl ⟨rfl, trivial⟩ (fun w hlt => ?_)
 unfold ref02_Sum at hx
 refine ZF (ZB (ZA rfl rfl (ZE rfl) (ZD (ZC (ZF (ZB (ZA rfl rfl (ZG rfl) ?_)))))))
 obtain ⟨x_3, hr_4, hx⟩ := ZJ hx
 refine ZS (vs := [_]) (args := [_]) (K := []) (rst := []) E86 rfl rfl rfl ZI (ref02_Four_ok p_1 _ ha_2 _ hr_4) rfl (fun u_5 Ku_5 Hu_5 hRu_5 hleu_5 hfu_5 => ?_)
 obtain ⟨rfl, rfl, rfl, -⟩ := hRu_5
 refine ZA rfl rfl (R.idxAk 0 U120 S22 rfl rfl rfl rfl rfl) (ZA rfl rfl (ZE rfl) (ZD (ZC (ZT (ZR (vs := [.int .u32 (x_3.e0.toNat : Int)]) (K := []) (rst := []) (.inl rfl) rfl rfl (ZN rfl rfl) ZI ?_)))))
 obtain rfl := Option.some.inj hx
 exact ⟨rfl, rfl, rfl, trivial⟩

set_option maxHeartbeats 8000000 in
theorem ref13_Put_ok (p_1 : Store) (p_5 : UInt32) (p_6 : UInt32) (p_7 : UInt32) (p_8 : List UInt8) (H : Heaplet) {aa_2 : Option Addr} {na_2 : Nat} {ca_2 : Nat} {aa_3 : Option Addr} {na_3 : Nat} {ca_3 : Nat} {aa_4 : Option Addr} {na_4 : Nat} {ca_4 : Nat} {aa_9 : Option Addr} {na_9 : Nat} {ca_9 : Nat} (ha_2 : IsSlice H (RSl RU8 1) 1 (.slice aa_2 na_2 ca_2) p_1.Disk.Blocks) (ha_3 : IsSlice H R_Write 2 (.slice aa_3 na_3 ca_3) p_1.Disk.Waits) (ha_4 : IsSlice H RU8 1 (.slice aa_4 na_4 ca_4) p_1.Space) (ha_9 : IsSlice H RU8 1 (.slice aa_9 na_9 ca_9) p_8) (r : Store × Ptr × Bool) (hx : ref13_Put p_1 p_5 p_6 p_7 p_8 = some r) :
  Does Try.prog 37 #[.agg #[.slice aa_2 na_2 ca_2, .slice aa_3 na_3 ca_3, .slice aa_4 na_4 ca_4, .int .u32 (p_1.Epoch.toNat : Int), .int .u32 (p_1.Count.toNat : Int)], .int .u32 (p_5.toNat : Int), .int .u32 (p_6.toNat : Int), .int .u32 (p_7.toNat : Int), .slice aa_9 na_9 ca_9] [] H (fun u K' H' => ∃ ao0 : Option Addr, ∃ n0 : Nat, ∃ cap0 : Nat, ∃ K0 : Own, ∃ ao1 : Option Addr, ∃ n1 : Nat, ∃ cap1 : Nat, ∃ K1 : Own, ∃ ao2 : Option Addr, ∃ n2 : Nat, ∃ cap2 : Nat, ∃ K2 : Own, u = .tuple #[.agg #[.slice ao0 n0 cap0, .slice ao1 n1 cap1, .slice ao2 n2 cap2, .int .u32 (r.1.Epoch.toNat : Int), .int .u32 (r.1.Count.toNat : Int)], .agg #[.int .i64 r.2.1.At, .int .u32 (r.2.1.Birth.toNat : Int), .int .u32 (r.2.1.Iv.toNat : Int), .int .u32 (r.2.1.Tag.toNat : Int), .int .u32 (r.2.1.Sum.toNat : Int)], .bool r.2.2] ∧ K' = [K0, K1, K2] ∧ RowOf (New H H') (RSl RU8 1) 0 23 1 (.slice ao0 n0 cap0) r.1.Disk.Blocks K0 ∧ (∀ p ∈ K0, p.1 ∉ ids (List.flatten [])) ∧ RowOf (New H H') R_Write 0 80 2 (.slice ao1 n1 cap1) r.1.Disk.Waits K1 ∧ (∀ p ∈ K1, p.1 ∉ ids (List.flatten [])) ∧ RowOf (New H H') RU8 0 5 1 (.slice ao2 n2 cap2) r.1.Space K2 ∧ (∀ p ∈ K2, p.1 ∉ ids (List.flatten [])) ∧ True) := by
 refine Does.enterL (vs := [.agg #[.slice aa_2 na_2 ca_2, .slice aa_3 na_3 ca_3, .slice aa_4 na_4 ca_4, .int .u32 (p_1.Epoch.toNat : Int), .int .u32 (p_1.Count.toNat : Int)], .int .u32 (p_5.toNat : Int), .int .u32 (p_6.toNat : Int), .int .u32 (p_7.toNat : Int), .slice aa_9 na_9 ca_9]) (l := [(0, .agg #[.slice aa_2 na_2 ca_2, .slice aa_3 na_3 ca_3, .slice aa_4 na_4 ca_4, .int .u32 (p_1.Epoch.toNat : Int), .int .u32 (p_1.Count.toNat : Int)]), (1, .int .u32 (p_5.toNat : Int)), (2, .int .u32 (p_6.toNat : Int)), (3, .int .u32 (p_7.toNat : Int)), (4, .slice aa_9 na_9 ca_9)]) Try.func37 rfl rfl ⟨rfl, rfl, rfl, rfl, rfl, trivial⟩ (fun w hlt => ?_)
 unfold ref13_Put at hx
 refine ZF (ZB (YF rfl rfl (fun b_10 hb_10 => JL.alloc Z46 rfl (fun b_11 hb_11 => JL.alloc Z50 rfl (fun b_12 hb_12 => ZA rfl rfl (ZE rfl) (ZD (ZC (ZF (ZB (ZA rfl rfl (Zt F46_1 rfl) (ZA rfl rfl (Ze 2 S23 rfl rfl rfl) ?_)))))))))))
 obtain ⟨x_13, hr_14, hx⟩ := ZJ hx
 refine ZS (vs := [_]) (args := [_]) (K := []) (rst := [_, _, _]) E60 rfl rfl rfl ZI (ref12_All_ok p_1.Space _ ha_4 _ hr_14) rfl (fun u_15 Ku_15 Hu_15 hRu_15 hleu_15 hfu_15 => ?_)
 obtain ⟨ar_16, nr_16, cr_16, Kr_16, rfl, rfl, rfl, hr_16, hnewr_16, -⟩ := hRu_15
 replace hr_16 := (RowOf.base (Zf (H2 := New H H) RInt.const hr_16) (fun p hp => (hfu_15 p (Zh 0 rfl hp)).resolve_left (hnewr_16 p hp)))
 refine ZA rfl rfl (ZE rfl) (ZD (ZC (ZF (ZF (ZB (ZA rfl rfl (ZG rfl) (ZA rfl rfl (Zk U105 rfl (RowOf.long hr_16)) (ZA rfl rfl (R.eql_i rfl rfl) (ZA rfl rfl (ZG rfl) (Zj (t := 20) rfl (fun c_17 => ?_) (fun c_17 => ?_)))))))))))
 ·
  replace hx := ZX c_17 hx
  refine ZH rfl rfl rfl rfl rfl (ZH rfl rfl rfl rfl rfl (ZH rfl rfl rfl rfl rfl (ZH rfl rfl rfl rfl rfl (ZH rfl rfl rfl rfl rfl (ZA rfl rfl (Zd rfl rfl) (ZD (ZC (Z5 rfl (ZF (ZB (ZA rfl rfl (Z7 (vs := []) (cs := [.slice none 0 0, .slice none 0 0, .slice none 0 0, .int .u32 ((0 : UInt32).toNat : Int), .int .u32 ((0 : UInt32).toNat : Int)]) Z46 B46 rfl rfl rfl) ?_)))))))))))
  refine ZA rfl rfl (Z7 (vs := []) (cs := [.int .i64 0, .int .u32 ((0 : UInt32).toNat : Int), .int .u32 ((0 : UInt32).toNat : Int), .int .u32 ((0 : UInt32).toNat : Int), .int .u32 ((0 : UInt32).toNat : Int)]) Z50 B50 rfl rfl rfl) (ZQ 2 S46 rfl rfl rfl rfl rfl (Nat.le_of_ble_eq_true rfl) (ZQ 1 S50 rfl rfl rfl rfl rfl (Nat.le_of_ble_eq_true rfl) (ZA rfl rfl (ZE rfl) (ZD (ZC (ZT (ZV (Zl (Zl (Zl (ZR (vs := [.agg #[.slice none 0 0, .slice none 0 0, .slice none 0 0, .int .u32 ((0 : UInt32).toNat : Int), .int .u32 ((0 : UInt32).toNat : Int)], .agg #[.int .i64 0, .int .u32 ((0 : UInt32).toNat : Int), .int .u32 ((0 : UInt32).toNat : Int), .int .u32 ((0 : UInt32).toNat : Int), .int .u32 ((0 : UInt32).toNat : Int)], .bool false]) (K := [_, _, _]) (rst := [_, _, _, _]) (.inl rfl) rfl rfl (Zb 5 rfl rfl S46 (Zb 4 rfl rfl S50 (ZN rfl rfl))) (ZK 0 rfl (ZK 0 rfl (ZK 0 rfl ZI))) ?_)))))))))))
  obtain rfl := Option.some.inj hx
  exact ⟨none, 0, 0, [], none, 0, 0, [], none, 0, 0, [], rfl, rfl, (ZU _ _ _ _ _), (fun p hp => by cases hp), (ZU _ _ _ _ _), (fun p hp => by cases hp), (ZU _ _ _ _ _), (fun p hp => by cases hp), trivial⟩
 ·
  replace hx := ZY c_17 hx
  refine ZL rfl rfl rfl (ZA rfl rfl (Zt F46_0 rfl) (ZL rfl rfl rfl (ZA rfl rfl (Zt F44_1 rfl) (ZL rfl rfl rfl (ZA rfl rfl (Ze 3 S42 rfl rfl rfl) (ZL rfl rfl rfl (ZA rfl rfl (Zk U42 rfl (IsSlice.long ha_3)) (ZL rfl rfl rfl (ZA rfl rfl (R.geq_i rfl rfl) (ZA rfl rfl (Zm rfl rfl) (ZD ?_)))))))))))
  refine ZC (ZW rfl (fun c_18 => ?_) (fun c_18 => ?_))
  ·
   replace hx := ZX c_18 hx
   refine ZF (ZB (ZA rfl rfl (Z7 (vs := []) (cs := [.slice none 0 0, .slice none 0 0, .slice none 0 0, .int .u32 ((0 : UInt32).toNat : Int), .int .u32 ((0 : UInt32).toNat : Int)]) Z46 B46 rfl rfl rfl) (ZA rfl rfl (Z7 (vs := []) (cs := [.int .i64 0, .int .u32 ((0 : UInt32).toNat : Int), .int .u32 ((0 : UInt32).toNat : Int), .int .u32 ((0 : UInt32).toNat : Int), .int .u32 ((0 : UInt32).toNat : Int)]) Z50 B50 rfl rfl rfl) (ZQ 2 S46 rfl rfl rfl rfl rfl (Nat.le_of_ble_eq_true rfl) (ZQ 1 S50 rfl rfl rfl rfl rfl (Nat.le_of_ble_eq_true rfl) (ZA rfl rfl (ZE rfl) (ZD (ZC (ZT (ZV (Zl ?_)))))))))))
   refine Zl (Zl (ZR (vs := [.agg #[.slice none 0 0, .slice none 0 0, .slice none 0 0, .int .u32 ((0 : UInt32).toNat : Int), .int .u32 ((0 : UInt32).toNat : Int)], .agg #[.int .i64 0, .int .u32 ((0 : UInt32).toNat : Int), .int .u32 ((0 : UInt32).toNat : Int), .int .u32 ((0 : UInt32).toNat : Int), .int .u32 ((0 : UInt32).toNat : Int)], .bool false]) (K := [_, _, _]) (rst := [_, _, _, _]) (.inl rfl) rfl rfl (Zb 5 rfl rfl S46 (Zb 4 rfl rfl S50 (ZN rfl rfl))) (ZK 0 rfl (ZK 0 rfl (ZK 0 rfl ZI))) ?_))
   obtain rfl := Option.some.inj hx
   exact ⟨none, 0, 0, [], none, 0, 0, [], none, 0, 0, [], rfl, rfl, (ZU _ _ _ _ _), (fun p hp => by cases hp), (ZU _ _ _ _ _), (fun p hp => by cases hp), (ZU _ _ _ _ _), (fun p hp => by cases hp), trivial⟩
  ·
   replace hx := ZY c_18 hx
   refine JC.skip (ZC (ZF (JC.drawB (so := [(_, []), (_, []), (_, []), (_, [7])]) 8 rfl Mixed ⟨by kernel_rfl, by kernel_rfl⟩ (kept0 [0, 1, 2, 3] rfl) ?_)))
   refine JB.val (i := 0) [] rfl (Zt F46_1 rfl) ?_
   refine JB.val (i := 1) [5, 6, 7] rfl (Ze 3 S23 rfl rfl rfl) ?_
   refine JB.val (i := 2) [] rfl (ZG rfl) ?_
   obtain ⟨y_19, hN_20, hx⟩ := Zq hx
   obtain ⟨b_21, o_22, cs_23, cur_28, hK_29, hE_24, hR_25, hl_26, hc_27⟩ := RowOf.elem hr_16 hN_20
   subst hK_29
   obtain rfl := hR_25
   refine JB.val (i := 3) [] rfl (R.ix U105 S3 rfl rfl hE_24) ?_
   refine JB.val (i := 4) [] rfl (Ze 0 S3 rfl rfl (hc_27 0 _ rfl)) ?_
   refine JB.one (i := 5) (by kernel_rfl) ?_
   refine JOB.step rfl trivial rfl (fun K hK => ?_)
   obtain ⟨x_30, hr_31, hx⟩ := ZJ hx
   refine ZS (vs := [_, _, _]) (args := [_, _, _]) (K := []) (rst := [_, _, _, _]) E61 rfl rfl rfl ZI (ref12_With_ok p_1.Space y_19 (1 : UInt8) _ ha_4 _ hr_31) rfl (fun u_32 Ku_32 Hu_32 hRu_32 hleu_32 hfu_32 => ?_)
   obtain ⟨ar_33, nr_33, cr_33, Kr_33, rfl, rfl, rfl, hr_33, hnewr_33, -⟩ := hRu_32
   replace hr_33 := (RowOf.base (Zf (H2 := New H H) RU8.const hr_33) (fun p hp => (hfu_32 p (Zh 0 rfl hp)).resolve_left (hnewr_33 p hp)))
   refine ZD (hK _ _ _ (Hle.refl _) (kept0 [1, 2, 3, 4] rfl) ?_)
   refine JB.val (i := 6) [] rfl (Zt F46_1 rfl) ?_
   refine JB.one (i := 7) (by kernel_rfl) ?_
   refine JOB.step rfl trivial rfl (fun K hK => ZQ 4 S23 rfl rfl rfl rfl rfl (Nat.le_of_ble_eq_true rfl) (ZD (hK _ _ _ (Hle.refl _) (kept1 [false, false, false, true] [1, 2, 3, 0] (by kernel_rfl) rfl) ?_)))
   refine JB.doneN (by kernel_rfl) ?_
   refine ZC (ZF (JC.drawB (so := [(_, []), (_, []), (_, []), (_, []), (_, [8])]) 9 rfl Mixed ⟨by kernel_rfl, by kernel_rfl⟩ (kept0 [0, 1, 2, 3, 4] rfl) ?_))
   refine JB.val (i := 0) [] rfl (Zt F46_0 rfl) ?_
   refine JB.val (i := 1) [6, 7, 8] rfl (Zu 4 (vs := [.slice aa_2 na_2 ca_2, .slice aa_3 na_3 ca_3]) S44 rfl rfl rfl rfl) ?_
   refine JB.val (i := 2) [] rfl (ZG rfl) ?_
   obtain ⟨y_34, hN_35, hx⟩ := Zq hx
   obtain ⟨b_36, o_37, cs_38, cur_43, hK_44, hE_39, hR_40, hl_41, hc_42⟩ := RowOf.elem hr_16 hN_35
   obtain ⟨rfl, rfl⟩ : b_21 = b_36 ∧ cur_28 = cur_43 := by simpa using hK_44
   obtain rfl := hR_40
   refine JB.val (i := 3) [] rfl (R.ix U105 S3 rfl rfl hE_39) ?_
   refine JB.val (i := 4) [] rfl (Ze 1 S3 rfl rfl (hc_42 0 _ rfl)) ?_
   refine JB.val (i := 5) [] rfl (ZG rfl) ?_
   refine JB.one (i := 6) (by kernel_rfl) ?_
   refine JOB.step rfl trivial rfl (fun K hK => ?_)
   obtain ⟨x_45, hr_46, hx⟩ := ZJ hx
   refine ZS (vs := [_, _, _]) (args := [_, _, _]) (K := []) (rst := [_, _, _, _, _]) E62 rfl rfl rfl ZI (ref09_With_ok (Disk.mk p_1.Disk.Blocks p_1.Disk.Waits) y_34 p_8 _ ha_2 ha_3 ha_9 _ hr_46) rfl (fun u_47 Ku_47 Hu_47 hRu_47 hleu_47 hfu_47 => ?_)
   obtain ⟨ar_48, nr_48, cr_48, Kr_48, ar_49, nr_49, cr_49, Kr_49, rfl, rfl, hr_48, hnewr_48, hr_49, hnewr_49, -⟩ := hRu_47
   replace hr_48 := (RowOf.base (RowOf.mono (RSl.mono RU8.mono) (New.call (Hle.refl _)) hr_48) (fun p hp => (hfu_47 p (Zh 0 rfl hp)).resolve_left (hnewr_48 p hp)))
   replace hr_49 := (RowOf.base (RowOf.mono R_Write.mono (New.call (Hle.refl _)) hr_49) (fun p hp => (hfu_47 p (Zh 1 rfl hp)).resolve_left (hnewr_49 p hp)))
   refine ZD (hK _ _ _ hleu_47 (kept0 [2, 3, 4, 5, 6] rfl) ?_)
   refine JB.val (i := 7) [] rfl (Zt F46_0 rfl) ?_
   refine JB.one (i := 8) (by kernel_rfl) ?_
   refine JOB.step rfl trivial rfl (fun K hK => ZQ 6 S44 rfl rfl rfl rfl rfl (Nat.le_of_ble_eq_true rfl) (ZD (hK _ _ _ hleu_47 (kept1 [false, false, false, false, true] [2, 3, 4, 5, 0] (by kernel_rfl) rfl) ?_)))
   refine JB.doneN (by kernel_rfl) ?_
   refine ZC (ZF (JC.drawB (so := [(_, []), (_, []), (_, []), (_, []), (_, [11]), (_, [10]), (_, [])]) 13 rfl Mixed ⟨by kernel_rfl, by kernel_rfl⟩ (kept0 [0, 1, 2, 3, 4, 5, 6] rfl) ?_))
   refine JB.val (i := 0) [] rfl (Zu 4 (vs := [.slice ar_48 nr_48 cr_48, .slice ar_49 nr_49 cr_49, .slice ar_33 nr_33 cr_33, .int .u32 (p_1.Epoch.toNat : Int), .int .u32 (p_1.Count.toNat : Int)]) S46 rfl rfl rfl rfl) ?_
   refine JB.val (i := 1) [] rfl (ZG rfl) ?_
   obtain ⟨y_50, hN_51, hx⟩ := Zq hx
   obtain ⟨b_52, o_53, cs_54, cur_59, hK_60, hE_55, hR_56, hl_57, hc_58⟩ := RowOf.elem (hr_16.mono RInt.mono (New.mono hleu_47)) hN_51
   obtain ⟨rfl, rfl⟩ : b_21 = b_52 ∧ cur_28 = cur_59 := by simpa using hK_60
   obtain rfl := hR_56
   refine JB.val (i := 2) [] rfl (R.ix U105 S3 rfl rfl hE_55) ?_
   refine JB.val (i := 3) [] rfl (Ze 3 S3 rfl rfl (hc_58 0 _ rfl)) ?_
   refine JB.val (i := 4) [] rfl (ZG rfl) ?_
   refine JB.val (i := 5) [] rfl (ZG rfl) ?_
   refine JB.val (i := 6) [] rfl (ZG rfl) ?_
   refine JB.val (i := 7) [] rfl (ZG rfl) ?_
   refine JB.one (i := 8) (by kernel_rfl) ?_
   refine JOB.step rfl trivial rfl (fun K hK => ?_)
   obtain ⟨x_61, hr_62, hx⟩ := ZJ hx
   refine ZS (vs := [_]) (args := [_]) (K := []) (rst := [_, _, _, _, _, _, _]) E63 rfl rfl rfl ZI (ref02_Sum_ok p_8 _ (ha_9.mono RU8.mono hleu_47) _ hr_62) rfl (fun u_63 Ku_63 Hu_63 hRu_63 hleu_63 hfu_63 => ?_)
   obtain ⟨rfl, rfl, rfl, -⟩ := hRu_63
   refine ZD (hK _ _ _ (Hle.refl _) (kept0 [0, 1, 2, 3, 4, 5, 6] rfl) ?_)
   refine JB.val (i := 9) [] rfl (Z7 (vs := [(0, .int .i64 y_50), (1, .int .u32 (p_5.toNat : Int)), (2, .int .u32 (p_6.toNat : Int)), (3, .int .u32 (p_7.toNat : Int)), (4, .int .u32 (x_61.toNat : Int))]) (cs := [.int .i64 y_50, .int .u32 (p_5.toNat : Int), .int .u32 (p_6.toNat : Int), .int .u32 (p_7.toNat : Int), .int .u32 (x_61.toNat : Int)]) Z50 B50 rfl rfl rfl) ?_
   refine JB.one (i := 10) (by kernel_rfl) ?_
   refine JOB.step rfl trivial rfl (fun K hK => ZQ 5 S46 rfl rfl rfl rfl rfl (Nat.le_of_ble_eq_true rfl) (ZD (hK _ _ _ (Hle.refl _) (kept1 [false, false, false, false, false, true, false] [0, 1, 2, 3, 4, 0, 6] (by kernel_rfl) rfl) ?_)))
   refine JB.one (i := 11) (by kernel_rfl) ?_
   refine JOB.step rfl trivial rfl (fun K hK => ZQ 4 S50 rfl rfl rfl rfl rfl (Nat.le_of_ble_eq_true rfl) (ZD (hK _ _ _ (Hle.refl _) (kept1 [false, false, false, false, true, true, false] [0, 1, 2, 3, 0, 0, 6] (by kernel_rfl) rfl) ?_)))
   refine JB.val (i := 12) [] rfl (ZE rfl) ?_
   refine JB.doneN (by kernel_rfl) ?_
   refine ZC (ZT (ZR (vs := [.agg #[.slice ar_48 nr_48 cr_48, .slice ar_49 nr_49 cr_49, .slice ar_33 nr_33 cr_33, .int .u32 (p_1.Epoch.toNat : Int), .int .u32 (p_1.Count.toNat : Int)], .agg #[.int .i64 y_50, .int .u32 (p_5.toNat : Int), .int .u32 (p_6.toNat : Int), .int .u32 (p_7.toNat : Int), .int .u32 (x_61.toNat : Int)], .bool true]) (K := [_, _, _]) (rst := [_, _, _, _]) (.inl rfl) rfl rfl (Zb 5 rfl rfl S46 (Zb 4 rfl rfl S50 (ZN rfl rfl))) (ZK 0 rfl (ZK 0 rfl (ZK 0 rfl ZI))) ?_))
   obtain rfl := Option.some.inj hx
   exact ⟨ar_48, nr_48, cr_48, Kr_48, ar_49, nr_49, cr_49, Kr_49, ar_33, nr_33, cr_33, Kr_33, rfl, rfl, (Zg (Nat.zero_le _) hr_48), (Zx hr_48 hlt), (Zg (Nat.zero_le _) hr_49), (Zx hr_49 hlt), (Zg (Nat.zero_le _) (hr_33.mono RU8.mono (New.mono hleu_47))), (Zx (hr_33.mono RU8.mono (New.mono hleu_47)) hlt), trivial⟩

set_option maxHeartbeats 8000000 in
theorem ref13_Raw_ok (p_1 : Store) (p_5 : UInt32) (p_6 : UInt32) (p_7 : UInt32) (p_8 : List UInt8) (H : Heaplet) {aa_2 : Option Addr} {na_2 : Nat} {ca_2 : Nat} {aa_3 : Option Addr} {na_3 : Nat} {ca_3 : Nat} {aa_4 : Option Addr} {na_4 : Nat} {ca_4 : Nat} {aa_9 : Option Addr} {na_9 : Nat} {ca_9 : Nat} (ha_2 : IsSlice H (RSl RU8 1) 1 (.slice aa_2 na_2 ca_2) p_1.Disk.Blocks) (ha_3 : IsSlice H R_Write 2 (.slice aa_3 na_3 ca_3) p_1.Disk.Waits) (ha_4 : IsSlice H RU8 1 (.slice aa_4 na_4 ca_4) p_1.Space) (ha_9 : IsSlice H RU8 1 (.slice aa_9 na_9 ca_9) p_8) (r : Store × Ptr × Int) (hx : ref13_Raw p_1 p_5 p_6 p_7 p_8 = some r) :
  Does Try.prog 18 #[.agg #[.slice aa_2 na_2 ca_2, .slice aa_3 na_3 ca_3, .slice aa_4 na_4 ca_4, .int .u32 (p_1.Epoch.toNat : Int), .int .u32 (p_1.Count.toNat : Int)], .int .u32 (p_5.toNat : Int), .int .u32 (p_6.toNat : Int), .int .u32 (p_7.toNat : Int), .slice aa_9 na_9 ca_9] [] H (fun u K' H' => ∃ ao0 : Option Addr, ∃ n0 : Nat, ∃ cap0 : Nat, ∃ K0 : Own, ∃ ao1 : Option Addr, ∃ n1 : Nat, ∃ cap1 : Nat, ∃ K1 : Own, ∃ ao2 : Option Addr, ∃ n2 : Nat, ∃ cap2 : Nat, ∃ K2 : Own, u = .tuple #[.agg #[.slice ao0 n0 cap0, .slice ao1 n1 cap1, .slice ao2 n2 cap2, .int .u32 (r.1.Epoch.toNat : Int), .int .u32 (r.1.Count.toNat : Int)], .agg #[.int .i64 r.2.1.At, .int .u32 (r.2.1.Birth.toNat : Int), .int .u32 (r.2.1.Iv.toNat : Int), .int .u32 (r.2.1.Tag.toNat : Int), .int .u32 (r.2.1.Sum.toNat : Int)], .int .i64 r.2.2] ∧ K' = [K0, K1, K2] ∧ RowOf (New H H') (RSl RU8 1) 0 23 1 (.slice ao0 n0 cap0) r.1.Disk.Blocks K0 ∧ (∀ p ∈ K0, p.1 ∉ ids (List.flatten [])) ∧ RowOf (New H H') R_Write 0 80 2 (.slice ao1 n1 cap1) r.1.Disk.Waits K1 ∧ (∀ p ∈ K1, p.1 ∉ ids (List.flatten [])) ∧ RowOf (New H H') RU8 0 5 1 (.slice ao2 n2 cap2) r.1.Space K2 ∧ (∀ p ∈ K2, p.1 ∉ ids (List.flatten [])) ∧ True) := by
 refine Does.enterL (vs := [.agg #[.slice aa_2 na_2 ca_2, .slice aa_3 na_3 ca_3, .slice aa_4 na_4 ca_4, .int .u32 (p_1.Epoch.toNat : Int), .int .u32 (p_1.Count.toNat : Int)], .int .u32 (p_5.toNat : Int), .int .u32 (p_6.toNat : Int), .int .u32 (p_7.toNat : Int), .slice aa_9 na_9 ca_9]) (l := [(0, .agg #[.slice aa_2 na_2 ca_2, .slice aa_3 na_3 ca_3, .slice aa_4 na_4 ca_4, .int .u32 (p_1.Epoch.toNat : Int), .int .u32 (p_1.Count.toNat : Int)]), (1, .int .u32 (p_5.toNat : Int)), (2, .int .u32 (p_6.toNat : Int)), (3, .int .u32 (p_7.toNat : Int)), (4, .slice aa_9 na_9 ca_9)]) Try.func18 rfl rfl ⟨rfl, rfl, rfl, rfl, rfl, trivial⟩ (fun w hlt => ?_)
 unfold ref13_Raw at hx
 refine ZF (ZB (YF rfl rfl (fun b_10 hb_10 => JL.alloc Z46 rfl (fun b_11 hb_11 => JL.alloc Z50 rfl (fun b_12 hb_12 => ZA rfl rfl (ZE rfl) (ZD (ZC (ZF (ZF (ZB (ZA rfl rfl (Zu 2 (vs := [.slice aa_2 na_2 ca_2, .slice aa_3 na_3 ca_3, .slice aa_4 na_4 ca_4, .int .u32 (p_1.Epoch.toNat : Int), .int .u32 (p_1.Count.toNat : Int)]) S46 rfl rfl rfl rfl) ?_)))))))))))
 obtain ⟨x_13, hr_14, hx⟩ := ZJ hx
 refine ZS (vs := [_]) (args := [_]) (K := []) (rst := [_, _, _]) E35 rfl rfl rfl ZI (ref13_May_ok p_1 _ ha_2 ha_3 ha_4 _ hr_14) rfl (fun u_15 Ku_15 Hu_15 hRu_15 hleu_15 hfu_15 => ?_)
 obtain ⟨rfl, rfl, rfl, -⟩ := hRu_15
 refine ZA rfl rfl (R.not rfl) (ZD (ZC (ZW rfl (fun c_16 => ?_) (fun c_16 => ?_))))
 ·
  replace hx := ZX c_16 hx
  refine ZF (ZB (ZA rfl rfl (Z7 (vs := []) (cs := [.slice none 0 0, .slice none 0 0, .slice none 0 0, .int .u32 ((0 : UInt32).toNat : Int), .int .u32 ((0 : UInt32).toNat : Int)]) Z46 B46 rfl rfl rfl) (ZA rfl rfl (Z7 (vs := []) (cs := [.int .i64 0, .int .u32 ((0 : UInt32).toNat : Int), .int .u32 ((0 : UInt32).toNat : Int), .int .u32 ((0 : UInt32).toNat : Int), .int .u32 ((0 : UInt32).toNat : Int)]) Z50 B50 rfl rfl rfl) (ZQ 1 S46 rfl rfl rfl rfl rfl (Nat.le_of_ble_eq_true rfl) (ZQ 0 S50 rfl rfl rfl rfl rfl (Nat.le_of_ble_eq_true rfl) (ZA rfl rfl (ZE rfl) (ZD (ZC (ZT (ZV (Zl ?_)))))))))))
  refine Zl (Zl (ZR (vs := [.agg #[.slice none 0 0, .slice none 0 0, .slice none 0 0, .int .u32 ((0 : UInt32).toNat : Int), .int .u32 ((0 : UInt32).toNat : Int)], .agg #[.int .i64 0, .int .u32 ((0 : UInt32).toNat : Int), .int .u32 ((0 : UInt32).toNat : Int), .int .u32 ((0 : UInt32).toNat : Int), .int .u32 ((0 : UInt32).toNat : Int)], .int .i64 8]) (K := [_, _, _]) (rst := [_, _, _]) (.inl rfl) rfl rfl (Zb 4 rfl rfl S46 (Zb 3 rfl rfl S50 (ZN rfl rfl))) (ZK 0 rfl (ZK 0 rfl (ZK 0 rfl ZI))) ?_))
  obtain rfl := Option.some.inj hx
  exact ⟨none, 0, 0, [], none, 0, 0, [], none, 0, 0, [], rfl, rfl, (ZU _ _ _ _ _), (fun p hp => by cases hp), (ZU _ _ _ _ _), (fun p hp => by cases hp), (ZU _ _ _ _ _), (fun p hp => by cases hp), trivial⟩
 ·
  replace hx := ZY c_16 hx
  refine JC.skip (ZC (ZF (ZF (ZB (ZA rfl rfl (ZG rfl) (ZA rfl rfl (R.lss32 (a := p_5) (b := (1 : UInt32)) rfl rfl) (ZA rfl rfl (ZG rfl) (Zj (t := 23) rfl (fun c_17 => ?_) (fun c_17 => ?_)))))))))
  ·
   replace hx := ZX c_17 hx
   refine ZH rfl rfl rfl rfl rfl (ZH rfl rfl rfl rfl rfl (ZA rfl rfl (Zd rfl rfl) (ZD (ZC (Z5 rfl (ZF (ZB (ZA rfl rfl (Z7 (vs := []) (cs := [.slice none 0 0, .slice none 0 0, .slice none 0 0, .int .u32 ((0 : UInt32).toNat : Int), .int .u32 ((0 : UInt32).toNat : Int)]) Z46 B46 rfl rfl rfl) (ZA rfl rfl (Z7 (vs := []) (cs := [.int .i64 0, .int .u32 ((0 : UInt32).toNat : Int), .int .u32 ((0 : UInt32).toNat : Int), .int .u32 ((0 : UInt32).toNat : Int), .int .u32 ((0 : UInt32).toNat : Int)]) Z50 B50 rfl rfl rfl) (ZQ 1 S46 rfl rfl rfl rfl rfl (Nat.le_of_ble_eq_true rfl) (ZQ 0 S50 rfl rfl rfl rfl rfl (Nat.le_of_ble_eq_true rfl) ?_)))))))))))
   refine ZA rfl rfl (ZE rfl) (ZD (ZC (ZT (ZV (Zl (Zl (Zl (ZR (vs := [.agg #[.slice none 0 0, .slice none 0 0, .slice none 0 0, .int .u32 ((0 : UInt32).toNat : Int), .int .u32 ((0 : UInt32).toNat : Int)], .agg #[.int .i64 0, .int .u32 ((0 : UInt32).toNat : Int), .int .u32 ((0 : UInt32).toNat : Int), .int .u32 ((0 : UInt32).toNat : Int), .int .u32 ((0 : UInt32).toNat : Int)], .int .i64 2]) (K := [_, _, _]) (rst := [_, _, _]) (.inl rfl) rfl rfl (Zb 4 rfl rfl S46 (Zb 3 rfl rfl S50 (ZN rfl rfl))) (ZK 0 rfl (ZK 0 rfl (ZK 0 rfl ZI))) ?_))))))))
   obtain rfl := Option.some.inj hx
   exact ⟨none, 0, 0, [], none, 0, 0, [], none, 0, 0, [], rfl, rfl, (ZU _ _ _ _ _), (fun p hp => by cases hp), (ZU _ _ _ _ _), (fun p hp => by cases hp), (ZU _ _ _ _ _), (fun p hp => by cases hp), trivial⟩
  ·
   replace hx := ZY c_17 hx
   refine ZL rfl rfl rfl (ZA rfl rfl (ZG rfl) (ZL rfl rfl rfl (ZA rfl rfl (R.gtr32 (a := p_5) (b := (16777215 : UInt32)) rfl rfl) (ZA rfl rfl (Zm rfl rfl) (ZD (ZC (ZW rfl (fun c_18 => ?_) (fun c_18 => ?_))))))))
   ·
    replace hx := ZX c_18 hx
    refine ZF (ZB (ZA rfl rfl (Z7 (vs := []) (cs := [.slice none 0 0, .slice none 0 0, .slice none 0 0, .int .u32 ((0 : UInt32).toNat : Int), .int .u32 ((0 : UInt32).toNat : Int)]) Z46 B46 rfl rfl rfl) (ZA rfl rfl (Z7 (vs := []) (cs := [.int .i64 0, .int .u32 ((0 : UInt32).toNat : Int), .int .u32 ((0 : UInt32).toNat : Int), .int .u32 ((0 : UInt32).toNat : Int), .int .u32 ((0 : UInt32).toNat : Int)]) Z50 B50 rfl rfl rfl) (ZQ 1 S46 rfl rfl rfl rfl rfl (Nat.le_of_ble_eq_true rfl) (ZQ 0 S50 rfl rfl rfl rfl rfl (Nat.le_of_ble_eq_true rfl) (ZA rfl rfl (ZE rfl) (ZD (ZC (ZT (ZV (Zl ?_)))))))))))
    refine Zl (Zl (ZR (vs := [.agg #[.slice none 0 0, .slice none 0 0, .slice none 0 0, .int .u32 ((0 : UInt32).toNat : Int), .int .u32 ((0 : UInt32).toNat : Int)], .agg #[.int .i64 0, .int .u32 ((0 : UInt32).toNat : Int), .int .u32 ((0 : UInt32).toNat : Int), .int .u32 ((0 : UInt32).toNat : Int), .int .u32 ((0 : UInt32).toNat : Int)], .int .i64 2]) (K := [_, _, _]) (rst := [_, _, _]) (.inl rfl) rfl rfl (Zb 4 rfl rfl S46 (Zb 3 rfl rfl S50 (ZN rfl rfl))) (ZK 0 rfl (ZK 0 rfl (ZK 0 rfl ZI))) ?_))
    obtain rfl := Option.some.inj hx
    exact ⟨none, 0, 0, [], none, 0, 0, [], none, 0, 0, [], rfl, rfl, (ZU _ _ _ _ _), (fun p hp => by cases hp), (ZU _ _ _ _ _), (fun p hp => by cases hp), (ZU _ _ _ _ _), (fun p hp => by cases hp), trivial⟩
   ·
    replace hx := ZY c_18 hx
    refine JC.skip (ZC (ZF (ZF (ZB (ZA rfl rfl (ZG rfl) (ZA rfl rfl (Zk U23 rfl (IsSlice.long ha_9)) (ZA rfl rfl (YA rfl rfl) (ZD (ZC (ZW rfl (fun c_19 => ?_) (fun c_19 => ?_)))))))))))
    ·
     replace hx := ZX c_19 hx
     refine ZF (ZB (ZA rfl rfl (Z7 (vs := []) (cs := [.slice none 0 0, .slice none 0 0, .slice none 0 0, .int .u32 ((0 : UInt32).toNat : Int), .int .u32 ((0 : UInt32).toNat : Int)]) Z46 B46 rfl rfl rfl) (ZA rfl rfl (Z7 (vs := []) (cs := [.int .i64 0, .int .u32 ((0 : UInt32).toNat : Int), .int .u32 ((0 : UInt32).toNat : Int), .int .u32 ((0 : UInt32).toNat : Int), .int .u32 ((0 : UInt32).toNat : Int)]) Z50 B50 rfl rfl rfl) (ZQ 1 S46 rfl rfl rfl rfl rfl (Nat.le_of_ble_eq_true rfl) (ZQ 0 S50 rfl rfl rfl rfl rfl (Nat.le_of_ble_eq_true rfl) (ZA rfl rfl (ZE rfl) (ZD (ZC (ZT (ZV (Zl ?_)))))))))))
     refine Zl (Zl (ZR (vs := [.agg #[.slice none 0 0, .slice none 0 0, .slice none 0 0, .int .u32 ((0 : UInt32).toNat : Int), .int .u32 ((0 : UInt32).toNat : Int)], .agg #[.int .i64 0, .int .u32 ((0 : UInt32).toNat : Int), .int .u32 ((0 : UInt32).toNat : Int), .int .u32 ((0 : UInt32).toNat : Int), .int .u32 ((0 : UInt32).toNat : Int)], .int .i64 3]) (K := [_, _, _]) (rst := [_, _, _]) (.inl rfl) rfl rfl (Zb 4 rfl rfl S46 (Zb 3 rfl rfl S50 (ZN rfl rfl))) (ZK 0 rfl (ZK 0 rfl (ZK 0 rfl ZI))) ?_))
     obtain rfl := Option.some.inj hx
     exact ⟨none, 0, 0, [], none, 0, 0, [], none, 0, 0, [], rfl, rfl, (ZU _ _ _ _ _), (fun p hp => by cases hp), (ZU _ _ _ _ _), (fun p hp => by cases hp), (ZU _ _ _ _ _), (fun p hp => by cases hp), trivial⟩
    ·
     replace hx := ZY c_19 hx
     refine JC.skip (ZC (ZF (ZB (ZA rfl rfl (Zu 2 (vs := [.slice aa_2 na_2 ca_2, .slice aa_3 na_3 ca_3, .slice aa_4 na_4 ca_4, .int .u32 (p_1.Epoch.toNat : Int), .int .u32 (p_1.Count.toNat : Int)]) S46 rfl rfl rfl rfl) (ZA rfl rfl (ZG rfl) (ZA rfl rfl (ZG rfl) (ZA rfl rfl (ZG rfl) (ZA rfl rfl (ZG rfl) ?_))))))))
     obtain ⟨x_20, hr_21, hx⟩ := ZJ hx
     refine ZS (vs := [_, _, _, _, _]) (args := [_, _, _, _, _]) (K := []) (rst := [_, _, _]) E37 rfl rfl rfl ZI (ref13_Put_ok p_1 p_5 p_6 p_7 p_8 _ ha_2 ha_3 ha_4 ha_9 _ hr_21) rfl (fun u_22 Ku_22 Hu_22 hRu_22 hleu_22 hfu_22 => ?_)
     obtain ⟨ar_23, nr_23, cr_23, Kr_23, ar_24, nr_24, cr_24, Kr_24, ar_25, nr_25, cr_25, Kr_25, rfl, rfl, hr_23, hnewr_23, hr_24, hnewr_24, hr_25, hnewr_25, -⟩ := hRu_22
     replace hr_23 := (RowOf.base (RowOf.mono (RSl.mono RU8.mono) (New.call (Hle.refl _)) hr_23) (fun p hp => (hfu_22 p (Zh 0 rfl hp)).resolve_left (hnewr_23 p hp)))
     replace hr_24 := (RowOf.base (RowOf.mono R_Write.mono (New.call (Hle.refl _)) hr_24) (fun p hp => (hfu_22 p (Zh 1 rfl hp)).resolve_left (hnewr_24 p hp)))
     replace hr_25 := (RowOf.base (Zf (H2 := New H Hu_22) RU8.const hr_25) (fun p hp => (hfu_22 p (Zh 2 rfl hp)).resolve_left (hnewr_25 p hp)))
     refine ZA rfl rfl (ZG rfl) (ZA rfl rfl (R.extract rfl rfl) (ZA rfl rfl (R.extract rfl rfl) (ZA rfl rfl (R.extract rfl rfl) (JL.alloc Z46 rfl (fun b_26 hb_26 => JL.alloc Z50 rfl (fun b_27 hb_27 => ZQ 1 S46 rfl rfl rfl rfl rfl (Nat.le_of_ble_eq_true rfl) (ZQ 0 S50 rfl rfl rfl rfl rfl (Nat.le_of_ble_eq_true rfl) (ZA rfl rfl (ZE rfl) (ZD (ZC (ZF ?_)))))))))))
     refine ZF (ZB (ZA rfl rfl (ZG rfl) (ZA rfl rfl (R.not rfl) (ZD (ZC (ZW rfl (fun c_28 => ?_) (fun c_28 => ?_)))))))
     ·
      replace hx := ZX c_28 hx
      refine ZF (ZB (ZA rfl rfl (Z7 (vs := []) (cs := [.slice none 0 0, .slice none 0 0, .slice none 0 0, .int .u32 ((0 : UInt32).toNat : Int), .int .u32 ((0 : UInt32).toNat : Int)]) Z46 B46 rfl rfl rfl) (ZA rfl rfl (Z7 (vs := []) (cs := [.int .i64 0, .int .u32 ((0 : UInt32).toNat : Int), .int .u32 ((0 : UInt32).toNat : Int), .int .u32 ((0 : UInt32).toNat : Int), .int .u32 ((0 : UInt32).toNat : Int)]) Z50 B50 rfl rfl rfl) (ZQ 6 S46 rfl rfl rfl rfl rfl (Nat.le_of_ble_eq_true rfl) (ZQ 5 S50 rfl rfl rfl rfl rfl (Nat.le_of_ble_eq_true rfl) (ZA rfl rfl (ZE rfl) (ZD (ZC (ZT (ZV (Zl ?_)))))))))))
      refine Zl (Zl (ZR (vs := [.agg #[.slice none 0 0, .slice none 0 0, .slice none 0 0, .int .u32 ((0 : UInt32).toNat : Int), .int .u32 ((0 : UInt32).toNat : Int)], .agg #[.int .i64 0, .int .u32 ((0 : UInt32).toNat : Int), .int .u32 ((0 : UInt32).toNat : Int), .int .u32 ((0 : UInt32).toNat : Int), .int .u32 ((0 : UInt32).toNat : Int)], .int .i64 9]) (K := [_, _, _]) (rst := [_, _, _, _, _, _, _, _]) (.inl rfl) rfl rfl (Zb 9 rfl rfl S46 (Zb 8 rfl rfl S50 (ZN rfl rfl))) (ZK 0 rfl (ZK 0 rfl (ZK 0 rfl ZI))) ?_))
      obtain rfl := Option.some.inj hx
      exact ⟨none, 0, 0, [], none, 0, 0, [], none, 0, 0, [], rfl, rfl, (ZU _ _ _ _ _), (fun p hp => by cases hp), (ZU _ _ _ _ _), (fun p hp => by cases hp), (ZU _ _ _ _ _), (fun p hp => by cases hp), trivial⟩
     ·
      replace hx := ZY c_28 hx
      refine JC.skip (ZC (ZF (JC.drawB (so := [(_, []), (_, []), (_, []), (_, []), (_, []), (_, [3]), (_, [2]), (_, [])]) 5 rfl Mixed ⟨by kernel_rfl, by kernel_rfl⟩ (kept0 [0, 1, 2, 3, 4, 5, 6, 7] rfl) ?_)))
      refine JB.val (i := 0) [] rfl (Zu 1 (vs := [.slice ar_23 nr_23 cr_23, .slice ar_24 nr_24 cr_24, .slice ar_25 nr_25 cr_25, .int .u32 (x_20.1.Epoch.toNat : Int), .int .u32 (x_20.1.Count.toNat : Int)]) S46 rfl rfl rfl rfl) ?_
      refine JB.val (i := 1) [] rfl (Zu 0 (vs := [.int .i64 x_20.2.1.At, .int .u32 (x_20.2.1.Birth.toNat : Int), .int .u32 (x_20.2.1.Iv.toNat : Int), .int .u32 (x_20.2.1.Tag.toNat : Int), .int .u32 (x_20.2.1.Sum.toNat : Int)]) S50 rfl rfl rfl rfl) ?_
      refine JB.one (i := 2) (by kernel_rfl) ?_
      refine JOB.step rfl trivial rfl (fun K hK => ZQ 6 S46 rfl rfl rfl rfl rfl (Nat.le_of_ble_eq_true rfl) (ZD (hK _ _ _ (Hle.refl _) (kept1 [false, false, false, false, false, false, true, false] [0, 1, 2, 3, 4, 5, 0, 7] (by kernel_rfl) rfl) ?_)))
      refine JB.one (i := 3) (by kernel_rfl) ?_
      refine JOB.step rfl trivial rfl (fun K hK => ZQ 5 S50 rfl rfl rfl rfl rfl (Nat.le_of_ble_eq_true rfl) (ZD (hK _ _ _ (Hle.refl _) (kept1 [false, false, false, false, false, true, true, false] [0, 1, 2, 3, 4, 0, 0, 7] (by kernel_rfl) rfl) ?_)))
      refine JB.val (i := 4) [] rfl (ZE rfl) ?_
      refine JB.doneN (by kernel_rfl) ?_
      refine ZC (ZT (ZR (vs := [.agg #[.slice ar_23 nr_23 cr_23, .slice ar_24 nr_24 cr_24, .slice ar_25 nr_25 cr_25, .int .u32 (x_20.1.Epoch.toNat : Int), .int .u32 (x_20.1.Count.toNat : Int)], .agg #[.int .i64 x_20.2.1.At, .int .u32 (x_20.2.1.Birth.toNat : Int), .int .u32 (x_20.2.1.Iv.toNat : Int), .int .u32 (x_20.2.1.Tag.toNat : Int), .int .u32 (x_20.2.1.Sum.toNat : Int)], .int .i64 0]) (K := [_, _, _]) (rst := [_, _, _, _, _]) (.inl rfl) rfl rfl (Zb 6 rfl rfl S46 (Zb 5 rfl rfl S50 (ZN rfl rfl))) (ZK 2 rfl (ZK 2 rfl (ZK 2 rfl ZI))) ?_))
      obtain rfl := Option.some.inj hx
      exact ⟨ar_23, nr_23, cr_23, Kr_23, ar_24, nr_24, cr_24, Kr_24, ar_25, nr_25, cr_25, Kr_25, rfl, rfl, (Zg (Nat.zero_le _) hr_23), (Zx hr_23 hlt), (Zg (Nat.zero_le _) hr_24), (Zx hr_24 hlt), (Zg (Nat.zero_le _) hr_25), (Zx hr_25 hlt), trivial⟩

set_option maxHeartbeats 8000000 in
theorem ref13_Lay_ok (p_1 : Store) (p_5 : UInt32) (p_6 : List UInt8) (H : Heaplet) {aa_2 : Option Addr} {na_2 : Nat} {ca_2 : Nat} {aa_3 : Option Addr} {na_3 : Nat} {ca_3 : Nat} {aa_4 : Option Addr} {na_4 : Nat} {ca_4 : Nat} {aa_7 : Option Addr} {na_7 : Nat} {ca_7 : Nat} (ha_2 : IsSlice H (RSl RU8 1) 1 (.slice aa_2 na_2 ca_2) p_1.Disk.Blocks) (ha_3 : IsSlice H R_Write 2 (.slice aa_3 na_3 ca_3) p_1.Disk.Waits) (ha_4 : IsSlice H RU8 1 (.slice aa_4 na_4 ca_4) p_1.Space) (ha_7 : IsSlice H RU8 1 (.slice aa_7 na_7 ca_7) p_6) (r : Store × Ptr × Int) (hx : ref13_Lay p_1 p_5 p_6 = some r) :
  Does Try.prog 14 #[.agg #[.slice aa_2 na_2 ca_2, .slice aa_3 na_3 ca_3, .slice aa_4 na_4 ca_4, .int .u32 (p_1.Epoch.toNat : Int), .int .u32 (p_1.Count.toNat : Int)], .int .u32 (p_5.toNat : Int), .slice aa_7 na_7 ca_7] [] H (fun u K' H' => ∃ ao0 : Option Addr, ∃ n0 : Nat, ∃ cap0 : Nat, ∃ K0 : Own, ∃ ao1 : Option Addr, ∃ n1 : Nat, ∃ cap1 : Nat, ∃ K1 : Own, ∃ ao2 : Option Addr, ∃ n2 : Nat, ∃ cap2 : Nat, ∃ K2 : Own, u = .tuple #[.agg #[.slice ao0 n0 cap0, .slice ao1 n1 cap1, .slice ao2 n2 cap2, .int .u32 (r.1.Epoch.toNat : Int), .int .u32 (r.1.Count.toNat : Int)], .agg #[.int .i64 r.2.1.At, .int .u32 (r.2.1.Birth.toNat : Int), .int .u32 (r.2.1.Iv.toNat : Int), .int .u32 (r.2.1.Tag.toNat : Int), .int .u32 (r.2.1.Sum.toNat : Int)], .int .i64 r.2.2] ∧ K' = [K0, K1, K2] ∧ RowOf (New H H') (RSl RU8 1) 0 23 1 (.slice ao0 n0 cap0) r.1.Disk.Blocks K0 ∧ (∀ p ∈ K0, p.1 ∉ ids (List.flatten [])) ∧ RowOf (New H H') R_Write 0 80 2 (.slice ao1 n1 cap1) r.1.Disk.Waits K1 ∧ (∀ p ∈ K1, p.1 ∉ ids (List.flatten [])) ∧ RowOf (New H H') RU8 0 5 1 (.slice ao2 n2 cap2) r.1.Space K2 ∧ (∀ p ∈ K2, p.1 ∉ ids (List.flatten [])) ∧ True) := by
 refine Does.enterL (vs := [.agg #[.slice aa_2 na_2 ca_2, .slice aa_3 na_3 ca_3, .slice aa_4 na_4 ca_4, .int .u32 (p_1.Epoch.toNat : Int), .int .u32 (p_1.Count.toNat : Int)], .int .u32 (p_5.toNat : Int), .slice aa_7 na_7 ca_7]) (l := [(0, .agg #[.slice aa_2 na_2 ca_2, .slice aa_3 na_3 ca_3, .slice aa_4 na_4 ca_4, .int .u32 (p_1.Epoch.toNat : Int), .int .u32 (p_1.Count.toNat : Int)]), (1, .int .u32 (p_5.toNat : Int)), (2, .slice aa_7 na_7 ca_7)]) Try.func14 rfl rfl ⟨rfl, rfl, rfl, trivial⟩ (fun w hlt => ?_)
 unfold ref13_Lay at hx
 refine ZF (ZB (YF rfl rfl (fun b_8 hb_8 => JL.alloc Z46 rfl (fun b_9 hb_9 => JL.alloc Z50 rfl (fun b_10 hb_10 => ZA rfl rfl (ZE rfl) (ZD (ZC (ZF (ZB (ZA rfl rfl (Zu 2 (vs := [.slice aa_2 na_2 ca_2, .slice aa_3 na_3 ca_3, .slice aa_4 na_4 ca_4, .int .u32 (p_1.Epoch.toNat : Int), .int .u32 (p_1.Count.toNat : Int)]) S46 rfl rfl rfl rfl) (ZA rfl rfl (ZG rfl) ?_)))))))))))
 refine ZA rfl rfl (ZG rfl) ?_
 obtain ⟨x_11, hr_12, hx⟩ := ZJ hx
 refine ZS (vs := [_, _, _, _, _]) (args := [_, _, _, _, _]) (K := []) (rst := [_, _, _]) E18 rfl rfl rfl ZI (ref13_Raw_ok p_1 p_5 (0 : UInt32) (0 : UInt32) p_6 _ ha_2 ha_3 ha_4 ha_7 _ hr_12) rfl (fun u_13 Ku_13 Hu_13 hRu_13 hleu_13 hfu_13 => ?_)
 obtain ⟨ar_14, nr_14, cr_14, Kr_14, ar_15, nr_15, cr_15, Kr_15, ar_16, nr_16, cr_16, Kr_16, rfl, rfl, hr_14, hnewr_14, hr_15, hnewr_15, hr_16, hnewr_16, -⟩ := hRu_13
 replace hr_14 := (RowOf.base (RowOf.mono (RSl.mono RU8.mono) (New.call (Hle.refl _)) hr_14) (fun p hp => (hfu_13 p (Zh 0 rfl hp)).resolve_left (hnewr_14 p hp)))
 replace hr_15 := (RowOf.base (RowOf.mono R_Write.mono (New.call (Hle.refl _)) hr_15) (fun p hp => (hfu_13 p (Zh 1 rfl hp)).resolve_left (hnewr_15 p hp)))
 replace hr_16 := (RowOf.base (Zf (H2 := New H Hu_13) RU8.const hr_16) (fun p hp => (hfu_13 p (Zh 2 rfl hp)).resolve_left (hnewr_16 p hp)))
 refine ZA rfl rfl (R.extract rfl rfl) (ZA rfl rfl (R.extract rfl rfl) (ZA rfl rfl (R.extract rfl rfl) (ZQ 4 S46 rfl rfl rfl rfl rfl (Nat.le_of_ble_eq_true rfl) (ZQ 3 S50 rfl rfl rfl rfl rfl (Nat.le_of_ble_eq_true rfl) (ZA rfl rfl (ZE rfl) (ZD (ZC (ZT (ZR (vs := [.agg #[.slice ar_14 nr_14 cr_14, .slice ar_15 nr_15 cr_15, .slice ar_16 nr_16 cr_16, .int .u32 (x_11.1.Epoch.toNat : Int), .int .u32 (x_11.1.Count.toNat : Int)], .agg #[.int .i64 x_11.2.1.At, .int .u32 (x_11.2.1.Birth.toNat : Int), .int .u32 (x_11.2.1.Iv.toNat : Int), .int .u32 (x_11.2.1.Tag.toNat : Int), .int .u32 (x_11.2.1.Sum.toNat : Int)], .int .i64 x_11.2.2]) (K := [_, _, _]) (rst := [_, _, _]) (.inl rfl) rfl rfl (Zb 4 rfl rfl S46 (Zb 3 rfl rfl S50 (ZN rfl rfl))) (ZK 0 rfl (ZK 0 rfl (ZK 0 rfl ZI))) ?_)))))))))
 obtain rfl := Option.some.inj hx
 exact ⟨ar_14, nr_14, cr_14, Kr_14, ar_15, nr_15, cr_15, Kr_15, ar_16, nr_16, cr_16, Kr_16, rfl, rfl, (Zg (Nat.zero_le _) hr_14), (Zx hr_14 hlt), (Zg (Nat.zero_le _) hr_15), (Zx hr_15 hlt), (Zg (Nat.zero_le _) hr_16), (Zx hr_16 hlt), trivial⟩

set_option maxHeartbeats 8000000 in
theorem code_Put_ok (p_1 : Int) (p_2 : Int) (H : Heaplet) (r : List UInt8 × Int) (hx : code_Put p_1 p_2 = some r) :
  Does Try.prog 66 #[.int .i64 p_1, .int .i64 p_2] [] H (fun u K' H' => ∃ ao0 : Option Addr, ∃ n0 : Nat, ∃ cap0 : Nat, ∃ K0 : Own, u = .tuple #[.slice ao0 n0 cap0, .int .i64 r.2] ∧ K' = [K0] ∧ H = H' ∧ RowOf (New H H) RU8 0 5 1 (.slice ao0 n0 cap0) r.1 K0 ∧ (∀ p ∈ K0, p.1 ∉ ids (List.flatten [])) ∧ True) := by
 refine Does.enterL (vs := [.int .i64 p_1, .int .i64 p_2]) (l := [(0, .int .i64 p_1), (1, .int .i64 p_2)]) Try.func66 rfl rfl ⟨rfl, rfl, trivial⟩ (fun w hlt => ?_)
 unfold code_Put at hx
 refine ZF (ZB (ZA rfl rfl (ZE rfl) (ZA rfl rfl (ZE rfl) (ZD (ZC (ZF (ZF (ZB (ZA rfl rfl (ZG rfl) ?_)))))))))
 obtain ⟨x_3, hr_4, hx⟩ := ZJ hx
 refine ZS (vs := [_]) (args := [_]) (K := []) (rst := []) E48 rfl rfl rfl ZI (code_sized_ok p_2 _ _ hr_4) rfl (fun u_5 Ku_5 Hu_5 hRu_5 hleu_5 hfu_5 => ?_)
 obtain ⟨rfl, rfl, rfl, -⟩ := hRu_5
 refine ZA rfl rfl (R.not rfl) (ZA rfl rfl (ZG rfl) (Zj (t := 10) rfl (fun c_6 => ?_) (fun c_6 => ?_)))
 ·
  replace hx := ZX c_6 hx
  refine ZH rfl rfl rfl rfl rfl (ZH rfl rfl rfl rfl rfl (ZA rfl rfl (Zd rfl rfl) (ZA rfl rfl (ZG rfl) (ZH rfl rfl rfl rfl rfl (ZH rfl rfl rfl rfl rfl (ZH rfl rfl rfl rfl rfl (ZH rfl rfl rfl rfl rfl (ZH rfl rfl rfl rfl rfl (ZA rfl rfl (Zd rfl rfl) (ZD (ZC ?_)))))))))))
  refine Z5 rfl (ZF (ZB (ZA rfl rfl (ZE rfl) (ZA rfl rfl (ZE rfl) (ZD (ZC (ZT (ZV (Zl (ZR (vs := [.slice none 0 0, .int .i64 2]) (K := [_]) (rst := []) (.inl rfl) rfl rfl (ZN rfl (ZN rfl rfl)) (ZK 0 rfl ZI) ?_))))))))))
  obtain rfl := Option.some.inj hx
  exact ⟨none, 0, 0, [], rfl, rfl, rfl, (ZU _ _ _ _ _), (fun p hp => by cases hp), trivial⟩
 ·
  replace hx := ZY c_6 hx
  refine ZL rfl rfl rfl (ZA rfl rfl (ZG rfl) (ZL rfl rfl rfl (ZA rfl rfl (Zy rfl rfl) (ZA rfl rfl (Zm rfl rfl) (ZA rfl rfl (ZG rfl) (Zj (t := 14) rfl (fun c_7 => ?_) (fun c_7 => ?_)))))))
  ·
   replace hx := ZX c_7 hx
   refine ZH rfl rfl rfl rfl rfl (ZH rfl rfl rfl rfl rfl (ZH rfl rfl rfl rfl rfl (ZH rfl rfl rfl rfl rfl (ZH rfl rfl rfl rfl rfl (ZA rfl rfl (Zd rfl rfl) (ZD (ZC (Z5 rfl (ZF (ZB (ZA rfl rfl (ZE rfl) ?_)))))))))))
   refine ZA rfl rfl (ZE rfl) (ZD (ZC (ZT (ZV (Zl (ZR (vs := [.slice none 0 0, .int .i64 2]) (K := [_]) (rst := []) (.inl rfl) rfl rfl (ZN rfl (ZN rfl rfl)) (ZK 0 rfl ZI) ?_))))))
   obtain rfl := Option.some.inj hx
   exact ⟨none, 0, 0, [], rfl, rfl, rfl, (ZU _ _ _ _ _), (fun p hp => by cases hp), trivial⟩
  ·
   replace hx := ZY c_7 hx
   refine ZL rfl rfl rfl (ZA rfl rfl (ZG rfl) (ZL rfl rfl rfl (ZA rfl rfl (ZG rfl) (ZL rfl rfl rfl (ZA rfl rfl (R.mul_i rfl rfl) (ZL rfl rfl rfl ?_))))))
   obtain ⟨hz_8, hx⟩ := chk_some hx
   refine ZA rfl rfl (R.shl_i (n := (w64 (8 * p_2))) rfl rfl hz_8) (ZL rfl rfl rfl (ZA rfl rfl (R.geq_i rfl rfl) (ZA rfl rfl (Zm rfl rfl) (ZD (ZC (ZW rfl (fun c_9 => ?_) (fun c_9 => ?_)))))))
   ·
    replace hx := ZX c_9 hx
    refine ZF (ZB (ZA rfl rfl (ZE rfl) (ZA rfl rfl (ZE rfl) (ZD (ZC (ZT (ZV (Zl (ZR (vs := [.slice none 0 0, .int .i64 2]) (K := [_]) (rst := []) (.inl rfl) rfl rfl (ZN rfl (ZN rfl rfl)) (ZK 0 rfl ZI) ?_)))))))))
    obtain rfl := Option.some.inj hx
    exact ⟨none, 0, 0, [], rfl, rfl, rfl, (ZU _ _ _ _ _), (fun p hp => by cases hp), trivial⟩
   ·
    replace hx := ZY c_9 hx
    refine JC.skip (ZC (ZF (ZB (ZA rfl rfl (ZE rfl) (ZD (ZC (ZF ?_)))))))
    obtain ⟨t_10, ht_12, hx⟩ := ZJ hx
    refine Z4 (fun l o g => ∃ ar_17 : Option Addr, ∃ nr_17 : Nat, ∃ cr_17 : Nat, ∃ Kr_17 : Own, l = [(6, .slice ar_17 nr_17 cr_17)] ∧ o = [Kr_17] ∧ H = g ∧ RowOf (New H H) RU8 w.heap.size 5 1 (.slice ar_17 nr_17 cr_17) t_10 Kr_17) ?_ ?_
    ·
     rintro _ _ _ ⟨ar_17, nr_17, cr_17, Kr_17, rfl, rfl, rfl, hr_17⟩
     refine ZC (ZF (ZB (ZA rfl rfl (ZG rfl) (ZA rfl rfl (ZE rfl) (ZA rfl rfl (ZE rfl) (ZD (ZC (ZT (ZR (vs := [.slice ar_17 nr_17 cr_17, .int .i64 0]) (K := [_]) (rst := []) (.inl rfl) rfl rfl (ZN rfl (ZN rfl rfl)) (ZK 0 rfl ZI) ?_)))))))))
     obtain rfl := Option.some.inj hx
     exact ⟨ar_17, nr_17, cr_17, Kr_17, rfl, rfl, rfl, (Zg (Nat.zero_le _) hr_17), (Zx hr_17 hlt), trivial⟩
    ·
     have hxo_11 := hx; clear hx; have hx := ht_12; clear ht_12
     refine JC.block (JC.seg0 (Z2 (fun n l o g => ∃ s_13 : Int × List UInt8, ∃ ar_16 : Option Addr, ∃ nr_16 : Nat, ∃ cr_16 : Nat, ∃ Kr_16 : Own, l = [(0, .int .i64 s_13.1), (1, .int .i64 p_2), (6, .slice ar_16 nr_16 cr_16)] ∧ o = [Kr_16] ∧ H = g ∧ run (code_Put_l1 p_2) n s_13 = some t_10 ∧ RowOf (New H H) RU8 w.heap.size 5 1 (.slice ar_16 nr_16 cr_16) s_13.2 Kr_16) FUEL ?_ ⟨(p_1, ([] : List UInt8)), none, 0, 0, [], rfl, rfl, rfl, hx, (ZU _ _ _ _ _)⟩ ⟨rfl, rfl, rfl, trivial⟩ ?_))
     ·
      rintro _ _ _ ⟨s_13, ar_16, nr_16, cr_16, Kr_16, rfl, rfl, rfl, hn_14, hr_16⟩
      exact Zz hn_14
     ·
      rintro n_15 _ _ _ ⟨s_13, ar_16, nr_16, cr_16, Kr_16, rfl, rfl, rfl, hn_14, hr_16⟩
      clear hx; obtain ⟨oo_18, hx, hd_17⟩ := Z0 hn_14
      unfold code_Put_l1 at hx
      refine ZF (ZF (ZB (ZA rfl rfl (ZG rfl) (ZA rfl rfl (Zk U23 rfl (RowOf.long hr_16)) (ZA rfl rfl (ZG rfl) (ZA rfl rfl (Zy rfl rfl) (ZD (ZC (ZW rfl (fun c_17 => ?_) (fun c_17 => ?_))))))))))
      ·
       replace hx := ZX c_17 hx
       refine JC.skip (ZC (ZF (JC.block (ZB (ZA rfl rfl (ZG rfl) (ZA rfl rfl (ZG rfl) (ZA rfl rfl (R.cv_i64_u8 U3 U5 rfl) (JL.bslF (HF := (New H H)) (R := RU8) (ls := [u8i s_13.1]) (vs := [.int .u8 ((u8i s_13.1).toNat : Int)]) U23 I5 rfl rfl (⟨_, _, rfl, rfl, rfl, rfl⟩) RU8.one rfl rfl rfl (by simp [maxLen]) rfl (fun vr_18 Kr_18 hr_18 => ?_)))))))))
       obtain ⟨ar_18, cr_18, rfl⟩ := RowOf.val hr_18
       obtain ⟨q_19, hm_20, hl_21, hx⟩ := Z6 hx
       refine YC (HF := (New H H)) 1 U23 I5 rfl rfl hr_16 rfl (SrcF.row 0 U23 rfl hr_18) hm_20 hl_21 rfl (Nat.le_refl _) rfl (fun vr_22 Kr_22 hr_22 => ?_)
       obtain ⟨ar_22, cr_22, rfl⟩ := RowOf.val hr_22
       refine ZA rfl rfl (ZE rfl) (ZD (Zo (ZC (ZB (ZA rfl rfl (ZG rfl) (ZA rfl rfl (R.quo_i rfl rfl (by decide)) (ZA rfl rfl (ZE rfl) (ZD ?_))))))))
       replace hx := Zp hd_17 hx
       refine JN.forget 0 ?_
       exact Za ⟨(w64 (s_13.1.tdiv 256), q_19), ar_22, q_19.length, cr_22, Kr_22, rfl, rfl, rfl, hx, hr_22⟩ ⟨rfl, rfl, rfl, trivial⟩ rfl rfl
      ·
       replace hx := ZY c_17 hx
       refine Z1 (Zc ?_)
       obtain rfl := Zv hd_17 hx
       refine Zc (Zi ?_)
       exact Za ⟨ar_16, nr_16, cr_16, Kr_16, rfl, rfl, rfl, hr_16⟩ ⟨rfl, trivial⟩ rfl rfl

set_option maxHeartbeats 8000000 in
theorem cipher_pieces_ok (p_1 : List UInt8) (p_3 : UInt32) (H : Heaplet) {aa_2 : Option Addr} {na_2 : Nat} {ca_2 : Nat} (ha_2 : IsSlice H RU8 1 (.slice aa_2 na_2 ca_2) p_1) (r : (List UInt8 × List UInt8)) (hx : cipher_pieces p_1 p_3 = some r) :
  Does Try.prog 108 #[.slice aa_2 na_2 ca_2, .int .u32 (p_3.toNat : Int)] [] H (fun u K' H' => ∃ b0 : Nat, ∃ ao1 : Option Addr, ∃ n1 : Nat, ∃ cap1 : Nat, ∃ b2 : Nat, ∃ ao3 : Option Addr, ∃ n3 : Nat, ∃ cap3 : Nat, ∃ K3 : Own, u = .func (.func 123) #[] #[.pointer (some ⟨b0, 0, none⟩), .pointer (some ⟨b2, 0, none⟩)] ∧ K' = [[(b0, .cells #[.slice ao1 n1 cap1] 23 (0, 0))], [(b2, .cells #[.slice ao3 n3 cap3] 23 (0, 0))], K3] ∧ H = H' ∧ IsSlice H RU8 1 (.slice ao1 n1 cap1) r.1 ∧ RowOf (New H H) RU8 0 5 1 (.slice ao3 n3 cap3) r.2 K3 ∧ (∀ p ∈ K3, p.1 ∉ ids (List.flatten [])) ∧ True) := by
 refine Does.enterL (vs := [.slice aa_2 na_2 ca_2, .int .u32 (p_3.toNat : Int)]) (l := [(0, .slice aa_2 na_2 ca_2), (1, .int .u32 (p_3.toNat : Int))]) Try.func108 rfl rfl ⟨rfl, rfl, trivial⟩ (fun w hlt => ?_)
 unfold cipher_pieces at hx
 refine ZF (ZB (YF rfl rfl (fun b_4 hb_4 => ZA rfl rfl (ZE rfl) (ZD (ZC (ZF (ZB (ZA rfl rfl (ZG rfl) (ZA rfl rfl (R.cv_u32_i64 (a := p_3) U22 U3 rfl) ?_)))))))))
 obtain ⟨x_5, hr_6, hx⟩ := ZJ hx
 refine ZS (vs := [_, _]) (args := [_, _]) (K := []) (rst := [_]) E66 rfl rfl rfl ZI (code_Put_ok (p_3.toNat : Int) 4 _ _ hr_6) rfl (fun u_7 Ku_7 Hu_7 hRu_7 hleu_7 hfu_7 => ?_)
 obtain ⟨ar_8, nr_8, cr_8, Kr_8, rfl, rfl, rfl, hr_8, hnewr_8, -⟩ := hRu_7
 replace hr_8 := (RowOf.base (Zf (H2 := New H H) RU8.const hr_8) (fun p hp => (hfu_7 p (Zh 0 rfl hp)).resolve_left (hnewr_8 p hp)))
 refine ZA rfl rfl (ZG rfl) (ZA rfl rfl (R.extract rfl rfl) (ZA rfl rfl (R.extract rfl rfl) (JL.alloc Z23 rfl (fun b_9 hb_9 => ZQ 0 S23 rfl rfl rfl rfl rfl (Nat.le_of_ble_eq_true rfl) (ZA rfl rfl (ZE rfl) (ZD (ZC (ZF (ZB (ZA rfl rfl (R.func (vf := []) (vc := [_, _]) rfl rfl) (ZA rfl rfl (ZE rfl) ?_)))))))))))
 refine ZD (ZC (ZT (ZR (vs := [.func (.func 123) #[] #[.pointer (some ⟨b_4, 0, none⟩), .pointer (some ⟨b_9, 0, none⟩)]]) (K := [_, _, _]) (rst := []) (.inl rfl) rfl rfl (ZN rfl rfl) (ZK 2 rfl (ZK 0 rfl (ZK 0 rfl ZI))) ?_)))
 obtain rfl := Option.some.inj hx
 exact ⟨b_4, aa_2, na_2, ca_2, b_9, ar_8, nr_8, cr_8, Kr_8, rfl, rfl, rfl, ha_2, (Zg (Nat.zero_le _) hr_8), (Zx hr_8 hlt), trivial⟩

set_option maxHeartbeats 8000000 in
theorem slices_Grow_byte_ok (p_1 : Int) (H : Heaplet) (r : List UInt8) (hx : slices_Grow_byte p_1 = some r) :
  Does Try.prog 93 #[.slice none 0 0, .int .i64 p_1] [] H (fun u K' H' => ∃ ao0 : Option Addr, ∃ n0 : Nat, ∃ cap0 : Nat, ∃ K0 : Own, u = .slice ao0 n0 cap0 ∧ K' = [K0] ∧ H = H' ∧ RowOf (New H H) RU8 0 5 1 (.slice ao0 n0 cap0) r K0 ∧ (∀ p ∈ K0, p.1 ∉ ids (List.flatten [])) ∧ True) := by
 refine Does.enterL (vs := [.slice none 0 0, .int .i64 p_1]) (l := [(0, .slice none 0 0), (1, .int .i64 p_1)]) Try.func93 rfl rfl ⟨rfl, rfl, trivial⟩ (fun w hlt => ?_)
 unfold slices_Grow_byte at hx
 refine ZF (ZB (ZA rfl rfl (ZE rfl) (ZD (ZC (ZF (ZF (ZB (ZA rfl rfl (ZG rfl) (ZA rfl rfl (Zy rfl rfl) (ZD (ZC ?_)))))))))))
 refine ZW rfl (fun c_2 => ?_) (fun c_2 => ?_)
 ·
  replace hx := ZX c_2 hx
  refine ZB ?_
  cases hx
 ·
  replace hx := ZY c_2 hx
  refine JC.skip (ZC (ZF (ZF (ZB (ZA rfl rfl (ZG rfl) (ZA rfl rfl (ZG rfl) (ZA rfl rfl (R.capN ⟨_, U23⟩ rfl) (ZA rfl rfl (ZG rfl) (ZA rfl rfl (R.len U23 rfl) (ZA rfl rfl (R.sub_i rfl rfl) (ZA rfl rfl (R.sub_i rfl rfl) ?_)))))))))))
  refine ZA rfl rfl (ZE rfl) (ZD (ZC (ZF (ZB (ZA rfl rfl (ZG rfl) (ZA rfl rfl (R.gtr_i rfl rfl) (ZD (ZC ?_))))))))
  obtain ⟨t_3, ht_5, hx⟩ := ZJ hx
  refine Z4 (fun l o g => ∃ ar_16 : Option Addr, ∃ nr_16 : Nat, ∃ cr_16 : Nat, ∃ Kr_16 : Own, l = [(0, .slice ar_16 nr_16 cr_16)] ∧ o = [Kr_16] ∧ H = g ∧ RowOf (New H H) RU8 w.heap.size 5 1 (.slice ar_16 nr_16 cr_16) t_3 Kr_16) ?_ ?_
  ·
   rintro _ _ _ ⟨ar_16, nr_16, cr_16, Kr_16, rfl, rfl, rfl, hr_16⟩
   refine ZC (ZF (ZB (ZA rfl rfl (ZG rfl) (ZA rfl rfl (ZE rfl) (ZD (ZC (ZT (ZR (vs := [.slice ar_16 nr_16 cr_16]) (K := [_]) (rst := []) (.inl rfl) rfl rfl (ZN rfl rfl) (ZK 0 rfl ZI) ?_))))))))
   obtain rfl := Option.some.inj hx
   exact ⟨ar_16, nr_16, cr_16, Kr_16, rfl, rfl, rfl, (Zg (Nat.zero_le _) hr_16), (Zx hr_16 hlt), trivial⟩
  ·
   have hxo_4 := hx; clear hx; have hx := ht_5; clear ht_5
   refine ZW rfl (fun c_6 => ?_) (fun c_6 => ?_)
   ·
    replace hx := ZX c_6 hx
    refine ZB (ZA rfl rfl (ZG rfl) (ZA rfl rfl (ZG rfl) (ZA rfl rfl (R.capN ⟨_, U23⟩ rfl) (ZA rfl rfl (R.slcN U23 S5 rfl trivial ⟨_, rfl⟩ rfl) (ZA rfl rfl (ZG rfl) ?_)))))
    obtain ⟨q_9, hm_8, hc_7, hx⟩ := mks_some hx
    refine JL.appZ (HF := New H H) (R := RU8) (y := (0 : UInt8)) (n := w64 (p_1 - 0)) U23 U3 I5 rfl rfl (fun _ => rfl) RU8.one hm_8 hc_7 rfl rfl (fun vr_10 Kr_10 hr_10 => ?_)
    obtain ⟨ar_10, cr_10, rfl⟩ := RowOf.val hr_10
    refine ZA rfl rfl (ZG rfl) (ZA rfl rfl (R.len U23 rfl) ?_)
    obtain ⟨m_13, hm_14, hb_12, hx⟩ := slc_some hx
    obtain ⟨vv_11, cv_11, h1v_11, h2v_11, h3v_11, hsv_11⟩ := RowOf.pre hr_10 hm_14 hb_12
    refine ZA rfl rfl (R.slc (cap := cv_11) (a := 0) (b := 0) (c := (cv_11 : Int)) (m := q_9) (R := RU8) U23 S5 rfl rfl ⟨_, rfl⟩ (by obtain ⟨ao, n, e, _⟩ := h1v_11; exact ⟨ao, n, e, rfl⟩) ⟨hb_12.1, hb_12.2.1, h2v_11⟩ h3v_11 (.inl rfl)) ?_
    obtain ⟨av_11, cv_11', rfl⟩ := RowOf.val hsv_11
    refine ZA rfl rfl (ZE rfl) (ZD ?_)
    obtain rfl := Option.some.inj hx
    exact Za ⟨av_11, m_13.length, cv_11', Kr_10, rfl, rfl, rfl, hsv_11⟩ ⟨rfl, trivial⟩ rfl rfl
   ·
    replace hx := ZY c_6 hx
    refine JC.skip ?_
    obtain rfl := Option.some.inj hx
    refine Zl ?_
    exact Za ⟨none, 0, 0, [], rfl, rfl, rfl, (ZU _ _ _ _ _)⟩ ⟨rfl, trivial⟩ rfl rfl
end Go.Proofs.Ytebhagohhbmgoaa
