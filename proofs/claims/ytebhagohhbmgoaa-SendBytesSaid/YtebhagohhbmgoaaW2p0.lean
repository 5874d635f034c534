import Derived.Test.YtebhagohhbmgoaaT2
import Derived.Test.YtebhagohhbmgoaaOwMb
/- walks: what the code computes, function by function. -/
namespace Go.Proofs.Ytebhagohhbmgoaa
open Go.Ow Go.RowKit Go.Proofs
set_option linter.unusedVariables false
set_option linter.unusedSimpArgs false
set_option maxHeartbeats 8000000 in
theorem ref29_Great_ok (p_1 : Stream) (H : Heaplet) {aa_2 : Option Addr} {na_2 : Nat} {ca_2 : Nat} {aa_3 : Option Addr} {na_3 : Nat} {ca_3 : Nat} {aa_4 : Option Addr} {na_4 : Nat} {ca_4 : Nat} (ha_2 : IsSlice H RU8 1 (.slice aa_2 na_2 ca_2) p_1.Key) (ha_3 : IsSlice H R_Part 5 (.slice aa_3 na_3 ca_3) p_1.Parts) (ha_4 : IsSlice H RU8 1 (.slice aa_4 na_4 ca_4) p_1.Sign) (r : Bool) (hx : ref29_Great p_1 = some r) :
  Does Try.prog 5 #[.agg #[.int .u32 (p_1.Guid.toNat : Int), .int .u32 (p_1.Base.toNat : Int), .slice aa_2 na_2 ca_2, .slice aa_3 na_3 ca_3, .slice aa_4 na_4 ca_4]] [] H (fun u K' H' => u = .bool r ∧ K' = [] ∧ H = H' ∧ True) := by
 refine Does.enterL (vs := [.agg #[.int .u32 (p_1.Guid.toNat : Int), .int .u32 (p_1.Base.toNat : Int), .slice aa_2 na_2 ca_2, .slice aa_3 na_3 ca_3, .slice aa_4 na_4 ca_4]]) (l := [(0, .agg #[.int .u32 (p_1.Guid.toNat : Int), .int .u32 (p_1.Base.toNat : Int), .slice aa_2 na_2 ca_2, .slice aa_3 na_3 ca_3, .slice aa_4 na_4 ca_4])]) Try.func5 rfl rfl ⟨rfl, trivial⟩ (fun w hlt => ?_)
 unfold ref29_Great at hx
 refine ZG (ZB (JL.box rfl rfl (fun b_5 hb_5 => ZA rfl rfl (ZE rfl) (ZD (ZC (ZG (ZG (ZB (ZA rfl rfl (ZE rfl) (ZD (ZC ?_)))))))))))
 obtain ⟨t_6, ht_8, hx⟩ := ZM hx
 refine Zv (fun l o g => ∃ t_6a : Unit, l = [(1, .pointer (some ⟨b_5, 0, none⟩))] ∧ o = [[(b_5, .cells #[.int .u32 (p_1.Guid.toNat : Int), .int .u32 (p_1.Base.toNat : Int), .slice aa_2 na_2 ca_2, .slice aa_3 na_3 ca_3, .slice aa_4 na_4 ca_4] 26 (0, 0))]] ∧ H = g ∧ t_6 = .inl t_6a) ?_ ?_
 ·
  rintro _ _ _ ⟨t_6a, rfl, rfl, rfl, rfl⟩
  simp only [Sum.elim_inl] at hx
  refine ZC (ZG ?_)
  obtain ⟨t_12, ht_14, hx⟩ := ZM hx
  refine Zv (fun l o g => l = [(2, .bool t_12)] ∧ o = [] ∧ H = g) ?_ ?_
  ·
   rintro _ _ _ ⟨rfl, rfl, rfl⟩
   refine ZC (ZV (ZO (vs := [.bool t_12]) (K := []) (rst := []) (.inl rfl) rfl rfl (ZN rfl rfl) ZL ?_))
   obtain rfl := Option.some.inj hx
   exact ⟨rfl, rfl, rfl, trivial⟩
  ·
   have hxo_13 := hx; clear hx; have hx := ht_14; clear ht_14
   refine ZB (ZA rfl rfl (Zf F26_3 rfl) (ZA rfl rfl (ZU 0 S24 rfl rfl rfl) (ZA rfl rfl (Zs U24 rfl (IsSlice.long ha_3)) (ZA rfl rfl (R.gtr_i rfl rfl) (ZA rfl rfl (ZH rfl) (ZZ (t := 27) rfl (fun c_15 => ?_) (fun c_15 => ?_)))))))
   ·
    replace hx := ZP c_15 hx
    refine ZF rfl rfl rfl rfl rfl (ZF rfl rfl rfl rfl rfl (ZF rfl rfl rfl rfl rfl (ZF rfl rfl rfl rfl rfl (ZA rfl rfl (ZR rfl rfl) (ZA rfl rfl (ZH rfl) (ZF rfl rfl rfl rfl rfl (ZF rfl rfl rfl rfl rfl (ZF rfl rfl rfl rfl rfl (ZF rfl rfl rfl rfl rfl (ZA rfl rfl (ZR rfl rfl) (ZA rfl rfl (ZE rfl) ?_)))))))))))
    refine ZD ?_
    obtain rfl := Option.some.inj hx
    refine JN.forget 0 ?_
    exact ZW ⟨rfl, rfl, rfl⟩ ⟨rfl, trivial⟩ rfl rfl
   ·
    replace hx := ZQ c_15 hx
    refine ZI rfl rfl rfl (ZA rfl rfl (Zf F26_2 rfl) (ZI rfl rfl rfl (ZA rfl rfl (ZU 0 S23 rfl rfl rfl) (ZI rfl rfl rfl (ZA rfl rfl (Zs U23 rfl (IsSlice.long ha_2)) (ZI rfl rfl rfl (ZA rfl rfl (R.gtr_i rfl rfl) (ZA rfl rfl (Za rfl rfl) (ZA rfl rfl (ZH rfl) (ZZ (t := 33) rfl (fun c_16 => ?_) (fun c_16 => ?_)))))))))))
    ·
     replace hx := ZP c_16 hx
     refine ZF rfl rfl rfl rfl rfl (ZF rfl rfl rfl rfl rfl (ZF rfl rfl rfl rfl rfl (ZF rfl rfl rfl rfl rfl (ZA rfl rfl (ZR rfl rfl) (ZA rfl rfl (ZE rfl) (ZD ?_))))))
     obtain rfl := Option.some.inj hx
     refine JN.forget 0 ?_
     exact ZW ⟨rfl, rfl, rfl⟩ ⟨rfl, trivial⟩ rfl rfl
    ·
     replace hx := ZQ c_16 hx
     refine ZI rfl rfl rfl (ZA rfl rfl (Zf F26_4 rfl) (ZI rfl rfl rfl (ZA rfl rfl (ZU 0 S23 rfl rfl rfl) (ZI rfl rfl rfl (ZA rfl rfl (Zs U23 rfl (IsSlice.long ha_4)) (ZI rfl rfl rfl (ZA rfl rfl (R.gtr_i rfl rfl) (ZA rfl rfl (Za rfl rfl) (ZA rfl rfl (ZE rfl) (ZD ?_))))))))))
     obtain rfl := Option.some.inj hx
     refine JN.forget 0 ?_
     exact ZW ⟨rfl, rfl, rfl⟩ ⟨rfl, trivial⟩ rfl rfl
 ·
  have hxo_7 := hx; clear hx; have hx := ht_8; clear ht_8
  refine JC.block (JC.loopI (fun n l o g => ∃ s_9 : Nat, l = [(1, .pointer (some ⟨b_5, 0, none⟩)), (3, .int .i64 ((s_9 : Nat) : Int))] ∧ o = [[(b_5, .cells #[.int .u32 (p_1.Guid.toNat : Int), .int .u32 (p_1.Base.toNat : Int), .slice aa_2 na_2 ca_2, .slice aa_3 na_3 ca_3, .slice aa_4 na_4 ca_4] 26 (0, 0))]] ∧ H = g ∧ run (ref29_Great_l1 p_1) n s_9 = some t_6) FUEL ?_ ⟨0, rfl, rfl, rfl, hx⟩ ⟨rfl, rfl, trivial⟩ ?_)
  ·
   rintro _ _ _ ⟨s_9, rfl, rfl, rfl, hn_10⟩
   exact run_zero hn_10
  ·
   rintro n_11 _ _ _ ⟨s_9, rfl, rfl, rfl, hn_10⟩
   clear hx; obtain ⟨oo_13, hx, hd_12⟩ := run_some hn_10
   unfold ref29_Great_l1 at hx
   refine ZG (ZG (ZB (ZA rfl rfl (ZH rfl) (ZA rfl rfl (Zf F26_3 rfl) (ZA rfl rfl (ZU 0 S24 rfl rfl rfl) (ZA rfl rfl (Zs U24 rfl (IsSlice.long ha_3)) (ZA rfl rfl (Zu rfl rfl) (ZA rfl rfl (ZH rfl) (ZZ (t := 9) rfl (fun c_12 => ?_) (fun c_12 => ?_))))))))))
   ·
    replace hx := ZP c_12 hx
    refine ZI rfl rfl rfl (ZA rfl rfl (ZH rfl) (ZI rfl rfl rfl (ZA rfl rfl (Zu rfl rfl) (ZA rfl rfl (ZR rfl rfl) (ZD (ZC (ZY rfl (fun c_13 => ?_) (fun c_13 => ?_))))))))
    ·
     replace hx := ZP c_13 hx
     refine JC.skip (ZC (ZG (JC.block (ZG (ZB (ZA rfl rfl (Zf F26_3 rfl) (ZA rfl rfl (ZU 0 S24 rfl rfl rfl) (ZA rfl rfl (ZH rfl) ?_))))))))
     obtain ⟨y_14, hN_15, hx⟩ := Zo hx
     obtain ⟨b_16, o_17, cs_18, hE_19, hR_20, hl_21, hc_22⟩ := IsSlice.elem ha_3 hN_15
     obtain ⟨v_23, rfl, hs_24⟩ := hR_20
     obtain ⟨av_23, cv_23, rfl⟩ := IsSlice.val hs_24
     refine ZA rfl rfl (R.ix U24 S39 rfl rfl hE_19) (ZA rfl rfl (Zf F39_4 rfl) (ZA rfl rfl (R.ldH S23 rfl (hc_22 4 _ rfl)) (ZA rfl rfl (Zs U23 rfl (IsSlice.long hs_24)) (ZA rfl rfl (R.gtr_i rfl rfl) (ZD (ZC (ZY rfl (fun c_25 => ?_) (fun c_25 => ?_))))))))
     ·
      replace hx := ZP c_25 hx
      refine ZG (ZB (ZA rfl rfl (ZE rfl) (ZD (ZC (ZV (Zq (ZJ ?_)))))))
      obtain rfl := Zj hd_12 hx
      refine ZJ (Zq ?_)
      clear hx; have hx := hxo_7
      simp only [Sum.elim_inl, Sum.elim_inr] at hx
      refine ZJ (ZJ (ZO (vs := [.bool true]) (K := []) (rst := [_]) (.inl rfl) rfl rfl (ZN rfl rfl) ZL ?_))
      obtain rfl := Option.some.inj hx
      exact ⟨rfl, rfl, rfl, trivial⟩
     ·
      replace hx := ZQ c_25 hx
      refine JC.skip (JN.blkN (ZC (ZB (ZA rfl rfl (ZH rfl) (ZA rfl rfl (R.inc rfl rfl (of_decide_eq_true c_12) (IsSlice.lenI ha_3)) (ZA rfl rfl (ZE rfl) (ZD ?_)))))))
      replace hx := run_next hd_12 hx
      exact ZW ⟨s_9 + 1, rfl, rfl, rfl, hx⟩ ⟨rfl, rfl, trivial⟩ rfl rfl
    ·
     replace hx := ZQ c_13 hx
     refine JC.exit (Zg ?_)
     obtain rfl := Zj hd_12 hx
     refine Zg (Zl ?_)
     exact ZW ⟨(), rfl, rfl, rfl, rfl⟩ ⟨rfl, trivial⟩ rfl rfl
   ·
    replace hx := ZQ c_12 hx
    refine ZF rfl rfl rfl rfl rfl (ZF rfl rfl rfl rfl rfl (ZA rfl rfl (Za rfl rfl) (ZD (ZC (JC.condF rfl (JC.exit (Zg ?_)))))))
    obtain rfl := Zj hd_12 hx
    refine Zg (Zl ?_)
    exact ZW ⟨(), rfl, rfl, rfl, rfl⟩ ⟨rfl, trivial⟩ rfl rfl

set_option maxHeartbeats 8000000 in
theorem send_place_ok (p_1 : Part) (H : Heaplet) {aa_2 : Option Addr} {na_2 : Nat} {ca_2 : Nat} (ha_2 : IsSlice H RU8 1 (.slice aa_2 na_2 ca_2) p_1.Data) (r : Int) (hx : send_place p_1 = some r) :
  Does Try.prog 42 #[.agg #[.int .i64 p_1.Obj, .int .i64 p_1.Index, .int .u32 (p_1.Iv.toNat : Int), .int .u32 (p_1.Tag.toNat : Int), .slice aa_2 na_2 ca_2]] [] H (fun u K' H' => u = .int .i64 r ∧ K' = [] ∧ H = H' ∧ True) := by
 refine Does.enterL (vs := [.agg #[.int .i64 p_1.Obj, .int .i64 p_1.Index, .int .u32 (p_1.Iv.toNat : Int), .int .u32 (p_1.Tag.toNat : Int), .slice aa_2 na_2 ca_2]]) (l := [(0, .agg #[.int .i64 p_1.Obj, .int .i64 p_1.Index, .int .u32 (p_1.Iv.toNat : Int), .int .u32 (p_1.Tag.toNat : Int), .slice aa_2 na_2 ca_2])]) Try.func42 rfl rfl ⟨rfl, trivial⟩ (fun w hlt => ?_)
 unfold send_place at hx
 refine ZG (ZB (JL.box rfl rfl (fun b_3 hb_3 => ZA rfl rfl (ZE rfl) (ZD (ZC (ZG (ZB (ZA rfl rfl (Zf F39_0 rfl) (ZA rfl rfl (ZU 0 S3 rfl rfl rfl) (ZA rfl rfl (R.mul_i rfl rfl) (ZA rfl rfl (Zf F39_1 rfl) ?_)))))))))))
 refine ZA rfl rfl (ZU 0 S3 rfl rfl rfl) (ZA rfl rfl (R.add_i rfl rfl) (ZA rfl rfl (R.rem_i rfl rfl (by decide)) (ZA rfl rfl (R.add_i rfl rfl) (ZA rfl rfl (ZE rfl) (ZD (ZC (ZV (ZO (vs := [.int .i64 (w64 ((w64 (p_1.Obj * 16)) + ((w64 (p_1.Index + 1)).tmod 16)))]) (K := []) (rst := [_]) (.inl rfl) rfl rfl (ZN rfl rfl) ZL ?_))))))))
 obtain rfl := Option.some.inj hx
 exact ⟨rfl, rfl, rfl, trivial⟩

set_option maxHeartbeats 8000000 in
theorem cmp_isNaN_int_ok (p_1 : Int) (H : Heaplet) (r : Bool) (hx : cmp_isNaN_int p_1 = some r) :
  Does Try.prog 64 #[.int .i64 p_1] [] H (fun u K' H' => u = .bool r ∧ K' = [] ∧ H = H' ∧ True) := by
 refine Does.enterL (vs := [.int .i64 p_1]) (l := [(0, .int .i64 p_1)]) Try.func64 rfl rfl ⟨rfl, trivial⟩ (fun w hlt => ?_)
 unfold cmp_isNaN_int at hx
 refine ZG (ZB (ZA rfl rfl (ZE rfl) (ZD (ZC (ZG (ZB (ZA rfl rfl (ZH rfl) (ZA rfl rfl (ZH rfl) (ZA rfl rfl (R.neq_i rfl rfl) (ZA rfl rfl (ZE rfl) (ZD ?_)))))))))))
 refine ZC (ZV (ZO (vs := [.bool (!decide (p_1 = p_1))]) (K := []) (rst := []) (.inl rfl) rfl rfl (ZN rfl rfl) ZL ?_))
 obtain rfl := Option.some.inj hx
 exact ⟨rfl, rfl, rfl, trivial⟩

set_option maxHeartbeats 8000000 in
theorem cmp_Compare_int_ok (p_1 : Int) (p_2 : Int) (H : Heaplet) (r : Int) (hx : cmp_Compare_int p_1 p_2 = some r) :
  Does Try.prog 41 #[.int .i64 p_1, .int .i64 p_2] [] H (fun u K' H' => u = .int .i64 r ∧ K' = [] ∧ H = H' ∧ True) := by
 refine Does.enterL (vs := [.int .i64 p_1, .int .i64 p_2]) (l := [(0, .int .i64 p_1), (1, .int .i64 p_2)]) Try.func41 rfl rfl ⟨rfl, rfl, trivial⟩ (fun w hlt => ?_)
 unfold cmp_Compare_int at hx
 refine ZG (ZB (ZA rfl rfl (ZE rfl) (ZD (ZC (ZG (ZB (ZA rfl rfl (ZH rfl) ?_)))))))
 obtain ⟨x_3, hr_4, hx⟩ := ZM hx
 refine ZT (vs := [_]) (args := [_]) (K := []) (rst := []) E64 rfl rfl rfl ZL (cmp_isNaN_int_ok p_1 _ _ hr_4) rfl (fun u_5 Ku_5 Hu_5 hRu_5 hleu_5 hfu_5 => ?_)
 obtain ⟨rfl, rfl, rfl, -⟩ := hRu_5
 refine ZA rfl rfl (ZE rfl) (ZD (ZC (ZG (ZB (ZA rfl rfl (ZH rfl) ?_)))))
 obtain ⟨x_6, hr_7, hx⟩ := ZM hx
 refine ZT (vs := [_]) (args := [_]) (K := []) (rst := []) E64 rfl rfl rfl ZL (cmp_isNaN_int_ok p_2 _ _ hr_7) rfl (fun u_8 Ku_8 Hu_8 hRu_8 hleu_8 hfu_8 => ?_)
 obtain ⟨rfl, rfl, rfl, -⟩ := hRu_8
 refine ZA rfl rfl (ZE rfl) (ZD (ZC (ZG (ZG (ZB (ZA rfl rfl (ZH rfl) (ZD (ZC (ZY rfl (fun c_9 => ?_) (fun c_9 => ?_))))))))))
 ·
  replace hx := ZP c_9 hx
  refine ZG (ZG (ZB (ZA rfl rfl (ZH rfl) (ZD (ZC (ZY rfl (fun c_10 => ?_) (fun c_10 => ?_)))))))
  ·
   replace hx := ZP c_10 hx
   refine ZG (ZB (ZA rfl rfl (ZE rfl) (ZD (ZC (ZV (ZJ (ZJ (ZO (vs := [.int .i64 0]) (K := []) (rst := []) (.inl rfl) rfl rfl (ZN rfl rfl) ZL ?_))))))))
   obtain rfl := Option.some.inj hx
   exact ⟨rfl, rfl, rfl, trivial⟩
  ·
   replace hx := ZQ c_10 hx
   refine JC.skip (ZC (ZG (ZB (ZA rfl rfl (ZE rfl) (ZD (ZC (ZV (ZJ (ZO (vs := [.int .i64 (-1)]) (K := []) (rst := []) (.inl rfl) rfl rfl (ZN rfl rfl) ZL ?_)))))))))
   obtain rfl := Option.some.inj hx
   exact ⟨rfl, rfl, rfl, trivial⟩
 ·
  replace hx := ZQ c_9 hx
  refine JC.skip (ZC (ZG (ZG (ZB (ZA rfl rfl (ZH rfl) (ZD (ZC (ZY rfl (fun c_11 => ?_) (fun c_11 => ?_)))))))))
  ·
   replace hx := ZP c_11 hx
   refine ZG (ZB (ZA rfl rfl (ZE rfl) (ZD (ZC (ZV (ZJ (ZO (vs := [.int .i64 1]) (K := []) (rst := []) (.inl rfl) rfl rfl (ZN rfl rfl) ZL ?_)))))))
   obtain rfl := Option.some.inj hx
   exact ⟨rfl, rfl, rfl, trivial⟩
  ·
   replace hx := ZQ c_11 hx
   refine JC.skip (ZC (ZG (ZG (ZB (ZA rfl rfl (ZH rfl) (ZA rfl rfl (ZH rfl) (ZA rfl rfl (Zu rfl rfl) (ZD (ZC (ZY rfl (fun c_12 => ?_) (fun c_12 => ?_)))))))))))
   ·
    replace hx := ZP c_12 hx
    refine ZG (ZB (ZA rfl rfl (ZE rfl) (ZD (ZC (ZV (ZJ (ZO (vs := [.int .i64 (-1)]) (K := []) (rst := []) (.inl rfl) rfl rfl (ZN rfl rfl) ZL ?_)))))))
    obtain rfl := Option.some.inj hx
    exact ⟨rfl, rfl, rfl, trivial⟩
   ·
    replace hx := ZQ c_12 hx
    refine JC.skip (ZC (ZG (ZG (ZB (ZA rfl rfl (ZH rfl) (ZA rfl rfl (ZH rfl) (ZA rfl rfl (R.gtr_i rfl rfl) (ZD (ZC (ZY rfl (fun c_13 => ?_) (fun c_13 => ?_)))))))))))
    ·
     replace hx := ZP c_13 hx
     refine ZG (ZB (ZA rfl rfl (ZE rfl) (ZD (ZC (ZV (ZJ (ZO (vs := [.int .i64 1]) (K := []) (rst := []) (.inl rfl) rfl rfl (ZN rfl rfl) ZL ?_)))))))
     obtain rfl := Option.some.inj hx
     exact ⟨rfl, rfl, rfl, trivial⟩
    ·
     replace hx := ZQ c_13 hx
     refine JC.skip (ZC (ZG (ZB (ZA rfl rfl (ZE rfl) (ZD (ZC (ZV (ZO (vs := [.int .i64 0]) (K := []) (rst := []) (.inl rfl) rfl rfl (ZN rfl rfl) ZL ?_))))))))
     obtain rfl := Option.some.inj hx
     exact ⟨rfl, rfl, rfl, trivial⟩

set_option maxHeartbeats 8000000 in
theorem send_may_1_ok (p_1 : Part) (p_3 : Part) (H : Heaplet) {aa_2 : Option Addr} {na_2 : Nat} {ca_2 : Nat} {aa_4 : Option Addr} {na_4 : Nat} {ca_4 : Nat} (ha_2 : IsSlice H RU8 1 (.slice aa_2 na_2 ca_2) p_1.Data) (ha_4 : IsSlice H RU8 1 (.slice aa_4 na_4 ca_4) p_3.Data) (r : Int) (hx : send_may_1 p_1 p_3 = some r) :
  Does Try.prog 40 #[.agg #[.int .i64 p_1.Obj, .int .i64 p_1.Index, .int .u32 (p_1.Iv.toNat : Int), .int .u32 (p_1.Tag.toNat : Int), .slice aa_2 na_2 ca_2], .agg #[.int .i64 p_3.Obj, .int .i64 p_3.Index, .int .u32 (p_3.Iv.toNat : Int), .int .u32 (p_3.Tag.toNat : Int), .slice aa_4 na_4 ca_4]] [] H (fun u K' H' => u = .int .i64 r ∧ K' = [] ∧ H = H' ∧ True) := by
 refine Does.enterL (vs := [.agg #[.int .i64 p_1.Obj, .int .i64 p_1.Index, .int .u32 (p_1.Iv.toNat : Int), .int .u32 (p_1.Tag.toNat : Int), .slice aa_2 na_2 ca_2], .agg #[.int .i64 p_3.Obj, .int .i64 p_3.Index, .int .u32 (p_3.Iv.toNat : Int), .int .u32 (p_3.Tag.toNat : Int), .slice aa_4 na_4 ca_4]]) (l := [(0, .agg #[.int .i64 p_1.Obj, .int .i64 p_1.Index, .int .u32 (p_1.Iv.toNat : Int), .int .u32 (p_1.Tag.toNat : Int), .slice aa_2 na_2 ca_2]), (1, .agg #[.int .i64 p_3.Obj, .int .i64 p_3.Index, .int .u32 (p_3.Iv.toNat : Int), .int .u32 (p_3.Tag.toNat : Int), .slice aa_4 na_4 ca_4])]) Try.func40 rfl rfl ⟨rfl, rfl, trivial⟩ (fun w hlt => ?_)
 unfold send_may_1 at hx
 refine ZG (ZB (JL.box rfl rfl (fun b_5 hb_5 => JL.box rfl rfl (fun b_6 hb_6 => ZA rfl rfl (ZE rfl) (ZD (ZC (ZG (JC.drawB (so := [(_, []), (_, [])]) 6 rfl Mixed ⟨by kernel_rfl, by kernel_rfl⟩ (kept0 [0, 1] rfl) ?_))))))))
 refine JB.val (i := 0) [] rfl (R.ldoN 1 (vs := [.int .i64 p_1.Obj, .int .i64 p_1.Index, .int .u32 (p_1.Iv.toNat : Int), .int .u32 (p_1.Tag.toNat : Int), .slice aa_2 na_2 ca_2]) S39 rfl rfl rfl rfl) ?_
 refine JB.val (i := 2) [] rfl (R.ldoN 0 (vs := [.int .i64 p_3.Obj, .int .i64 p_3.Index, .int .u32 (p_3.Iv.toNat : Int), .int .u32 (p_3.Tag.toNat : Int), .slice aa_4 na_4 ca_4]) S39 rfl rfl rfl rfl) ?_
 refine JB.one (i := 1) (by kernel_rfl) ?_
 refine JOB.step rfl trivial rfl (fun K hK => ?_)
 obtain ⟨x_7, hr_8, hx⟩ := ZM hx
 refine ZT (vs := [_]) (args := [_]) (K := []) (rst := [_, _]) E42 rfl rfl rfl ZL (send_place_ok p_1 _ ha_2 _ hr_8) rfl (fun u_9 Ku_9 Hu_9 hRu_9 hleu_9 hfu_9 => ?_)
 obtain ⟨rfl, rfl, rfl, -⟩ := hRu_9
 refine ZD (hK _ _ _ (Hle.refl _) (kept0 [0, 1] rfl) ?_)
 refine JB.one (i := 3) (by kernel_rfl) ?_
 refine JOB.step rfl trivial rfl (fun K hK => ?_)
 obtain ⟨x_10, hr_11, hx⟩ := ZM hx
 refine ZT (vs := [_]) (args := [_]) (K := []) (rst := [_, _]) E42 rfl rfl rfl ZL (send_place_ok p_3 _ ha_4 _ hr_11) rfl (fun u_12 Ku_12 Hu_12 hRu_12 hleu_12 hfu_12 => ?_)
 obtain ⟨rfl, rfl, rfl, -⟩ := hRu_12
 refine ZD (hK _ _ _ (Hle.refl _) (kept0 [0, 1] rfl) ?_)
 refine JB.one (i := 4) (by kernel_rfl) ?_
 refine JOB.step rfl trivial rfl (fun K hK => ?_)
 obtain ⟨x_13, hr_14, hx⟩ := ZM hx
 refine ZT (vs := [_, _]) (args := [_, _]) (K := []) (rst := [_, _]) E41 rfl rfl rfl ZL (cmp_Compare_int_ok x_7 x_10 _ _ hr_14) rfl (fun u_15 Ku_15 Hu_15 hRu_15 hleu_15 hfu_15 => ?_)
 obtain ⟨rfl, rfl, rfl, -⟩ := hRu_15
 refine ZD (hK _ _ _ (Hle.refl _) (kept0 [0, 1] rfl) ?_)
 refine JB.val (i := 5) [] rfl (ZE rfl) ?_
 refine JB.doneN (by kernel_rfl) ?_
 refine ZC (ZV (ZO (vs := [.int .i64 x_13]) (K := []) (rst := [_, _]) (.inl rfl) rfl rfl (ZN rfl rfl) ZL ?_))
 obtain rfl := Option.some.inj hx
 exact ⟨rfl, rfl, rfl, trivial⟩

set_option maxHeartbeats 8000000 in
theorem slices_IsSortedFunc_Part_ok (p_1 : List Part) (H : Heaplet) {aa_2 : Option Addr} {na_2 : Nat} {ca_2 : Nat} (ha_2 : IsSlice H R_Part 5 (.slice aa_2 na_2 ca_2) p_1) (r : Bool) (hx : slices_IsSortedFunc_Part p_1 = some r) :
  Does Try.prog 39 #[.slice aa_2 na_2 ca_2, .func (.func 40) #[] #[]] [] H (fun u K' H' => u = .bool r ∧ K' = [] ∧ H = H' ∧ True) := by
 refine Does.enterL (vs := [.slice aa_2 na_2 ca_2, .func (.func 40) #[] #[]]) (l := [(0, .slice aa_2 na_2 ca_2), (1, .func (.func 40) #[] #[])]) Try.func39 rfl rfl ⟨rfl, rfl, trivial⟩ (fun w hlt => ?_)
 unfold slices_IsSortedFunc_Part at hx
 refine ZG (ZB (ZA rfl rfl (ZE rfl) (ZD (ZC (ZG (ZG (ZB (ZA rfl rfl (ZH rfl) (ZA rfl rfl (Zs U24 rfl (IsSlice.long ha_2)) (ZA rfl rfl (R.sub_i rfl rfl) (ZA rfl rfl (ZE rfl) ?_)))))))))))
 refine ZD (ZC ?_)
 obtain ⟨t_3, ht_5, hx⟩ := ZM hx
 refine Zv (fun l o g => ∃ t_3a : Unit, l = [] ∧ o = [] ∧ H = g ∧ t_3 = .inl t_3a) ?_ ?_
 ·
  rintro _ _ _ ⟨t_3a, rfl, rfl, rfl, rfl⟩
  simp only [Sum.elim_inl] at hx
  refine ZC (ZG (ZB (ZA rfl rfl (ZE rfl) (ZD (ZC (ZV (ZO (vs := [.bool true]) (K := []) (rst := []) (.inl rfl) rfl rfl (ZN rfl rfl) ZL ?_)))))))
  obtain rfl := Option.some.inj hx
  exact ⟨rfl, rfl, rfl, trivial⟩
 ·
  have hxo_4 := hx; clear hx; have hx := ht_5; clear ht_5
  refine JC.block (JC.loopI (fun n l o g => ∃ s_6 : Int, l = [(0, .slice aa_2 na_2 ca_2), (1, .func (.func 40) #[] #[]), (5, .int .i64 s_6)] ∧ o = [] ∧ H = g ∧ run (slices_IsSortedFunc_Part_l1 p_1) n s_6 = some t_3) FUEL ?_ ⟨w64 ((p_1.length : Int) - 1), rfl, rfl, rfl, hx⟩ ⟨rfl, rfl, rfl, trivial⟩ ?_)
  ·
   rintro _ _ _ ⟨s_6, rfl, rfl, rfl, hn_7⟩
   exact run_zero hn_7
  ·
   rintro n_8 _ _ _ ⟨s_6, rfl, rfl, rfl, hn_7⟩
   clear hx; obtain ⟨oo_10, hx, hd_9⟩ := run_some hn_7
   unfold slices_IsSortedFunc_Part_l1 at hx
   refine ZG (ZG (ZB (ZA rfl rfl (ZH rfl) (ZA rfl rfl (R.gtr_i rfl rfl) (ZD (ZC (ZY rfl (fun c_9 => ?_) (fun c_9 => ?_))))))))
   ·
    replace hx := ZP c_9 hx
    refine JC.skip (ZC (ZG (JC.block (ZG (JC.drawB (so := []) 12 rfl Mixed ⟨by kernel_rfl, by kernel_rfl⟩ (kept0 [] rfl) ?_)))))
    refine JB.val (i := 0) [] rfl (ZH rfl) ?_
    refine JB.val (i := 1) [] rfl (ZH rfl) ?_
    refine JB.val (i := 2) [] rfl (ZH rfl) ?_
    obtain ⟨y_10, hN_11, hx⟩ := Zo hx
    obtain ⟨b_12, o_13, cs_14, hE_15, hR_16, hl_17, hc_18⟩ := IsSlice.elem ha_2 hN_11
    obtain ⟨v_19, rfl, hs_20⟩ := hR_16
    obtain ⟨av_19, cv_19', rfl⟩ := IsSlice.val hs_20
    refine JB.val (i := 3) [] rfl (R.ix U24 S39 rfl rfl hE_15) ?_
    refine JB.val (i := 4) [] rfl (R.ldHE (cs := [.int .i64 y_10.Obj, .int .i64 y_10.Index, .int .u32 (y_10.Iv.toNat : Int), .int .u32 (y_10.Tag.toNat : Int), .slice av_19 y_10.Data.length cv_19']) (k := 0) (vs := [.int .i64 y_10.Obj, .int .i64 y_10.Index, .int .u32 (y_10.Iv.toNat : Int), .int .u32 (y_10.Tag.toNat : Int), .slice av_19 y_10.Data.length cv_19']) S39 rfl hc_18 rfl rfl) ?_
    refine JB.val (i := 5) [] rfl (ZH rfl) ?_
    refine JB.val (i := 6) [] rfl (ZH rfl) ?_
    refine JB.val (i := 7) [] rfl (R.sub_i rfl rfl) ?_
    obtain ⟨y_21, hN_22, hx⟩ := Zo hx
    obtain ⟨b_23, o_24, cs_25, hE_26, hR_27, hl_28, hc_29⟩ := IsSlice.elem ha_2 hN_22
    obtain ⟨v_30, rfl, hs_31⟩ := hR_27
    obtain ⟨av_30, cv_30, rfl⟩ := IsSlice.val hs_31
    refine JB.val (i := 8) [] rfl (R.ix U24 S39 rfl rfl hE_26) ?_
    refine JB.val (i := 9) [] rfl (R.ldHE (cs := [.int .i64 y_21.Obj, .int .i64 y_21.Index, .int .u32 (y_21.Iv.toNat : Int), .int .u32 (y_21.Tag.toNat : Int), .slice av_30 y_21.Data.length cv_30]) (k := 0) (vs := [.int .i64 y_21.Obj, .int .i64 y_21.Index, .int .u32 (y_21.Iv.toNat : Int), .int .u32 (y_21.Tag.toNat : Int), .slice av_30 y_21.Data.length cv_30]) S39 rfl hc_29 rfl rfl) ?_
    refine JB.one (i := 10) (by kernel_rfl) ?_
    refine JOB.step rfl trivial rfl (fun K hK => ?_)
    obtain ⟨x_32, hr_33, hx⟩ := ZM hx
    refine ZT (vs := [_, _]) (args := [_, _]) (K := []) (rst := []) E40 rfl rfl rfl ZL (send_may_1_ok y_10 y_21 _ hs_20 hs_31 _ hr_33) rfl (fun u_34 Ku_34 Hu_34 hRu_34 hleu_34 hfu_34 => ?_)
    obtain ⟨rfl, rfl, rfl, -⟩ := hRu_34
    refine ZD (hK _ _ _ (Hle.refl _) (kept0 [] rfl) ?_)
    refine JB.val (i := 11) [] rfl (Zu rfl rfl) ?_
    refine JB.doneN (by kernel_rfl) ?_
    refine ZC (ZY rfl (fun c_35 => ?_) (fun c_35 => ?_))
    ·
     replace hx := ZP c_35 hx
     refine ZG (ZB (ZA rfl rfl (ZE rfl) (ZD (ZC (ZV (Zq (ZJ ?_)))))))
     obtain rfl := Zj hd_9 hx
     refine ZJ (Zq ?_)
     clear hx; have hx := hxo_4
     simp only [Sum.elim_inl, Sum.elim_inr] at hx
     refine ZJ (ZJ (ZO (vs := [.bool false]) (K := []) (rst := []) (.inl rfl) rfl rfl (ZN rfl rfl) ZL ?_))
     obtain rfl := Option.some.inj hx
     exact ⟨rfl, rfl, rfl, trivial⟩
    ·
     replace hx := ZQ c_35 hx
     refine JC.skip (JN.blkN (ZC (ZB (ZA rfl rfl (ZH rfl) (ZA rfl rfl (R.sub_i rfl rfl) (ZA rfl rfl (ZE rfl) (ZD ?_)))))))
     replace hx := run_next hd_9 hx
     exact ZW ⟨w64 (s_6 - 1), rfl, rfl, rfl, hx⟩ ⟨rfl, rfl, rfl, trivial⟩ rfl rfl
   ·
    replace hx := ZQ c_9 hx
    refine JC.exit (Zg ?_)
    obtain rfl := Zj hd_9 hx
    refine Zg (Zl ?_)
    exact ZW ⟨(), rfl, rfl, rfl, rfl⟩ trivial rfl rfl

set_option maxHeartbeats 8000000 in
theorem code_sized_ok (p_1 : Int) (H : Heaplet) (r : Bool) (hx : code_sized p_1 = some r) :
  Does Try.prog 48 #[.int .i64 p_1] [] H (fun u K' H' => u = .bool r ∧ K' = [] ∧ H = H' ∧ True) := by
 refine Does.enterL (vs := [.int .i64 p_1]) (l := [(0, .int .i64 p_1)]) Try.func48 rfl rfl ⟨rfl, trivial⟩ (fun w hlt => ?_)
 unfold code_sized at hx
 refine ZG (ZB (ZA rfl rfl (ZE rfl) (ZD (ZC (ZG ?_)))))
 obtain ⟨t_2, ht_4, hx⟩ := ZM hx
 refine Zv (fun l o g => l = [(2, .bool t_2)] ∧ o = [] ∧ H = g) ?_ ?_
 ·
  rintro _ _ _ ⟨rfl, rfl, rfl⟩
  refine ZC (ZV (ZO (vs := [.bool t_2]) (K := []) (rst := []) (.inl rfl) rfl rfl (ZN rfl rfl) ZL ?_))
  obtain rfl := Option.some.inj hx
  exact ⟨rfl, rfl, rfl, trivial⟩
 ·
  have hxo_3 := hx; clear hx; have hx := ht_4; clear ht_4
  refine ZB (ZA rfl rfl (ZH rfl) (ZA rfl rfl (R.gtr_i rfl rfl) (ZA rfl rfl (ZH rfl) (ZZ (t := 5) rfl (fun c_5 => ?_) (fun c_5 => ?_)))))
  ·
   replace hx := ZP c_5 hx
   refine ZI rfl rfl rfl (ZA rfl rfl (ZH rfl) (ZI rfl rfl rfl (ZA rfl rfl (R.leq_i rfl rfl) (ZA rfl rfl (ZR rfl rfl) (ZA rfl rfl (ZE rfl) (ZD ?_))))))
   obtain rfl := Option.some.inj hx
   exact ZW ⟨rfl, rfl, rfl⟩ ⟨rfl, trivial⟩ rfl rfl
  ·
   replace hx := ZQ c_5 hx
   refine ZF rfl rfl rfl rfl rfl (ZF rfl rfl rfl rfl rfl (ZA rfl rfl (Za rfl rfl) (ZA rfl rfl (ZE rfl) (ZD ?_))))
   obtain rfl := Option.some.inj hx
   exact ZW ⟨rfl, rfl, rfl⟩ ⟨rfl, trivial⟩ rfl rfl

theorem slices_Backward_byte_ok (p_1 : List UInt8) (H : Heaplet) {ao : Option Addr} {n cap : Nat} (hs : IsSlice H RU8 1 (.slice ao n cap) p_1) (r : Unit) (hx : slices_Backward_byte p_1 = some r) :
  Does Try.prog 49 #[.slice ao n cap] [] H (fun u K' H' => ∃ b : Nat, u = .func (.func 68) #[] #[.pointer (some ⟨b, 0, none⟩)] ∧ K' = [] ∧ H' b 0 = some (.slice ao n cap) ∧ True) := by
 refine Does.enter (vs := [.slice ao n cap]) (l := [(0, .slice ao n cap)]) Try.func49 rfl rfl ⟨rfl, trivial⟩ (fun w => ZG (ZB (JL.box rfl rfl (fun b1 hb1 => JL.assign rfl rfl (ZD (ZC (ZG (ZB (JL.func (vf := #[]) (vc := #[_]) rfl rfl rfl (JL.assign rfl rfl (ZD ?_)))))))))))
 refine ZC (ZV (JN.pubBox 0 rfl hb1 (fun H1 hle1 hc1 => JN.forget 0 ?_)))
 have hc := hc1 0 _ rfl
 refine JN.out1 (.inl rfl) rfl rfl rfl ?_
 exact ⟨_, rfl, rfl, hc, trivial⟩

theorem slices_Backward_byte_it (m : List UInt8) (H : Heaplet) {v : Value} {b : Nat} (hs : IsSlice H RU8 1 v m) (hb : H b 0 = some v) :
  IterL Try.prog 68 #[.pointer (some ⟨b, 0, none⟩)] H (fun _ args (y : Nat × UInt8) => args = #[.int .i64 ((y.1 : Nat) : Int), .int .u8 (y.2.toNat : Int)]) (bwd m m.length) := by
 intro lr I X o hY hI
 have hlen := hs.len_le
 obtain ⟨ao, cap, rfl⟩ := hs.val
 show Does Try.prog 68 #[.func (.yield lr) #[] #[], .pointer (some ⟨b, 0, none⟩)] o H _
 refine Does.enter (vs := [.func (.yield lr) #[] #[], .pointer (some ⟨b, 0, none⟩)]) (l := [(0, .func (.yield lr) #[] #[]), (1, .pointer (some ⟨b, 0, none⟩))]) Try.func68 rfl rfl ⟨rfl, rfl, trivial⟩ (fun w => ZG (ZB (JL.ldH S23 rfl hb rfl (JL.lenS U23 rfl hs rfl (JL.subI rfl rfl (wi64 (by omega) (by omega)) rfl (JL.assign rfl rfl (ZD (ZC (JC.block (JC.loop (ι := Nat × List (Nat × UInt8) × List Own × Heaplet) (fun i => [(0, .func (.yield lr) #[] #[]), (1, .pointer (some ⟨b, 0, none⟩)), (3, .int .i64 ((i.1 : Int) - 1))]) (fun i => i.2.2.1) (fun i => i.2.2.2) (fun i => i.1 ≤ m.length ∧ i.2.1 ++ bwd m i.1 = bwd m m.length ∧ I i.2.1 i.2.2.1 i.2.2.2 ∧ Hle H i.2.2.2) (fun i => i.1) (m.length, [], o, H) (⟨Nat.le_refl _, rfl, hI, Hle.refl _⟩) ⟨rfl, rfl, rfl, trivial⟩ rfl rfl ?_))))))))))
 rintro ⟨k, pre, o2, H2⟩ hI0
 dsimp only at hI0 ⊢
 obtain ⟨hk, hpre, hI2, hle⟩ := hI0
 have hb2 := hle _ _ _ hb
 have hs2 := IsB.mono hle hs
 refine ZG (ZG (ZB (JL.move rfl rfl (JL.geq rfl rfl rfl (ZD (ZC (JC.condP rfl (fun c8 => ?_) (fun c8 => ?_))))))))
 ·
  refine JC.skip (ZC (ZG (JC.block (ZG (ZB (JL.move rfl rfl (JL.move rfl rfl (JL.ldH S23 rfl hb2 rfl (JL.move rfl rfl (JL.ixB (k := k - 1) U23 S5 rfl hs2 rfl (by omega) (by omega) rfl (fun b15 o15 hc15 => JL.ldH S5 rfl hc15 rfl ?_)))))))))))
  have e1 : ((k - 1 : Nat) : Int) = (k : Int) - 1 := by omega
  have e2 : m.getD (k - 1) 0 = m[k - 1] := by rw [List.getD_eq_getElem?_getD, List.getElem?_eq_getElem (show k - 1 < m.length by omega), Option.getD_some]
  have e3 : bwd m k = (k - 1, m.getD (k - 1) 0) :: bwd m (k - 1) := by rw [show k = (k - 1) + 1 by omega]; rfl
  refine JL.yield (vs := [_, _]) (mine := []) ((k - 1, m.getD (k - 1) 0)) hY rfl rfl hI2 (⟨by simp only [e1, e2], bwd m (k - 1), by rw [← hpre, e3]⟩) rfl rfl (fun o17 H17 hle17 hI17 => ?_) (fun o17 H17 hle17 hX17 => ?_)
  ·
   refine JL.not rfl rfl (ZD (ZC (JC.condF rfl (JC.skip (JN.blkN (ZC (ZB (JL.move rfl rfl (JL.subI rfl rfl (wi64 (by omega) (by omega)) rfl (JL.assign rfl rfl (ZD ?_)))))))))))
   refine JN.again (i := (k, pre, o2, H2)) (k - 1, pre ++ [(k - 1, m.getD (k - 1) 0)], o17, H17) (by exact ⟨by simp only; omega, by rw [← hpre, e3]; simp, hI17, hle.trans hle17⟩) (by simp only; omega) (by exact ⟨rfl, rfl, by show some _ = some _; simp only [e1], trivial⟩) rfl rfl
  ·
   refine JL.not rfl rfl (ZD (ZC (Zm rfl (ZV (Zq (ZJ (ZJ (Zq (JN.out0 (.inl rfl) rfl rfl ?_)))))))))
   exact ⟨hle.trans hle17, .inr ⟨_, ⟨bwd m (k - 1), by rw [← hpre, e3]; simp⟩, hX17⟩⟩
 ·
  refine JC.exit (Zg (Zg (Zl (JN.out0 (.inr rfl) rfl rfl ?_))))
  exact ⟨hle, .inl ⟨pre, by rw [← hpre, show k = 0 by omega]; simp [bwd], hI2⟩⟩

set_option maxHeartbeats 8000000 in
theorem code_Get_ok (p_1 : List UInt8) (p_3 : Int) (p_4 : Int) (H : Heaplet) {aa_2 : Option Addr} {na_2 : Nat} {ca_2 : Nat} (ha_2 : IsSlice H RU8 1 (.slice aa_2 na_2 ca_2) p_1) (r : Int × Int) (hx : code_Get p_1 p_3 p_4 = some r) :
  Does Try.prog 28 #[.slice aa_2 na_2 ca_2, .int .i64 p_3, .int .i64 p_4] [] H (fun u K' H' => u = .tuple #[.int .i64 r.1, .int .i64 r.2] ∧ K' = [] ∧ True) := by
 refine Does.enterML (vs := [.slice aa_2 na_2 ca_2, .int .i64 p_3, .int .i64 p_4]) (l := [(0, .slice aa_2 na_2 ca_2), (1, .int .i64 p_3), (2, .int .i64 p_4)]) Try.func28 rfl rfl ⟨rfl, rfl, rfl, trivial⟩ (fun w hlt => ?_)
 unfold code_Get at hx
 refine ZG (ZB (ZA rfl rfl (ZE rfl) (ZA rfl rfl (ZE rfl) (ZD (ZC (ZG (JC.block (ZG (ZG (ZB (ZA rfl rfl (ZH rfl) ?_)))))))))))
 obtain ⟨x_5, hr_6, hx⟩ := ZM hx
 refine ZT (vs := [_]) (args := [_]) (K := []) (rst := []) E48 rfl rfl rfl ZL (code_sized_ok p_4 _ _ hr_6) rfl (fun u_7 Ku_7 Hu_7 hRu_7 hleu_7 hfu_7 => ?_)
 obtain ⟨rfl, rfl, rfl, -⟩ := hRu_7
 refine ZA rfl rfl (R.not rfl) (ZA rfl rfl (ZE rfl) (ZD (ZC ?_)))
 obtain ⟨t_8, ht_10, hx⟩ := ZM hx
 refine Zv (fun l o g => l = [(0, .slice aa_2 na_2 ca_2), (1, .int .i64 p_3), (2, .int .i64 p_4), (11, .bool t_8)] ∧ o = [] ∧ H = g) ?_ ?_
 ·
  rintro _ _ _ ⟨rfl, rfl, rfl⟩
  refine ZC (ZY rfl (fun c_13 => ?_) (fun c_13 => ?_))
  ·
   replace hx := ZP c_13 hx
   refine ZG (ZB (ZA rfl rfl (ZE rfl) (ZA rfl rfl (ZE rfl) (ZD (ZC (ZV (Zq (ZJ (JN.outMP (vs := [.int .i64 0, .int .i64 2]) (K := []) (rst := []) (own2 := []) [] (.inl rfl) ⟨rfl, rfl, rfl, rfl⟩ rfl rfl ZL (ZN rfl (ZN rfl rfl)) ZL ?_)))))))))
   obtain rfl := Option.some.inj hx
   exact ⟨rfl, rfl, trivial⟩
  ·
   replace hx := ZQ c_13 hx
   refine ZG (ZB (ZA rfl rfl (ZH rfl) (ZA rfl rfl (ZH rfl) (ZA rfl rfl (R.add_i rfl rfl) (ZA rfl rfl (ZH rfl) (ZA rfl rfl (Zs U23 rfl (IsSlice.long ha_2)) (ZA rfl rfl (R.gtr_i rfl rfl) (ZA rfl rfl (ZE rfl) (ZD (ZC (ZY rfl (fun c_14 => ?_) (fun c_14 => ?_))))))))))))
   ·
    replace hx := ZP c_14 hx
    refine ZG (ZB (ZA rfl rfl (ZE rfl) (ZA rfl rfl (ZE rfl) (ZD (ZC (ZV (Zq (ZJ (JN.outMP (vs := [.int .i64 0, .int .i64 8]) (K := []) (rst := []) (own2 := []) [] (.inl rfl) ⟨rfl, rfl, rfl, rfl⟩ rfl rfl ZL (ZN rfl (ZN rfl rfl)) ZL ?_)))))))))
    obtain rfl := Option.some.inj hx
    exact ⟨rfl, rfl, trivial⟩
   ·
    replace hx := ZQ c_14 hx
    refine JC.skip (JN.blkN (ZC (ZG (ZB (JL.alloc Z3 rfl (fun b_15 hb_15 => Zh 0 S3 rfl rfl rfl rfl rfl (Nat.le_of_ble_eq_true rfl) (ZD (ZC (ZG (ZG (ZB ?_)))))))))))
    refine ZA rfl rfl (ZH rfl) (ZA rfl rfl (ZH rfl) (ZA rfl rfl (ZH rfl) (ZA rfl rfl (ZH rfl) (ZA rfl rfl (R.add_i rfl rfl) ?_))))
    obtain ⟨m_16, hm_18, hb_17, hx⟩ := slc_some hx
    obtain ⟨vv_19, cv_19, h1v_19, h2v_19, h3v_19, hsv_19⟩ := IsSlice.cutv ha_2 hm_18 hb_17
    refine ZA rfl rfl (R.slc (cap := cv_19) (a := p_3) (b := w64 (p_3 + p_4)) (c := (cv_19 : Int)) (m := p_1) (R := RU8) U23 S5 rfl ⟨_, rfl⟩ ⟨_, rfl⟩ (by obtain ⟨ao, n, e, _⟩ := h1v_19; exact ⟨ao, n, e, rfl⟩) ⟨hb_17.1, hb_17.2.1, h2v_19⟩ h3v_19 (.inl rfl)) ?_
    obtain ⟨av_19, cv_19', rfl⟩ := IsSlice.val hsv_19
    obtain ⟨x_20, hr_21, hx⟩ := ZM hx
    refine ZT (vs := [_]) (args := [_]) (K := []) (rst := [_]) E49 rfl rfl rfl ZL (slices_Backward_byte_ok m_16 _ hsv_19 _ hr_21) rfl (fun u_22 Ku_22 Hu_22 hRu_22 hleu_22 hfu_22 => ?_)
    obtain ⟨bit_23, rfl, rfl, hit_23, -⟩ := hRu_22
    refine ZD (ZC (JC.block ?_))
    obtain ⟨t_24, ht_26, hx⟩ := ZM hx
    refine JC.rangeL (RA := fun _ args (y : Nat × UInt8) => args = #[.int .i64 ((y.1 : Nat) : Int), .int .u8 (y.2.toNat : Int)]) rfl code_Get_r1 0 t_24 ht_26 (fun s_27 o g => ∃ H_33 : Heaplet, o = [[(b_15, .cells #[.int .i64 s_27] 3 (0, 0))]] ∧ H_33 = g ∧ Hle Hu_22 H_33) (fun e c o g => False) rfl E68 (slices_Backward_byte_it m_16 _ (hsv_19.mono RU8.mono hleu_22) hit_23) (fun _ _ _ h => by rw [h]; rfl) rfl ⟨Hu_22, rfl, rfl, (Hle.refl _)⟩ ?_ ?_ ?_
    ·
     rintro lr_29 y_28 s_27 args o g out_31 ⟨H_33, rfl, rfl, hleH_33⟩ hA hx2
     clear hx; have hx := hx2; clear hx2; unfold code_Get_r1 at hx
     subst hA
     refine ⟨[(8, .pointer (some ⟨b_15, 0, none⟩)), (10, .int .u8 (y_28.2.toNat : Int))], fun wb_30 hwb_30 => ?_, fun wb_30 hwb_30 => ?_⟩
     ·
      refine ZB (ZA rfl rfl (ZE rfl) (ZD ?_))
      exact JN.assigned ⟨rfl, rfl, trivial⟩
     ·
      refine JC.block (ZB (ZA rfl rfl (ZU 0 S3 rfl rfl rfl) (ZA rfl rfl (R.mul_i rfl rfl) (ZA rfl rfl (ZH rfl) (ZA rfl rfl (R.cv_u8_i64 (a := y_28.2) U5 U3 rfl) (ZA rfl rfl (R.add_i rfl rfl) (Zh 0 S3 rfl rfl rfl rfl rfl (Nat.le_of_ble_eq_true rfl) (ZD (JN.blkN ?_)))))))))
      obtain rfl := Option.some.inj hx
      exact JN.rN ⟨H_33, rfl, rfl, (hleH_33)⟩
    ·
     rintro D_32 s_27 o g hD_32 htt ⟨H_33, rfl, rfl, hleH_33⟩ hle2
     subst htt; simp only [Sum.elim_inl] at hx
     refine JN.blkN (ZC (ZG (ZB (ZA rfl rfl (ZU 1 S3 rfl rfl rfl) (ZA rfl rfl (ZE rfl) (ZA rfl rfl (ZE rfl) (ZD (ZC (ZV (JN.outMP (vs := [.int .i64 s_27, .int .i64 0]) (K := []) (rst := [_]) (own2 := [_]) [D_32] (.inl rfl) ⟨rfl, rfl, rfl, rfl⟩ rfl rfl (ZS 0 rfl ZL) (ZN rfl (ZN rfl rfl)) ZL ?_))))))))))
     obtain rfl := Option.some.inj hx
     exact ⟨rfl, rfl, trivial⟩
    ·
     rintro D c e o g hD htt hX; exact hX.elim
 ·
  have hxo_9 := hx; clear hx; have hx := ht_10; clear ht_10
  refine ZY rfl (fun c_11 => ?_) (fun c_11 => ?_)
  ·
   replace hx := ZP c_11 hx
   refine JC.skip ?_
   obtain rfl := Option.some.inj hx
   exact ZW ⟨rfl, rfl, rfl⟩ ⟨rfl, rfl, rfl, rfl, trivial⟩ rfl rfl
  ·
   replace hx := ZQ c_11 hx
   refine ZG (ZB (ZA rfl rfl (ZH rfl) (ZA rfl rfl (Zu rfl rfl) (ZA rfl rfl (ZE rfl) (ZD (ZC (ZY rfl (fun c_12 => ?_) (fun c_12 => ?_))))))))
   ·
    replace hx := ZP c_12 hx
    refine JC.skip ?_
    obtain rfl := Option.some.inj hx
    exact ZW ⟨rfl, rfl, rfl⟩ ⟨rfl, rfl, rfl, rfl, trivial⟩ rfl rfl
   ·
    replace hx := ZQ c_12 hx
    refine ZB (ZA rfl rfl (ZH rfl) (ZA rfl rfl (ZH rfl) (ZA rfl rfl (Zs U23 rfl (IsSlice.long ha_2)) (ZA rfl rfl (R.gtr_i rfl rfl) (ZA rfl rfl (ZE rfl) (ZD ?_))))))
    obtain rfl := Option.some.inj hx
    exact ZW ⟨rfl, rfl, rfl⟩ ⟨rfl, rfl, rfl, rfl, trivial⟩ rfl rfl

set_option maxHeartbeats 8000000 in
theorem send_blank_1_ok (p_1 : UInt8) (H : Heaplet) (r : Bool) (hx : send_blank_1 p_1 = some r) :
  Does Try.prog 88 #[.int .u8 (p_1.toNat : Int)] [] H (fun u K' H' => u = .bool r ∧ K' = [] ∧ H = H' ∧ True) := by
 refine Does.enterL (vs := [.int .u8 (p_1.toNat : Int)]) (l := [(0, .int .u8 (p_1.toNat : Int))]) Try.func88 rfl rfl ⟨rfl, trivial⟩ (fun w hlt => ?_)
 unfold send_blank_1 at hx
 refine ZG (ZB (ZA rfl rfl (ZE rfl) (ZD (ZC (ZG (ZB (ZA rfl rfl (ZH rfl) (ZA rfl rfl (R.neq8 (a := p_1) (b := (0 : UInt8)) rfl rfl) (ZA rfl rfl (ZE rfl) (ZD (ZC ?_)))))))))))
 refine ZV (ZO (vs := [.bool (!decide (p_1 = (0 : UInt8)))]) (K := []) (rst := []) (.inl rfl) rfl rfl (ZN rfl rfl) ZL ?_)
 obtain rfl := Option.some.inj hx
 exact ⟨rfl, rfl, rfl, trivial⟩

set_option maxHeartbeats 8000000 in
theorem slices_IndexFunc_byte_ok (p_1 : List UInt8) (H : Heaplet) {aa_2 : Option Addr} {na_2 : Nat} {ca_2 : Nat} (ha_2 : IsSlice H RU8 1 (.slice aa_2 na_2 ca_2) p_1) (r : Int) (hx : slices_IndexFunc_byte p_1 = some r) :
  Does Try.prog 104 #[.slice aa_2 na_2 ca_2, .func (.func 88) #[] #[]] [] H (fun u K' H' => u = .int .i64 r ∧ K' = [] ∧ H = H' ∧ True) := by
 refine Does.enterL (vs := [.slice aa_2 na_2 ca_2, .func (.func 88) #[] #[]]) (l := [(0, .slice aa_2 na_2 ca_2), (1, .func (.func 88) #[] #[])]) Try.func104 rfl rfl ⟨rfl, rfl, trivial⟩ (fun w hlt => ?_)
 unfold slices_IndexFunc_byte at hx
 refine ZG (ZB (ZA rfl rfl (ZE rfl) (ZD (ZC (ZG (ZG (ZB (ZA rfl rfl (ZH rfl) (ZA rfl rfl (Zs U23 rfl (IsSlice.long ha_2)) (ZA rfl rfl (ZH rfl) (ZD ?_)))))))))))
 refine ZC ?_
 obtain ⟨t_3, ht_5, hx⟩ := ZM hx
 refine Zv (fun l o g => ∃ t_3a : Unit, l = [] ∧ o = [] ∧ H = g ∧ t_3 = .inl t_3a) ?_ ?_
 ·
  rintro _ _ _ ⟨t_3a, rfl, rfl, rfl, rfl⟩
  simp only [Sum.elim_inl] at hx
  refine ZC (ZG (ZB (ZA rfl rfl (ZE rfl) (ZD (ZC (ZV (ZO (vs := [.int .i64 (-1)]) (K := []) (rst := []) (.inl rfl) rfl rfl (ZN rfl rfl) ZL ?_)))))))
  obtain rfl := Option.some.inj hx
  exact ⟨rfl, rfl, rfl, trivial⟩
 ·
  have hxo_4 := hx; clear hx; have hx := ht_5; clear ht_5
  refine JC.block (JC.loopI (fun n l o g => ∃ s_6 : Nat, l = [(0, .slice aa_2 na_2 ca_2), (1, .func (.func 88) #[] #[]), (7, .int .i64 (p_1.length : Int)), (8, .int .i64 ((s_6 : Nat) : Int))] ∧ o = [] ∧ H = g ∧ run (slices_IndexFunc_byte_l1 p_1) n s_6 = some t_3) FUEL ?_ ⟨0, rfl, rfl, rfl, hx⟩ ⟨rfl, rfl, rfl, rfl, trivial⟩ ?_)
  ·
   rintro _ _ _ ⟨s_6, rfl, rfl, rfl, hn_7⟩
   exact run_zero hn_7
  ·
   rintro n_8 _ _ _ ⟨s_6, rfl, rfl, rfl, hn_7⟩
   clear hx; obtain ⟨oo_10, hx, hd_9⟩ := run_some hn_7
   unfold slices_IndexFunc_byte_l1 at hx
   refine ZG (ZB (ZA rfl rfl (Zu rfl rfl) (ZD (ZC (ZG (ZY rfl (fun c_9 => ?_) (fun c_9 => ?_)))))))
   ·
    replace hx := ZP c_9 hx
    refine JC.skip (ZC (ZG (JC.block (ZG (ZB (ZA rfl rfl (ZH rfl) (ZA rfl rfl (ZE rfl) (ZD (ZC (ZG (ZB ?_)))))))))))
    refine ZA rfl rfl (ZH rfl) (ZA rfl rfl (ZH rfl) (ZA rfl rfl (ZH rfl) ?_))
    obtain ⟨y_10, hN_11, hx⟩ := Zo hx
    obtain ⟨b_12, o_13, cs_14, hE_15, hR_16, hl_17, hc_18⟩ := IsSlice.elem ha_2 hN_11
    obtain rfl := hR_16
    refine ZA rfl rfl (R.ix U23 S5 rfl rfl hE_15) (ZA rfl rfl (R.ldH S5 rfl (hc_18 0 _ rfl)) ?_)
    obtain ⟨x_19, hr_20, hx⟩ := ZM hx
    refine ZT (vs := [_]) (args := [_]) (K := []) (rst := []) E88 rfl rfl rfl ZL (send_blank_1_ok y_10 _ _ hr_20) rfl (fun u_21 Ku_21 Hu_21 hRu_21 hleu_21 hfu_21 => ?_)
    obtain ⟨rfl, rfl, rfl, -⟩ := hRu_21
    refine ZD (ZC (ZY rfl (fun c_22 => ?_) (fun c_22 => ?_)))
    ·
     replace hx := ZP c_22 hx
     refine ZG (ZB (ZA rfl rfl (ZH rfl) (ZA rfl rfl (ZE rfl) (ZD (ZC (ZV (Zq (ZJ ?_))))))))
     obtain rfl := Zj hd_9 hx
     refine ZJ (Zq ?_)
     clear hx; have hx := hxo_4
     simp only [Sum.elim_inl, Sum.elim_inr] at hx
     refine ZJ (ZJ (ZO (vs := [.int .i64 ((s_6 : Nat) : Int)]) (K := []) (rst := []) (.inl rfl) rfl rfl (ZN rfl rfl) ZL ?_))
     obtain rfl := Option.some.inj hx
     exact ⟨rfl, rfl, rfl, trivial⟩
    ·
     replace hx := ZQ c_22 hx
     refine JC.skip (JN.blkN (ZC (ZB (ZA rfl rfl (R.inc rfl rfl (of_decide_eq_true c_9) (IsSlice.lenI ha_2)) (ZA rfl rfl (ZH rfl) (ZD ?_))))))
     replace hx := run_next hd_9 hx
     exact ZW ⟨s_6 + 1, rfl, rfl, rfl, hx⟩ ⟨rfl, rfl, rfl, rfl, trivial⟩ rfl rfl
   ·
    replace hx := ZQ c_9 hx
    refine JC.exit (Zg ?_)
    obtain rfl := Zj hd_9 hx
    refine Zg (Zl ?_)
    exact ZW ⟨(), rfl, rfl, rfl, rfl⟩ trivial rfl rfl

set_option maxHeartbeats 8000000 in
theorem slices_ContainsFunc_byte_ok (p_1 : List UInt8) (H : Heaplet) {aa_2 : Option Addr} {na_2 : Nat} {ca_2 : Nat} (ha_2 : IsSlice H RU8 1 (.slice aa_2 na_2 ca_2) p_1) (r : Bool) (hx : slices_ContainsFunc_byte p_1 = some r) :
  Does Try.prog 87 #[.slice aa_2 na_2 ca_2, .func (.func 88) #[] #[]] [] H (fun u K' H' => u = .bool r ∧ K' = [] ∧ H = H' ∧ True) := by
 refine Does.enterL (vs := [.slice aa_2 na_2 ca_2, .func (.func 88) #[] #[]]) (l := [(0, .slice aa_2 na_2 ca_2), (1, .func (.func 88) #[] #[])]) Try.func87 rfl rfl ⟨rfl, rfl, trivial⟩ (fun w hlt => ?_)
 unfold slices_ContainsFunc_byte at hx
 refine ZG (ZB (ZA rfl rfl (ZE rfl) (ZD (ZC (ZG (ZB (ZA rfl rfl (ZH rfl) (ZA rfl rfl (ZH rfl) ?_))))))))
 obtain ⟨x_3, hr_4, hx⟩ := ZM hx
 refine ZT (vs := [_, _]) (args := [_, _]) (K := []) (rst := []) E104 rfl rfl rfl ZL (slices_IndexFunc_byte_ok p_1 _ ha_2 _ hr_4) rfl (fun u_5 Ku_5 Hu_5 hRu_5 hleu_5 hfu_5 => ?_)
 obtain ⟨rfl, rfl, rfl, -⟩ := hRu_5
 refine ZA rfl rfl (R.geq_i rfl rfl) (ZA rfl rfl (ZE rfl) (ZD (ZC (ZV (ZO (vs := [.bool (decide (0 ≤ x_3))]) (K := []) (rst := []) (.inl rfl) rfl rfl (ZN rfl rfl) ZL ?_)))))
 obtain rfl := Option.some.inj hx
 exact ⟨rfl, rfl, rfl, trivial⟩

set_option maxHeartbeats 8000000 in
theorem send_blank_ok (p_1 : List UInt8) (H : Heaplet) {aa_2 : Option Addr} {na_2 : Nat} {ca_2 : Nat} (ha_2 : IsSlice H RU8 1 (.slice aa_2 na_2 ca_2) p_1) (r : Bool) (hx : send_blank p_1 = some r) :
  Does Try.prog 65 #[.slice aa_2 na_2 ca_2] [] H (fun u K' H' => u = .bool r ∧ K' = [] ∧ H = H' ∧ True) := by
 refine Does.enterL (vs := [.slice aa_2 na_2 ca_2]) (l := [(0, .slice aa_2 na_2 ca_2)]) Try.func65 rfl rfl ⟨rfl, trivial⟩ (fun w hlt => ?_)
 unfold send_blank at hx
 refine ZG (ZB (ZA rfl rfl (ZE rfl) (ZD (ZC (ZG (ZB (ZA rfl rfl (ZH rfl) ?_)))))))
 obtain ⟨x_3, hr_4, hx⟩ := ZM hx
 refine ZT (vs := [_, _]) (args := [_, _]) (K := []) (rst := []) E87 rfl rfl rfl ZL (slices_ContainsFunc_byte_ok p_1 _ ha_2 _ hr_4) rfl (fun u_5 Ku_5 Hu_5 hRu_5 hleu_5 hfu_5 => ?_)
 obtain ⟨rfl, rfl, rfl, -⟩ := hRu_5
 refine ZA rfl rfl (R.not rfl) (ZA rfl rfl (ZE rfl) (ZD (ZC (ZV (ZO (vs := [.bool (!x_3)]) (K := []) (rst := []) (.inl rfl) rfl rfl (ZN rfl rfl) ZL ?_)))))
 obtain rfl := Option.some.inj hx
 exact ⟨rfl, rfl, rfl, trivial⟩

set_option maxHeartbeats 8000000 in
theorem send_part_ok (p_1 : Part) (H : Heaplet) {aa_2 : Option Addr} {na_2 : Nat} {ca_2 : Nat} (ha_2 : IsSlice H RU8 1 (.slice aa_2 na_2 ca_2) p_1.Data) (r : Bool) (hx : send_part p_1 = some r) :
  Does Try.prog 43 #[.agg #[.int .i64 p_1.Obj, .int .i64 p_1.Index, .int .u32 (p_1.Iv.toNat : Int), .int .u32 (p_1.Tag.toNat : Int), .slice aa_2 na_2 ca_2]] [] H (fun u K' H' => u = .bool r ∧ K' = [] ∧ True) := by
 refine Does.enterL (vs := [.agg #[.int .i64 p_1.Obj, .int .i64 p_1.Index, .int .u32 (p_1.Iv.toNat : Int), .int .u32 (p_1.Tag.toNat : Int), .slice aa_2 na_2 ca_2]]) (l := [(0, .agg #[.int .i64 p_1.Obj, .int .i64 p_1.Index, .int .u32 (p_1.Iv.toNat : Int), .int .u32 (p_1.Tag.toNat : Int), .slice aa_2 na_2 ca_2])]) Try.func43 rfl rfl ⟨rfl, trivial⟩ (fun w hlt => ?_)
 unfold send_part at hx
 refine ZG (ZB (JL.box rfl rfl (fun b_3 hb_3 => ZA rfl rfl (ZE rfl) (ZD (ZC (ZG ?_))))))
 obtain ⟨t_4, ht_6, hx⟩ := ZM hx
 refine Zv (fun l o g => l = [(1, .pointer (some ⟨b_3, 0, none⟩)), (3, .bool t_4)] ∧ o = [[(b_3, .cells #[.int .i64 p_1.Obj, .int .i64 p_1.Index, .int .u32 (p_1.Iv.toNat : Int), .int .u32 (p_1.Tag.toNat : Int), .slice aa_2 na_2 ca_2] 39 (0, 0))]] ∧ H = g) ?_ ?_
 ·
  rintro _ _ _ ⟨rfl, rfl, rfl⟩
  refine ZC (ZG (JC.block (ZG (ZG (ZB (ZA rfl rfl (Zf F39_0 rfl) (ZA rfl rfl (ZU 0 S3 rfl rfl rfl) (ZA rfl rfl (Zu rfl rfl) (ZA rfl rfl (ZE rfl) (ZD (ZC ?_)))))))))))
  obtain ⟨t_8, ht_10, hx⟩ := ZM hx
  refine Zv (fun l o g => l = [(1, .pointer (some ⟨b_3, 0, none⟩)), (3, .bool t_4), (14, .bool t_8)] ∧ o = [[(b_3, .cells #[.int .i64 p_1.Obj, .int .i64 p_1.Index, .int .u32 (p_1.Iv.toNat : Int), .int .u32 (p_1.Tag.toNat : Int), .slice aa_2 na_2 ca_2] 39 (0, 0))]] ∧ H = g) ?_ ?_
  ·
   rintro _ _ _ ⟨rfl, rfl, rfl⟩
   refine ZC (ZY rfl (fun c_14 => ?_) (fun c_14 => ?_))
   ·
    replace hx := ZP c_14 hx
    refine ZG (ZB (ZA rfl rfl (ZE rfl) (ZD (ZC (ZV (Zq (ZJ (ZO (vs := [.bool false]) (K := []) (rst := [_]) (.inl rfl) rfl rfl (ZN rfl rfl) ZL ?_))))))))
    obtain rfl := Option.some.inj hx
    exact ⟨rfl, rfl, trivial⟩
   ·
    replace hx := ZQ c_14 hx
    refine ZG (ZB (ZA rfl rfl (Zf F39_1 rfl) (ZA rfl rfl (ZU 0 S3 rfl rfl rfl) (ZA rfl rfl (Zu rfl rfl) (ZA rfl rfl (ZE rfl) (ZD (ZC (ZY rfl (fun c_15 => ?_) (fun c_15 => ?_)))))))))
    ·
     replace hx := ZP c_15 hx
     refine ZG ?_
     obtain ⟨t_16, ht_18, hx⟩ := ZM hx
     refine Zv (fun l o g => l = [(2, .bool t_16)] ∧ o = [] ∧ H = g) ?_ ?_
     ·
      rintro _ _ _ ⟨rfl, rfl, rfl⟩
      refine ZC (ZV (Zq (ZJ (ZO (vs := [.bool t_16]) (K := []) (rst := []) (.inl rfl) rfl rfl (ZN rfl rfl) ZL ?_))))
      obtain rfl := Option.some.inj hx
      exact ⟨rfl, rfl, trivial⟩
     ·
      have hxo_17 := hx; clear hx; have hx := ht_18; clear ht_18
      refine ZB (ZA rfl rfl (Zf F39_4 rfl) (ZA rfl rfl (ZU 0 S23 rfl rfl rfl) (ZA rfl rfl (Zs U23 rfl (IsSlice.long ha_2)) (ZA rfl rfl (R.eql_i rfl rfl) (ZA rfl rfl (ZH rfl) (ZZ (t := 35) rfl (fun c_19 => ?_) (fun c_19 => ?_)))))))
      ·
       replace hx := ZP c_19 hx
       refine ZI rfl rfl rfl (ZA rfl rfl (ZH rfl) (ZI rfl rfl rfl (ZA rfl rfl (R.not rfl) (ZA rfl rfl (ZR rfl rfl) (ZA rfl rfl (ZH rfl) (ZZ (t := 39) rfl (fun c_20 => ?_) (fun c_20 => ?_)))))))
       ·
        replace hx := ZP c_20 hx
        refine ZF rfl rfl rfl rfl rfl (ZF rfl rfl rfl rfl rfl (ZF rfl rfl rfl rfl rfl (ZF rfl rfl rfl rfl rfl (ZA rfl rfl (ZR rfl rfl) (ZA rfl rfl (ZE rfl) (ZD ?_))))))
        obtain rfl := Option.some.inj hx
        refine JN.forget 0 ?_
        exact ZW ⟨rfl, rfl, rfl⟩ ⟨rfl, trivial⟩ rfl rfl
       ·
        replace hx := ZQ c_20 hx
        refine ZI rfl rfl rfl (ZA rfl rfl (Zf F39_4 rfl) (ZI rfl rfl rfl (ZA rfl rfl (ZU 0 S23 rfl rfl rfl) (ZI rfl rfl rfl (ZA rfl rfl (Zs U23 rfl (IsSlice.long ha_2)) (ZI rfl rfl rfl (ZA rfl rfl (R.eql_i rfl rfl) (ZA rfl rfl (Za rfl rfl) (ZA rfl rfl (ZE rfl) (ZD ?_))))))))))
        obtain rfl := Option.some.inj hx
        refine JN.forget 0 ?_
        exact ZW ⟨rfl, rfl, rfl⟩ ⟨rfl, trivial⟩ rfl rfl
      ·
       replace hx := ZQ c_19 hx
       refine ZF rfl rfl rfl rfl rfl (ZF rfl rfl rfl rfl rfl (ZA rfl rfl (Za rfl rfl) (ZA rfl rfl (ZH rfl) (ZI rfl rfl rfl (ZA rfl rfl (Zf F39_4 rfl) (ZI rfl rfl rfl (ZA rfl rfl (ZU 0 S23 rfl rfl rfl) (ZI rfl rfl rfl (ZA rfl rfl (Zs U23 rfl (IsSlice.long ha_2)) (ZI rfl rfl rfl (ZA rfl rfl (R.eql_i rfl rfl) ?_)))))))))))
       refine ZA rfl rfl (Za rfl rfl) (ZA rfl rfl (ZE rfl) (ZD ?_))
       obtain rfl := Option.some.inj hx
       refine JN.forget 0 ?_
       exact ZW ⟨rfl, rfl, rfl⟩ ⟨rfl, trivial⟩ rfl rfl
    ·
     replace hx := ZQ c_15 hx
     refine ZG (ZG (ZB (ZA rfl rfl (Zf F39_4 rfl) (ZA rfl rfl (ZU 0 S23 rfl rfl rfl) (ZA rfl rfl (Zs U23 rfl (IsSlice.long ha_2)) (ZA rfl rfl (R.neq_i rfl rfl) (ZA rfl rfl (ZE rfl) (ZD (ZC ?_)))))))))
     obtain ⟨t_21, ht_23, hx⟩ := ZM hx
     refine Zv (fun l o g => l = [(1, .pointer (some ⟨b_3, 0, none⟩)), (45, .bool t_21)] ∧ o = [[(b_3, .cells #[.int .i64 p_1.Obj, .int .i64 p_1.Index, .int .u32 (p_1.Iv.toNat : Int), .int .u32 (p_1.Tag.toNat : Int), .slice aa_2 na_2 ca_2] 39 (0, 0))]] ∧ H = g) ?_ ?_
     ·
      rintro _ _ _ ⟨rfl, rfl, rfl⟩
      refine ZC (ZY rfl (fun c_35 => ?_) (fun c_35 => ?_))
      ·
       replace hx := ZP c_35 hx
       refine ZG (ZB (ZA rfl rfl (ZE rfl) (ZD (ZC (ZV (Zq (ZJ (ZO (vs := [.bool false]) (K := []) (rst := [_]) (.inl rfl) rfl rfl (ZN rfl rfl) ZL ?_))))))))
       obtain rfl := Option.some.inj hx
       exact ⟨rfl, rfl, trivial⟩
      ·
       replace hx := ZQ c_35 hx
       refine JC.skip (JN.blkN (ZC (ZG (ZB (ZA rfl rfl (Zf F39_4 rfl) (ZA rfl rfl (ZU 0 S23 rfl rfl rfl) ?_))))))
       obtain ⟨x_36, hr_37, hx⟩ := ZM hx
       refine ZT (vs := [_, _, _]) (args := [_, _, _]) (K := []) (rst := [_]) E28 rfl rfl rfl ZL (code_Get_ok p_1.Data 2 2 _ ha_2 _ hr_37) rfl (fun u_38 Ku_38 Hu_38 hRu_38 hleu_38 hfu_38 => ?_)
       obtain ⟨rfl, rfl, -⟩ := hRu_38
       refine ZA rfl rfl (ZH rfl) (ZA rfl rfl (R.extract rfl rfl) (ZA rfl rfl (R.extract rfl rfl) (ZA rfl rfl (ZE rfl) (ZA rfl rfl (ZE rfl) (ZD (ZC (ZG ?_)))))))
       obtain ⟨t_39, ht_41, hx⟩ := ZM hx
       refine Zv (fun l o g => l = [(2, .bool t_39)] ∧ o = [] ∧ Hu_38 = g) ?_ ?_
       ·
        rintro _ _ _ ⟨rfl, rfl, rfl⟩
        refine ZC (ZV (ZO (vs := [.bool t_39]) (K := []) (rst := []) (.inl rfl) rfl rfl (ZN rfl rfl) ZL ?_))
        obtain rfl := Option.some.inj hx
        exact ⟨rfl, rfl, trivial⟩
       ·
        have hxo_40 := hx; clear hx; have hx := ht_41; clear ht_41
        refine ZB (ZA rfl rfl (ZH rfl) (ZA rfl rfl (R.leq_i rfl rfl) (ZA rfl rfl (ZH rfl) (ZZ (t := 64) rfl (fun c_42 => ?_) (fun c_42 => ?_)))))
        ·
         replace hx := ZP c_42 hx
         refine ZI rfl rfl rfl (ZA rfl rfl (Zf F39_4 rfl) (ZI rfl rfl rfl (ZA rfl rfl (ZU 0 S23 rfl rfl rfl) (ZI rfl rfl rfl ?_))))
         obtain ⟨y_43, hN_44, hx⟩ := Zo hx
         obtain ⟨b_45, o_46, cs_47, hE_48, hR_49, hl_50, hc_51⟩ := IsSlice.elem (ha_2.mono RU8.mono hleu_38) hN_44
         obtain rfl := hR_49
         refine ZA rfl rfl (R.ix U23 S5 rfl rfl hE_48) (ZI rfl rfl rfl (ZA rfl rfl (R.ldH S5 rfl (hc_51 0 _ rfl)) (ZI rfl rfl rfl (ZA rfl rfl (R.gtr8 (a := y_43) (b := (0 : UInt8)) rfl rfl) (ZI rfl rfl rfl (ZA rfl rfl (ZH rfl) (ZZ (t := 70) rfl (fun c_52 => ?_) (fun c_52 => ?_))))))))
         ·
          replace hx := ZP c_52 hx
          refine ZF rfl rfl rfl rfl rfl (ZF rfl rfl rfl rfl rfl (ZF rfl rfl rfl rfl rfl (ZI rfl rfl rfl (ZA rfl rfl (ZR rfl rfl) (ZA rfl rfl (ZR rfl rfl) (ZA rfl rfl (ZE rfl) (ZD ?_)))))))
          obtain rfl := Option.some.inj hx
          refine JN.forget 0 ?_
          exact ZW ⟨rfl, rfl, rfl⟩ ⟨rfl, trivial⟩ rfl rfl
         ·
          replace hx := ZQ c_52 hx
          refine ZI rfl rfl rfl (ZA rfl rfl (Zf F39_4 rfl) (ZI rfl rfl rfl (ZA rfl rfl (ZU 0 S23 rfl rfl rfl) (ZI rfl rfl rfl ?_))))
          obtain ⟨x_53, hr_54, hx⟩ := ZM hx
          refine ZT (vs := [_]) (args := [_]) (K := []) (rst := [_]) E65 rfl rfl rfl ZL (send_blank_ok p_1.Data _ (ha_2.mono RU8.mono hleu_38) _ hr_54) rfl (fun u_55 Ku_55 Hu_55 hRu_55 hleu_55 hfu_55 => ?_)
          obtain ⟨rfl, rfl, rfl, -⟩ := hRu_55
          refine ZI rfl rfl rfl (ZA rfl rfl (Za rfl rfl) (ZA rfl rfl (ZR rfl rfl) (ZA rfl rfl (ZE rfl) (ZD ?_))))
          obtain rfl := Option.some.inj hx
          refine JN.forget 0 ?_
          exact ZW ⟨rfl, rfl, rfl⟩ ⟨rfl, trivial⟩ rfl rfl
        ·
         replace hx := ZQ c_42 hx
         refine ZF rfl rfl rfl rfl rfl (ZF rfl rfl rfl rfl rfl (ZF rfl rfl rfl rfl rfl (ZF rfl rfl rfl rfl rfl (ZF rfl rfl rfl rfl rfl (ZF rfl rfl rfl rfl rfl (JL.gNoU rfl rfl rfl rfl (JL.gNoU rfl rfl rfl rfl (JL.gNoU rfl rfl rfl rfl (ZF rfl rfl rfl rfl rfl (ZA rfl rfl (Za rfl rfl) (ZA rfl rfl (ZE rfl) ?_)))))))))))
         refine ZD ?_
         obtain rfl := Option.some.inj hx
         refine JN.forget 0 ?_
         exact ZW ⟨rfl, rfl, rfl⟩ ⟨rfl, trivial⟩ rfl rfl
     ·
      have hxo_22 := hx; clear hx; have hx := ht_23; clear ht_23
      refine ZY rfl (fun c_24 => ?_) (fun c_24 => ?_)
      ·
       replace hx := ZP c_24 hx
       refine JC.skip ?_
       obtain rfl := Option.some.inj hx
       exact ZW ⟨rfl, rfl, rfl⟩ ⟨rfl, rfl, trivial⟩ rfl rfl
      ·
       replace hx := ZQ c_24 hx
       refine ZG (ZB (ZA rfl rfl (ZH rfl) (ZA rfl rfl (ZE rfl) (ZD (ZC (ZY rfl (fun c_25 => ?_) (fun c_25 => ?_)))))))
       ·
        replace hx := ZP c_25 hx
        refine JC.skip ?_
        obtain rfl := Option.some.inj hx
        exact ZW ⟨rfl, rfl, rfl⟩ ⟨rfl, rfl, trivial⟩ rfl rfl
       ·
        replace hx := ZQ c_25 hx
        refine ZB (ZA rfl rfl (Zf F39_4 rfl) (ZA rfl rfl (ZU 0 S23 rfl rfl rfl) ?_))
        obtain ⟨y_26, hN_27, hx⟩ := Zo hx
        obtain ⟨b_28, o_29, cs_30, hE_31, hR_32, hl_33, hc_34⟩ := IsSlice.elem ha_2 hN_27
        obtain rfl := hR_32
        refine ZA rfl rfl (R.ix U23 S5 rfl rfl hE_31) (ZA rfl rfl (R.ldH S5 rfl (hc_34 0 _ rfl)) (ZA rfl rfl (R.gtr8 (a := y_26) (b := (7 : UInt8)) rfl rfl) (ZA rfl rfl (ZE rfl) (ZD ?_))))
        obtain rfl := Option.some.inj hx
        exact ZW ⟨rfl, rfl, rfl⟩ ⟨rfl, rfl, trivial⟩ rfl rfl
  ·
   have hxo_9 := hx; clear hx; have hx := ht_10; clear ht_10
   refine ZY rfl (fun c_11 => ?_) (fun c_11 => ?_)
   ·
    replace hx := ZP c_11 hx
    refine JC.skip ?_
    obtain rfl := Option.some.inj hx
    exact ZW ⟨rfl, rfl, rfl⟩ ⟨rfl, rfl, rfl, trivial⟩ rfl rfl
   ·
    replace hx := ZQ c_11 hx
    refine ZG (ZB (ZA rfl rfl (Zf F39_0 rfl) (ZA rfl rfl (ZU 0 S3 rfl rfl rfl) (ZA rfl rfl (R.geq_i rfl rfl) (ZA rfl rfl (ZE rfl) (ZD (ZC (ZY rfl (fun c_12 => ?_) (fun c_12 => ?_)))))))))
    ·
     replace hx := ZP c_12 hx
     refine JC.skip ?_
     obtain rfl := Option.some.inj hx
     exact ZW ⟨rfl, rfl, rfl⟩ ⟨rfl, rfl, rfl, trivial⟩ rfl rfl
    ·
     replace hx := ZQ c_12 hx
     refine ZG (ZB (ZA rfl rfl (Zf F39_1 rfl) (ZA rfl rfl (ZU 0 S3 rfl rfl rfl) (ZA rfl rfl (Zu rfl rfl) (ZA rfl rfl (ZE rfl) (ZD (ZC (ZY rfl (fun c_13 => ?_) (fun c_13 => ?_)))))))))
     ·
      replace hx := ZP c_13 hx
      refine JC.skip ?_
      obtain rfl := Option.some.inj hx
      exact ZW ⟨rfl, rfl, rfl⟩ ⟨rfl, rfl, rfl, trivial⟩ rfl rfl
     ·
      replace hx := ZQ c_13 hx
      refine ZB (ZA rfl rfl (Zf F39_1 rfl) (ZA rfl rfl (ZU 0 S3 rfl rfl rfl) (ZA rfl rfl (R.gtr_i rfl rfl) (ZA rfl rfl (ZE rfl) (ZD ?_)))))
      obtain rfl := Option.some.inj hx
      exact ZW ⟨rfl, rfl, rfl⟩ ⟨rfl, rfl, rfl, trivial⟩ rfl rfl
 ·
  have hxo_5 := hx; clear hx; have hx := ht_6; clear ht_6
  refine ZB (ZA rfl rfl (Zf F39_2 rfl) (ZA rfl rfl (ZU 0 S22 rfl rfl rfl) (ZA rfl rfl (R.neq32 (a := p_1.Iv) (b := (0 : UInt32)) rfl rfl) (ZA rfl rfl (ZH rfl) (ZZ (t := 9) rfl (fun c_7 => ?_) (fun c_7 => ?_))))))
  ·
   replace hx := ZP c_7 hx
   refine ZF rfl rfl rfl rfl rfl (ZF rfl rfl rfl rfl rfl (ZF rfl rfl rfl rfl rfl (ZA rfl rfl (ZR rfl rfl) (ZA rfl rfl (ZE rfl) (ZD ?_)))))
   obtain rfl := Option.some.inj hx
   exact ZW ⟨rfl, rfl, rfl⟩ ⟨rfl, rfl, trivial⟩ rfl rfl
  ·
   replace hx := ZQ c_7 hx
   refine ZI rfl rfl rfl (ZA rfl rfl (Zf F39_3 rfl) (ZI rfl rfl rfl (ZA rfl rfl (ZU 0 S22 rfl rfl rfl) (ZI rfl rfl rfl (ZA rfl rfl (R.neq32 (a := p_1.Tag) (b := (0 : UInt32)) rfl rfl) (ZA rfl rfl (Za rfl rfl) (ZA rfl rfl (ZE rfl) (ZD ?_))))))))
   obtain rfl := Option.some.inj hx
   exact ZW ⟨rfl, rfl, rfl⟩ ⟨rfl, rfl, trivial⟩ rfl rfl

set_option maxHeartbeats 8000000 in
theorem send_may_ok (p_1 : Stream) (H : Heaplet) {aa_2 : Option Addr} {na_2 : Nat} {ca_2 : Nat} {aa_3 : Option Addr} {na_3 : Nat} {ca_3 : Nat} {aa_4 : Option Addr} {na_4 : Nat} {ca_4 : Nat} (ha_2 : IsSlice H RU8 1 (.slice aa_2 na_2 ca_2) p_1.Key) (ha_3 : IsSlice H R_Part 5 (.slice aa_3 na_3 ca_3) p_1.Parts) (ha_4 : IsSlice H RU8 1 (.slice aa_4 na_4 ca_4) p_1.Sign) (r : Bool) (hx : send_may p_1 = some r) :
  Does Try.prog 21 #[.agg #[.int .u32 (p_1.Guid.toNat : Int), .int .u32 (p_1.Base.toNat : Int), .slice aa_2 na_2 ca_2, .slice aa_3 na_3 ca_3, .slice aa_4 na_4 ca_4]] [] H (fun u K' H' => u = .bool r ∧ K' = [] ∧ True) := by
 refine Does.enterL (vs := [.agg #[.int .u32 (p_1.Guid.toNat : Int), .int .u32 (p_1.Base.toNat : Int), .slice aa_2 na_2 ca_2, .slice aa_3 na_3 ca_3, .slice aa_4 na_4 ca_4]]) (l := [(0, .agg #[.int .u32 (p_1.Guid.toNat : Int), .int .u32 (p_1.Base.toNat : Int), .slice aa_2 na_2 ca_2, .slice aa_3 na_3 ca_3, .slice aa_4 na_4 ca_4])]) Try.func21 rfl rfl ⟨rfl, trivial⟩ (fun w hlt => ?_)
 unfold send_may at hx
 refine ZG (ZB (JL.box rfl rfl (fun b_5 hb_5 => ZA rfl rfl (ZE rfl) (ZD (ZC (ZG (ZG (ZB (ZA rfl rfl (Zf F26_0 rfl) (ZA rfl rfl (ZU 0 S22 rfl rfl rfl) (ZA rfl rfl (R.eql32 (a := p_1.Guid) (b := (0 : UInt32)) rfl rfl) ?_)))))))))))
 refine ZA rfl rfl (ZH rfl) (ZZ (t := 9) rfl (fun c_6 => ?_) (fun c_6 => ?_))
 ·
  replace hx := ZP c_6 hx
  refine ZF rfl rfl rfl rfl rfl (ZF rfl rfl rfl rfl rfl (ZF rfl rfl rfl rfl rfl (ZF rfl rfl rfl rfl rfl (ZF rfl rfl rfl rfl rfl (ZA rfl rfl (ZR rfl rfl) (ZA rfl rfl (ZH rfl) (ZF rfl rfl rfl rfl rfl (ZF rfl rfl rfl rfl rfl (ZF rfl rfl rfl rfl rfl (ZF rfl rfl rfl rfl rfl (ZA rfl rfl (ZR rfl rfl) ?_)))))))))))
  refine ZA rfl rfl (ZH rfl) (ZF rfl rfl rfl rfl rfl (ZF rfl rfl rfl rfl rfl (ZF rfl rfl rfl rfl rfl (ZF rfl rfl rfl rfl rfl (ZA rfl rfl (ZR rfl rfl) (ZA rfl rfl (ZH rfl) (ZF rfl rfl rfl rfl rfl (ZF rfl rfl rfl rfl rfl (ZF rfl rfl rfl rfl rfl (ZF rfl rfl rfl rfl rfl (ZA rfl rfl (ZR rfl rfl) ?_)))))))))))
  refine ZD (ZC (Zm rfl (ZG (ZB (ZA rfl rfl (ZE rfl) (ZD (ZC (ZV (ZJ (ZO (vs := [.bool false]) (K := []) (rst := [_]) (.inl rfl) rfl rfl (ZN rfl rfl) ZL ?_))))))))))
  obtain rfl := Option.some.inj hx
  exact ⟨rfl, rfl, trivial⟩
 ·
  replace hx := ZQ c_6 hx
  refine ZI rfl rfl rfl (ZA rfl rfl (Zf F26_0 rfl) (ZI rfl rfl rfl (ZA rfl rfl (ZU 0 S22 rfl rfl rfl) (ZI rfl rfl rfl (ZA rfl rfl (Zf F26_1 rfl) (ZI rfl rfl rfl (ZA rfl rfl (ZU 0 S22 rfl rfl rfl) (ZI rfl rfl rfl (ZA rfl rfl (R.eql32 (a := p_1.Guid) (b := p_1.Base) rfl rfl) (ZA rfl rfl (Za rfl rfl) (ZA rfl rfl (ZH rfl) ?_)))))))))))
  refine ZZ (t := 16) rfl (fun c_7 => ?_) (fun c_7 => ?_)
  ·
   replace hx := ZP c_7 hx
   refine ZF rfl rfl rfl rfl rfl (ZF rfl rfl rfl rfl rfl (ZF rfl rfl rfl rfl rfl (ZF rfl rfl rfl rfl rfl (ZA rfl rfl (ZR rfl rfl) (ZA rfl rfl (ZH rfl) (ZF rfl rfl rfl rfl rfl (ZF rfl rfl rfl rfl rfl (ZF rfl rfl rfl rfl rfl (ZF rfl rfl rfl rfl rfl (ZA rfl rfl (ZR rfl rfl) (ZA rfl rfl (ZH rfl) ?_)))))))))))
   refine ZF rfl rfl rfl rfl rfl (ZF rfl rfl rfl rfl rfl (ZF rfl rfl rfl rfl rfl (ZF rfl rfl rfl rfl rfl (ZA rfl rfl (ZR rfl rfl) (ZD (ZC (Zm rfl (ZG (ZB (ZA rfl rfl (ZE rfl) (ZD ?_)))))))))))
   refine ZC (ZV (ZJ (ZO (vs := [.bool false]) (K := []) (rst := [_]) (.inl rfl) rfl rfl (ZN rfl rfl) ZL ?_)))
   obtain rfl := Option.some.inj hx
   exact ⟨rfl, rfl, trivial⟩
  ·
   replace hx := ZQ c_7 hx
   refine ZI rfl rfl rfl (ZA rfl rfl (Zf F26_2 rfl) (ZI rfl rfl rfl (ZA rfl rfl (ZU 0 S23 rfl rfl rfl) (ZI rfl rfl rfl (ZA rfl rfl (Zs U23 rfl (IsSlice.long ha_2)) (ZI rfl rfl rfl (ZA rfl rfl (R.neq_i rfl rfl) (ZA rfl rfl (Za rfl rfl) (ZA rfl rfl (ZH rfl) (ZZ (t := 22) rfl (fun c_8 => ?_) (fun c_8 => ?_)))))))))))
   ·
    replace hx := ZP c_8 hx
    refine ZF rfl rfl rfl rfl rfl (ZF rfl rfl rfl rfl rfl (ZF rfl rfl rfl rfl rfl (ZF rfl rfl rfl rfl rfl (ZA rfl rfl (ZR rfl rfl) (ZA rfl rfl (ZH rfl) (ZF rfl rfl rfl rfl rfl (ZF rfl rfl rfl rfl rfl (ZF rfl rfl rfl rfl rfl (ZF rfl rfl rfl rfl rfl (ZA rfl rfl (ZR rfl rfl) (ZD ?_)))))))))))
    refine ZC (Zm rfl (ZG (ZB (ZA rfl rfl (ZE rfl) (ZD (ZC (ZV (ZJ (ZO (vs := [.bool false]) (K := []) (rst := [_]) (.inl rfl) rfl rfl (ZN rfl rfl) ZL ?_)))))))))
    obtain rfl := Option.some.inj hx
    exact ⟨rfl, rfl, trivial⟩
   ·
    replace hx := ZQ c_8 hx
    refine ZI rfl rfl rfl (ZA rfl rfl (Zf F26_4 rfl) (ZI rfl rfl rfl (ZA rfl rfl (ZU 0 S23 rfl rfl rfl) (ZI rfl rfl rfl (ZA rfl rfl (Zs U23 rfl (IsSlice.long ha_4)) (ZI rfl rfl rfl (ZA rfl rfl (R.neq_i rfl rfl) (ZA rfl rfl (Za rfl rfl) (ZA rfl rfl (ZH rfl) (ZZ (t := 28) rfl (fun c_9 => ?_) (fun c_9 => ?_)))))))))))
    ·
     replace hx := ZP c_9 hx
     refine ZF rfl rfl rfl rfl rfl (ZF rfl rfl rfl rfl rfl (ZF rfl rfl rfl rfl rfl (ZF rfl rfl rfl rfl rfl (ZA rfl rfl (ZR rfl rfl) (ZD (ZC (Zm rfl (ZG (ZB (ZA rfl rfl (ZE rfl) (ZD ?_)))))))))))
     refine ZC (ZV (ZJ (ZO (vs := [.bool false]) (K := []) (rst := [_]) (.inl rfl) rfl rfl (ZN rfl rfl) ZL ?_)))
     obtain rfl := Option.some.inj hx
     exact ⟨rfl, rfl, trivial⟩
    ·
     replace hx := ZQ c_9 hx
     refine ZI rfl rfl rfl (ZA rfl rfl (Zf F26_3 rfl) (ZI rfl rfl rfl (ZA rfl rfl (ZU 0 S24 rfl rfl rfl) (ZI rfl rfl rfl ?_))))
     obtain ⟨x_10, hr_11, hx⟩ := ZM hx
     refine ZT (vs := [_, _]) (args := [_, _]) (K := []) (rst := [_]) E39 rfl rfl rfl ZL (slices_IsSortedFunc_Part_ok p_1.Parts _ ha_3 _ hr_11) rfl (fun u_12 Ku_12 Hu_12 hRu_12 hleu_12 hfu_12 => ?_)
     obtain ⟨rfl, rfl, rfl, -⟩ := hRu_12
     refine ZI rfl rfl rfl (ZA rfl rfl (R.not rfl) (ZA rfl rfl (Za rfl rfl) (ZD (ZC (ZY rfl (fun c_13 => ?_) (fun c_13 => ?_))))))
     ·
      replace hx := ZP c_13 hx
      refine ZG (ZB (ZA rfl rfl (ZE rfl) (ZD (ZC (ZV (ZJ (ZO (vs := [.bool false]) (K := []) (rst := [_]) (.inl rfl) rfl rfl (ZN rfl rfl) ZL ?_)))))))
      obtain rfl := Option.some.inj hx
      exact ⟨rfl, rfl, trivial⟩
     ·
      replace hx := ZQ c_13 hx
      refine JC.skip (ZC (ZG (ZB (ZA rfl rfl (ZE rfl) (ZD (ZC (ZG (ZG (ZB (ZA rfl rfl (Zf F26_3 rfl) (ZA rfl rfl (ZU 0 S24 rfl rfl rfl) ?_)))))))))))
      refine ZA rfl rfl (Zs U24 rfl (IsSlice.long ha_3)) (ZA rfl rfl (ZH rfl) (ZD (ZC ?_)))
      obtain ⟨t_14, ht_16, hx⟩ := ZM hx
      refine Zv (fun l o g => ∃ t_14a : Unit, ∃ H_21 : Heaplet, l = [] ∧ o = [] ∧ H_21 = g ∧ t_14 = .inl t_14a ∧ Hle H H_21) ?_ ?_
      ·
       rintro _ _ _ ⟨t_14a, H_21, rfl, rfl, rfl, rfl, hleH_21⟩
       simp only [Sum.elim_inl] at hx
       refine ZC (ZG (ZB (ZA rfl rfl (ZE rfl) (ZD (ZC (ZV (ZO (vs := [.bool true]) (K := []) (rst := []) (.inl rfl) rfl rfl (ZN rfl rfl) ZL ?_)))))))
       obtain rfl := Option.some.inj hx
       exact ⟨rfl, rfl, trivial⟩
      ·
       have hxo_15 := hx; clear hx; have hx := ht_16; clear ht_16
       refine JC.block (JC.loopI (fun n l o g => ∃ s_17 : Int × Nat, ∃ H_20 : Heaplet, l = [(1, .pointer (some ⟨b_5, 0, none⟩)), (3, .int .i64 s_17.1), (35, .slice aa_3 na_3 ca_3), (36, .int .i64 (p_1.Parts.length : Int)), (37, .int .i64 ((s_17.2 : Nat) : Int))] ∧ o = [[(b_5, .cells #[.int .u32 (p_1.Guid.toNat : Int), .int .u32 (p_1.Base.toNat : Int), .slice aa_2 na_2 ca_2, .slice aa_3 na_3 ca_3, .slice aa_4 na_4 ca_4] 26 (0, 0))]] ∧ H_20 = g ∧ run (send_may_l1 p_1) n s_17 = some t_14 ∧ Hle H H_20) FUEL ?_ ⟨((-1), 0), H, rfl, rfl, rfl, hx, (Hle.refl _)⟩ ⟨rfl, rfl, rfl, rfl, rfl, trivial⟩ ?_)
       ·
        rintro _ _ _ ⟨s_17, H_20, rfl, rfl, rfl, hn_18, hleH_20⟩
        exact run_zero hn_18
       ·
        rintro n_19 _ _ _ ⟨s_17, H_20, rfl, rfl, rfl, hn_18, hleH_20⟩
        clear hx; obtain ⟨oo_22, hx, hd_21⟩ := run_some hn_18
        unfold send_may_l1 at hx
        refine ZG (ZB (ZA rfl rfl (Zu rfl rfl) (ZD (ZC (ZG (ZY rfl (fun c_21 => ?_) (fun c_21 => ?_)))))))
        ·
         replace hx := ZP c_21 hx
         refine JC.skip (ZC (ZG (JC.block (ZG (ZB (ZA rfl rfl (ZH rfl) ?_))))))
         obtain ⟨y_22, hN_23, hx⟩ := Zo hx
         obtain ⟨b_24, o_25, cs_26, hE_27, hR_28, hl_29, hc_30⟩ := IsSlice.elem (ha_3.mono R_Part.mono hleH_20) hN_23
         obtain ⟨v_31, rfl, hs_32⟩ := hR_28
         obtain ⟨av_31, cv_31, rfl⟩ := IsSlice.val hs_32
         refine ZA rfl rfl (R.ix U24 S39 rfl rfl hE_27) (ZA rfl rfl (R.ldHE (cs := [.int .i64 y_22.Obj, .int .i64 y_22.Index, .int .u32 (y_22.Iv.toNat : Int), .int .u32 (y_22.Tag.toNat : Int), .slice av_31 y_22.Data.length cv_31]) (k := 0) (vs := [.int .i64 y_22.Obj, .int .i64 y_22.Index, .int .u32 (y_22.Iv.toNat : Int), .int .u32 (y_22.Tag.toNat : Int), .slice av_31 y_22.Data.length cv_31]) S39 rfl hc_30 rfl rfl) (JL.alloc Z39 rfl (fun b_33 hb_33 => ZA rfl rfl (ZE rfl) (Zh 0 S39 rfl rfl rfl rfl rfl (Nat.le_of_ble_eq_true rfl) (ZD (ZC (ZG ?_)))))))
         obtain ⟨t_34, ht_36, hx⟩ := ZM hx
         refine Zv (fun l o g => ∃ t_34a : Unit, ∃ H_60 : Heaplet, l = [(1, .pointer (some ⟨b_5, 0, none⟩)), (3, .int .i64 s_17.1), (5, .pointer (some ⟨b_33, 0, none⟩)), (35, .slice aa_3 na_3 ca_3), (36, .int .i64 (p_1.Parts.length : Int)), (37, .int .i64 ((s_17.2 : Nat) : Int))] ∧ o = [[(b_5, .cells #[.int .u32 (p_1.Guid.toNat : Int), .int .u32 (p_1.Base.toNat : Int), .slice aa_2 na_2 ca_2, .slice aa_3 na_3 ca_3, .slice aa_4 na_4 ca_4] 26 (0, 0))], [(b_33, .cells #[.int .i64 y_22.Obj, .int .i64 y_22.Index, .int .u32 (y_22.Iv.toNat : Int), .int .u32 (y_22.Tag.toNat : Int), .slice av_31 y_22.Data.length cv_31] 39 (0, 0))]] ∧ H_60 = g ∧ t_34 = .inl t_34a ∧ Hle H_20 H_60) ?_ ?_
         ·
          rintro _ _ _ ⟨t_34a, H_60, rfl, rfl, rfl, rfl, hleH_60⟩
          simp only [Sum.elim_inl] at hx
          refine ZC (ZG ?_)
          obtain ⟨t_62, ht_64, hx⟩ := ZM hx
          refine Zv (fun l o g => l = [(1, .pointer (some ⟨b_5, 0, none⟩)), (3, .int .i64 t_62), (5, .pointer (some ⟨b_33, 0, none⟩)), (35, .slice aa_3 na_3 ca_3), (36, .int .i64 (p_1.Parts.length : Int)), (37, .int .i64 ((s_17.2 : Nat) : Int))] ∧ o = [[(b_5, .cells #[.int .u32 (p_1.Guid.toNat : Int), .int .u32 (p_1.Base.toNat : Int), .slice aa_2 na_2 ca_2, .slice aa_3 na_3 ca_3, .slice aa_4 na_4 ca_4] 26 (0, 0))], [(b_33, .cells #[.int .i64 y_22.Obj, .int .i64 y_22.Index, .int .u32 (y_22.Iv.toNat : Int), .int .u32 (y_22.Tag.toNat : Int), .slice av_31 y_22.Data.length cv_31] 39 (0, 0))]] ∧ H_60 = g) ?_ ?_
          ·
           rintro _ _ _ ⟨rfl, rfl, rfl⟩
           refine ZC (ZG (ZB (ZA rfl rfl (Zf F39_1 rfl) (ZA rfl rfl (ZU 1 S3 rfl rfl rfl) (ZA rfl rfl (Zu rfl rfl) (ZA rfl rfl (ZH rfl) (ZZ (t := 76) rfl (fun c_76 => ?_) (fun c_76 => ?_))))))))
           ·
            replace hx := ZP c_76 hx
            refine ZI rfl rfl rfl (ZA rfl rfl (ZH rfl) (ZI rfl rfl rfl (ZA rfl rfl (Zf F39_0 rfl) (ZI rfl rfl rfl (ZA rfl rfl (ZU 1 S3 rfl rfl rfl) (ZI rfl rfl rfl (ZA rfl rfl (R.neq_i rfl rfl) (ZA rfl rfl (ZR rfl rfl) (ZD (ZC (ZY rfl (fun c_77 => ?_) (fun c_77 => ?_))))))))))))
            ·
             replace hx := ZP c_77 hx
             refine ZG (ZB (ZA rfl rfl (ZE rfl) (ZD (ZC (ZV (Zq (ZJ ?_)))))))
             obtain rfl := Zj hd_21 hx
             refine ZJ (Zq ?_)
             clear hx; have hx := hxo_15
             simp only [Sum.elim_inl, Sum.elim_inr] at hx
             refine ZJ (ZJ (ZO (vs := [.bool false]) (K := []) (rst := [_, _]) (.inl rfl) rfl rfl (ZN rfl rfl) ZL ?_))
             obtain rfl := Option.some.inj hx
             exact ⟨rfl, rfl, trivial⟩
            ·
             replace hx := ZQ c_77 hx
             refine JC.skip (JN.blkN (ZC (ZB (ZA rfl rfl (R.inc rfl rfl (of_decide_eq_true c_21) (IsSlice.lenI ha_3)) (ZA rfl rfl (ZH rfl) (ZD ?_))))))
             replace hx := run_next hd_21 hx
             refine JN.forget 1 ?_
             exact ZW ⟨(t_62, s_17.2 + 1), H_60, rfl, rfl, rfl, hx, ((hleH_20.trans hleH_60))⟩ ⟨rfl, rfl, rfl, rfl, rfl, trivial⟩ rfl rfl
           ·
            replace hx := ZQ c_76 hx
            refine ZF rfl rfl rfl rfl rfl (ZF rfl rfl rfl rfl rfl (ZF rfl rfl rfl rfl rfl (ZF rfl rfl rfl rfl rfl (ZA rfl rfl (Za rfl rfl) (ZD (ZC (JC.condF rfl (JC.skip (JN.blkN (ZC (ZB ?_)))))))))))
            refine ZA rfl rfl (R.inc rfl rfl (of_decide_eq_true c_21) (IsSlice.lenI ha_3)) (ZA rfl rfl (ZH rfl) (ZD ?_))
            replace hx := run_next hd_21 hx
            refine JN.forget 1 ?_
            exact ZW ⟨(t_62, s_17.2 + 1), H_60, rfl, rfl, rfl, hx, ((hleH_20.trans hleH_60))⟩ ⟨rfl, rfl, rfl, rfl, rfl, trivial⟩ rfl rfl
          ·
           have hxo_63 := hx; clear hx; have hx := ht_64; clear ht_64
           refine ZG (ZB (ZA rfl rfl (Zf F39_1 rfl) (ZA rfl rfl (ZU 1 S3 rfl rfl rfl) (ZA rfl rfl (R.eql_i rfl rfl) (ZA rfl rfl (ZH rfl) (ZZ (t := 64) rfl (fun c_65 => ?_) (fun c_65 => ?_)))))))
           ·
            replace hx := ZP c_65 hx
            refine ZI rfl rfl rfl (ZA rfl rfl (Zf F39_4 rfl) (ZI rfl rfl rfl (ZA rfl rfl (ZU 1 S23 rfl rfl rfl) (ZI rfl rfl rfl ?_))))
            obtain ⟨y_66, hN_67, hx⟩ := Zo hx
            obtain ⟨b_68, o_69, cs_70, hE_71, hR_72, hl_73, hc_74⟩ := IsSlice.elem (hs_32.mono RU8.mono hleH_60) hN_67
            obtain rfl := hR_72
            refine ZA rfl rfl (R.ix U23 S5 rfl rfl hE_71) (ZI rfl rfl rfl (ZA rfl rfl (R.ldH S5 rfl (hc_74 0 _ rfl)) (ZI rfl rfl rfl (ZA rfl rfl (R.gtr8 (a := y_66) (b := (0 : UInt8)) rfl rfl) (ZA rfl rfl (ZR rfl rfl) (ZD (ZC (ZY rfl (fun c_75 => ?_) (fun c_75 => ?_)))))))))
            ·
             replace hx := ZP c_75 hx
             refine ZB (ZA rfl rfl (Zf F39_0 rfl) (ZA rfl rfl (ZU 1 S3 rfl rfl rfl) (ZA rfl rfl (ZE rfl) (ZD ?_))))
             obtain rfl := Option.some.inj hx
             refine ZK 1 rfl (ZK 1 rfl ?_)
             exact ZW ⟨rfl, rfl, rfl⟩ ⟨rfl, rfl, rfl, rfl, rfl, rfl, trivial⟩ rfl rfl
            ·
             replace hx := ZQ c_75 hx
             refine JC.skip ?_
             obtain rfl := Option.some.inj hx
             refine ZK 1 rfl (ZK 1 rfl ?_)
             exact ZW ⟨rfl, rfl, rfl⟩ ⟨rfl, rfl, rfl, rfl, rfl, rfl, trivial⟩ rfl rfl
           ·
            replace hx := ZQ c_65 hx
            refine ZF rfl rfl rfl rfl rfl (ZF rfl rfl rfl rfl rfl (ZF rfl rfl rfl rfl rfl (ZF rfl rfl rfl rfl rfl (ZF rfl rfl rfl rfl rfl (ZA rfl rfl (Za rfl rfl) (ZD (ZC (JC.condF rfl (JC.skip ?_)))))))))
            obtain rfl := Option.some.inj hx
            refine ZK 1 rfl (ZK 1 rfl ?_)
            exact ZW ⟨rfl, rfl, rfl⟩ ⟨rfl, rfl, rfl, rfl, rfl, rfl, trivial⟩ rfl rfl
         ·
          have hxo_35 := hx; clear hx; have hx := ht_36; clear ht_36
          refine ZG (JC.drawB (so := [(_, []), (_, [])]) 19 rfl Mixed ⟨by kernel_rfl, by kernel_rfl⟩ (kept0 [0, 1] rfl) ?_)
          refine JB.val (i := 0) [] rfl (R.ldoN 0 (vs := [.int .i64 y_22.Obj, .int .i64 y_22.Index, .int .u32 (y_22.Iv.toNat : Int), .int .u32 (y_22.Tag.toNat : Int), .slice av_31 y_22.Data.length cv_31]) S39 rfl rfl rfl rfl) ?_
          refine JB.one (i := 1) (by kernel_rfl) ?_
          refine JOB.step rfl trivial rfl (fun K hK => ?_)
          obtain ⟨x_37, hr_38, hx⟩ := ZM hx
          refine ZT (vs := [_]) (args := [_]) (K := []) (rst := [_, _]) E43 rfl rfl rfl ZL (send_part_ok y_22 _ hs_32 _ hr_38) rfl (fun u_39 Ku_39 Hu_39 hRu_39 hleu_39 hfu_39 => ?_)
          obtain ⟨rfl, rfl, -⟩ := hRu_39
          refine ZD (hK _ _ _ hleu_39 (kept0 [0, 1] rfl) ?_)
          refine JB.val (i := 2) [] rfl (R.not rfl) ?_
          refine JB.val (i := 3) [] rfl (ZH rfl) ?_
          refine JB.gSplit (t := 45) rfl (fun c_40 => ?_) (fun c_40 => ?_)
          ·
           replace hx := ZP c_40 hx
           refine JB.no (i := 4) rfl rfl rfl rfl rfl ?_
           refine JB.no (i := 5) rfl rfl rfl rfl rfl ?_
           refine JB.no (i := 6) rfl rfl rfl rfl rfl ?_
           refine JB.noU (i := 7) rfl rfl rfl rfl ?_
           refine JB.noU (i := 8) rfl rfl rfl rfl ?_
           refine JB.noU (i := 9) rfl rfl rfl rfl ?_
           refine JB.noU (i := 10) rfl rfl rfl rfl ?_
           refine JB.noU (i := 11) rfl rfl rfl rfl ?_
           refine JB.noU (i := 12) rfl rfl rfl rfl ?_
           refine JB.noU (i := 13) rfl rfl rfl rfl ?_
           refine JB.noU (i := 14) rfl rfl rfl rfl ?_
           refine JB.noU (i := 15) rfl rfl rfl rfl ?_
           refine JB.noU (i := 16) rfl rfl rfl rfl ?_
           refine JB.no (i := 17) rfl rfl rfl rfl rfl ?_
           refine JB.val (i := 18) [] rfl (ZR rfl rfl) ?_
           refine JB.doneN (by kernel_rfl) ?_
           refine ZC (Zm rfl (ZG (ZB (ZA rfl rfl (ZE rfl) (ZD (ZC (ZV ?_)))))))
           obtain rfl := Option.some.inj hx
           clear hx; have hx := hxo_35
           simp only [Sum.elim_inl, Sum.elim_inr] at hx
           refine ZJ (ZJ (Zq (ZJ ?_)))
           obtain rfl := Zj hd_21 hx
           refine ZJ (Zq ?_)
           clear hx; have hx := hxo_15
           simp only [Sum.elim_inl, Sum.elim_inr] at hx
           refine ZJ (ZJ (ZO (vs := [.bool false]) (K := []) (rst := [_, _]) (.inl rfl) rfl rfl (ZN rfl rfl) ZL ?_))
           obtain rfl := Option.some.inj hx
           exact ⟨rfl, rfl, trivial⟩
          ·
           replace hx := ZQ c_40 hx
           refine JB.val (i := 4) [] rfl (ZH rfl) ?_
           refine JB.val (i := 5) [] rfl (R.gtr_i rfl rfl) ?_
           refine JB.val (i := 6) [] rfl (ZH rfl) ?_
           refine JB.gSplit (t := 48) rfl (fun c_41 => ?_) (fun c_41 => ?_)
           ·
            replace hx := ZP c_41 hx
            refine JB.val (i := 7) [] rfl (Zf F26_3 rfl) ?_
            refine JB.val (i := 8) [] rfl (ZU 1 S24 rfl rfl rfl) ?_
            refine JB.val (i := 9) [] rfl (ZH rfl) ?_
            refine JB.val (i := 10) [] rfl (R.sub_i rfl rfl) ?_
            obtain ⟨y_42, hN_43, hx⟩ := Zo hx
            obtain ⟨b_44, o_45, cs_46, hE_47, hR_48, hl_49, hc_50⟩ := IsSlice.elem (ha_3.mono R_Part.mono hleH_20) hN_43
            obtain ⟨v_51, rfl, hs_52⟩ := hR_48
            obtain ⟨av_51, cv_51, rfl⟩ := IsSlice.val hs_52
            refine JB.val (i := 11) [] rfl (R.ix U24 S39 rfl rfl hE_47) ?_
            refine JB.val (i := 12) [] rfl (R.ldHE (cs := [.int .i64 y_42.Obj, .int .i64 y_42.Index, .int .u32 (y_42.Iv.toNat : Int), .int .u32 (y_42.Tag.toNat : Int), .slice av_51 y_42.Data.length cv_51]) (k := 0) (vs := [.int .i64 y_42.Obj, .int .i64 y_42.Index, .int .u32 (y_42.Iv.toNat : Int), .int .u32 (y_42.Tag.toNat : Int), .slice av_51 y_42.Data.length cv_51]) S39 rfl hc_50 rfl rfl) ?_
            refine JB.val (i := 14) [] rfl (R.ldoN 0 (vs := [.int .i64 y_22.Obj, .int .i64 y_22.Index, .int .u32 (y_22.Iv.toNat : Int), .int .u32 (y_22.Tag.toNat : Int), .slice av_31 y_22.Data.length cv_31]) S39 rfl rfl rfl rfl) ?_
            refine JB.one (i := 13) (by kernel_rfl) ?_
            refine JOB.step rfl ⟨_, _, rfl, rfl, rfl⟩ rfl (fun K hK => ?_)
            obtain ⟨x_53, hr_54, hx⟩ := ZM hx
            refine ZT (vs := [_]) (args := [_]) (K := []) (rst := [_, _]) E42 rfl rfl rfl ZL (send_place_ok y_42 _ (hs_52.mono RU8.mono hleu_39) _ hr_54) rfl (fun u_55 Ku_55 Hu_55 hRu_55 hleu_55 hfu_55 => ?_)
            obtain ⟨rfl, rfl, rfl, -⟩ := hRu_55
            refine ZD (hK _ _ _ hleu_39 (kept0 [0, 1] rfl) ?_)
            refine JB.one (i := 15) (by kernel_rfl) ?_
            refine JOB.step rfl ⟨_, _, rfl, rfl, rfl⟩ rfl (fun K hK => ?_)
            obtain ⟨x_56, hr_57, hx⟩ := ZM hx
            refine ZT (vs := [_]) (args := [_]) (K := []) (rst := [_, _]) E42 rfl rfl rfl ZL (send_place_ok y_22 _ (hs_32.mono RU8.mono hleu_39) _ hr_57) rfl (fun u_58 Ku_58 Hu_58 hRu_58 hleu_58 hfu_58 => ?_)
            obtain ⟨rfl, rfl, rfl, -⟩ := hRu_58
            refine ZD (hK _ _ _ hleu_39 (kept0 [0, 1] rfl) ?_)
            refine JB.val (i := 16) [] rfl (R.eql_i rfl rfl) ?_
            refine JB.val (i := 17) [] rfl (ZR rfl rfl) ?_
            refine JB.val (i := 18) [] rfl (Za rfl rfl) ?_
            refine JB.doneN (by kernel_rfl) ?_
            refine ZC (ZY rfl (fun c_59 => ?_) (fun c_59 => ?_))
            ·
             replace hx := ZP c_59 hx
             refine ZG (ZB (ZA rfl rfl (ZE rfl) (ZD (ZC (ZV ?_)))))
             obtain rfl := Option.some.inj hx
             clear hx; have hx := hxo_35
             simp only [Sum.elim_inl, Sum.elim_inr] at hx
             refine ZJ (ZJ (Zq (ZJ ?_)))
             obtain rfl := Zj hd_21 hx
             refine ZJ (Zq ?_)
             clear hx; have hx := hxo_15
             simp only [Sum.elim_inl, Sum.elim_inr] at hx
             refine ZJ (ZJ (ZO (vs := [.bool false]) (K := []) (rst := [_, _]) (.inl rfl) rfl rfl (ZN rfl rfl) ZL ?_))
             obtain rfl := Option.some.inj hx
             exact ⟨rfl, rfl, trivial⟩
            ·
             replace hx := ZQ c_59 hx
             refine JC.skip ?_
             obtain rfl := Option.some.inj hx
             refine ZK 1 rfl ?_
             exact ZW ⟨(), Hu_39, rfl, rfl, rfl, rfl, (hleu_39)⟩ ⟨rfl, rfl, rfl, rfl, rfl, rfl, trivial⟩ rfl rfl
           ·
            replace hx := ZQ c_41 hx
            refine JB.no (i := 7) rfl rfl rfl rfl rfl ?_
            refine JB.no (i := 8) rfl rfl rfl rfl rfl ?_
            refine JB.no (i := 9) rfl rfl rfl rfl rfl ?_
            refine JB.no (i := 10) rfl rfl rfl rfl rfl ?_
            refine JB.no (i := 11) rfl rfl rfl rfl rfl ?_
            refine JB.no (i := 12) rfl rfl rfl rfl rfl ?_
            refine JB.no (i := 13) rfl rfl rfl rfl rfl ?_
            refine JB.no (i := 14) rfl rfl rfl rfl rfl ?_
            refine JB.no (i := 15) rfl rfl rfl rfl rfl ?_
            refine JB.no (i := 16) rfl rfl rfl rfl rfl ?_
            refine JB.val (i := 17) [] rfl (Za rfl rfl) ?_
            refine JB.val (i := 18) [] rfl (Za rfl rfl) ?_
            refine JB.doneN (by kernel_rfl) ?_
            refine ZC (JC.condF rfl (JC.skip ?_))
            obtain rfl := Option.some.inj hx
            refine ZK 1 rfl ?_
            exact ZW ⟨(), Hu_39, rfl, rfl, rfl, rfl, (hleu_39)⟩ ⟨rfl, rfl, rfl, rfl, rfl, rfl, trivial⟩ rfl rfl
        ·
         replace hx := ZQ c_21 hx
         refine JC.exit (Zg ?_)
         obtain rfl := Zj hd_21 hx
         refine Zg (Zl (JN.forget 0 ?_))
         exact ZW ⟨(), H_20, rfl, rfl, rfl, rfl, (hleH_20)⟩ trivial rfl rfl

set_option maxHeartbeats 8000000 in
theorem code_Put_ok (p_1 : Int) (p_2 : Int) (H : Heaplet) (r : List UInt8 × Int) (hx : code_Put p_1 p_2 = some r) :
  Does Try.prog 66 #[.int .i64 p_1, .int .i64 p_2] [] H (fun u K' H' => ∃ ao0 : Option Addr, ∃ n0 : Nat, ∃ cap0 : Nat, ∃ K0 : Own, u = .tuple #[.slice ao0 n0 cap0, .int .i64 r.2] ∧ K' = [K0] ∧ H = H' ∧ RowOf (New H H) RU8 0 5 1 (.slice ao0 n0 cap0) r.1 K0 ∧ (∀ p ∈ K0, p.1 ∉ ids (List.flatten [])) ∧ True) := by
 refine Does.enterL (vs := [.int .i64 p_1, .int .i64 p_2]) (l := [(0, .int .i64 p_1), (1, .int .i64 p_2)]) Try.func66 rfl rfl ⟨rfl, rfl, trivial⟩ (fun w hlt => ?_)
 unfold code_Put at hx
 refine ZG (ZB (ZA rfl rfl (ZE rfl) (ZA rfl rfl (ZE rfl) (ZD (ZC (ZG (ZG (ZB (ZA rfl rfl (ZH rfl) ?_)))))))))
 obtain ⟨x_3, hr_4, hx⟩ := ZM hx
 refine ZT (vs := [_]) (args := [_]) (K := []) (rst := []) E48 rfl rfl rfl ZL (code_sized_ok p_2 _ _ hr_4) rfl (fun u_5 Ku_5 Hu_5 hRu_5 hleu_5 hfu_5 => ?_)
 obtain ⟨rfl, rfl, rfl, -⟩ := hRu_5
 refine ZA rfl rfl (R.not rfl) (ZA rfl rfl (ZH rfl) (ZZ (t := 10) rfl (fun c_6 => ?_) (fun c_6 => ?_)))
 ·
  replace hx := ZP c_6 hx
  refine ZF rfl rfl rfl rfl rfl (ZF rfl rfl rfl rfl rfl (ZA rfl rfl (ZR rfl rfl) (ZA rfl rfl (ZH rfl) (ZF rfl rfl rfl rfl rfl (ZF rfl rfl rfl rfl rfl (ZF rfl rfl rfl rfl rfl (ZF rfl rfl rfl rfl rfl (ZF rfl rfl rfl rfl rfl (ZA rfl rfl (ZR rfl rfl) (ZD (ZC ?_)))))))))))
  refine Zm rfl (ZG (ZB (ZA rfl rfl (ZE rfl) (ZA rfl rfl (ZE rfl) (ZD (ZC (ZV (ZJ (Zn (ZO (vs := [.slice none 0 0, .int .i64 2]) (K := [_]) (rst := []) (.inl rfl) rfl rfl (ZN rfl (ZN rfl rfl)) (ZS 0 rfl ZL) ?_))))))))))
  obtain rfl := Option.some.inj hx
  exact ⟨none, 0, 0, [], rfl, rfl, rfl, (Zc _ _ _ _ _), (fun p hp => by cases hp), trivial⟩
 ·
  replace hx := ZQ c_6 hx
  refine ZI rfl rfl rfl (ZA rfl rfl (ZH rfl) (ZI rfl rfl rfl (ZA rfl rfl (Zu rfl rfl) (ZA rfl rfl (Za rfl rfl) (ZA rfl rfl (ZH rfl) (ZZ (t := 14) rfl (fun c_7 => ?_) (fun c_7 => ?_)))))))
  ·
   replace hx := ZP c_7 hx
   refine ZF rfl rfl rfl rfl rfl (ZF rfl rfl rfl rfl rfl (ZF rfl rfl rfl rfl rfl (ZF rfl rfl rfl rfl rfl (ZF rfl rfl rfl rfl rfl (ZA rfl rfl (ZR rfl rfl) (ZD (ZC (Zm rfl (ZG (ZB (ZA rfl rfl (ZE rfl) ?_)))))))))))
   refine ZA rfl rfl (ZE rfl) (ZD (ZC (ZV (ZJ (Zn (ZO (vs := [.slice none 0 0, .int .i64 2]) (K := [_]) (rst := []) (.inl rfl) rfl rfl (ZN rfl (ZN rfl rfl)) (ZS 0 rfl ZL) ?_))))))
   obtain rfl := Option.some.inj hx
   exact ⟨none, 0, 0, [], rfl, rfl, rfl, (Zc _ _ _ _ _), (fun p hp => by cases hp), trivial⟩
  ·
   replace hx := ZQ c_7 hx
   refine ZI rfl rfl rfl (ZA rfl rfl (ZH rfl) (ZI rfl rfl rfl (ZA rfl rfl (ZH rfl) (ZI rfl rfl rfl (ZA rfl rfl (R.mul_i rfl rfl) (ZI rfl rfl rfl ?_))))))
   obtain ⟨hz_8, hx⟩ := chk_some hx
   refine ZA rfl rfl (R.shl_i (n := (w64 (8 * p_2))) rfl rfl hz_8) (ZI rfl rfl rfl (ZA rfl rfl (R.geq_i rfl rfl) (ZA rfl rfl (Za rfl rfl) (ZD (ZC (ZY rfl (fun c_9 => ?_) (fun c_9 => ?_)))))))
   ·
    replace hx := ZP c_9 hx
    refine ZG (ZB (ZA rfl rfl (ZE rfl) (ZA rfl rfl (ZE rfl) (ZD (ZC (ZV (ZJ (Zn (ZO (vs := [.slice none 0 0, .int .i64 2]) (K := [_]) (rst := []) (.inl rfl) rfl rfl (ZN rfl (ZN rfl rfl)) (ZS 0 rfl ZL) ?_)))))))))
    obtain rfl := Option.some.inj hx
    exact ⟨none, 0, 0, [], rfl, rfl, rfl, (Zc _ _ _ _ _), (fun p hp => by cases hp), trivial⟩
   ·
    replace hx := ZQ c_9 hx
    refine JC.skip (ZC (ZG (ZB (ZA rfl rfl (ZE rfl) (ZD (ZC (ZG ?_)))))))
    obtain ⟨t_10, ht_12, hx⟩ := ZM hx
    refine Zv (fun l o g => ∃ ar_17 : Option Addr, ∃ nr_17 : Nat, ∃ cr_17 : Nat, ∃ Kr_17 : Own, l = [(6, .slice ar_17 nr_17 cr_17)] ∧ o = [Kr_17] ∧ H = g ∧ RowOf (New H H) RU8 w.heap.size 5 1 (.slice ar_17 nr_17 cr_17) t_10 Kr_17) ?_ ?_
    ·
     rintro _ _ _ ⟨ar_17, nr_17, cr_17, Kr_17, rfl, rfl, rfl, hr_17⟩
     refine ZC (ZG (ZB (ZA rfl rfl (ZH rfl) (ZA rfl rfl (ZE rfl) (ZA rfl rfl (ZE rfl) (ZD (ZC (ZV (ZO (vs := [.slice ar_17 nr_17 cr_17, .int .i64 0]) (K := [_]) (rst := []) (.inl rfl) rfl rfl (ZN rfl (ZN rfl rfl)) (ZS 0 rfl ZL) ?_)))))))))
     obtain rfl := Option.some.inj hx
     exact ⟨ar_17, nr_17, cr_17, Kr_17, rfl, rfl, rfl, (Zk (Nat.zero_le _) hr_17), (new_ids hr_17 hlt), trivial⟩
    ·
     have hxo_11 := hx; clear hx; have hx := ht_12; clear ht_12
     refine JC.block (JC.seg0 (JC.loopI (fun n l o g => ∃ s_13 : Int × List UInt8, ∃ ar_16 : Option Addr, ∃ nr_16 : Nat, ∃ cr_16 : Nat, ∃ Kr_16 : Own, l = [(0, .int .i64 s_13.1), (1, .int .i64 p_2), (6, .slice ar_16 nr_16 cr_16)] ∧ o = [Kr_16] ∧ H = g ∧ run (code_Put_l1 p_2) n s_13 = some t_10 ∧ RowOf (New H H) RU8 w.heap.size 5 1 (.slice ar_16 nr_16 cr_16) s_13.2 Kr_16) FUEL ?_ ⟨(p_1, ([] : List UInt8)), none, 0, 0, [], rfl, rfl, rfl, hx, (Zc _ _ _ _ _)⟩ ⟨rfl, rfl, rfl, trivial⟩ ?_))
     ·
      rintro _ _ _ ⟨s_13, ar_16, nr_16, cr_16, Kr_16, rfl, rfl, rfl, hn_14, hr_16⟩
      exact run_zero hn_14
     ·
      rintro n_15 _ _ _ ⟨s_13, ar_16, nr_16, cr_16, Kr_16, rfl, rfl, rfl, hn_14, hr_16⟩
      clear hx; obtain ⟨oo_18, hx, hd_17⟩ := run_some hn_14
      unfold code_Put_l1 at hx
      refine ZG (ZG (ZB (ZA rfl rfl (ZH rfl) (ZA rfl rfl (Zs U23 rfl (RowOf.long hr_16)) (ZA rfl rfl (ZH rfl) (ZA rfl rfl (Zu rfl rfl) (ZD (ZC (ZY rfl (fun c_17 => ?_) (fun c_17 => ?_))))))))))
      ·
       replace hx := ZP c_17 hx
       refine JC.skip (ZC (ZG (JC.block (ZB (ZA rfl rfl (ZH rfl) (ZA rfl rfl (ZH rfl) (ZA rfl rfl (R.cv_i64_u8 U3 U5 rfl) (JL.bslF (HF := (New H H)) (R := RU8) (ls := [u8i s_13.1]) (vs := [.int .u8 ((u8i s_13.1).toNat : Int)]) U23 I5 rfl rfl (⟨_, _, rfl, rfl, rfl, rfl⟩) RU8.one rfl rfl rfl (by simp [maxLen]) rfl (fun vr_18 Kr_18 hr_18 => ?_)))))))))
       obtain ⟨ar_18, cr_18, rfl⟩ := RowOf.val hr_18
       obtain ⟨q_19, hm_20, hl_21, hx⟩ := app_some hx
       refine JL.appF (HF := (New H H)) 1 U23 I5 rfl rfl hr_16 rfl (SrcF.row 0 U23 rfl hr_18) hm_20 hl_21 rfl (Nat.le_refl _) rfl (fun vr_22 Kr_22 hr_22 => ?_)
       obtain ⟨ar_22, cr_22, rfl⟩ := RowOf.val hr_22
       refine ZA rfl rfl (ZE rfl) (ZD (JN.blkN (ZC (ZB (ZA rfl rfl (ZH rfl) (ZA rfl rfl (R.quo_i rfl rfl (by decide)) (ZA rfl rfl (ZE rfl) (ZD ?_))))))))
       replace hx := run_next hd_17 hx
       refine JN.forget 0 ?_
       exact ZW ⟨(w64 (s_13.1.tdiv 256), q_19), ar_22, q_19.length, cr_22, Kr_22, rfl, rfl, rfl, hx, hr_22⟩ ⟨rfl, rfl, rfl, trivial⟩ rfl rfl
      ·
       replace hx := ZQ c_17 hx
       refine JC.exit (Zg ?_)
       obtain rfl := Zj hd_17 hx
       refine Zg (Zl ?_)
       exact ZW ⟨ar_16, nr_16, cr_16, Kr_16, rfl, rfl, rfl, hr_16⟩ ⟨rfl, trivial⟩ rfl rfl

set_option maxHeartbeats 8000000 in
theorem send_put_ok (p_1 : List UInt8) (p_3 : Int) (p_4 : List Int) (H : Heaplet) {ar_2 : Option Addr} {nr_2 : Nat} {cr_2 : Nat} {Kr_2 : Own} {aa_5 : Option Addr} {na_5 : Nat} {ca_5 : Nat} (hr_2 : RowOf H RU8 0 5 1 (.slice ar_2 nr_2 cr_2) p_1 Kr_2) (ha_5 : IsSlice H RInt 1 (.slice aa_5 na_5 ca_5) p_4) (r : List UInt8) (hx : send_put p_1 p_3 p_4 = some r) :
  Does Try.prog 44 #[.slice ar_2 nr_2 cr_2, .int .i64 p_3, .slice aa_5 na_5 ca_5] [Kr_2] H (fun u K' H' => ∃ ao0 : Option Addr, ∃ n0 : Nat, ∃ cap0 : Nat, ∃ K0 : Own, u = .slice ao0 n0 cap0 ∧ K' = [K0] ∧ H = H' ∧ RowOf (New H H) RU8 0 5 1 (.slice ao0 n0 cap0) r K0 ∧ True) := by
 refine Does.enterL (vs := [.slice ar_2 nr_2 cr_2, .int .i64 p_3, .slice aa_5 na_5 ca_5]) (l := [(0, .slice ar_2 nr_2 cr_2), (1, .int .i64 p_3), (2, .slice aa_5 na_5 ca_5)]) Try.func44 rfl rfl ⟨rfl, rfl, rfl, trivial⟩ (fun w hlt => ?_)
 replace hr_2 := ZX (H2 := New H H) RU8.const hr_2
 unfold send_put at hx
 refine ZG (ZB (ZA rfl rfl (ZE rfl) (ZD (ZC (ZG (ZG (ZB (ZA rfl rfl (ZH rfl) (ZA rfl rfl (Zs U105 rfl (IsSlice.long ha_5)) (ZA rfl rfl (ZH rfl) (ZD ?_)))))))))))
 refine ZC ?_
 obtain ⟨t_6, ht_8, hx⟩ := ZM hx
 refine Zv (fun l o g => ∃ ar_13 : Option Addr, ∃ nr_13 : Nat, ∃ cr_13 : Nat, ∃ Kr_13 : Own, l = [(0, .slice ar_13 nr_13 cr_13)] ∧ o = [Kr_13] ∧ H = g ∧ RowOf (New H H) RU8 0 5 1 (.slice ar_13 nr_13 cr_13) t_6 Kr_13) ?_ ?_
 ·
  rintro _ _ _ ⟨ar_13, nr_13, cr_13, Kr_13, rfl, rfl, rfl, hr_13⟩
  refine ZC (ZG (ZB (ZA rfl rfl (ZH rfl) (ZA rfl rfl (ZE rfl) (ZD (ZC (ZV (ZO (vs := [.slice ar_13 nr_13 cr_13]) (K := [_]) (rst := []) (.inl rfl) rfl rfl (ZN rfl rfl) (ZS 0 rfl ZL) ?_))))))))
  obtain rfl := Option.some.inj hx
  exact ⟨ar_13, nr_13, cr_13, Kr_13, rfl, rfl, rfl, (Zk (Nat.zero_le _) hr_13), trivial⟩
 ·
  have hxo_7 := hx; clear hx; have hx := ht_8; clear ht_8
  refine JC.block (JC.loopI (fun n l o g => ∃ s_9 : List UInt8 × Nat, ∃ ar_12 : Option Addr, ∃ nr_12 : Nat, ∃ cr_12 : Nat, ∃ Kr_12 : Own, l = [(0, .slice ar_12 nr_12 cr_12), (1, .int .i64 p_3), (11, .slice aa_5 na_5 ca_5), (12, .int .i64 (p_4.length : Int)), (13, .int .i64 ((s_9.2 : Nat) : Int))] ∧ o = [Kr_12] ∧ H = g ∧ run (send_put_l1 p_3 p_4) n s_9 = some t_6 ∧ RowOf (New H H) RU8 0 5 1 (.slice ar_12 nr_12 cr_12) s_9.1 Kr_12) FUEL ?_ ⟨(p_1, 0), ar_2, nr_2, cr_2, Kr_2, rfl, rfl, rfl, hx, hr_2⟩ ⟨rfl, rfl, rfl, rfl, rfl, trivial⟩ ?_)
  ·
   rintro _ _ _ ⟨s_9, ar_12, nr_12, cr_12, Kr_12, rfl, rfl, rfl, hn_10, hr_12⟩
   exact run_zero hn_10
  ·
   rintro n_11 _ _ _ ⟨s_9, ar_12, nr_12, cr_12, Kr_12, rfl, rfl, rfl, hn_10, hr_12⟩
   clear hx; obtain ⟨oo_14, hx, hd_13⟩ := run_some hn_10
   unfold send_put_l1 at hx
   refine ZG (ZB (ZA rfl rfl (Zu rfl rfl) (ZD (ZC (ZG (ZY rfl (fun c_13 => ?_) (fun c_13 => ?_)))))))
   ·
    replace hx := ZP c_13 hx
    refine JC.skip (ZC (ZG (JC.block (ZG (ZB ?_)))))
    obtain ⟨y_14, hN_15, hx⟩ := Zo hx
    obtain ⟨b_16, o_17, cs_18, hE_19, hR_20, hl_21, hc_22⟩ := IsSlice.elem ha_5 hN_15
    obtain rfl := hR_20
    refine ZA rfl rfl (R.ix U105 S3 rfl rfl hE_19) (ZA rfl rfl (R.ldH S3 rfl (hc_22 0 _ rfl)) (ZA rfl rfl (ZE rfl) (ZD (ZC (ZG (ZB (ZA rfl rfl (ZH rfl) (ZA rfl rfl (ZH rfl) ?_))))))))
    obtain ⟨x_23, hr_24, hx⟩ := ZM hx
    refine ZT (vs := [_, _]) (args := [_, _]) (K := []) (rst := [_]) E66 rfl rfl rfl ZL (code_Put_ok y_14 p_3 _ _ hr_24) rfl (fun u_25 Ku_25 Hu_25 hRu_25 hleu_25 hfu_25 => ?_)
    obtain ⟨ar_26, nr_26, cr_26, Kr_26, rfl, rfl, rfl, hr_26, hnewr_26, -⟩ := hRu_25
    replace hr_26 := (RowOf.base (ZX (H2 := New H H) RU8.const hr_26) (fun p hp => (hfu_25 p (Zr 0 rfl hp)).resolve_left (hnewr_26 p hp)))
    refine ZA rfl rfl (ZH rfl) (ZA rfl rfl (R.extract rfl rfl) (ZA rfl rfl (R.extract rfl rfl) (ZA rfl rfl (ZE rfl) (ZA rfl rfl (ZE rfl) (ZD (ZC (ZB (ZA rfl rfl (ZH rfl) (ZA rfl rfl (ZH rfl) ?_)))))))))
    obtain ⟨q_27, hm_28, hl_29, hx⟩ := app_some hx
    refine JL.appF (HF := (New H H)) 1 U23 I5 rfl rfl hr_12 rfl (SrcF.row 0 U23 rfl hr_26) hm_28 hl_29 rfl (Nat.zero_le _) rfl (fun vr_30 Kr_30 hr_30 => ?_)
    obtain ⟨ar_30, cr_30, rfl⟩ := RowOf.val hr_30
    refine ZA rfl rfl (ZE rfl) (ZD (JN.blkN (ZC (ZB (ZA rfl rfl (R.inc rfl rfl (of_decide_eq_true c_13) (IsSlice.lenI ha_5)) (ZA rfl rfl (ZH rfl) (ZD ?_)))))))
    replace hx := run_next hd_13 hx
    refine JN.forget 0 ?_
    exact ZW ⟨(q_27, s_9.2 + 1), ar_30, q_27.length, cr_30, Kr_30, rfl, rfl, rfl, hx, hr_30⟩ ⟨rfl, rfl, rfl, rfl, rfl, trivial⟩ rfl rfl
   ·
    replace hx := ZQ c_13 hx
    refine JC.exit (Zg ?_)
    obtain rfl := Zj hd_13 hx
    refine Zg (Zl ?_)
    exact ZW ⟨ar_12, nr_12, cr_12, Kr_12, rfl, rfl, rfl, hr_12⟩ ⟨rfl, trivial⟩ rfl rfl

set_option maxHeartbeats 8000000 in
theorem send_text_ok (p_1 : Stream) (H : Heaplet) {aa_2 : Option Addr} {na_2 : Nat} {ca_2 : Nat} {aa_3 : Option Addr} {na_3 : Nat} {ca_3 : Nat} {aa_4 : Option Addr} {na_4 : Nat} {ca_4 : Nat} (ha_2 : IsSlice H RU8 1 (.slice aa_2 na_2 ca_2) p_1.Key) (ha_3 : IsSlice H R_Part 5 (.slice aa_3 na_3 ca_3) p_1.Parts) (ha_4 : IsSlice H RU8 1 (.slice aa_4 na_4 ca_4) p_1.Sign) (r : List UInt8) (hx : send_text p_1 = some r) :
  Does Try.prog 22 #[.agg #[.int .u32 (p_1.Guid.toNat : Int), .int .u32 (p_1.Base.toNat : Int), .slice aa_2 na_2 ca_2, .slice aa_3 na_3 ca_3, .slice aa_4 na_4 ca_4]] [] H (fun u K' H' => ∃ ao0 : Option Addr, ∃ n0 : Nat, ∃ cap0 : Nat, ∃ K0 : Own, u = .slice ao0 n0 cap0 ∧ K' = [K0] ∧ RowOf (New H H') RU8 0 5 1 (.slice ao0 n0 cap0) r K0 ∧ (∀ p ∈ K0, p.1 ∉ ids (List.flatten [])) ∧ True) := by
 refine Does.enterL (vs := [.agg #[.int .u32 (p_1.Guid.toNat : Int), .int .u32 (p_1.Base.toNat : Int), .slice aa_2 na_2 ca_2, .slice aa_3 na_3 ca_3, .slice aa_4 na_4 ca_4]]) (l := [(0, .agg #[.int .u32 (p_1.Guid.toNat : Int), .int .u32 (p_1.Base.toNat : Int), .slice aa_2 na_2 ca_2, .slice aa_3 na_3 ca_3, .slice aa_4 na_4 ca_4])]) Try.func22 rfl rfl ⟨rfl, trivial⟩ (fun w hlt => ?_)
 unfold send_text at hx
 refine ZG (ZB (JL.box rfl rfl (fun b_5 hb_5 => ZA rfl rfl (ZE rfl) (ZD (ZC (ZG (ZB (JL.bslF (HF := (New H H)) (R := RU8) (ls := [(83 : UInt8)]) (vs := [.int .u8 ((83 : UInt8).toNat : Int)]) U23 I5 rfl rfl (⟨_, _, rfl, rfl, rfl, rfl⟩) RU8.one rfl rfl rfl (by simp [maxLen]) rfl (fun vr_6 Kr_6 hr_6 => ?_)))))))))
 obtain ⟨ar_6, cr_6, rfl⟩ := RowOf.val hr_6
 refine ZA rfl rfl (Zf F26_0 rfl) (ZA rfl rfl (ZU 1 S22 rfl rfl rfl) (ZA rfl rfl (R.cv_u32_i64 (a := p_1.Guid) U22 U3 rfl) (ZA rfl rfl (Zf F26_1 rfl) (ZA rfl rfl (ZU 1 S22 rfl rfl rfl) (ZA rfl rfl (R.cv_u32_i64 (a := p_1.Base) U22 U3 rfl) (JL.bslF (HF := (New H H)) (R := RInt) (ls := [(p_1.Guid.toNat : Int), (p_1.Base.toNat : Int)]) (vs := [.int .i64 (p_1.Guid.toNat : Int), .int .i64 (p_1.Base.toNat : Int)]) U105 I3 rfl rfl (⟨_, _, rfl, rfl, rfl, ⟨_, _, rfl, rfl, rfl, rfl⟩⟩) RInt.one rfl rfl rfl (by simp [maxLen]) rfl (fun vr_7 Kr_7 hr_7 => ?_)))))))
 obtain ⟨ar_7, cr_7, rfl⟩ := RowOf.val hr_7
 refine JL.pubN 0 RInt.mono rfl hr_7 (Nat.le_refl _) (fun H_8 hleH_8 hsH_8 => JL.forget 0 ?_)
 obtain ⟨x_9, hr_10, hx⟩ := ZM hx
 refine ZT (vs := [_, _, _]) (args := [_, _, _]) (K := [_]) (rst := [_]) E44 rfl rfl rfl (ZS 0 rfl ZL) (send_put_ok ([(83 : UInt8)]) 4 ([(p_1.Guid.toNat : Int), (p_1.Base.toNat : Int)]) _ (Zk (Nat.zero_le _) (ZX RU8.const (hr_6.mono RU8.mono (New.mono hleH_8)))) (hsH_8.old RInt.mono) _ hr_10) rfl (fun u_11 Ku_11 Hu_11 hRu_11 hleu_11 hfu_11 => ?_)
 obtain ⟨ar_12, nr_12, cr_12, Kr_12, rfl, rfl, rfl, hr_12, -⟩ := hRu_11
 replace hr_12 := (RowOf.up (ZX (H2 := New H H_8) RU8.const hr_12) (fun p hp => hfu_11 p (Zr 0 rfl hp)) (ids_cons (RowOf.ge hr_6) ids_nil))
 refine ZA rfl rfl (ZE rfl) (ZD (ZC (ZG ?_)))
 obtain ⟨t_13, ht_15, hx⟩ := ZM hx
 refine Zv (fun l o g => ∃ H_26 : Heaplet, ∃ ar_27 : Option Addr, ∃ nr_27 : Nat, ∃ cr_27 : Nat, ∃ Kr_27 : Own, l = [(1, .pointer (some ⟨b_5, 0, none⟩)), (3, .slice ar_27 nr_27 cr_27)] ∧ o = [[(b_5, .cells #[.int .u32 (p_1.Guid.toNat : Int), .int .u32 (p_1.Base.toNat : Int), .slice aa_2 na_2 ca_2, .slice aa_3 na_3 ca_3, .slice aa_4 na_4 ca_4] 26 (0, 0))], Kr_27] ∧ H_26 = g ∧ Hle H_8 H_26 ∧ RowOf (New H H_26) RU8 w.heap.size 5 1 (.slice ar_27 nr_27 cr_27) t_13 Kr_27) ?_ ?_
 ·
  rintro _ _ _ ⟨H_26, ar_27, nr_27, cr_27, Kr_27, rfl, rfl, rfl, hleH_26, hr_27⟩
  refine ZC (ZG (ZG (ZB (ZA rfl rfl (Zf F26_3 rfl) (ZA rfl rfl (ZU 0 S24 rfl rfl rfl) (ZA rfl rfl (Zs U24 rfl (IsSlice.long ha_3)) (ZA rfl rfl (ZH rfl) (ZD (ZC ?_)))))))))
  obtain ⟨t_28, ht_30, hx⟩ := ZM hx
  refine Zv (fun l o g => ∃ H_36 : Heaplet, ∃ ar_37 : Option Addr, ∃ nr_37 : Nat, ∃ cr_37 : Nat, ∃ Kr_37 : Own, l = [(3, .slice ar_37 nr_37 cr_37)] ∧ o = [Kr_37] ∧ H_36 = g ∧ Hle H_26 H_36 ∧ RowOf (New H H_36) RU8 w.heap.size 5 1 (.slice ar_37 nr_37 cr_37) t_28 Kr_37) ?_ ?_
  ·
   rintro _ _ _ ⟨H_36, ar_37, nr_37, cr_37, Kr_37, rfl, rfl, rfl, hleH_36, hr_37⟩
   refine ZC (ZG (ZB (ZA rfl rfl (ZH rfl) (ZA rfl rfl (ZE rfl) (ZD (ZC (ZV (ZO (vs := [.slice ar_37 nr_37 cr_37]) (K := [_]) (rst := []) (.inl rfl) rfl rfl (ZN rfl rfl) (ZS 0 rfl ZL) ?_))))))))
   obtain rfl := Option.some.inj hx
   exact ⟨ar_37, nr_37, cr_37, Kr_37, rfl, rfl, (Zk (Nat.zero_le _) hr_37), (new_ids hr_37 hlt), trivial⟩
  ·
   have hxo_29 := hx; clear hx; have hx := ht_30; clear ht_30
   refine JC.block (JC.forget 0 (JC.loopI (fun n l o g => ∃ s_31 : List UInt8 × Nat, ∃ H_34 : Heaplet, ∃ ar_35 : Option Addr, ∃ nr_35 : Nat, ∃ cr_35 : Nat, ∃ Kr_35 : Own, l = [(3, .slice ar_35 nr_35 cr_35), (25, .slice aa_3 na_3 ca_3), (26, .int .i64 (p_1.Parts.length : Int)), (27, .int .i64 ((s_31.2 : Nat) : Int))] ∧ o = [Kr_35] ∧ H_34 = g ∧ run (send_text_l1 p_1) n s_31 = some t_28 ∧ Hle H_26 H_34 ∧ RowOf (New H H_34) RU8 w.heap.size 5 1 (.slice ar_35 nr_35 cr_35) s_31.1 Kr_35) FUEL ?_ ⟨(t_13, 0), H_26, ar_27, nr_27, cr_27, Kr_27, rfl, rfl, rfl, hx, (Hle.refl _), hr_27⟩ ⟨rfl, rfl, rfl, rfl, trivial⟩ ?_))
   ·
    rintro _ _ _ ⟨s_31, H_34, ar_35, nr_35, cr_35, Kr_35, rfl, rfl, rfl, hn_32, hleH_34, hr_35⟩
    exact run_zero hn_32
   ·
    rintro n_33 _ _ _ ⟨s_31, H_34, ar_35, nr_35, cr_35, Kr_35, rfl, rfl, rfl, hn_32, hleH_34, hr_35⟩
    clear hx; obtain ⟨oo_37, hx, hd_36⟩ := run_some hn_32
    unfold send_text_l1 at hx
    refine ZG (ZB (ZA rfl rfl (Zu rfl rfl) (ZD (ZC (ZG (ZY rfl (fun c_36 => ?_) (fun c_36 => ?_)))))))
    ·
     replace hx := ZP c_36 hx
     refine JC.skip (ZC (ZG (JC.block (ZG (ZB ?_)))))
     obtain ⟨y_37, hN_38, hx⟩ := Zo hx
     obtain ⟨b_39, o_40, cs_41, hE_42, hR_43, hl_44, hc_45⟩ := IsSlice.elem (ha_3.mono R_Part.mono (hleH_8.trans (hleH_26.trans hleH_34))) hN_38
     obtain ⟨v_46, rfl, hs_47⟩ := hR_43
     obtain ⟨av_46, cv_46, rfl⟩ := IsSlice.val hs_47
     refine ZA rfl rfl (R.ix U24 S39 rfl rfl hE_42) (ZA rfl rfl (R.ldHE (cs := [.int .i64 y_37.Obj, .int .i64 y_37.Index, .int .u32 (y_37.Iv.toNat : Int), .int .u32 (y_37.Tag.toNat : Int), .slice av_46 y_37.Data.length cv_46]) (k := 0) (vs := [.int .i64 y_37.Obj, .int .i64 y_37.Index, .int .u32 (y_37.Iv.toNat : Int), .int .u32 (y_37.Tag.toNat : Int), .slice av_46 y_37.Data.length cv_46]) S39 rfl hc_45 rfl rfl) (JL.alloc Z39 rfl (fun b_48 hb_48 => Zh 0 S39 rfl rfl rfl rfl rfl (Nat.le_of_ble_eq_true rfl) (ZD (ZC (ZG ?_))))))
     obtain ⟨t_49, ht_51, hx⟩ := ZM hx
     refine Zv (fun l o g => ∃ H_64 : Heaplet, ∃ ar_65 : Option Addr, ∃ nr_65 : Nat, ∃ cr_65 : Nat, ∃ Kr_65 : Own, l = [(3, .slice ar_65 nr_65 cr_65), (5, .pointer (some ⟨b_48, 0, none⟩)), (25, .slice aa_3 na_3 ca_3), (26, .int .i64 (p_1.Parts.length : Int)), (27, .int .i64 ((s_31.2 : Nat) : Int))] ∧ o = [Kr_65, [(b_48, .cells #[.int .i64 y_37.Obj, .int .i64 y_37.Index, .int .u32 (y_37.Iv.toNat : Int), .int .u32 (y_37.Tag.toNat : Int), .slice av_46 y_37.Data.length cv_46] 39 (0, 0))]] ∧ H_64 = g ∧ Hle H_34 H_64 ∧ RowOf (New H H_64) RU8 w.heap.size 5 1 (.slice ar_65 nr_65 cr_65) t_49 Kr_65) ?_ ?_
     ·
      rintro _ _ _ ⟨H_64, ar_65, nr_65, cr_65, Kr_65, rfl, rfl, rfl, hleH_64, hr_65⟩
      refine ZC (JC.drawB (so := [(_, [5]), (_, [])]) 10 rfl Mixed ⟨by kernel_rfl, by kernel_rfl⟩ (kept0 [0, 1] rfl) ?_)
      refine JB.val (i := 0) [] rfl (ZH rfl) ?_
      refine JB.val (i := 1) [] rfl (Zf F39_4 rfl) ?_
      refine JB.val (i := 2) [] rfl (ZU 0 S23 rfl rfl rfl) ?_
      refine JB.val (i := 3) [] rfl (Zs U23 rfl (IsSlice.long hs_47)) ?_
      refine JB.val (i := 6) [] rfl (Zf F39_4 rfl) ?_
      refine JB.val (i := 7) [] rfl (ZU 0 S23 rfl rfl rfl) ?_
      refine JB.one (i := 4) (by kernel_rfl) ?_
      refine JOB.step rfl trivial rfl (fun K hK => JL.bslF (HF := (New H H_64)) (R := RInt) (ls := [(y_37.Data.length : Int)]) (vs := [.int .i64 (y_37.Data.length : Int)]) U105 I3 rfl rfl (⟨_, _, rfl, rfl, rfl, rfl⟩) RInt.one rfl rfl rfl (by simp [maxLen]) rfl (fun vr_66 Kr_66 hr_66 => ?_))
      obtain ⟨ar_66, cr_66, rfl⟩ := RowOf.val hr_66
      refine ZD (hK _ _ _ (Hle.refl _) (kept0 [1, 2] rfl) ?_)
      refine JB.one (i := 5) (by kernel_rfl) ?_
      refine JOB.step rfl trivial rfl (fun K hK => JL.pubN 0 RInt.mono rfl hr_66 (Nat.le_refl _) (fun H_67 hleH_67 hsH_67 => JL.forget 0 ?_))
      obtain ⟨x_68, hr_69, hx⟩ := ZM hx
      refine ZT (vs := [_, _, _]) (args := [_, _, _]) (K := [_]) (rst := [_]) E44 rfl rfl rfl (ZS 0 rfl ZL) (send_put_ok t_49 2 ([(y_37.Data.length : Int)]) _ (Zk (Nat.zero_le _) (ZX RU8.const (hr_65.mono RU8.mono (New.mono hleH_67)))) (hsH_67.old RInt.mono) _ hr_69) rfl (fun u_70 Ku_70 Hu_70 hRu_70 hleu_70 hfu_70 => ?_)
      obtain ⟨ar_71, nr_71, cr_71, Kr_71, rfl, rfl, rfl, hr_71, -⟩ := hRu_70
      replace hr_71 := (RowOf.up (ZX (H2 := New H H_67) RU8.const hr_71) (fun p hp => hfu_70 p (Zr 0 rfl hp)) (ids_cons (RowOf.ge hr_65) ids_nil))
      refine ZD (hK _ _ _ hleH_67 (kept1 [true, false] [0, 1] (by kernel_rfl) rfl) ?_)
      refine JB.one (i := 8) (by kernel_rfl) ?_
      refine JOB.step rfl trivial rfl (fun K hK => ?_)
      obtain ⟨q_72, hm_73, hl_74, hx⟩ := app_some hx
      refine JL.appF (HF := (New H H_67)) 0 U23 I5 rfl rfl hr_71 rfl (SrcF.sliceC RU8.const RU8.one U23 (hs_47.mono RU8.mono (hleH_64.trans hleH_67))) hm_73 hl_74 rfl (Nat.le_refl _) rfl (fun vr_75 Kr_75 hr_75 => ?_)
      obtain ⟨ar_75, cr_75, rfl⟩ := RowOf.val hr_75
      refine ZD (hK _ _ _ hleH_67 (kept1 [true, false] [0, 1] (by kernel_rfl) rfl) ?_)
      refine JB.val (i := 9) [] rfl (ZE rfl) ?_
      refine JB.doneN (by kernel_rfl) ?_
      refine JN.blkN (ZC (ZB (ZA rfl rfl (R.inc rfl rfl (of_decide_eq_true c_36) (IsSlice.lenI ha_3)) (ZA rfl rfl (ZH rfl) (ZD ?_)))))
      replace hx := run_next hd_36 hx
      refine JN.forget 1 ?_
      exact ZW ⟨(q_72, s_31.2 + 1), H_67, ar_75, q_72.length, cr_75, Kr_75, rfl, rfl, rfl, hx, ((hleH_34.trans (hleH_64.trans hleH_67))), hr_75⟩ ⟨rfl, rfl, rfl, rfl, trivial⟩ rfl rfl
     ·
      have hxo_50 := hx; clear hx; have hx := ht_51; clear ht_51
      refine JC.drawB (so := [(_, []), (_, [6])]) 16 rfl Mixed ⟨by kernel_rfl, by kernel_rfl⟩ (kept0 [0, 1] rfl) ?_
      refine JB.val (i := 0) [] rfl (ZH rfl) ?_
      refine JB.val (i := 1) [] rfl (Zf F39_0 rfl) ?_
      refine JB.val (i := 2) [] rfl (ZU 0 S3 rfl rfl rfl) ?_
      refine JB.val (i := 3) [] rfl (Zf F39_1 rfl) ?_
      refine JB.val (i := 4) [] rfl (ZU 0 S3 rfl rfl rfl) ?_
      refine JB.val (i := 7) [] rfl (Zf F39_2 rfl) ?_
      refine JB.val (i := 8) [] rfl (ZU 0 S22 rfl rfl rfl) ?_
      refine JB.val (i := 9) [] rfl (R.cv_u32_i64 (a := y_37.Iv) U22 U3 rfl) ?_
      refine JB.val (i := 10) [] rfl (Zf F39_3 rfl) ?_
      refine JB.val (i := 11) [] rfl (ZU 0 S22 rfl rfl rfl) ?_
      refine JB.val (i := 12) [] rfl (R.cv_u32_i64 (a := y_37.Tag) U22 U3 rfl) ?_
      obtain ⟨x_54, hr_55, hx⟩ := ZM hx
      obtain ⟨x_60, hr_61, hx⟩ := ZM hx
      refine JB.two (i := 5) (j := 13) (by kernel_rfl) ?_ ?_
      ·
       refine JOB.step rfl trivial rfl (fun K hK => JL.bslF (HF := (New H H_34)) (R := RInt) (ls := [y_37.Obj, y_37.Index]) (vs := [.int .i64 y_37.Obj, .int .i64 y_37.Index]) U105 I3 rfl rfl (⟨_, _, rfl, rfl, rfl, ⟨_, _, rfl, rfl, rfl, rfl⟩⟩) RInt.one rfl rfl rfl (by simp [maxLen]) rfl (fun vr_52 Kr_52 hr_52 => ?_))
       obtain ⟨ar_52, cr_52, rfl⟩ := RowOf.val hr_52
       refine ZD (hK _ _ _ (Hle.refl _) (kept0 [1, 2] rfl) ?_)
       refine JB.two (i := 6) (j := 13) (by kernel_rfl) ?_ ?_
       ·
        refine JOB.step rfl trivial rfl (fun K hK => JL.pubN 0 RInt.mono rfl hr_52 (Nat.le_refl _) (fun H_53 hleH_53 hsH_53 => JL.forget 0 (ZT (vs := [_, _, _]) (args := [_, _, _]) (K := [_]) (rst := [_]) E44 rfl rfl rfl (ZS 1 rfl ZL) (send_put_ok s_31.1 1 ([y_37.Obj, y_37.Index]) _ (Zk (Nat.zero_le _) (ZX RU8.const (hr_35.mono RU8.mono (New.mono hleH_53)))) (hsH_53.old RInt.mono) _ hr_55) rfl (fun u_56 Ku_56 Hu_56 hRu_56 hleu_56 hfu_56 => ?_))))
        obtain ⟨ar_57, nr_57, cr_57, Kr_57, rfl, rfl, rfl, hr_57, -⟩ := hRu_56
        replace hr_57 := (RowOf.up (ZX (H2 := New H H_53) RU8.const hr_57) (fun p hp => hfu_56 p (Zr 0 rfl hp)) (ids_cons (RowOf.ge hr_35) ids_nil))
        refine ZD (hK _ _ _ hleH_53 (kept1 [false, true] [1, 0] (by kernel_rfl) rfl) ?_)
        refine JB.one (i := 13) (by kernel_rfl) ?_
        refine JOB.step rfl trivial rfl (fun K hK => JL.bslF (HF := (New H H_53)) (R := RInt) (ls := [(y_37.Iv.toNat : Int), (y_37.Tag.toNat : Int)]) (vs := [.int .i64 (y_37.Iv.toNat : Int), .int .i64 (y_37.Tag.toNat : Int)]) U105 I3 rfl rfl (⟨_, _, rfl, rfl, rfl, ⟨_, _, rfl, rfl, rfl, rfl⟩⟩) RInt.one rfl rfl rfl (by simp [maxLen]) rfl (fun vr_58 Kr_58 hr_58 => ?_))
        obtain ⟨ar_58, cr_58, rfl⟩ := RowOf.val hr_58
        refine ZD (hK _ _ _ hleH_53 (kept1 [false, true] [2, 0] (by kernel_rfl) rfl) ?_)
        refine JB.one (i := 14) (by kernel_rfl) ?_
        refine JOB.step rfl trivial rfl (fun K hK => JL.pubN 0 RInt.mono rfl hr_58 (Nat.le_refl _) (fun H_59 hleH_59 hsH_59 => JL.forget 0 (ZT (vs := [_, _, _]) (args := [_, _, _]) (K := [_]) (rst := [_]) E44 rfl rfl rfl (ZS 0 rfl ZL) (send_put_ok x_54 4 ([(y_37.Iv.toNat : Int), (y_37.Tag.toNat : Int)]) _ (Zk (Nat.zero_le _) (ZX RU8.const (hr_57.mono RU8.mono (New.mono hleH_59)))) (hsH_59.old RInt.mono) _ hr_61) rfl (fun u_62 Ku_62 Hu_62 hRu_62 hleu_62 hfu_62 => ?_))))
        obtain ⟨ar_63, nr_63, cr_63, Kr_63, rfl, rfl, rfl, hr_63, -⟩ := hRu_62
        replace hr_63 := (RowOf.up (ZX (H2 := New H H_59) RU8.const hr_63) (fun p hp => hfu_62 p (Zr 0 rfl hp)) (ids_cons (RowOf.ge hr_57) ids_nil))
        refine ZD (hK _ _ _ (hleH_53.trans hleH_59) (kept1 [false, true] [1, 0] (by kernel_rfl) rfl) ?_)
        refine JB.val (i := 15) [] rfl (ZE rfl) ?_
        refine JB.doneN (by kernel_rfl) ?_
        obtain rfl := Option.some.inj hx
        refine ZK 1 rfl (ZK 1 rfl ?_)
        exact ZW ⟨H_59, ar_63, nr_63, cr_63, Kr_63, rfl, rfl, rfl, ((hleH_53.trans hleH_59)), hr_63⟩ ⟨rfl, rfl, rfl, rfl, rfl, trivial⟩ rfl rfl
       ·
        refine JOB.step rfl trivial rfl (fun K hK => JL.bslF (HF := (New H H_34)) (R := RInt) (ls := [(y_37.Iv.toNat : Int), (y_37.Tag.toNat : Int)]) (vs := [.int .i64 (y_37.Iv.toNat : Int), .int .i64 (y_37.Tag.toNat : Int)]) U105 I3 rfl rfl (⟨_, _, rfl, rfl, rfl, ⟨_, _, rfl, rfl, rfl, rfl⟩⟩) RInt.one rfl rfl rfl (by simp [maxLen]) rfl (fun vr_58 Kr_58 hr_58 => ?_))
        obtain ⟨ar_58, cr_58, rfl⟩ := RowOf.val hr_58
        refine ZD (hK _ _ _ (Hle.refl _) (kept0 [2, 3] rfl) ?_)
        refine JB.one (i := 6) (by kernel_rfl) ?_
        refine JOB.step rfl trivial rfl (fun K hK => JL.pubN 1 RInt.mono rfl hr_52 (Nat.le_refl _) (fun H_53 hleH_53 hsH_53 => JL.forget 1 (ZT (vs := [_, _, _]) (args := [_, _, _]) (K := [_]) (rst := [_, _]) E44 rfl rfl rfl (ZS 2 rfl ZL) (send_put_ok s_31.1 1 ([y_37.Obj, y_37.Index]) _ (Zk (Nat.zero_le _) (ZX RU8.const (hr_35.mono RU8.mono (New.mono hleH_53)))) (hsH_53.old RInt.mono) _ hr_55) rfl (fun u_56 Ku_56 Hu_56 hRu_56 hleu_56 hfu_56 => ?_))))
        obtain ⟨ar_57, nr_57, cr_57, Kr_57, rfl, rfl, rfl, hr_57, -⟩ := hRu_56
        replace hr_57 := (RowOf.up (ZX (H2 := New H H_53) RU8.const hr_57) (fun p hp => hfu_56 p (Zr 0 rfl hp)) (ids_cons (RowOf.ge hr_35) ids_nil))
        refine ZD (hK _ _ _ hleH_53 (kept1 [false, true] [2, 0] (by kernel_rfl) rfl) ?_)
        refine JB.one (i := 14) (by kernel_rfl) ?_
        refine JOB.step rfl trivial rfl (fun K hK => JL.pubN 1 RInt.mono rfl (hr_58.mono RInt.mono (New.mono hleH_53)) (Nat.le_refl _) (fun H_59 hleH_59 hsH_59 => JL.forget 1 (ZT (vs := [_, _, _]) (args := [_, _, _]) (K := [_]) (rst := [_]) E44 rfl rfl rfl (ZS 0 rfl ZL) (send_put_ok x_54 4 ([(y_37.Iv.toNat : Int), (y_37.Tag.toNat : Int)]) _ (Zk (Nat.zero_le _) (ZX RU8.const (hr_57.mono RU8.mono (New.mono hleH_59)))) (hsH_59.old RInt.mono) _ hr_61) rfl (fun u_62 Ku_62 Hu_62 hRu_62 hleu_62 hfu_62 => ?_))))
        obtain ⟨ar_63, nr_63, cr_63, Kr_63, rfl, rfl, rfl, hr_63, -⟩ := hRu_62
        replace hr_63 := (RowOf.up (ZX (H2 := New H H_59) RU8.const hr_63) (fun p hp => hfu_62 p (Zr 0 rfl hp)) (ids_cons (RowOf.ge hr_57) ids_nil))
        refine ZD (hK _ _ _ (hleH_53.trans hleH_59) (kept1 [false, true] [1, 0] (by kernel_rfl) rfl) ?_)
        refine JB.val (i := 15) [] rfl (ZE rfl) ?_
        refine JB.doneN (by kernel_rfl) ?_
        obtain rfl := Option.some.inj hx
        refine ZK 1 rfl (ZK 1 rfl ?_)
        exact ZW ⟨H_59, ar_63, nr_63, cr_63, Kr_63, rfl, rfl, rfl, ((hleH_53.trans hleH_59)), hr_63⟩ ⟨rfl, rfl, rfl, rfl, rfl, trivial⟩ rfl rfl
      ·
       refine JOB.step rfl trivial rfl (fun K hK => JL.bslF (HF := (New H H_34)) (R := RInt) (ls := [(y_37.Iv.toNat : Int), (y_37.Tag.toNat : Int)]) (vs := [.int .i64 (y_37.Iv.toNat : Int), .int .i64 (y_37.Tag.toNat : Int)]) U105 I3 rfl rfl (⟨_, _, rfl, rfl, rfl, ⟨_, _, rfl, rfl, rfl, rfl⟩⟩) RInt.one rfl rfl rfl (by simp [maxLen]) rfl (fun vr_58 Kr_58 hr_58 => ?_))
       obtain ⟨ar_58, cr_58, rfl⟩ := RowOf.val hr_58
       refine ZD (hK _ _ _ (Hle.refl _) (kept0 [1, 2] rfl) ?_)
       refine JB.one (i := 5) (by kernel_rfl) ?_
       refine JOB.step rfl trivial rfl (fun K hK => JL.bslF (HF := (New H H_34)) (R := RInt) (ls := [y_37.Obj, y_37.Index]) (vs := [.int .i64 y_37.Obj, .int .i64 y_37.Index]) U105 I3 rfl rfl (⟨_, _, rfl, rfl, rfl, ⟨_, _, rfl, rfl, rfl, rfl⟩⟩) RInt.one rfl rfl rfl (by simp [maxLen]) rfl (fun vr_52 Kr_52 hr_52 => ?_))
       obtain ⟨ar_52, cr_52, rfl⟩ := RowOf.val hr_52
       refine ZD (hK _ _ _ (Hle.refl _) (kept0 [2, 3] rfl) ?_)
       refine JB.one (i := 6) (by kernel_rfl) ?_
       refine JOB.step rfl trivial rfl (fun K hK => JL.pubN 0 RInt.mono rfl hr_52 (Nat.le_refl _) (fun H_53 hleH_53 hsH_53 => JL.forget 0 (ZT (vs := [_, _, _]) (args := [_, _, _]) (K := [_]) (rst := [_, _]) E44 rfl rfl rfl (ZS 2 rfl ZL) (send_put_ok s_31.1 1 ([y_37.Obj, y_37.Index]) _ (Zk (Nat.zero_le _) (ZX RU8.const (hr_35.mono RU8.mono (New.mono hleH_53)))) (hsH_53.old RInt.mono) _ hr_55) rfl (fun u_56 Ku_56 Hu_56 hRu_56 hleu_56 hfu_56 => ?_))))
       obtain ⟨ar_57, nr_57, cr_57, Kr_57, rfl, rfl, rfl, hr_57, -⟩ := hRu_56
       replace hr_57 := (RowOf.up (ZX (H2 := New H H_53) RU8.const hr_57) (fun p hp => hfu_56 p (Zr 0 rfl hp)) (ids_cons (RowOf.ge hr_35) ids_nil))
       refine ZD (hK _ _ _ hleH_53 (kept1 [false, true] [2, 0] (by kernel_rfl) rfl) ?_)
       refine JB.one (i := 14) (by kernel_rfl) ?_
       refine JOB.step rfl trivial rfl (fun K hK => JL.pubN 1 RInt.mono rfl (hr_58.mono RInt.mono (New.mono hleH_53)) (Nat.le_refl _) (fun H_59 hleH_59 hsH_59 => JL.forget 1 (ZT (vs := [_, _, _]) (args := [_, _, _]) (K := [_]) (rst := [_]) E44 rfl rfl rfl (ZS 0 rfl ZL) (send_put_ok x_54 4 ([(y_37.Iv.toNat : Int), (y_37.Tag.toNat : Int)]) _ (Zk (Nat.zero_le _) (ZX RU8.const (hr_57.mono RU8.mono (New.mono hleH_59)))) (hsH_59.old RInt.mono) _ hr_61) rfl (fun u_62 Ku_62 Hu_62 hRu_62 hleu_62 hfu_62 => ?_))))
       obtain ⟨ar_63, nr_63, cr_63, Kr_63, rfl, rfl, rfl, hr_63, -⟩ := hRu_62
       replace hr_63 := (RowOf.up (ZX (H2 := New H H_59) RU8.const hr_63) (fun p hp => hfu_62 p (Zr 0 rfl hp)) (ids_cons (RowOf.ge hr_57) ids_nil))
       refine ZD (hK _ _ _ (hleH_53.trans hleH_59) (kept1 [false, true] [1, 0] (by kernel_rfl) rfl) ?_)
       refine JB.val (i := 15) [] rfl (ZE rfl) ?_
       refine JB.doneN (by kernel_rfl) ?_
       obtain rfl := Option.some.inj hx
       refine ZK 1 rfl (ZK 1 rfl ?_)
       exact ZW ⟨H_59, ar_63, nr_63, cr_63, Kr_63, rfl, rfl, rfl, ((hleH_53.trans hleH_59)), hr_63⟩ ⟨rfl, rfl, rfl, rfl, rfl, trivial⟩ rfl rfl
    ·
     replace hx := ZQ c_36 hx
     refine JC.exit (Zg ?_)
     obtain rfl := Zj hd_36 hx
     refine Zg (Zl ?_)
     exact ZW ⟨H_34, ar_35, nr_35, cr_35, Kr_35, rfl, rfl, rfl, (hleH_34), hr_35⟩ ⟨rfl, trivial⟩ rfl rfl
 ·
  have hxo_14 := hx; clear hx; have hx := ht_15; clear ht_15
  refine JC.drawB (so := [(_, [3]), (_, [])]) 10 rfl Mixed ⟨by kernel_rfl, by kernel_rfl⟩ (kept0 [0, 1] rfl) ?_
  refine JB.val (i := 0) [] rfl (ZH rfl) ?_
  refine JB.val (i := 1) [] rfl (Zf F26_2 rfl) ?_
  refine JB.val (i := 2) [] rfl (ZU 0 S23 rfl rfl rfl) ?_
  refine JB.val (i := 4) [] rfl (Zf F26_3 rfl) ?_
  refine JB.val (i := 5) [] rfl (ZU 0 S24 rfl rfl rfl) ?_
  refine JB.val (i := 6) [] rfl (Zs U24 rfl (IsSlice.long ha_3)) ?_
  obtain ⟨q_16, hm_17, hl_18, hx⟩ := app_some hx
  obtain ⟨x_22, hr_23, hx⟩ := ZM hx
  refine JB.two (i := 3) (j := 7) (by kernel_rfl) ?_ ?_
  ·
   refine JOB.step rfl trivial rfl (fun K hK => JL.appF (HF := (New H H_8)) 0 U23 I5 rfl rfl hr_12 rfl (SrcF.sliceC RU8.const RU8.one U23 (ha_2.mono RU8.mono hleH_8)) hm_17 hl_18 rfl (Nat.le_refl _) rfl (fun vr_19 Kr_19 hr_19 => ?_))
   obtain ⟨ar_19, cr_19, rfl⟩ := RowOf.val hr_19
   refine ZD (hK _ _ _ (Hle.refl _) (kept1 [true, false] [0, 1] (by kernel_rfl) rfl) ?_)
   refine JB.one (i := 7) (by kernel_rfl) ?_
   refine JOB.step rfl trivial rfl (fun K hK => JL.bslF (HF := (New H H_8)) (R := RInt) (ls := [(p_1.Parts.length : Int)]) (vs := [.int .i64 (p_1.Parts.length : Int)]) U105 I3 rfl rfl (⟨_, _, rfl, rfl, rfl, rfl⟩) RInt.one rfl rfl rfl (by simp [maxLen]) rfl (fun vr_20 Kr_20 hr_20 => ?_))
   obtain ⟨ar_20, cr_20, rfl⟩ := RowOf.val hr_20
   refine ZD (hK _ _ _ (Hle.refl _) (kept1 [true, false] [0, 2] (by kernel_rfl) rfl) ?_)
   refine JB.one (i := 8) (by kernel_rfl) ?_
   refine JOB.step rfl trivial rfl (fun K hK => JL.pubN 0 RInt.mono rfl hr_20 (Nat.le_refl _) (fun H_21 hleH_21 hsH_21 => JL.forget 0 (ZT (vs := [_, _, _]) (args := [_, _, _]) (K := [_]) (rst := [_]) E44 rfl rfl rfl (ZS 0 rfl ZL) (send_put_ok q_16 2 ([(p_1.Parts.length : Int)]) _ (Zk (Nat.zero_le _) (ZX RU8.const (hr_19.mono RU8.mono (New.mono hleH_21)))) (hsH_21.old RInt.mono) _ hr_23) rfl (fun u_24 Ku_24 Hu_24 hRu_24 hleu_24 hfu_24 => ?_))))
   obtain ⟨ar_25, nr_25, cr_25, Kr_25, rfl, rfl, rfl, hr_25, -⟩ := hRu_24
   replace hr_25 := (RowOf.up (ZX (H2 := New H H_21) RU8.const hr_25) (fun p hp => hfu_24 p (Zr 0 rfl hp)) (ids_cons (RowOf.ge hr_19) ids_nil))
   refine ZD (hK _ _ _ hleH_21 (kept1 [true, false] [0, 1] (by kernel_rfl) rfl) ?_)
   refine JB.val (i := 9) [] rfl (ZE rfl) ?_
   refine JB.doneN (by kernel_rfl) ?_
   obtain rfl := Option.some.inj hx
   refine ZK 1 rfl ?_
   exact ZW ⟨H_21, ar_25, nr_25, cr_25, Kr_25, rfl, rfl, rfl, (hleH_21), hr_25⟩ ⟨rfl, rfl, trivial⟩ rfl rfl
  ·
   refine JOB.step rfl trivial rfl (fun K hK => JL.bslF (HF := (New H H_8)) (R := RInt) (ls := [(p_1.Parts.length : Int)]) (vs := [.int .i64 (p_1.Parts.length : Int)]) U105 I3 rfl rfl (⟨_, _, rfl, rfl, rfl, rfl⟩) RInt.one rfl rfl rfl (by simp [maxLen]) rfl (fun vr_20 Kr_20 hr_20 => ?_))
   obtain ⟨ar_20, cr_20, rfl⟩ := RowOf.val hr_20
   refine ZD (hK _ _ _ (Hle.refl _) (kept0 [1, 2] rfl) ?_)
   refine JB.one (i := 3) (by kernel_rfl) ?_
   refine JOB.step rfl trivial rfl (fun K hK => JL.appF (HF := (New H H_8)) 1 U23 I5 rfl rfl hr_12 rfl (SrcF.sliceC RU8.const RU8.one U23 (ha_2.mono RU8.mono hleH_8)) hm_17 hl_18 rfl (Nat.le_refl _) rfl (fun vr_19 Kr_19 hr_19 => ?_))
   obtain ⟨ar_19, cr_19, rfl⟩ := RowOf.val hr_19
   refine ZD (hK _ _ _ (Hle.refl _) (kept1 [true, false] [0, 2] (by kernel_rfl) rfl) ?_)
   refine JB.one (i := 8) (by kernel_rfl) ?_
   refine JOB.step rfl trivial rfl (fun K hK => JL.pubN 0 RInt.mono rfl hr_20 (Nat.le_refl _) (fun H_21 hleH_21 hsH_21 => JL.forget 0 (ZT (vs := [_, _, _]) (args := [_, _, _]) (K := [_]) (rst := [_]) E44 rfl rfl rfl (ZS 0 rfl ZL) (send_put_ok q_16 2 ([(p_1.Parts.length : Int)]) _ (Zk (Nat.zero_le _) (ZX RU8.const (hr_19.mono RU8.mono (New.mono hleH_21)))) (hsH_21.old RInt.mono) _ hr_23) rfl (fun u_24 Ku_24 Hu_24 hRu_24 hleu_24 hfu_24 => ?_))))
   obtain ⟨ar_25, nr_25, cr_25, Kr_25, rfl, rfl, rfl, hr_25, -⟩ := hRu_24
   replace hr_25 := (RowOf.up (ZX (H2 := New H H_21) RU8.const hr_25) (fun p hp => hfu_24 p (Zr 0 rfl hp)) (ids_cons (RowOf.ge hr_19) ids_nil))
   refine ZD (hK _ _ _ hleH_21 (kept1 [true, false] [0, 1] (by kernel_rfl) rfl) ?_)
   refine JB.val (i := 9) [] rfl (ZE rfl) ?_
   refine JB.doneN (by kernel_rfl) ?_
   obtain rfl := Option.some.inj hx
   refine ZK 1 rfl ?_
   exact ZW ⟨H_21, ar_25, nr_25, cr_25, Kr_25, rfl, rfl, rfl, (hleH_21), hr_25⟩ ⟨rfl, rfl, trivial⟩ rfl rfl

set_option maxHeartbeats 8000000 in
theorem send_Write_ok (p_1 : Stream) (H : Heaplet) {aa_2 : Option Addr} {na_2 : Nat} {ca_2 : Nat} {aa_3 : Option Addr} {na_3 : Nat} {ca_3 : Nat} {aa_4 : Option Addr} {na_4 : Nat} {ca_4 : Nat} (ha_2 : IsSlice H RU8 1 (.slice aa_2 na_2 ca_2) p_1.Key) (ha_3 : IsSlice H R_Part 5 (.slice aa_3 na_3 ca_3) p_1.Parts) (ha_4 : IsSlice H RU8 1 (.slice aa_4 na_4 ca_4) p_1.Sign) (r : List UInt8 × Int) (hx : send_Write p_1 = some r) :
  Does Try.prog 6 #[.agg #[.int .u32 (p_1.Guid.toNat : Int), .int .u32 (p_1.Base.toNat : Int), .slice aa_2 na_2 ca_2, .slice aa_3 na_3 ca_3, .slice aa_4 na_4 ca_4]] [] H (fun u K' H' => ∃ ao0 : Option Addr, ∃ n0 : Nat, ∃ cap0 : Nat, ∃ K0 : Own, u = .tuple #[.slice ao0 n0 cap0, .int .i64 r.2] ∧ K' = [K0] ∧ RowOf (New H H') RU8 0 5 1 (.slice ao0 n0 cap0) r.1 K0 ∧ (∀ p ∈ K0, p.1 ∉ ids (List.flatten [])) ∧ True) := by
 refine Does.enterL (vs := [.agg #[.int .u32 (p_1.Guid.toNat : Int), .int .u32 (p_1.Base.toNat : Int), .slice aa_2 na_2 ca_2, .slice aa_3 na_3 ca_3, .slice aa_4 na_4 ca_4]]) (l := [(0, .agg #[.int .u32 (p_1.Guid.toNat : Int), .int .u32 (p_1.Base.toNat : Int), .slice aa_2 na_2 ca_2, .slice aa_3 na_3 ca_3, .slice aa_4 na_4 ca_4])]) Try.func6 rfl rfl ⟨rfl, trivial⟩ (fun w hlt => ?_)
 unfold send_Write at hx
 refine ZG (ZB (JL.box rfl rfl (fun b_5 hb_5 => ZA rfl rfl (ZE rfl) (ZA rfl rfl (ZE rfl) (ZD (ZC (ZG (ZG (ZB (ZA rfl rfl (R.ldoN 0 (vs := [.int .u32 (p_1.Guid.toNat : Int), .int .u32 (p_1.Base.toNat : Int), .slice aa_2 na_2 ca_2, .slice aa_3 na_3 ca_3, .slice aa_4 na_4 ca_4]) S26 rfl rfl rfl rfl) ?_))))))))))
 obtain ⟨x_6, hr_7, hx⟩ := ZM hx
 refine ZT (vs := [_]) (args := [_]) (K := []) (rst := [_]) E21 rfl rfl rfl ZL (send_may_ok p_1 _ ha_2 ha_3 ha_4 _ hr_7) rfl (fun u_8 Ku_8 Hu_8 hRu_8 hleu_8 hfu_8 => ?_)
 obtain ⟨rfl, rfl, -⟩ := hRu_8
 refine ZA rfl rfl (R.not rfl) (ZD (ZC (ZY rfl (fun c_9 => ?_) (fun c_9 => ?_))))
 ·
  replace hx := ZP c_9 hx
  refine ZG (ZB (ZA rfl rfl (ZE rfl) (ZA rfl rfl (ZE rfl) (ZD (ZC (ZV (ZJ (Zn (ZO (vs := [.slice none 0 0, .int .i64 8]) (K := [_]) (rst := [_]) (.inl rfl) rfl rfl (ZN rfl (ZN rfl rfl)) (ZS 0 rfl ZL) ?_)))))))))
  obtain rfl := Option.some.inj hx
  exact ⟨none, 0, 0, [], rfl, rfl, (Zc _ _ _ _ _), (fun p hp => by cases hp), trivial⟩
 ·
  replace hx := ZQ c_9 hx
  refine JC.skip (ZC (ZG (JC.drawB (so := [(_, [])]) 7 rfl Mixed ⟨by kernel_rfl, by kernel_rfl⟩ (kept0 [0] rfl) ?_)))
  refine JB.val (i := 0) [] rfl (R.ldoN 0 (vs := [.int .u32 (p_1.Guid.toNat : Int), .int .u32 (p_1.Base.toNat : Int), .slice aa_2 na_2 ca_2, .slice aa_3 na_3 ca_3, .slice aa_4 na_4 ca_4]) S26 rfl rfl rfl rfl) ?_
  refine JB.val (i := 2) [] rfl (Zf F26_4 rfl) ?_
  refine JB.val (i := 3) [] rfl (ZU 0 S23 rfl rfl rfl) ?_
  refine JB.one (i := 1) (by kernel_rfl) ?_
  refine JOB.step rfl trivial rfl (fun K hK => ?_)
  obtain ⟨x_10, hr_11, hx⟩ := ZM hx
  refine ZT (vs := [_]) (args := [_]) (K := []) (rst := [_]) E22 rfl rfl rfl ZL (send_text_ok p_1 _ (ha_2.mono RU8.mono hleu_8) (ha_3.mono R_Part.mono hleu_8) (ha_4.mono RU8.mono hleu_8) _ hr_11) rfl (fun u_12 Ku_12 Hu_12 hRu_12 hleu_12 hfu_12 => ?_)
  obtain ⟨ar_13, nr_13, cr_13, Kr_13, rfl, rfl, hr_13, hnewr_13, -⟩ := hRu_12
  replace hr_13 := (RowOf.base (ZX (H2 := New H Hu_12) RU8.const hr_13) (fun p hp => (hfu_12 p (Zr 0 rfl hp)).resolve_left (hnewr_13 p hp)))
  refine ZD (hK _ _ _ hleu_12 (kept0 [1] rfl) ?_)
  refine JB.one (i := 4) (by kernel_rfl) ?_
  refine JOB.step rfl trivial rfl (fun K hK => ?_)
  obtain ⟨q_14, hm_15, hl_16, hx⟩ := app_some hx
  refine JL.appF (HF := (New H Hu_12)) 0 U23 I5 rfl rfl hr_13 rfl (SrcF.sliceC RU8.const RU8.one U23 (ha_4.mono RU8.mono (hleu_8.trans hleu_12))) hm_15 hl_16 rfl (Nat.le_refl _) rfl (fun vr_17 Kr_17 hr_17 => ?_)
  obtain ⟨ar_17, cr_17, rfl⟩ := RowOf.val hr_17
  refine ZD (hK _ _ _ hleu_12 (kept0 [1] rfl) ?_)
  refine JB.val (i := 5) [] rfl (ZE rfl) ?_
  refine JB.val (i := 6) [] rfl (ZE rfl) ?_
  refine JB.doneN (by kernel_rfl) ?_
  refine ZC (ZV (ZO (vs := [.slice ar_17 q_14.length cr_17, .int .i64 0]) (K := [_]) (rst := [_]) (.inl rfl) rfl rfl (ZN rfl (ZN rfl rfl)) (ZS 0 rfl ZL) ?_))
  obtain rfl := Option.some.inj hx
  exact ⟨ar_17, q_14.length, cr_17, Kr_17, rfl, rfl, (Zk (Nat.zero_le _) hr_17), (new_ids hr_17 hlt), trivial⟩

set_option maxHeartbeats 8000000 in
theorem ref01_Room_n_ok : ∀ (fuel : Nat) (p_1 : Int) (H : Heaplet) (r : Int) (hx : ref01_Room_n fuel p_1 = some r),
  Does Try.prog 50 #[.int .i64 p_1] [] H (fun u K' H' => u = .int .i64 r ∧ K' = [] ∧ H = H' ∧ True) := by
 intro fuel
 induction fuel with
 | zero => intro p_1 H r hx; cases hx
 | succ n ih =>
 intro p_1 H r hx
 replace hx : ref01_Room_b (ref01_Room_n n) p_1 = some r := hx
 obtain ⟨rec_0, hrec⟩ : ∃ q, q = ref01_Room_n n := ⟨_, rfl⟩
 rw [← hrec] at hx ih
 clear hrec
 refine Does.enterL (vs := [.int .i64 p_1]) (l := [(0, .int .i64 p_1)]) Try.func50 rfl rfl ⟨rfl, trivial⟩ (fun w hlt => ?_)
 unfold ref01_Room_b at hx
 refine ZG (ZB (ZA rfl rfl (ZE rfl) (ZD (ZC (ZG (ZG (ZB (ZA rfl rfl (ZH rfl) (ZA rfl rfl (R.eql_i rfl rfl) (ZD (ZC ?_)))))))))))
 refine ZY rfl (fun c_2 => ?_) (fun c_2 => ?_)
 ·
  replace hx := ZP c_2 hx
  refine ZG (ZB (ZA rfl rfl (ZE rfl) (ZD (ZC (ZV (ZJ (ZO (vs := [.int .i64 1]) (K := []) (rst := []) (.inl rfl) rfl rfl (ZN rfl rfl) ZL ?_)))))))
  obtain rfl := Option.some.inj hx
  exact ⟨rfl, rfl, rfl, trivial⟩
 ·
  replace hx := ZQ c_2 hx
  refine JC.skip (ZC (ZG (ZB (ZA rfl rfl (ZH rfl) (ZA rfl rfl (R.sub_i rfl rfl) ?_)))))
  obtain ⟨x_3, hr_4, hx⟩ := ZM hx
  refine ZT (vs := [_]) (args := [_]) (K := []) (rst := []) E50 rfl rfl rfl ZL (ih (w64 (p_1 - 1)) _ _ hr_4) rfl (fun u_5 Ku_5 Hu_5 hRu_5 hleu_5 hfu_5 => ?_)
  obtain ⟨rfl, rfl, rfl, -⟩ := hRu_5
  refine ZA rfl rfl (R.mul_i rfl rfl) (ZA rfl rfl (ZE rfl) (ZD (ZC (ZV (ZO (vs := [.int .i64 (w64 (256 * x_3))]) (K := []) (rst := []) (.inl rfl) rfl rfl (ZN rfl rfl) ZL ?_)))))
  obtain rfl := Option.some.inj hx
  exact ⟨rfl, rfl, rfl, trivial⟩

theorem ref01_Room_ok (p_1 : Int) (H : Heaplet) (r : Int) (hx : ref01_Room p_1 = some r) :
  Does Try.prog 50 #[.int .i64 p_1] [] H (fun u K' H' => u = .int .i64 r ∧ K' = [] ∧ H = H' ∧ True) := ref01_Room_n_ok FUEL p_1 H r hx

set_option maxHeartbeats 8000000 in
theorem ref01_Number_ok (p_1 : List UInt8) (H : Heaplet) {aa_2 : Option Addr} {na_2 : Nat} {ca_2 : Nat} (ha_2 : IsSlice H RU8 1 (.slice aa_2 na_2 ca_2) p_1) (r : Int) (hx : ref01_Number p_1 = some r) :
  Does Try.prog 29 #[.slice aa_2 na_2 ca_2] [] H (fun u K' H' => u = .int .i64 r ∧ K' = [] ∧ H = H' ∧ True) := by
 refine Does.enterL (vs := [.slice aa_2 na_2 ca_2]) (l := [(0, .slice aa_2 na_2 ca_2)]) Try.func29 rfl rfl ⟨rfl, trivial⟩ (fun w hlt => ?_)
 unfold ref01_Number at hx
 refine ZG (ZB (ZA rfl rfl (ZE rfl) (ZD (ZC (ZG (ZB (ZA rfl rfl (ZE rfl) (ZD (ZC (ZG (ZG ?_)))))))))))
 refine ZB (ZA rfl rfl (ZE rfl) (ZD (ZC ?_)))
 obtain ⟨t_3, ht_5, hx⟩ := ZM hx
 refine Zv (fun l o g => l = [(3, .int .i64 t_3)] ∧ o = [] ∧ H = g) ?_ ?_
 ·
  rintro _ _ _ ⟨rfl, rfl, rfl⟩
  refine ZC (ZG (ZB (ZA rfl rfl (ZH rfl) (ZA rfl rfl (ZE rfl) (ZD (ZC (ZV (ZO (vs := [.int .i64 t_3]) (K := []) (rst := []) (.inl rfl) rfl rfl (ZN rfl rfl) ZL ?_))))))))
  obtain rfl := Option.some.inj hx
  exact ⟨rfl, rfl, rfl, trivial⟩
 ·
  have hxo_4 := hx; clear hx; have hx := ht_5; clear ht_5
  refine JC.block (JC.loopI (fun n l o g => ∃ s_6 : Int × Nat, l = [(0, .slice aa_2 na_2 ca_2), (3, .int .i64 s_6.1), (4, .int .i64 ((s_6.2 : Nat) : Int))] ∧ o = [] ∧ H = g ∧ run (ref01_Number_l1 p_1) n s_6 = some t_3) FUEL ?_ ⟨(0, 0), rfl, rfl, rfl, hx⟩ ⟨rfl, rfl, rfl, trivial⟩ ?_)
  ·
   rintro _ _ _ ⟨s_6, rfl, rfl, rfl, hn_7⟩
   exact run_zero hn_7
  ·
   rintro n_8 _ _ _ ⟨s_6, rfl, rfl, rfl, hn_7⟩
   clear hx; obtain ⟨oo_10, hx, hd_9⟩ := run_some hn_7
   unfold ref01_Number_l1 at hx
   refine ZG (ZG (ZB (ZA rfl rfl (ZH rfl) (ZA rfl rfl (ZH rfl) (ZA rfl rfl (Zs U23 rfl (IsSlice.long ha_2)) (ZA rfl rfl (Zu rfl rfl) (ZD (ZC (ZY rfl (fun c_9 => ?_) (fun c_9 => ?_))))))))))
   ·
    replace hx := ZP c_9 hx
    refine JC.skip (ZC (ZG (JC.block (JC.drawB (so := []) 11 rfl Mixed ⟨by kernel_rfl, by kernel_rfl⟩ (kept0 [] rfl) ?_))))
    refine JB.val (i := 0) [] rfl (ZH rfl) ?_
    refine JB.val (i := 1) [] rfl (ZH rfl) ?_
    refine JB.val (i := 2) [] rfl (ZH rfl) ?_
    obtain ⟨y_10, hN_11, hx⟩ := Zo hx
    obtain ⟨b_12, o_13, cs_14, hE_15, hR_16, hl_17, hc_18⟩ := IsSlice.elem ha_2 hN_11
    obtain rfl := hR_16
    refine JB.val (i := 3) [] rfl (R.ix U23 S5 rfl rfl hE_15) ?_
    refine JB.val (i := 4) [] rfl (R.ldH S5 rfl (hc_18 0 _ rfl)) ?_
    refine JB.val (i := 5) [] rfl (R.cv_u8_i64 (a := y_10) U5 U3 rfl) ?_
    refine JB.val (i := 6) [] rfl (ZH rfl) ?_
    refine JB.one (i := 7) (by kernel_rfl) ?_
    refine JOB.step rfl trivial rfl (fun K hK => ?_)
    obtain ⟨x_19, hr_20, hx⟩ := ZM hx
    refine ZT (vs := [_]) (args := [_]) (K := []) (rst := []) E50 rfl rfl rfl ZL (ref01_Room_ok ((s_6.2 : Nat) : Int) _ _ hr_20) rfl (fun u_21 Ku_21 Hu_21 hRu_21 hleu_21 hfu_21 => ?_)
    obtain ⟨rfl, rfl, rfl, -⟩ := hRu_21
    refine ZD (hK _ _ _ (Hle.refl _) (kept0 [] rfl) ?_)
    refine JB.val (i := 8) [] rfl (R.mul_i rfl rfl) ?_
    refine JB.val (i := 9) [] rfl (R.add_i rfl rfl) ?_
    refine JB.val (i := 10) [] rfl (ZE rfl) ?_
    refine JB.doneN (by kernel_rfl) ?_
    refine JN.blkN (ZC (ZB (ZA rfl rfl (ZH rfl) (ZA rfl rfl (R.inc rfl rfl (of_decide_eq_true c_9) (IsSlice.lenI ha_2)) (ZA rfl rfl (ZE rfl) (ZD ?_))))))
    replace hx := run_next hd_9 hx
    exact ZW ⟨(w64 (s_6.1 + (w64 ((y_10.toNat : Int) * x_19))), s_6.2 + 1), rfl, rfl, rfl, hx⟩ ⟨rfl, rfl, rfl, trivial⟩ rfl rfl
   ·
    replace hx := ZQ c_9 hx
    refine JC.exit (Zg ?_)
    obtain rfl := Zj hd_9 hx
    refine Zg (Zl ?_)
    exact ZW ⟨rfl, rfl, rfl⟩ ⟨rfl, trivial⟩ rfl rfl

set_option maxHeartbeats 8000000 in
theorem ref29_noughts_ok (p_1 : List UInt8) (H : Heaplet) {aa_2 : Option Addr} {na_2 : Nat} {ca_2 : Nat} (ha_2 : IsSlice H RU8 1 (.slice aa_2 na_2 ca_2) p_1) (r : Bool) (hx : ref29_noughts p_1 = some r) :
  Does Try.prog 67 #[.slice aa_2 na_2 ca_2] [] H (fun u K' H' => u = .bool r ∧ K' = [] ∧ H = H' ∧ True) := by
 refine Does.enterL (vs := [.slice aa_2 na_2 ca_2]) (l := [(0, .slice aa_2 na_2 ca_2)]) Try.func67 rfl rfl ⟨rfl, trivial⟩ (fun w hlt => ?_)
 unfold ref29_noughts at hx
 refine ZG (ZB (ZA rfl rfl (ZE rfl) (ZD (ZC (ZG (ZG (ZB (ZA rfl rfl (ZE rfl) (ZD (ZC ?_))))))))))
 obtain ⟨t_3, ht_5, hx⟩ := ZM hx
 refine Zv (fun l o g => ∃ t_3a : Unit, l = [] ∧ o = [] ∧ H = g ∧ t_3 = .inl t_3a) ?_ ?_
 ·
  rintro _ _ _ ⟨t_3a, rfl, rfl, rfl, rfl⟩
  simp only [Sum.elim_inl] at hx
  refine ZC (ZG (ZB (ZA rfl rfl (ZE rfl) (ZD (ZC (ZV (ZO (vs := [.bool true]) (K := []) (rst := []) (.inl rfl) rfl rfl (ZN rfl rfl) ZL ?_)))))))
  obtain rfl := Option.some.inj hx
  exact ⟨rfl, rfl, rfl, trivial⟩
 ·
  have hxo_4 := hx; clear hx; have hx := ht_5; clear ht_5
  refine JC.block (JC.loopI (fun n l o g => ∃ s_6 : Nat, l = [(0, .slice aa_2 na_2 ca_2), (3, .int .i64 ((s_6 : Nat) : Int))] ∧ o = [] ∧ H = g ∧ run (ref29_noughts_l1 p_1) n s_6 = some t_3) FUEL ?_ ⟨0, rfl, rfl, rfl, hx⟩ ⟨rfl, rfl, trivial⟩ ?_)
  ·
   rintro _ _ _ ⟨s_6, rfl, rfl, rfl, hn_7⟩
   exact run_zero hn_7
  ·
   rintro n_8 _ _ _ ⟨s_6, rfl, rfl, rfl, hn_7⟩
   clear hx; obtain ⟨oo_10, hx, hd_9⟩ := run_some hn_7
   unfold ref29_noughts_l1 at hx
   refine ZG (ZG (ZB (ZA rfl rfl (ZH rfl) (ZA rfl rfl (ZH rfl) (ZA rfl rfl (Zs U23 rfl (IsSlice.long ha_2)) (ZA rfl rfl (Zu rfl rfl) (ZD (ZC (ZY rfl (fun c_9 => ?_) (fun c_9 => ?_))))))))))
   ·
    replace hx := ZP c_9 hx
    refine JC.skip (ZC (ZG (JC.block (ZG (ZB (ZA rfl rfl (ZH rfl) (ZA rfl rfl (ZH rfl) ?_)))))))
    obtain ⟨y_10, hN_11, hx⟩ := Zo hx
    obtain ⟨b_12, o_13, cs_14, hE_15, hR_16, hl_17, hc_18⟩ := IsSlice.elem ha_2 hN_11
    obtain rfl := hR_16
    refine ZA rfl rfl (R.ix U23 S5 rfl rfl hE_15) (ZA rfl rfl (R.ldH S5 rfl (hc_18 0 _ rfl)) (ZA rfl rfl (R.neq8 (a := y_10) (b := (0 : UInt8)) rfl rfl) (ZD (ZC (ZY rfl (fun c_19 => ?_) (fun c_19 => ?_))))))
    ·
     replace hx := ZP c_19 hx
     refine ZG (ZB (ZA rfl rfl (ZE rfl) (ZD (ZC (ZV (Zq (ZJ ?_)))))))
     obtain rfl := Zj hd_9 hx
     refine ZJ (Zq ?_)
     clear hx; have hx := hxo_4
     simp only [Sum.elim_inl, Sum.elim_inr] at hx
     refine ZJ (ZJ (ZO (vs := [.bool false]) (K := []) (rst := []) (.inl rfl) rfl rfl (ZN rfl rfl) ZL ?_))
     obtain rfl := Option.some.inj hx
     exact ⟨rfl, rfl, rfl, trivial⟩
    ·
     replace hx := ZQ c_19 hx
     refine JC.skip (JN.blkN (ZC (ZB (ZA rfl rfl (ZH rfl) (ZA rfl rfl (R.inc rfl rfl (of_decide_eq_true c_9) (IsSlice.lenI ha_2)) (ZA rfl rfl (ZE rfl) (ZD ?_)))))))
     replace hx := run_next hd_9 hx
     exact ZW ⟨s_6 + 1, rfl, rfl, rfl, hx⟩ ⟨rfl, rfl, trivial⟩ rfl rfl
   ·
    replace hx := ZQ c_9 hx
    refine JC.exit (Zg ?_)
    obtain rfl := Zj hd_9 hx
    refine Zg (Zl ?_)
    exact ZW ⟨(), rfl, rfl, rfl, rfl⟩ trivial rfl rfl

set_option maxHeartbeats 8000000 in
theorem ref29_mayPart_ok (p_1 : Part) (H : Heaplet) {aa_2 : Option Addr} {na_2 : Nat} {ca_2 : Nat} (ha_2 : IsSlice H RU8 1 (.slice aa_2 na_2 ca_2) p_1.Data) (r : Bool) (hx : ref29_mayPart p_1 = some r) :
  Does Try.prog 45 #[.agg #[.int .i64 p_1.Obj, .int .i64 p_1.Index, .int .u32 (p_1.Iv.toNat : Int), .int .u32 (p_1.Tag.toNat : Int), .slice aa_2 na_2 ca_2]] [] H (fun u K' H' => u = .bool r ∧ K' = [] ∧ H = H' ∧ True) := by
 refine Does.enterL (vs := [.agg #[.int .i64 p_1.Obj, .int .i64 p_1.Index, .int .u32 (p_1.Iv.toNat : Int), .int .u32 (p_1.Tag.toNat : Int), .slice aa_2 na_2 ca_2]]) (l := [(0, .agg #[.int .i64 p_1.Obj, .int .i64 p_1.Index, .int .u32 (p_1.Iv.toNat : Int), .int .u32 (p_1.Tag.toNat : Int), .slice aa_2 na_2 ca_2])]) Try.func45 rfl rfl ⟨rfl, trivial⟩ (fun w hlt => ?_)
 unfold ref29_mayPart at hx
 refine ZG (ZB (JL.box rfl rfl (fun b_3 hb_3 => ZA rfl rfl (ZE rfl) (ZD (ZC (ZG (ZG (ZB (ZA rfl rfl (Zf F39_0 rfl) (ZA rfl rfl (ZU 0 S3 rfl rfl rfl) (ZA rfl rfl (Zu rfl rfl) ?_)))))))))))
 refine ZA rfl rfl (ZH rfl) (ZZ (t := 7) rfl (fun c_4 => ?_) (fun c_4 => ?_))
 ·
  replace hx := ZP c_4 hx
  refine ZF rfl rfl rfl rfl rfl (ZF rfl rfl rfl rfl rfl (ZF rfl rfl rfl rfl rfl (ZA rfl rfl (ZR rfl rfl) (ZA rfl rfl (ZH rfl) (ZF rfl rfl rfl rfl rfl (ZF rfl rfl rfl rfl rfl (ZF rfl rfl rfl rfl rfl (ZA rfl rfl (ZR rfl rfl) (ZA rfl rfl (ZH rfl) (ZF rfl rfl rfl rfl rfl (ZF rfl rfl rfl rfl rfl ?_)))))))))))
  refine ZF rfl rfl rfl rfl rfl (ZA rfl rfl (ZR rfl rfl) (ZD (ZC (Zm rfl (ZG (ZB (ZA rfl rfl (ZE rfl) (ZD (ZC (ZV (ZJ ?_)))))))))))
  refine ZO (vs := [.bool false]) (K := []) (rst := [_]) (.inl rfl) rfl rfl (ZN rfl rfl) ZL ?_
  obtain rfl := Option.some.inj hx
  exact ⟨rfl, rfl, rfl, trivial⟩
 ·
  replace hx := ZQ c_4 hx
  refine ZI rfl rfl rfl (ZA rfl rfl (Zf F39_0 rfl) (ZI rfl rfl rfl (ZA rfl rfl (ZU 0 S3 rfl rfl rfl) (ZI rfl rfl rfl (ZA rfl rfl (R.gtr_i rfl rfl) (ZA rfl rfl (Za rfl rfl) (ZA rfl rfl (ZH rfl) (ZZ (t := 12) rfl (fun c_5 => ?_) (fun c_5 => ?_)))))))))
  ·
   replace hx := ZP c_5 hx
   refine ZF rfl rfl rfl rfl rfl (ZF rfl rfl rfl rfl rfl (ZF rfl rfl rfl rfl rfl (ZA rfl rfl (ZR rfl rfl) (ZA rfl rfl (ZH rfl) (ZF rfl rfl rfl rfl rfl (ZF rfl rfl rfl rfl rfl (ZF rfl rfl rfl rfl rfl (ZA rfl rfl (ZR rfl rfl) (ZD (ZC (Zm rfl ?_)))))))))))
   refine ZG (ZB (ZA rfl rfl (ZE rfl) (ZD (ZC (ZV (ZJ (ZO (vs := [.bool false]) (K := []) (rst := [_]) (.inl rfl) rfl rfl (ZN rfl rfl) ZL ?_)))))))
   obtain rfl := Option.some.inj hx
   exact ⟨rfl, rfl, rfl, trivial⟩
  ·
   replace hx := ZQ c_5 hx
   refine ZI rfl rfl rfl (ZA rfl rfl (Zf F39_1 rfl) (ZI rfl rfl rfl (ZA rfl rfl (ZU 0 S3 rfl rfl rfl) (ZI rfl rfl rfl (ZA rfl rfl (Zu rfl rfl) (ZA rfl rfl (Za rfl rfl) (ZA rfl rfl (ZH rfl) (ZZ (t := 17) rfl (fun c_6 => ?_) (fun c_6 => ?_)))))))))
   ·
    replace hx := ZP c_6 hx
    refine ZF rfl rfl rfl rfl rfl (ZF rfl rfl rfl rfl rfl (ZF rfl rfl rfl rfl rfl (ZA rfl rfl (ZR rfl rfl) (ZD (ZC (Zm rfl (ZG (ZB (ZA rfl rfl (ZE rfl) (ZD (ZC ?_)))))))))))
    refine ZV (ZJ (ZO (vs := [.bool false]) (K := []) (rst := [_]) (.inl rfl) rfl rfl (ZN rfl rfl) ZL ?_))
    obtain rfl := Option.some.inj hx
    exact ⟨rfl, rfl, rfl, trivial⟩
   ·
    replace hx := ZQ c_6 hx
    refine ZI rfl rfl rfl (ZA rfl rfl (Zf F39_1 rfl) (ZI rfl rfl rfl (ZA rfl rfl (ZU 0 S3 rfl rfl rfl) (ZI rfl rfl rfl (ZA rfl rfl (R.gtr_i rfl rfl) (ZA rfl rfl (Za rfl rfl) (ZD (ZC (ZY rfl (fun c_7 => ?_) (fun c_7 => ?_))))))))))
    ·
     replace hx := ZP c_7 hx
     refine ZG (ZB (ZA rfl rfl (ZE rfl) (ZD (ZC (ZV (ZJ (ZO (vs := [.bool false]) (K := []) (rst := [_]) (.inl rfl) rfl rfl (ZN rfl rfl) ZL ?_)))))))
     obtain rfl := Option.some.inj hx
     exact ⟨rfl, rfl, rfl, trivial⟩
    ·
     replace hx := ZQ c_7 hx
     refine JC.skip (ZC (ZG ?_))
     obtain ⟨t_8, ht_10, hx⟩ := ZM hx
     refine Zv (fun l o g => l = [(1, .pointer (some ⟨b_3, 0, none⟩)), (3, .bool t_8)] ∧ o = [[(b_3, .cells #[.int .i64 p_1.Obj, .int .i64 p_1.Index, .int .u32 (p_1.Iv.toNat : Int), .int .u32 (p_1.Tag.toNat : Int), .slice aa_2 na_2 ca_2] 39 (0, 0))]] ∧ H = g) ?_ ?_
     ·
      rintro _ _ _ ⟨rfl, rfl, rfl⟩
      refine ZC (ZG (ZG (ZB (ZA rfl rfl (Zf F39_1 rfl) (ZA rfl rfl (ZU 0 S3 rfl rfl rfl) (ZA rfl rfl (Zu rfl rfl) (ZD (ZC (ZY rfl (fun c_12 => ?_) (fun c_12 => ?_))))))))))
      ·
       replace hx := ZP c_12 hx
       refine ZG ?_
       obtain ⟨t_13, ht_15, hx⟩ := ZM hx
       refine Zv (fun l o g => l = [(2, .bool t_13)] ∧ o = [] ∧ H = g) ?_ ?_
       ·
        rintro _ _ _ ⟨rfl, rfl, rfl⟩
        refine ZC (ZV (ZJ (ZO (vs := [.bool t_13]) (K := []) (rst := []) (.inl rfl) rfl rfl (ZN rfl rfl) ZL ?_)))
        obtain rfl := Option.some.inj hx
        exact ⟨rfl, rfl, rfl, trivial⟩
       ·
        have hxo_14 := hx; clear hx; have hx := ht_15; clear ht_15
        refine ZB (ZA rfl rfl (Zf F39_4 rfl) (ZA rfl rfl (ZU 0 S23 rfl rfl rfl) (ZA rfl rfl (Zs U23 rfl (IsSlice.long ha_2)) (ZA rfl rfl (R.eql_i rfl rfl) (ZA rfl rfl (ZH rfl) (ZZ (t := 37) rfl (fun c_16 => ?_) (fun c_16 => ?_)))))))
        ·
         replace hx := ZP c_16 hx
         refine ZF rfl rfl rfl rfl rfl (ZF rfl rfl rfl rfl rfl (ZF rfl rfl rfl rfl rfl (ZF rfl rfl rfl rfl rfl (ZF rfl rfl rfl rfl rfl (JL.gNoU rfl rfl rfl rfl (ZF rfl rfl rfl rfl rfl (ZA rfl rfl (ZR rfl rfl) (ZA rfl rfl (ZE rfl) (ZD ?_)))))))))
         obtain rfl := Option.some.inj hx
         refine JN.forget 0 ?_
         exact ZW ⟨rfl, rfl, rfl⟩ ⟨rfl, trivial⟩ rfl rfl
        ·
         replace hx := ZQ c_16 hx
         refine ZI rfl rfl rfl (ZA rfl rfl (Zf F39_4 rfl) (ZI rfl rfl rfl (ZA rfl rfl (ZU 0 S23 rfl rfl rfl) (ZI rfl rfl rfl (ZA rfl rfl (Zs U23 rfl (IsSlice.long ha_2)) (ZI rfl rfl rfl (ZA rfl rfl (R.eql_i rfl rfl) (ZI rfl rfl rfl (ZA rfl rfl (ZH rfl) (ZZ (t := 42) rfl (fun c_17 => ?_) (fun c_17 => ?_)))))))))))
         ·
          replace hx := ZP c_17 hx
          refine ZI rfl rfl rfl (ZA rfl rfl (ZH rfl) (ZI rfl rfl rfl (ZA rfl rfl (ZR rfl rfl) (ZA rfl rfl (Za rfl rfl) (ZA rfl rfl (ZE rfl) (ZD ?_))))))
          obtain rfl := Option.some.inj hx
          refine JN.forget 0 ?_
          exact ZW ⟨rfl, rfl, rfl⟩ ⟨rfl, trivial⟩ rfl rfl
         ·
          replace hx := ZQ c_17 hx
          refine ZF rfl rfl rfl rfl rfl (ZI rfl rfl rfl (ZA rfl rfl (Za rfl rfl) (ZA rfl rfl (Za rfl rfl) (ZA rfl rfl (ZE rfl) (ZD ?_)))))
          obtain rfl := Option.some.inj hx
          refine JN.forget 0 ?_
          exact ZW ⟨rfl, rfl, rfl⟩ ⟨rfl, trivial⟩ rfl rfl
      ·
       replace hx := ZQ c_12 hx
       refine JC.skip (ZC (ZG (ZG (ZB (ZA rfl rfl (Zf F39_4 rfl) (ZA rfl rfl (ZU 0 S23 rfl rfl rfl) (ZA rfl rfl (Zs U23 rfl (IsSlice.long ha_2)) (ZA rfl rfl (R.neq_i rfl rfl) (ZA rfl rfl (ZH rfl) (ZZ (t := 50) rfl (fun c_18 => ?_) (fun c_18 => ?_)))))))))))
       ·
        replace hx := ZP c_18 hx
        refine ZF rfl rfl rfl rfl rfl (ZF rfl rfl rfl rfl rfl (ZA rfl rfl (ZR rfl rfl) (ZA rfl rfl (ZH rfl) (ZF rfl rfl rfl rfl rfl (ZF rfl rfl rfl rfl rfl (ZF rfl rfl rfl rfl rfl (ZF rfl rfl rfl rfl rfl (ZF rfl rfl rfl rfl rfl (ZA rfl rfl (ZR rfl rfl) (ZA rfl rfl (ZH rfl) (ZF rfl rfl rfl rfl rfl ?_)))))))))))
        refine ZF rfl rfl rfl rfl rfl (ZF rfl rfl rfl rfl rfl (ZF rfl rfl rfl rfl rfl (ZF rfl rfl rfl rfl rfl (ZA rfl rfl (ZR rfl rfl) (ZD (ZC (Zm rfl (ZG (ZB (ZA rfl rfl (ZE rfl) (ZD ?_)))))))))))
        refine ZC (ZV (ZJ (ZO (vs := [.bool false]) (K := []) (rst := [_]) (.inl rfl) rfl rfl (ZN rfl rfl) ZL ?_)))
        obtain rfl := Option.some.inj hx
        exact ⟨rfl, rfl, rfl, trivial⟩
       ·
        replace hx := ZQ c_18 hx
        refine ZI rfl rfl rfl (ZA rfl rfl (ZH rfl) (ZI rfl rfl rfl (ZA rfl rfl (R.not rfl) (ZA rfl rfl (Za rfl rfl) (ZA rfl rfl (ZH rfl) (ZZ (t := 54) rfl (fun c_19 => ?_) (fun c_19 => ?_)))))))
        ·
         replace hx := ZP c_19 hx
         refine ZF rfl rfl rfl rfl rfl (ZF rfl rfl rfl rfl rfl (ZF rfl rfl rfl rfl rfl (ZF rfl rfl rfl rfl rfl (ZF rfl rfl rfl rfl rfl (ZA rfl rfl (ZR rfl rfl) (ZA rfl rfl (ZH rfl) (ZF rfl rfl rfl rfl rfl (ZF rfl rfl rfl rfl rfl (ZF rfl rfl rfl rfl rfl (ZF rfl rfl rfl rfl rfl (ZF rfl rfl rfl rfl rfl ?_)))))))))))
         refine ZA rfl rfl (ZR rfl rfl) (ZD (ZC (Zm rfl (ZG (ZB (ZA rfl rfl (ZE rfl) (ZD (ZC (ZV (ZJ (ZO (vs := [.bool false]) (K := []) (rst := [_]) (.inl rfl) rfl rfl (ZN rfl rfl) ZL ?_)))))))))))
         obtain rfl := Option.some.inj hx
         exact ⟨rfl, rfl, rfl, trivial⟩
        ·
         replace hx := ZQ c_19 hx
         refine ZI rfl rfl rfl (ZA rfl rfl (Zf F39_4 rfl) (ZI rfl rfl rfl (ZA rfl rfl (ZU 0 S23 rfl rfl rfl) (ZI rfl rfl rfl ?_))))
         obtain ⟨y_20, hN_21, hx⟩ := Zo hx
         obtain ⟨b_22, o_23, cs_24, hE_25, hR_26, hl_27, hc_28⟩ := IsSlice.elem ha_2 hN_21
         obtain rfl := hR_26
         refine ZA rfl rfl (R.ix U23 S5 rfl rfl hE_25) (ZI rfl rfl rfl (ZA rfl rfl (R.ldH S5 rfl (hc_28 0 _ rfl)) (ZI rfl rfl rfl (ZA rfl rfl (R.gtr8 (a := y_20) (b := (7 : UInt8)) rfl rfl) (ZA rfl rfl (Za rfl rfl) (ZA rfl rfl (ZH rfl) (ZZ (t := 61) rfl (fun c_29 => ?_) (fun c_29 => ?_))))))))
         ·
          replace hx := ZP c_29 hx
          refine ZF rfl rfl rfl rfl rfl (ZF rfl rfl rfl rfl rfl (ZF rfl rfl rfl rfl rfl (ZF rfl rfl rfl rfl rfl (ZF rfl rfl rfl rfl rfl (ZA rfl rfl (ZR rfl rfl) (ZD (ZC (Zm rfl (ZG (ZB (ZA rfl rfl (ZE rfl) ?_)))))))))))
          refine ZD (ZC (ZV (ZJ (ZO (vs := [.bool false]) (K := []) (rst := [_]) (.inl rfl) rfl rfl (ZN rfl rfl) ZL ?_))))
          obtain rfl := Option.some.inj hx
          exact ⟨rfl, rfl, rfl, trivial⟩
         ·
          replace hx := ZQ c_29 hx
          refine ZI rfl rfl rfl (ZA rfl rfl (Zf F39_4 rfl) (ZI rfl rfl rfl (ZA rfl rfl (ZU 0 S23 rfl rfl rfl) (ZI rfl rfl rfl ?_))))
          obtain ⟨m_30, hm_32, hb_31, hx⟩ := slc_some hx
          obtain ⟨vv_33, cv_33, h1v_33, h2v_33, h3v_33, hsv_33⟩ := IsSlice.cutv ha_2 hm_32 hb_31
          refine ZA rfl rfl (R.slc (cap := cv_33) (a := 2) (b := 4) (c := (cv_33 : Int)) (m := p_1.Data) (R := RU8) U23 S5 rfl ⟨_, rfl⟩ ⟨_, rfl⟩ (by obtain ⟨ao, n, e, _⟩ := h1v_33; exact ⟨ao, n, e, rfl⟩) ⟨hb_31.1, hb_31.2.1, h2v_33⟩ h3v_33 (.inl rfl)) ?_
          obtain ⟨av_33, cv_33', rfl⟩ := IsSlice.val hsv_33
          refine ZI rfl rfl rfl ?_
          obtain ⟨x_34, hr_35, hx⟩ := ZM hx
          refine ZT (vs := [_]) (args := [_]) (K := []) (rst := [_]) E29 rfl rfl rfl ZL (ref01_Number_ok m_30 _ hsv_33 _ hr_35) rfl (fun u_36 Ku_36 Hu_36 hRu_36 hleu_36 hfu_36 => ?_)
          obtain ⟨rfl, rfl, rfl, -⟩ := hRu_36
          refine ZI rfl rfl rfl (ZA rfl rfl (R.gtr_i rfl rfl) (ZA rfl rfl (Za rfl rfl) (ZD (ZC (ZY rfl (fun c_37 => ?_) (fun c_37 => ?_))))))
          ·
           replace hx := ZP c_37 hx
           refine ZG (ZB (ZA rfl rfl (ZE rfl) (ZD (ZC (ZV (ZJ (ZO (vs := [.bool false]) (K := []) (rst := [_]) (.inl rfl) rfl rfl (ZN rfl rfl) ZL ?_)))))))
           obtain rfl := Option.some.inj hx
           exact ⟨rfl, rfl, rfl, trivial⟩
          ·
           replace hx := ZQ c_37 hx
           refine JC.skip (ZC (ZG ?_))
           obtain ⟨t_38, ht_40, hx⟩ := ZM hx
           refine Zv (fun l o g => l = [(2, .bool t_38)] ∧ o = [] ∧ H = g) ?_ ?_
           ·
            rintro _ _ _ ⟨rfl, rfl, rfl⟩
            refine ZC (ZV (ZO (vs := [.bool t_38]) (K := []) (rst := []) (.inl rfl) rfl rfl (ZN rfl rfl) ZL ?_))
            obtain rfl := Option.some.inj hx
            exact ⟨rfl, rfl, rfl, trivial⟩
           ·
            have hxo_39 := hx; clear hx; have hx := ht_40; clear ht_40
            refine ZB (ZA rfl rfl (Zf F39_4 rfl) (ZA rfl rfl (ZU 0 S23 rfl rfl rfl) ?_))
            obtain ⟨y_41, hN_42, hx⟩ := Zo hx
            obtain ⟨b_43, o_44, cs_45, hE_46, hR_47, hl_48, hc_49⟩ := IsSlice.elem ha_2 hN_42
            obtain rfl := hR_47
            refine ZA rfl rfl (R.ix U23 S5 rfl rfl hE_46) (ZA rfl rfl (R.ldH S5 rfl (hc_49 0 _ rfl)) (ZA rfl rfl (R.neq8 (a := y_41) (b := (0 : UInt8)) rfl rfl) (ZA rfl rfl (ZH rfl) (ZZ (t := 73) rfl (fun c_50 => ?_) (fun c_50 => ?_)))))
            ·
             replace hx := ZP c_50 hx
             refine ZF rfl rfl rfl rfl rfl (ZF rfl rfl rfl rfl rfl (ZF rfl rfl rfl rfl rfl (ZA rfl rfl (ZR rfl rfl) (ZA rfl rfl (ZE rfl) (ZD ?_)))))
             obtain rfl := Option.some.inj hx
             refine JN.forget 0 ?_
             exact ZW ⟨rfl, rfl, rfl⟩ ⟨rfl, trivial⟩ rfl rfl
            ·
             replace hx := ZQ c_50 hx
             refine ZI rfl rfl rfl (ZA rfl rfl (Zf F39_4 rfl) (ZI rfl rfl rfl (ZA rfl rfl (ZU 0 S23 rfl rfl rfl) (ZI rfl rfl rfl ?_))))
             obtain ⟨x_51, hr_52, hx⟩ := ZM hx
             refine ZT (vs := [_]) (args := [_]) (K := []) (rst := [_]) E67 rfl rfl rfl ZL (ref29_noughts_ok p_1.Data _ ha_2 _ hr_52) rfl (fun u_53 Ku_53 Hu_53 hRu_53 hleu_53 hfu_53 => ?_)
             obtain ⟨rfl, rfl, rfl, -⟩ := hRu_53
             refine ZA rfl rfl (Za rfl rfl) (ZA rfl rfl (ZE rfl) (ZD ?_))
             obtain rfl := Option.some.inj hx
             refine JN.forget 0 ?_
             exact ZW ⟨rfl, rfl, rfl⟩ ⟨rfl, trivial⟩ rfl rfl
     ·
      have hxo_9 := hx; clear hx; have hx := ht_10; clear ht_10
      refine ZB (ZA rfl rfl (Zf F39_2 rfl) (ZA rfl rfl (ZU 0 S22 rfl rfl rfl) (ZA rfl rfl (R.eql32 (a := p_1.Iv) (b := (0 : UInt32)) rfl rfl) (ZA rfl rfl (ZH rfl) (ZZ (t := 25) rfl (fun c_11 => ?_) (fun c_11 => ?_))))))
      ·
       replace hx := ZP c_11 hx
       refine ZI rfl rfl rfl (ZA rfl rfl (Zf F39_3 rfl) (ZI rfl rfl rfl (ZA rfl rfl (ZU 0 S22 rfl rfl rfl) (ZI rfl rfl rfl (ZA rfl rfl (R.eql32 (a := p_1.Tag) (b := (0 : UInt32)) rfl rfl) (ZA rfl rfl (ZR rfl rfl) (ZA rfl rfl (ZE rfl) (ZD ?_))))))))
       obtain rfl := Option.some.inj hx
       exact ZW ⟨rfl, rfl, rfl⟩ ⟨rfl, rfl, trivial⟩ rfl rfl
      ·
       replace hx := ZQ c_11 hx
       refine ZF rfl rfl rfl rfl rfl (ZF rfl rfl rfl rfl rfl (ZF rfl rfl rfl rfl rfl (ZA rfl rfl (Za rfl rfl) (ZA rfl rfl (ZE rfl) (ZD ?_)))))
       obtain rfl := Option.some.inj hx
       exact ZW ⟨rfl, rfl, rfl⟩ ⟨rfl, rfl, trivial⟩ rfl rfl

set_option maxHeartbeats 8000000 in
theorem ref29_before_ok (p_1 : Part) (p_3 : Part) (H : Heaplet) {aa_2 : Option Addr} {na_2 : Nat} {ca_2 : Nat} {aa_4 : Option Addr} {na_4 : Nat} {ca_4 : Nat} (ha_2 : IsSlice H RU8 1 (.slice aa_2 na_2 ca_2) p_1.Data) (ha_4 : IsSlice H RU8 1 (.slice aa_4 na_4 ca_4) p_3.Data) (r : Bool) (hx : ref29_before p_1 p_3 = some r) :
  Does Try.prog 46 #[.agg #[.int .i64 p_1.Obj, .int .i64 p_1.Index, .int .u32 (p_1.Iv.toNat : Int), .int .u32 (p_1.Tag.toNat : Int), .slice aa_2 na_2 ca_2], .agg #[.int .i64 p_3.Obj, .int .i64 p_3.Index, .int .u32 (p_3.Iv.toNat : Int), .int .u32 (p_3.Tag.toNat : Int), .slice aa_4 na_4 ca_4]] [] H (fun u K' H' => u = .bool r ∧ K' = [] ∧ H = H' ∧ True) := by
 refine Does.enterL (vs := [.agg #[.int .i64 p_1.Obj, .int .i64 p_1.Index, .int .u32 (p_1.Iv.toNat : Int), .int .u32 (p_1.Tag.toNat : Int), .slice aa_2 na_2 ca_2], .agg #[.int .i64 p_3.Obj, .int .i64 p_3.Index, .int .u32 (p_3.Iv.toNat : Int), .int .u32 (p_3.Tag.toNat : Int), .slice aa_4 na_4 ca_4]]) (l := [(0, .agg #[.int .i64 p_1.Obj, .int .i64 p_1.Index, .int .u32 (p_1.Iv.toNat : Int), .int .u32 (p_1.Tag.toNat : Int), .slice aa_2 na_2 ca_2]), (1, .agg #[.int .i64 p_3.Obj, .int .i64 p_3.Index, .int .u32 (p_3.Iv.toNat : Int), .int .u32 (p_3.Tag.toNat : Int), .slice aa_4 na_4 ca_4])]) Try.func46 rfl rfl ⟨rfl, rfl, trivial⟩ (fun w hlt => ?_)
 unfold ref29_before at hx
 refine ZG (ZB (JL.box rfl rfl (fun b_5 hb_5 => JL.box rfl rfl (fun b_6 hb_6 => ZA rfl rfl (ZE rfl) (ZD (ZC (ZG (ZG (ZB (ZA rfl rfl (Zf F39_0 rfl) (ZA rfl rfl (ZU 1 S3 rfl rfl rfl) ?_)))))))))))
 refine ZA rfl rfl (Zf F39_0 rfl) (ZA rfl rfl (ZU 0 S3 rfl rfl rfl) (ZA rfl rfl (R.neq_i rfl rfl) (ZD (ZC (ZY rfl (fun c_7 => ?_) (fun c_7 => ?_))))))
 ·
  replace hx := ZP c_7 hx
  refine ZG (ZB (ZA rfl rfl (Zf F39_0 rfl) (ZA rfl rfl (ZU 1 S3 rfl rfl rfl) (ZA rfl rfl (Zf F39_0 rfl) (ZA rfl rfl (ZU 0 S3 rfl rfl rfl) (ZA rfl rfl (Zu rfl rfl) (ZA rfl rfl (ZE rfl) (ZD (ZC (ZV (ZJ ?_)))))))))))
  refine ZO (vs := [.bool (decide (p_1.Obj < p_3.Obj))]) (K := []) (rst := [_, _]) (.inl rfl) rfl rfl (ZN rfl rfl) ZL ?_
  obtain rfl := Option.some.inj hx
  exact ⟨rfl, rfl, rfl, trivial⟩
 ·
  replace hx := ZQ c_7 hx
  refine JC.skip (ZC (ZG (ZG (ZB (ZA rfl rfl (Zf F39_1 rfl) (ZA rfl rfl (ZU 1 S3 rfl rfl rfl) (ZA rfl rfl (R.eql_i rfl rfl) (ZA rfl rfl (ZH rfl) (ZZ (t := 18) rfl (fun c_8 => ?_) (fun c_8 => ?_))))))))))
  ·
   replace hx := ZP c_8 hx
   refine ZF rfl rfl rfl rfl rfl (ZF rfl rfl rfl rfl rfl (ZF rfl rfl rfl rfl rfl (ZA rfl rfl (ZR rfl rfl) (ZD (ZC (Zm rfl (ZG ?_)))))))
   obtain ⟨t_9, ht_11, hx⟩ := ZM hx
   refine Zv (fun l o g => l = [(4, .bool t_9)] ∧ o = [] ∧ H = g) ?_ ?_
   ·
    rintro _ _ _ ⟨rfl, rfl, rfl⟩
    refine ZC (ZV (ZJ (ZO (vs := [.bool t_9]) (K := []) (rst := []) (.inl rfl) rfl rfl (ZN rfl rfl) ZL ?_)))
    obtain rfl := Option.some.inj hx
    exact ⟨rfl, rfl, rfl, trivial⟩
   ·
    have hxo_10 := hx; clear hx; have hx := ht_11; clear ht_11
    refine ZB (ZA rfl rfl (Zf F39_1 rfl) (ZA rfl rfl (ZU 1 S3 rfl rfl rfl) (ZA rfl rfl (R.eql_i rfl rfl) (ZA rfl rfl (ZH rfl) (ZZ (t := 26) rfl (fun c_12 => ?_) (fun c_12 => ?_))))))
    ·
     replace hx := ZP c_12 hx
     refine ZI rfl rfl rfl (ZA rfl rfl (Zf F39_1 rfl) (ZI rfl rfl rfl (ZA rfl rfl (ZU 0 S3 rfl rfl rfl) (ZI rfl rfl rfl (ZA rfl rfl (Zu rfl rfl) (ZA rfl rfl (ZR rfl rfl) (ZA rfl rfl (ZE rfl) (ZD ?_))))))))
     obtain rfl := Option.some.inj hx
     refine JN.forget 1 (JN.forget 0 ?_)
     exact ZW ⟨rfl, rfl, rfl⟩ ⟨rfl, trivial⟩ rfl rfl
    ·
     replace hx := ZQ c_12 hx
     refine ZF rfl rfl rfl rfl rfl (ZF rfl rfl rfl rfl rfl (ZF rfl rfl rfl rfl rfl (ZA rfl rfl (Za rfl rfl) (ZA rfl rfl (ZE rfl) (ZD ?_)))))
     obtain rfl := Option.some.inj hx
     refine JN.forget 1 (JN.forget 0 ?_)
     exact ZW ⟨rfl, rfl, rfl⟩ ⟨rfl, trivial⟩ rfl rfl
  ·
   replace hx := ZQ c_8 hx
   refine ZI rfl rfl rfl (ZA rfl rfl (Zf F39_1 rfl) (ZI rfl rfl rfl (ZA rfl rfl (ZU 0 S3 rfl rfl rfl) (ZI rfl rfl rfl (ZA rfl rfl (R.eql_i rfl rfl) (ZA rfl rfl (Za rfl rfl) (ZD (ZC (ZY rfl (fun c_13 => ?_) (fun c_13 => ?_))))))))))
   ·
    replace hx := ZP c_13 hx
    refine ZG ?_
    obtain ⟨t_14, ht_16, hx⟩ := ZM hx
    refine Zv (fun l o g => l = [(4, .bool t_14)] ∧ o = [] ∧ H = g) ?_ ?_
    ·
     rintro _ _ _ ⟨rfl, rfl, rfl⟩
     refine ZC (ZV (ZJ (ZO (vs := [.bool t_14]) (K := []) (rst := []) (.inl rfl) rfl rfl (ZN rfl rfl) ZL ?_)))
     obtain rfl := Option.some.inj hx
     exact ⟨rfl, rfl, rfl, trivial⟩
    ·
     have hxo_15 := hx; clear hx; have hx := ht_16; clear ht_16
     refine ZB (ZA rfl rfl (Zf F39_1 rfl) (ZA rfl rfl (ZU 1 S3 rfl rfl rfl) (ZA rfl rfl (R.eql_i rfl rfl) (ZA rfl rfl (ZH rfl) (ZZ (t := 26) rfl (fun c_17 => ?_) (fun c_17 => ?_))))))
     ·
      replace hx := ZP c_17 hx
      refine ZI rfl rfl rfl (ZA rfl rfl (Zf F39_1 rfl) (ZI rfl rfl rfl (ZA rfl rfl (ZU 0 S3 rfl rfl rfl) (ZI rfl rfl rfl (ZA rfl rfl (Zu rfl rfl) (ZA rfl rfl (ZR rfl rfl) (ZA rfl rfl (ZE rfl) (ZD ?_))))))))
      obtain rfl := Option.some.inj hx
      refine JN.forget 1 (JN.forget 0 ?_)
      exact ZW ⟨rfl, rfl, rfl⟩ ⟨rfl, trivial⟩ rfl rfl
     ·
      replace hx := ZQ c_17 hx
      refine ZF rfl rfl rfl rfl rfl (ZF rfl rfl rfl rfl rfl (ZF rfl rfl rfl rfl rfl (ZA rfl rfl (Za rfl rfl) (ZA rfl rfl (ZE rfl) (ZD ?_)))))
      obtain rfl := Option.some.inj hx
      refine JN.forget 1 (JN.forget 0 ?_)
      exact ZW ⟨rfl, rfl, rfl⟩ ⟨rfl, trivial⟩ rfl rfl
   ·
    replace hx := ZQ c_13 hx
    refine JC.skip (ZC (ZG (ZB (ZA rfl rfl (Zf F39_1 rfl) (ZA rfl rfl (ZU 1 S3 rfl rfl rfl) (ZA rfl rfl (Zf F39_1 rfl) (ZA rfl rfl (ZU 0 S3 rfl rfl rfl) (ZA rfl rfl (Zu rfl rfl) (ZA rfl rfl (ZE rfl) (ZD (ZC ?_)))))))))))
    refine ZV (ZO (vs := [.bool (decide (p_1.Index < p_3.Index))]) (K := []) (rst := [_, _]) (.inl rfl) rfl rfl (ZN rfl rfl) ZL ?_)
    obtain rfl := Option.some.inj hx
    exact ⟨rfl, rfl, rfl, trivial⟩
end Go.Proofs.Ytebhagohhbmgoaa
