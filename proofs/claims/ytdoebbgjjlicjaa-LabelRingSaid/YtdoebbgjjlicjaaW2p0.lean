import Derived.Test.YtdoebbgjjlicjaaT2
import Derived.Test.YtdoebbgjjlicjaaOwMd
import Derived.Test.YtdoebbgjjlicjaaOwSo
import Derived.Test.YtdoebbgjjlicjaaS4
/- walks: what the code computes, function by function. -/
namespace Go.Proofs.Ytdoebbgjjlicjaa
open Go.Ow Go.RowKit Go.Proofs
set_option linter.unusedVariables false
set_option linter.unusedSimpArgs false
set_option maxHeartbeats 8000000 in
theorem ref09_Great_ok (p_1 : Disk) (H : Heaplet) {aa_2 : Option Addr} {na_2 : Nat} {ca_2 : Nat} {aa_3 : Option Addr} {na_3 : Nat} {ca_3 : Nat} (ha_2 : IsSlice H (RSl RU8 1) 1 (.slice aa_2 na_2 ca_2) p_1.Blocks) (ha_3 : IsSlice H R_Write 2 (.slice aa_3 na_3 ca_3) p_1.Waits) (r : Bool) (hx : ref09_Great p_1 = some r) :
  Does Try.prog 10 #[.agg #[.slice aa_2 na_2 ca_2, .slice aa_3 na_3 ca_3]] [] H (fun u K' H' => u = .bool r ∧ K' = [] ∧ H = H' ∧ True) := by
 refine Does.enterL (vs := [.agg #[.slice aa_2 na_2 ca_2, .slice aa_3 na_3 ca_3]]) (l := [(0, .agg #[.slice aa_2 na_2 ca_2, .slice aa_3 na_3 ca_3])]) Try.func10 rfl rfl ⟨rfl, trivial⟩ (fun w hlt => ?_)
 unfold ref09_Great at hx
 refine ZH (ZB (Z7 rfl rfl (fun b_4 hb_4 => ZA rfl rfl (ZG rfl) (ZD (ZC (ZH ?_))))))
 obtain ⟨t_5, ht_7, hx⟩ := ZJ hx
 refine Zy (fun l o g => ∃ t_5a : Unit, l = [(1, .pointer (some ⟨b_4, 0, none⟩))] ∧ o = [[(b_4, .cells #[.slice aa_2 na_2 ca_2, .slice aa_3 na_3 ca_3] 25 (0, 0))]] ∧ H = g ∧ t_5 = .inl t_5a) ?_ ?_
 ·
  rintro _ _ _ ⟨t_5a, rfl, rfl, rfl, rfl⟩
  simp only [Sum.elim_inl] at hx
  refine ZC (ZH (ZB (ZA rfl rfl (ZG rfl) (ZD (ZC (ZH (ZH (ZB (ZA rfl rfl (ZG rfl) (ZD (ZC ?_)))))))))))
  obtain ⟨t_13, ht_15, hx⟩ := ZJ hx
  refine Zy (fun l o g => l = [(1, .pointer (some ⟨b_4, 0, none⟩)), (3, .int .i64 t_13)] ∧ o = [[(b_4, .cells #[.slice aa_2 na_2 ca_2, .slice aa_3 na_3 ca_3] 25 (0, 0))]] ∧ H = g) ?_ ?_
  ·
   rintro _ _ _ ⟨rfl, rfl, rfl⟩
   refine ZC (ZH (ZH (ZB (ZA rfl rfl (ZG rfl) (ZD (ZC ?_))))))
   obtain ⟨t_19, ht_21, hx⟩ := ZJ hx
   refine Zy (fun l o g => l = [(3, .int .i64 t_19)] ∧ o = [] ∧ H = g) ?_ ?_
   ·
    rintro _ _ _ ⟨rfl, rfl, rfl⟩
    refine ZC (ZH (ZB (ZA rfl rfl (ZI rfl) (ZA rfl rfl (R.geq_i rfl rfl) (ZA rfl rfl (ZG rfl) (ZD (ZC (ZW (ZS (vs := [.bool (decide (2000000 ≤ t_19))]) (K := []) (rst := []) (.inl rfl) rfl rfl (ZQ rfl rfl) ZK ?_)))))))))
    obtain rfl := Option.some.inj hx
    exact ⟨rfl, rfl, rfl, trivial⟩
   ·
    have hxo_20 := hx; clear hx; have hx := ht_21; clear ht_21
    refine JC.block (Z9 (fun n l o g => ∃ s_22 : Int × Nat, l = [(1, .pointer (some ⟨b_4, 0, none⟩)), (3, .int .i64 s_22.1), (5, .int .i64 ((s_22.2 : Nat) : Int))] ∧ o = [[(b_4, .cells #[.slice aa_2 na_2 ca_2, .slice aa_3 na_3 ca_3] 25 (0, 0))]] ∧ H = g ∧ run (ref09_Great_l2 p_1) n s_22 = some t_19) FUEL ?_ ⟨(t_13, 0), rfl, rfl, rfl, hx⟩ ⟨rfl, rfl, rfl, trivial⟩ ?_)
    ·
     rintro _ _ _ ⟨s_22, rfl, rfl, rfl, hn_23⟩
     exact Z5 hn_23
    ·
     rintro n_24 _ _ _ ⟨s_22, rfl, rfl, rfl, hn_23⟩
     clear hx; obtain ⟨oo_26, hx, hd_25⟩ := Z6 hn_23
     unfold ref09_Great_l2 at hx
     refine ZH (ZH (ZB (ZA rfl rfl (ZI rfl) (ZA rfl rfl (Zo F25_1 rfl) (ZA rfl rfl (ZZ 0 S23 rfl rfl rfl) (ZA rfl rfl (Zr U23 rfl (IsSlice.long ha_3)) (ZA rfl rfl (Z1 rfl rfl) (ZA rfl rfl (ZI rfl) (Zi (t := 52) rfl (fun c_25 => ?_) (fun c_25 => ?_))))))))))
     ·
      replace hx := ZU c_25 hx
      refine ZN rfl rfl rfl (ZA rfl rfl (ZI rfl) (ZN rfl rfl rfl (ZA rfl rfl (Z1 rfl rfl) (ZA rfl rfl (Zf rfl rfl) (ZD (ZC (ZY rfl (fun c_26 => ?_) (fun c_26 => ?_))))))))
      ·
       replace hx := ZU c_26 hx
       refine Za (ZC (ZH (JC.block (ZB (ZA rfl rfl (ZI rfl) (ZA rfl rfl (Zo F25_1 rfl) (ZA rfl rfl (ZZ 0 S23 rfl rfl rfl) (ZA rfl rfl (ZI rfl) ?_))))))))
       obtain ⟨y_27, hN_28, hx⟩ := Zt hx
       obtain ⟨b_29, o_30, cs_31, hE_32, hR_33, hl_34, hc_35⟩ := IsSlice.elem ha_3 hN_28
       obtain ⟨v_36, rfl, hs_37⟩ := hR_33
       obtain ⟨av_36, cv_36, rfl⟩ := IsSlice.val hs_37
       refine ZA rfl rfl (R.ix U23 S47 rfl rfl hE_32) (ZA rfl rfl (Zo F47_1 rfl) (ZA rfl rfl (R.ldH S45 rfl (hc_35 1 _ rfl)) (ZA rfl rfl (Zr U45 rfl (IsSlice.long hs_37)) (ZA rfl rfl (R.add_i rfl rfl) (ZA rfl rfl (ZG rfl) (ZD (Zl (ZC (ZB (ZA rfl rfl (ZI rfl) (ZA rfl rfl (R.inc rfl rfl (of_decide_eq_true c_25) (IsSlice.lenI ha_3)) ?_)))))))))))
       refine ZA rfl rfl (ZG rfl) (ZD ?_)
       replace hx := Zm hd_25 hx
       exact ZR ⟨(w64 (s_22.1 + (y_27.Data.length : Int)), s_22.2 + 1), rfl, rfl, rfl, hx⟩ ⟨rfl, rfl, rfl, trivial⟩ rfl rfl
      ·
       replace hx := ZV c_26 hx
       refine Z0 (ZX ?_)
       obtain rfl := Zw hd_25 hx
       refine ZX (Zd (JN.forget 0 ?_))
       exact ZR ⟨rfl, rfl, rfl⟩ ⟨rfl, trivial⟩ rfl rfl
     ·
      replace hx := ZV c_25 hx
      refine ZM rfl rfl rfl rfl rfl (ZM rfl rfl rfl rfl rfl (ZA rfl rfl (Zb rfl rfl) (ZD (ZC (JC.condF rfl (Z0 (ZX ?_)))))))
      obtain rfl := Zw hd_25 hx
      refine ZX (Zd (JN.forget 0 ?_))
      exact ZR ⟨rfl, rfl, rfl⟩ ⟨rfl, trivial⟩ rfl rfl
  ·
   have hxo_14 := hx; clear hx; have hx := ht_15; clear ht_15
   refine JC.block (Z9 (fun n l o g => ∃ s_16 : Int × Nat, l = [(1, .pointer (some ⟨b_4, 0, none⟩)), (3, .int .i64 s_16.1), (4, .int .i64 ((s_16.2 : Nat) : Int))] ∧ o = [[(b_4, .cells #[.slice aa_2 na_2 ca_2, .slice aa_3 na_3 ca_3] 25 (0, 0))]] ∧ H = g ∧ run (ref09_Great_l1 p_1) n s_16 = some t_13) FUEL ?_ ⟨(0, 0), rfl, rfl, rfl, hx⟩ ⟨rfl, rfl, rfl, trivial⟩ ?_)
   ·
    rintro _ _ _ ⟨s_16, rfl, rfl, rfl, hn_17⟩
    exact Z5 hn_17
   ·
    rintro n_18 _ _ _ ⟨s_16, rfl, rfl, rfl, hn_17⟩
    clear hx; obtain ⟨oo_20, hx, hd_19⟩ := Z6 hn_17
    unfold ref09_Great_l1 at hx
    refine ZH (ZH (ZB (ZA rfl rfl (ZI rfl) (ZA rfl rfl (Zo F25_0 rfl) (ZA rfl rfl (ZZ 0 S22 rfl rfl rfl) (ZA rfl rfl (Zr U22 rfl (IsSlice.long ha_2)) (ZA rfl rfl (Z1 rfl rfl) (ZA rfl rfl (ZI rfl) (Zi (t := 33) rfl (fun c_19 => ?_) (fun c_19 => ?_))))))))))
    ·
     replace hx := ZU c_19 hx
     refine ZN rfl rfl rfl (ZA rfl rfl (ZI rfl) (ZN rfl rfl rfl (ZA rfl rfl (Z1 rfl rfl) (ZA rfl rfl (Zf rfl rfl) (ZD (ZC (ZY rfl (fun c_20 => ?_) (fun c_20 => ?_))))))))
     ·
      replace hx := ZU c_20 hx
      refine Za (ZC (ZH (JC.block (ZB (ZA rfl rfl (ZI rfl) (ZA rfl rfl (Zo F25_0 rfl) (ZA rfl rfl (ZZ 0 S22 rfl rfl rfl) (ZA rfl rfl (ZI rfl) ?_))))))))
      obtain ⟨y_21, hN_22, hx⟩ := Zt hx
      obtain ⟨b_23, o_24, cs_25, hE_26, hR_27, hl_28, hc_29⟩ := IsSlice.elem ha_2 hN_22
      obtain ⟨v_30, rfl, hs_31⟩ := hR_27
      obtain ⟨av_30, cv_30, rfl⟩ := IsSlice.val hs_31
      refine ZA rfl rfl (R.ix U22 S45 rfl rfl hE_26) (ZA rfl rfl (R.ldH S45 rfl (hc_29 0 _ rfl)) (ZA rfl rfl (Zr U45 rfl (IsSlice.long hs_31)) (ZA rfl rfl (R.add_i rfl rfl) (ZA rfl rfl (ZG rfl) (ZD (Zl (ZC (ZB (ZA rfl rfl (ZI rfl) (ZA rfl rfl (R.inc rfl rfl (of_decide_eq_true c_19) (IsSlice.lenI ha_2)) (ZA rfl rfl (ZG rfl) ?_)))))))))))
      refine ZD ?_
      replace hx := Zm hd_19 hx
      exact ZR ⟨(w64 (s_16.1 + (y_21.length : Int)), s_16.2 + 1), rfl, rfl, rfl, hx⟩ ⟨rfl, rfl, rfl, trivial⟩ rfl rfl
     ·
      replace hx := ZV c_20 hx
      refine Z0 (ZX ?_)
      obtain rfl := Zw hd_19 hx
      refine ZX (Zd ?_)
      exact ZR ⟨rfl, rfl, rfl⟩ ⟨rfl, rfl, trivial⟩ rfl rfl
    ·
     replace hx := ZV c_19 hx
     refine ZM rfl rfl rfl rfl rfl (ZM rfl rfl rfl rfl rfl (ZA rfl rfl (Zb rfl rfl) (ZD (ZC (JC.condF rfl (Z0 (ZX ?_)))))))
     obtain rfl := Zw hd_19 hx
     refine ZX (Zd ?_)
     exact ZR ⟨rfl, rfl, rfl⟩ ⟨rfl, rfl, trivial⟩ rfl rfl
 ·
  have hxo_6 := hx; clear hx; have hx := ht_7; clear ht_7
  refine ZH (ZB (ZA rfl rfl (Zo F25_0 rfl) (ZA rfl rfl (ZZ 0 S22 rfl rfl rfl) (ZA rfl rfl (Zr U22 rfl (IsSlice.long ha_2)) (ZA rfl rfl (R.gtr_i rfl rfl) (ZA rfl rfl (ZI rfl) (Zi (t := 10) rfl (fun c_8 => ?_) (fun c_8 => ?_))))))))
  ·
   replace hx := ZU c_8 hx
   refine ZM rfl rfl rfl rfl rfl (ZM rfl rfl rfl rfl rfl (ZM rfl rfl rfl rfl rfl (ZM rfl rfl rfl rfl rfl (ZM rfl rfl rfl rfl rfl (JL.gNoU rfl rfl rfl rfl (JL.gNoU rfl rfl rfl rfl (JL.gNoU rfl rfl rfl rfl (JL.gNoU rfl rfl rfl rfl (ZM rfl rfl rfl rfl rfl (ZA rfl rfl (Zf rfl rfl) (ZA rfl rfl (ZI rfl) ?_)))))))))))
   refine ZM rfl rfl rfl rfl rfl (ZM rfl rfl rfl rfl rfl (ZM rfl rfl rfl rfl rfl (ZM rfl rfl rfl rfl rfl (ZA rfl rfl (Zf rfl rfl) (ZD (ZC (JC.condT rfl (ZH (ZB (ZA rfl rfl (ZG rfl) (ZD ?_)))))))))))
   refine ZC (ZW ?_)
   obtain rfl := Option.some.inj hx
   clear hx; have hx := hxo_6
   simp only [Sum.elim_inl, Sum.elim_inr] at hx
   refine Zc (Zc (ZS (vs := [.bool true]) (K := []) (rst := [_]) (.inl rfl) rfl rfl (ZQ rfl rfl) ZK ?_))
   obtain rfl := Option.some.inj hx
   exact ⟨rfl, rfl, rfl, trivial⟩
  ·
   replace hx := ZV c_8 hx
   refine ZN rfl rfl rfl (ZA rfl rfl (Zo F25_1 rfl) (ZN rfl rfl rfl (ZA rfl rfl (ZZ 0 S23 rfl rfl rfl) (ZN rfl rfl rfl (ZA rfl rfl (Zr U23 rfl (IsSlice.long ha_3)) (ZN rfl rfl rfl (ZA rfl rfl (R.gtr_i rfl rfl) (ZN rfl rfl rfl (ZA rfl rfl (ZI rfl) (Zi (t := 15) rfl (fun c_9 => ?_) (fun c_9 => ?_)))))))))))
   ·
    replace hx := ZU c_9 hx
    refine ZN rfl rfl rfl (ZA rfl rfl (Zo F25_1 rfl) (ZN rfl rfl rfl (ZA rfl rfl (ZZ 0 S23 rfl rfl rfl) (ZN rfl rfl rfl (ZA rfl rfl (Zr U23 rfl (IsSlice.long ha_3)) (ZN rfl rfl rfl (ZA rfl rfl (Z1 rfl rfl) (ZN rfl rfl rfl (ZA rfl rfl (Zf rfl rfl) (ZA rfl rfl (Zb rfl rfl) (ZA rfl rfl (ZI rfl) ?_)))))))))))
    refine Zi (t := 22) rfl (fun c_10 => ?_) (fun c_10 => ?_)
    ·
     replace hx := ZU c_10 hx
     refine ZM rfl rfl rfl rfl rfl (ZM rfl rfl rfl rfl rfl (ZM rfl rfl rfl rfl rfl (ZM rfl rfl rfl rfl rfl (ZA rfl rfl (Zf rfl rfl) (ZD (ZC (JC.condT rfl (ZH (ZB (ZA rfl rfl (ZG rfl) (ZD ?_)))))))))))
     refine ZC (ZW ?_)
     obtain rfl := Option.some.inj hx
     clear hx; have hx := hxo_6
     simp only [Sum.elim_inl, Sum.elim_inr] at hx
     refine Zc (Zc (ZS (vs := [.bool true]) (K := []) (rst := [_]) (.inl rfl) rfl rfl (ZQ rfl rfl) ZK ?_))
     obtain rfl := Option.some.inj hx
     exact ⟨rfl, rfl, rfl, trivial⟩
    ·
     replace hx := ZV c_10 hx
     refine ZN rfl rfl rfl (ZA rfl rfl (Zo F25_1 rfl) (ZN rfl rfl rfl (ZA rfl rfl (ZZ 0 S23 rfl rfl rfl) (ZN rfl rfl rfl (ZA rfl rfl (Zr U23 rfl (IsSlice.long ha_3)) (ZN rfl rfl rfl (ZA rfl rfl (R.gtr_i rfl rfl) (ZA rfl rfl (Zb rfl rfl) (ZD (ZC (ZY rfl (fun c_11 => ?_) (fun c_11 => ?_))))))))))))
     ·
      replace hx := ZU c_11 hx
      refine ZH (ZB (ZA rfl rfl (ZG rfl) (ZD (ZC (ZW ?_)))))
      obtain rfl := Option.some.inj hx
      clear hx; have hx := hxo_6
      simp only [Sum.elim_inl, Sum.elim_inr] at hx
      refine Zc (Zc (ZS (vs := [.bool true]) (K := []) (rst := [_]) (.inl rfl) rfl rfl (ZQ rfl rfl) ZK ?_))
      obtain rfl := Option.some.inj hx
      exact ⟨rfl, rfl, rfl, trivial⟩
     ·
      replace hx := ZV c_11 hx
      refine Za ?_
      obtain rfl := Option.some.inj hx
      exact ZR ⟨(), rfl, rfl, rfl, rfl⟩ ⟨rfl, trivial⟩ rfl rfl
   ·
    replace hx := ZV c_9 hx
    refine ZM rfl rfl rfl rfl rfl (ZM rfl rfl rfl rfl rfl (ZM rfl rfl rfl rfl rfl (ZM rfl rfl rfl rfl rfl (ZN rfl rfl rfl (ZA rfl rfl (Zb rfl rfl) (ZA rfl rfl (Zb rfl rfl) (ZA rfl rfl (ZI rfl) (ZN rfl rfl rfl (ZA rfl rfl (Zo F25_1 rfl) (ZN rfl rfl rfl (ZA rfl rfl (ZZ 0 S23 rfl rfl rfl) ?_)))))))))))
    refine ZN rfl rfl rfl (ZA rfl rfl (Zr U23 rfl (IsSlice.long ha_3)) (ZN rfl rfl rfl (ZA rfl rfl (R.gtr_i rfl rfl) (ZA rfl rfl (Zb rfl rfl) (ZD (ZC (ZY rfl (fun c_12 => ?_) (fun c_12 => ?_))))))))
    ·
     replace hx := ZU c_12 hx
     refine ZH (ZB (ZA rfl rfl (ZG rfl) (ZD (ZC (ZW ?_)))))
     obtain rfl := Option.some.inj hx
     clear hx; have hx := hxo_6
     simp only [Sum.elim_inl, Sum.elim_inr] at hx
     refine Zc (Zc (ZS (vs := [.bool true]) (K := []) (rst := [_]) (.inl rfl) rfl rfl (ZQ rfl rfl) ZK ?_))
     obtain rfl := Option.some.inj hx
     exact ⟨rfl, rfl, rfl, trivial⟩
    ·
     replace hx := ZV c_12 hx
     refine Za ?_
     obtain rfl := Option.some.inj hx
     exact ZR ⟨(), rfl, rfl, rfl, rfl⟩ ⟨rfl, trivial⟩ rfl rfl

set_option maxHeartbeats 8000000 in
theorem ref09_Twin_ok (p_1 : Disk) (H : Heaplet) {aa_2 : Option Addr} {na_2 : Nat} {ca_2 : Nat} {aa_3 : Option Addr} {na_3 : Nat} {ca_3 : Nat} (ha_2 : IsSlice H (RSl RU8 1) 1 (.slice aa_2 na_2 ca_2) p_1.Blocks) (ha_3 : IsSlice H R_Write 2 (.slice aa_3 na_3 ca_3) p_1.Waits) (r : Disk) (hx : ref09_Twin p_1 = some r) :
  Does Try.prog 11 #[.agg #[.slice aa_2 na_2 ca_2, .slice aa_3 na_3 ca_3]] [] H (fun u K' H' => ∃ ao0 : Option Addr, ∃ n0 : Nat, ∃ cap0 : Nat, ∃ K0 : Own, ∃ ao1 : Option Addr, ∃ n1 : Nat, ∃ cap1 : Nat, ∃ K1 : Own, u = .agg #[.slice ao0 n0 cap0, .slice ao1 n1 cap1] ∧ K' = [K0, K1] ∧ RowOf (New H H') (RSl RU8 1) 0 45 1 (.slice ao0 n0 cap0) r.Blocks K0 ∧ (∀ p ∈ K0, p.1 ∉ ids (List.flatten [])) ∧ RowOf (New H H') R_Write 0 47 2 (.slice ao1 n1 cap1) r.Waits K1 ∧ (∀ p ∈ K1, p.1 ∉ ids (List.flatten [])) ∧ True) := by
 refine Does.enterL (vs := [.agg #[.slice aa_2 na_2 ca_2, .slice aa_3 na_3 ca_3]]) (l := [(0, .agg #[.slice aa_2 na_2 ca_2, .slice aa_3 na_3 ca_3])]) Try.func11 rfl rfl ⟨rfl, trivial⟩ (fun w hlt => ?_)
 unfold ref09_Twin at hx
 refine ZH (ZB (Z7 rfl rfl (fun b_4 hb_4 => JL.alloc Z25 rfl (fun b_5 hb_5 => ZD (ZC (ZH ?_))))))
 obtain ⟨t_6, ht_8, hx⟩ := ZJ hx
 refine Zy (fun l o g => ∃ b_28 : Nat, ∃ ar_29 : Option Addr, ∃ nr_29 : Nat, ∃ cr_29 : Nat, ∃ Kr_29 : Own, ∃ ar_30 : Option Addr, ∃ nr_30 : Nat, ∃ cr_30 : Nat, ∃ Kr_30 : Own, l = [(1, .pointer (some ⟨b_4, 0, none⟩)), (2, .pointer (some ⟨b_5, 0, none⟩)), (3, .pointer (some ⟨b_28, 0, none⟩))] ∧ o = [[(b_4, .cells #[.slice aa_2 na_2 ca_2, .slice aa_3 na_3 ca_3] 25 (0, 0))], [(b_5, .cells #[.slice none 0 0, .slice none 0 0] 25 (0, 0))], [(b_28, .cells #[.slice ar_29 nr_29 cr_29, .slice ar_30 nr_30 cr_30] 25 (0, 0))], Kr_29, Kr_30] ∧ H = g ∧ w.heap.size ≤ b_28 ∧ RowOf (New H H) (ROSl RU8 1) w.heap.size 45 1 (.slice ar_29 nr_29 cr_29) t_6.1 Kr_29 ∧ RowOf (New H H) R_WriteO w.heap.size 47 2 (.slice ar_30 nr_30 cr_30) t_6.2 Kr_30) ?_ ?_
 ·
  rintro _ _ _ ⟨b_28, ar_29, nr_29, cr_29, Kr_29, ar_30, nr_30, cr_30, Kr_30, rfl, rfl, rfl, hb_28, hr_29, hr_30⟩
  refine ZC (ZH (ZH (ZB (ZA rfl rfl (ZG rfl) (ZD (ZC ?_))))))
  obtain ⟨t_31, ht_33, hx⟩ := ZJ hx
  refine Zy (fun l o g => ∃ H_39 : Heaplet, ∃ Kr_40 : Own, l = [(1, .pointer (some ⟨b_4, 0, none⟩)), (2, .pointer (some ⟨b_5, 0, none⟩)), (3, .pointer (some ⟨b_28, 0, none⟩))] ∧ o = [[(b_4, .cells #[.slice aa_2 na_2 ca_2, .slice aa_3 na_3 ca_3] 25 (0, 0))], [(b_5, .cells #[.slice none 0 0, .slice none 0 0] 25 (0, 0))], [(b_28, .cells #[.slice ar_29 nr_29 cr_29, .slice ar_30 nr_30 cr_30] 25 (0, 0))], Kr_40, Kr_30] ∧ H_39 = g ∧ Hle H H_39 ∧ RowOf (New H H_39) (ROSl RU8 1) w.heap.size 45 1 (.slice ar_29 nr_29 cr_29) t_31 Kr_40) ?_ ?_
  ·
   rintro _ _ _ ⟨H_39, Kr_40, rfl, rfl, rfl, hleH_39, hr_40⟩
   refine ZC (ZH (ZH (ZB (ZA rfl rfl (ZG rfl) (ZD (ZC ?_))))))
   obtain ⟨t_41, ht_43, hx⟩ := ZJ hx
   refine Zy (fun l o g => ∃ H_49 : Heaplet, ∃ Kr_50 : Own, l = [(2, .pointer (some ⟨b_5, 0, none⟩)), (3, .pointer (some ⟨b_28, 0, none⟩))] ∧ o = [[(b_5, .cells #[.slice none 0 0, .slice none 0 0] 25 (0, 0))], [(b_28, .cells #[.slice ar_29 nr_29 cr_29, .slice ar_30 nr_30 cr_30] 25 (0, 0))], Kr_40, Kr_50] ∧ H_49 = g ∧ Hle H_39 H_49 ∧ RowOf (New H H_49) R_WriteO w.heap.size 47 2 (.slice ar_30 nr_30 cr_30) t_41 Kr_50) ?_ ?_
   ·
    rintro _ _ _ ⟨H_49, Kr_50, rfl, rfl, rfl, hleH_49, hr_50⟩
    refine ZC (ZH (ZB (ZA rfl rfl (Zh 1 (vs := [.slice ar_29 nr_29 cr_29, .slice ar_30 nr_30 cr_30]) S25 rfl rfl rfl rfl) (ZP 0 S25 rfl rfl rfl rfl rfl (Nat.le_of_ble_eq_true rfl) (ZD (ZC (ZW ?_)))))))
    have hr_51 := RowOf.mapR (fun y => y.getD []) ((ROSl.un RU8 1) _) hr_40
    have hr_52 := RowOf.mapR WriteO.w (R_WriteO.un _) hr_50
    refine ZS (vs := [.agg #[.slice ar_29 nr_29 cr_29, .slice ar_30 nr_30 cr_30]]) (K := [_, _]) (rst := [_, _]) (.inl rfl) rfl rfl (Zq 0 rfl rfl S25 rfl) (Ze 2 rfl (Ze 2 rfl ZK)) ?_
    obtain rfl := Option.some.inj hx
    exact ⟨ar_29, nr_29, cr_29, Kr_40, ar_30, nr_30, cr_30, Kr_50, rfl, rfl, (Zs (Nat.zero_le _) (hr_51.mono (RSl.mono RU8.mono) (New.mono hleH_49))), (new_ids (hr_51.mono (RSl.mono RU8.mono) (New.mono hleH_49)) hlt), (Zs (Nat.zero_le _) hr_52), (new_ids hr_52 hlt), trivial⟩
   ·
    have hxo_42 := hx; clear hx; have hx := ht_43; clear ht_43
    refine JC.block (Zv 4 rfl (Zv 4 rfl (Zv 4 rfl (Zv 4 rfl (Zv 4 rfl (Z9 (fun n l o g => ∃ s_44 : List WriteO × Nat, ∃ H_47 : Heaplet, ∃ Kr_48 : Own, l = [(1, .pointer (some ⟨b_4, 0, none⟩)), (2, .pointer (some ⟨b_5, 0, none⟩)), (3, .pointer (some ⟨b_28, 0, none⟩)), (5, .int .i64 ((s_44.2 : Nat) : Int))] ∧ o = [[(b_4, .cells #[.slice aa_2 na_2 ca_2, .slice aa_3 na_3 ca_3] 25 (0, 0))], [(b_5, .cells #[.slice none 0 0, .slice none 0 0] 25 (0, 0))], [(b_28, .cells #[.slice ar_29 nr_29 cr_29, .slice ar_30 nr_30 cr_30] 25 (0, 0))], Kr_40, Kr_48] ∧ H_47 = g ∧ run (ref09_Twin_l2 p_1) n s_44 = some t_41 ∧ Hle H_39 H_47 ∧ RowOf (New H H_47) R_WriteO w.heap.size 47 2 (.slice ar_30 nr_30 cr_30) s_44.1 Kr_48) FUEL ?_ ⟨(t_6.2, 0), H_39, Kr_30, rfl, rfl, rfl, hx, (Hle.refl _), (hr_30.mono R_WriteO.mono (New.mono hleH_39))⟩ ⟨rfl, rfl, rfl, rfl, trivial⟩ ?_))))))
    ·
     rintro _ _ _ ⟨s_44, H_47, Kr_48, rfl, rfl, rfl, hn_45, hleH_47, hr_48⟩
     exact Z5 hn_45
    ·
     rintro n_46 _ _ _ ⟨s_44, H_47, Kr_48, rfl, rfl, rfl, hn_45, hleH_47, hr_48⟩
     clear hx; obtain ⟨oo_50, hx, hd_49⟩ := Z6 hn_45
     unfold ref09_Twin_l2 at hx
     refine ZH (ZH (ZB (ZA rfl rfl (ZI rfl) (ZA rfl rfl (Zo F25_1 rfl) (ZA rfl rfl (ZZ 0 S23 rfl rfl rfl) (ZA rfl rfl (Zr U23 rfl (IsSlice.long ha_3)) (ZA rfl rfl (Z1 rfl rfl) (ZD (ZC (ZY rfl (fun c_49 => ?_) (fun c_49 => ?_)))))))))))
     ·
      replace hx := ZU c_49 hx
      refine Za (ZC (ZH (JC.block (ZH (JC.draw (so := [_, _, _, _]) 12 rfl Mixed ⟨⟨0, rfl⟩, ⟨1, rfl⟩, ⟨2, rfl⟩, ⟨3, rfl⟩, trivial⟩ (JA.val ⟨by kernel_rfl, by kernel_rfl⟩ (ZF _) (i := 0) rfl ⟨by kernel_rfl, by kernel_rfl, rfl⟩ trivial (ZE (Hle.refl _) ⟨⟨0, rfl⟩, ⟨1, rfl⟩, ⟨2, rfl⟩, ⟨3, rfl⟩, trivial⟩) (Zo F25_1 rfl) rfl (JA.val ⟨by kernel_rfl, by kernel_rfl⟩ (ZF _) (i := 1) rfl ⟨by kernel_rfl, by kernel_rfl, rfl⟩ trivial (ZE (Hle.refl _) ⟨⟨0, rfl⟩, ⟨1, rfl⟩, ⟨2, rfl⟩, ⟨3, rfl⟩, trivial⟩) (ZZ 2 S23 rfl rfl rfl) rfl (JA.val ⟨by kernel_rfl, by kernel_rfl⟩ (ZF _) (i := 2) rfl ⟨by kernel_rfl, by kernel_rfl, rfl⟩ trivial (ZE (Hle.refl _) ⟨⟨0, rfl⟩, ⟨1, rfl⟩, ⟨2, rfl⟩, ⟨3, rfl⟩, trivial⟩) (ZI rfl) rfl (JA.val ⟨by kernel_rfl, by kernel_rfl⟩ (ZF _) (i := 3) rfl ⟨by kernel_rfl, by kernel_rfl, rfl⟩ trivial (ZE (Hle.refl _) ⟨⟨0, rfl⟩, ⟨1, rfl⟩, ⟨2, rfl⟩, ⟨3, rfl⟩, trivial⟩) (Zo F25_1 rfl) rfl (JA.val ⟨by kernel_rfl, by kernel_rfl⟩ (ZF _) (i := 4) rfl ⟨by kernel_rfl, by kernel_rfl, rfl⟩ trivial (ZE (Hle.refl _) ⟨⟨0, rfl⟩, ⟨1, rfl⟩, ⟨2, rfl⟩, ⟨3, rfl⟩, trivial⟩) (ZZ 0 S23 rfl rfl rfl) rfl (JA.val ⟨by kernel_rfl, by kernel_rfl⟩ (ZF _) (i := 5) rfl ⟨by kernel_rfl, by kernel_rfl, rfl⟩ trivial (ZE (Hle.refl _) ⟨⟨0, rfl⟩, ⟨1, rfl⟩, ⟨2, rfl⟩, ⟨3, rfl⟩, trivial⟩) (ZI rfl) rfl ?_)))))))))))
      obtain ⟨y_50, hN_51, hx⟩ := Zt hx
      obtain ⟨b_52, o_53, cs_54, hE_55, hR_56, hl_57, hc_58⟩ := IsSlice.elem (ha_3.mono R_Write.mono (hleH_39.trans hleH_47)) hN_51
      obtain ⟨v_59, rfl, hs_60⟩ := hR_56
      obtain ⟨av_59, cv_59', rfl⟩ := IsSlice.val hs_60
      refine JA.val ⟨by kernel_rfl, by kernel_rfl⟩ (ZF _) (i := 6) rfl ⟨by kernel_rfl, by kernel_rfl, rfl⟩ trivial (ZE (Hle.refl _) ⟨⟨0, rfl⟩, ⟨1, rfl⟩, ⟨2, rfl⟩, ⟨3, rfl⟩, trivial⟩) (R.ix U23 S47 rfl rfl hE_55) rfl (JA.val ⟨by kernel_rfl, by kernel_rfl⟩ (ZF _) (i := 7) rfl ⟨by kernel_rfl, by kernel_rfl, rfl⟩ trivial (ZE (Hle.refl _) ⟨⟨0, rfl⟩, ⟨1, rfl⟩, ⟨2, rfl⟩, ⟨3, rfl⟩, trivial⟩) (Zo F47_0 rfl) rfl (JA.val ⟨by kernel_rfl, by kernel_rfl⟩ (ZF _) (i := 8) rfl ⟨by kernel_rfl, by kernel_rfl, rfl⟩ trivial (ZE (Hle.refl _) ⟨⟨0, rfl⟩, ⟨1, rfl⟩, ⟨2, rfl⟩, ⟨3, rfl⟩, trivial⟩) (R.ldH S3 rfl (hc_58 0 _ rfl)) rfl (JA.one (i := 9) (by kernel_rfl) (JO.step rfl trivial rfl (fun K hK => ?_)))))
      obtain ⟨y_61, hN_62, hx⟩ := Zt hx
      obtain ⟨b_63, o_64, cs_65, cur_70, hK_71, hE_66, hR_67, hl_68, hc_69⟩ := RowOf.elem hr_48 hN_62
      subst hK_71
      obtain ⟨v_72, rfl, hs_73⟩ := hR_67
      refine ZA rfl rfl (R.ix U23 S47 rfl rfl hE_66) (ZD (hK _ _ _ (ZE (Hle.refl _) ⟨⟨0, rfl⟩, ⟨1, rfl⟩, ⟨2, rfl⟩, ⟨3, rfl⟩, trivial⟩) (JA.val ⟨by kernel_rfl, by kernel_rfl⟩ (ZF _) (i := 10) rfl ⟨by kernel_rfl, by kernel_rfl, rfl⟩ trivial (ZE (Hle.refl _) ⟨⟨0, rfl⟩, ⟨1, rfl⟩, ⟨2, rfl⟩, ⟨3, rfl⟩, trivial⟩) (Zo F47_0 rfl) rfl (JA.one (i := 11) (by kernel_rfl) (JO.step rfl trivial rfl (fun K hK => ?_))))))
      obtain ⟨m_74, hm_75, hi_76, hx⟩ := setI_some hx
      refine JL.stP 4 0 (j := ((s_44.2 : Nat) : Int)) (y' := WriteO.mk y_50.At y_61.Data) (cs := [.int .i64 y_61.At, v_72]) S3 rfl hr_48 rfl hE_66 rfl rfl hc_69 rfl (⟨_, rfl, hs_73⟩) R_WriteO.one (Nat.le_of_ble_eq_true rfl) hm_75 (fun Kr_77 hr_77 hlr_77 => ZD (hK _ _ _ (ZE (Hle.refl _) ⟨⟨0, rfl⟩, ⟨1, rfl⟩, ⟨2, rfl⟩, ⟨3, rfl⟩, trivial⟩) (Zg (by kernel_rfl) (ZC (JC.draw (so := [_, _, _, _]) 19 rfl Mixed ⟨⟨0, rfl⟩, ⟨1, rfl⟩, ⟨2, rfl⟩, ⟨3, rfl⟩, trivial⟩ (JA.val ⟨by kernel_rfl, by kernel_rfl⟩ (ZF _) (i := 0) rfl ⟨by kernel_rfl, by kernel_rfl, rfl⟩ trivial (ZE (Hle.refl _) ⟨⟨0, rfl⟩, ⟨1, rfl⟩, ⟨2, rfl⟩, ⟨3, rfl⟩, trivial⟩) (Zo F25_1 rfl) rfl (JA.val ⟨by kernel_rfl, by kernel_rfl⟩ (ZF _) (i := 1) rfl ⟨by kernel_rfl, by kernel_rfl, rfl⟩ trivial (ZE (Hle.refl _) ⟨⟨0, rfl⟩, ⟨1, rfl⟩, ⟨2, rfl⟩, ⟨3, rfl⟩, trivial⟩) (ZZ 2 S23 rfl rfl rfl) rfl (JA.val ⟨by kernel_rfl, by kernel_rfl⟩ (ZF _) (i := 2) rfl ⟨by kernel_rfl, by kernel_rfl, rfl⟩ trivial (ZE (Hle.refl _) ⟨⟨0, rfl⟩, ⟨1, rfl⟩, ⟨2, rfl⟩, ⟨3, rfl⟩, trivial⟩) (ZI rfl) rfl (JA.val ⟨by kernel_rfl, by kernel_rfl⟩ (ZF _) (i := 3) rfl ⟨by kernel_rfl, by kernel_rfl, rfl⟩ trivial (ZE (Hle.refl _) ⟨⟨0, rfl⟩, ⟨1, rfl⟩, ⟨2, rfl⟩, ⟨3, rfl⟩, trivial⟩) (Zo F25_1 rfl) rfl (JA.val ⟨by kernel_rfl, by kernel_rfl⟩ (ZF _) (i := 4) rfl ⟨by kernel_rfl, by kernel_rfl, rfl⟩ trivial (ZE (Hle.refl _) ⟨⟨0, rfl⟩, ⟨1, rfl⟩, ⟨2, rfl⟩, ⟨3, rfl⟩, trivial⟩) (ZZ 2 S23 rfl rfl rfl) rfl (JA.val ⟨by kernel_rfl, by kernel_rfl⟩ (ZF _) (i := 5) rfl ⟨by kernel_rfl, by kernel_rfl, rfl⟩ trivial (ZE (Hle.refl _) ⟨⟨0, rfl⟩, ⟨1, rfl⟩, ⟨2, rfl⟩, ⟨3, rfl⟩, trivial⟩) (ZI rfl) rfl ?_)))))))))))
      refine JA.val ⟨by kernel_rfl, by kernel_rfl⟩ (ZF _) (i := 9) rfl ⟨by kernel_rfl, by kernel_rfl, rfl⟩ trivial (ZE (Hle.refl _) ⟨⟨0, rfl⟩, ⟨1, rfl⟩, ⟨2, rfl⟩, ⟨3, rfl⟩, trivial⟩) (Zo F25_1 rfl) rfl (JA.val ⟨by kernel_rfl, by kernel_rfl⟩ (ZF _) (i := 10) rfl ⟨by kernel_rfl, by kernel_rfl, rfl⟩ trivial (ZE (Hle.refl _) ⟨⟨0, rfl⟩, ⟨1, rfl⟩, ⟨2, rfl⟩, ⟨3, rfl⟩, trivial⟩) (ZZ 0 S23 rfl rfl rfl) rfl (JA.val ⟨by kernel_rfl, by kernel_rfl⟩ (ZF _) (i := 11) rfl ⟨by kernel_rfl, by kernel_rfl, rfl⟩ trivial (ZE (Hle.refl _) ⟨⟨0, rfl⟩, ⟨1, rfl⟩, ⟨2, rfl⟩, ⟨3, rfl⟩, trivial⟩) (ZI rfl) rfl ?_))
      obtain ⟨y_78, hN_79, hx⟩ := Zt hx
      obtain ⟨b_80, o_81, cs_82, hE_83, hR_84, hl_85, hc_86⟩ := IsSlice.elem (ha_3.mono R_Write.mono (hleH_39.trans hleH_47)) hN_79
      obtain ⟨v_87, rfl, hs_88⟩ := hR_84
      obtain ⟨av_87, cv_87, rfl⟩ := IsSlice.val hs_88
      refine JA.val ⟨by kernel_rfl, by kernel_rfl⟩ (ZF _) (i := 12) rfl ⟨by kernel_rfl, by kernel_rfl, rfl⟩ trivial (ZE (Hle.refl _) ⟨⟨0, rfl⟩, ⟨1, rfl⟩, ⟨2, rfl⟩, ⟨3, rfl⟩, trivial⟩) (R.ix U23 S47 rfl rfl hE_83) rfl (JA.val ⟨by kernel_rfl, by kernel_rfl⟩ (ZF _) (i := 13) rfl ⟨by kernel_rfl, by kernel_rfl, rfl⟩ trivial (ZE (Hle.refl _) ⟨⟨0, rfl⟩, ⟨1, rfl⟩, ⟨2, rfl⟩, ⟨3, rfl⟩, trivial⟩) (Zo F47_1 rfl) rfl (JA.val ⟨by kernel_rfl, by kernel_rfl⟩ (ZF _) (i := 14) rfl ⟨by kernel_rfl, by kernel_rfl, rfl⟩ trivial (ZE (Hle.refl _) ⟨⟨0, rfl⟩, ⟨1, rfl⟩, ⟨2, rfl⟩, ⟨3, rfl⟩, trivial⟩) (R.ldH S45 rfl (hc_86 1 _ rfl)) rfl (JA.one (i := 6) (by kernel_rfl) (JO.step rfl trivial rfl (fun K hK => ?_)))))
      obtain ⟨y_89, hN_90, hx⟩ := Zt hx
      obtain ⟨b_91, o_92, cs_93, cur_98, hK_99, hE_94, hR_95, hl_96, hc_97⟩ := RowOf.elem hr_77 hN_90
      subst hK_99
      obtain ⟨v_100, rfl, hs_101⟩ := hR_95
      refine ZA rfl rfl (R.ix U23 S47 rfl rfl hE_94) (ZD (hK _ _ _ (ZE (Hle.refl _) ⟨⟨0, rfl⟩, ⟨1, rfl⟩, ⟨2, rfl⟩, ⟨3, rfl⟩, trivial⟩) (JA.val ⟨by kernel_rfl, by kernel_rfl⟩ (ZF _) (i := 7) rfl ⟨by kernel_rfl, by kernel_rfl, rfl⟩ trivial (ZE (Hle.refl _) ⟨⟨0, rfl⟩, ⟨1, rfl⟩, ⟨2, rfl⟩, ⟨3, rfl⟩, trivial⟩) (Zo F47_1 rfl) rfl (JA.one (i := 8) (by kernel_rfl) (JO.step rfl trivial rfl (fun K hK => ZA rfl rfl (ZZ 4 S45 rfl rfl (hc_97 1 _ rfl)) (ZD (hK _ _ _ (ZE (Hle.refl _) ⟨⟨0, rfl⟩, ⟨1, rfl⟩, ⟨2, rfl⟩, ⟨3, rfl⟩, trivial⟩) (JA.one (i := 15) (by kernel_rfl) (JO.step rfl trivial rfl (fun K hK => ?_)))))))))))
      obtain ⟨hn_102, hx⟩ := chkN_some hx
      obtain rfl := OSl.none hn_102 hs_101
      refine JL.seg0 ?_
      obtain ⟨q_104, hm_105, hl_106, hx⟩ := Zz hx
      refine Z2 (HF := (New H H_47)) 0 U45 I5 rfl rfl (Zn _ RU8 _ _ _) rfl (SrcF.sliceC RU8.const RU8.one U45 hs_88) hm_105 hl_106 rfl (Nat.le_refl _) rfl (fun vr_107 Kr_107 hr_107 => ?_)
      obtain ⟨ar_107, cr_107, rfl⟩ := RowOf.val hr_107
      refine ZD (hK _ _ _ (ZE (Hle.refl _) ⟨⟨1, rfl⟩, ⟨2, rfl⟩, ⟨3, rfl⟩, ⟨4, rfl⟩, trivial⟩) (JA.one (i := 16) (by kernel_rfl) (JO.step rfl trivial rfl (fun K hK => ?_))))
      obtain ⟨y_108, hN_109, hx⟩ := Zt hx
      obtain ⟨b_110, o_111, cs_112, cur_117, hK_118, hE_113, hR_114, hl_115, hc_116⟩ := RowOf.elem hr_77 hN_109
      obtain ⟨rfl, rfl⟩ : b_91 = b_110 ∧ cur_98 = cur_117 := by simpa using hK_118
      obtain ⟨v_119, rfl, hs_120⟩ := hR_114
      refine ZA rfl rfl (R.ix U23 S47 rfl rfl hE_113) (ZD (hK _ _ _ (ZE (Hle.refl _) ⟨⟨1, rfl⟩, ⟨2, rfl⟩, ⟨3, rfl⟩, ⟨4, rfl⟩, trivial⟩) (JA.val ⟨by kernel_rfl, by kernel_rfl⟩ (ZF _) (i := 17) rfl ⟨by kernel_rfl, by kernel_rfl, rfl⟩ trivial (ZE (Hle.refl _) ⟨⟨1, rfl⟩, ⟨2, rfl⟩, ⟨3, rfl⟩, ⟨4, rfl⟩, trivial⟩) (Zo F47_1 rfl) rfl (JA.one (i := 18) (by kernel_rfl) (JO.step rfl trivial rfl (fun K hK => JL.pubN 0 RU8.mono rfl hr_107 (Nat.le_refl _) (fun H_121 hleH_121 hsH_121 => JL.forget 0 ?_)))))))
      obtain ⟨m_122, hm_123, hi_124, hx⟩ := setI_some hx
      refine JL.stP 4 1 (j := ((s_44.2 : Nat) : Int)) (y' := WriteO.mk y_108.At (some q_104)) (cs := [.int .i64 y_108.At, v_119]) S45 rfl (hr_77.mono R_WriteO.mono (New.mono hleH_121)) rfl hE_113 rfl rfl hc_116 rfl (⟨_, rfl, hsH_121⟩) R_WriteO.one (Nat.le_of_ble_eq_true rfl) hm_123 (fun Kr_125 hr_125 hlr_125 => ZD (hK _ _ _ (ZE hleH_121 ⟨⟨0, rfl⟩, ⟨1, rfl⟩, ⟨2, rfl⟩, ⟨3, rfl⟩, trivial⟩) (Zg (by kernel_rfl) (Zl (ZC (ZB (ZA rfl rfl (ZI rfl) (ZA rfl rfl (R.inc rfl rfl (of_decide_eq_true c_49) (IsSlice.lenI ha_3)) (ZA rfl rfl (ZG rfl) (ZD ?_))))))))))
      replace hx := Zm hd_49 hx
      refine ZL 4 rfl (ZL 4 rfl (ZL 4 rfl (ZL 4 rfl (ZL 4 rfl ?_))))
      exact ZR ⟨(m_122, s_44.2 + 1), H_121, Kr_125, rfl, rfl, rfl, hx, ((hleH_47.trans hleH_121)), hr_125⟩ ⟨rfl, rfl, rfl, rfl, trivial⟩ rfl rfl
     ·
      replace hx := ZV c_49 hx
      refine Z0 (ZX ?_)
      obtain rfl := Zw hd_49 hx
      refine ZX (Zd (JN.forget 0 (ZL 3 rfl (ZL 3 rfl (ZL 3 rfl (ZL 3 rfl ?_))))))
      exact ZR ⟨H_47, Kr_48, rfl, rfl, rfl, (hleH_47), hr_48⟩ ⟨rfl, rfl, trivial⟩ rfl rfl
  ·
   have hxo_32 := hx; clear hx; have hx := ht_33; clear ht_33
   refine JC.block (Zv 4 rfl (Zv 4 rfl (Zv 4 rfl (Zv 4 rfl (Zv 4 rfl (Z9 (fun n l o g => ∃ s_34 : List (Option (List UInt8)) × Nat, ∃ H_37 : Heaplet, ∃ Kr_38 : Own, l = [(1, .pointer (some ⟨b_4, 0, none⟩)), (2, .pointer (some ⟨b_5, 0, none⟩)), (3, .pointer (some ⟨b_28, 0, none⟩)), (4, .int .i64 ((s_34.2 : Nat) : Int))] ∧ o = [[(b_4, .cells #[.slice aa_2 na_2 ca_2, .slice aa_3 na_3 ca_3] 25 (0, 0))], [(b_5, .cells #[.slice none 0 0, .slice none 0 0] 25 (0, 0))], [(b_28, .cells #[.slice ar_29 nr_29 cr_29, .slice ar_30 nr_30 cr_30] 25 (0, 0))], Kr_38, Kr_30] ∧ H_37 = g ∧ run (ref09_Twin_l1 p_1) n s_34 = some t_31 ∧ Hle H H_37 ∧ RowOf (New H H_37) (ROSl RU8 1) w.heap.size 45 1 (.slice ar_29 nr_29 cr_29) s_34.1 Kr_38) FUEL ?_ ⟨(t_6.1, 0), H, Kr_29, rfl, rfl, rfl, hx, (Hle.refl _), hr_29⟩ ⟨rfl, rfl, rfl, rfl, trivial⟩ ?_))))))
   ·
    rintro _ _ _ ⟨s_34, H_37, Kr_38, rfl, rfl, rfl, hn_35, hleH_37, hr_38⟩
    exact Z5 hn_35
   ·
    rintro n_36 _ _ _ ⟨s_34, H_37, Kr_38, rfl, rfl, rfl, hn_35, hleH_37, hr_38⟩
    clear hx; obtain ⟨oo_40, hx, hd_39⟩ := Z6 hn_35
    unfold ref09_Twin_l1 at hx
    refine ZH (ZH (ZB (ZA rfl rfl (ZI rfl) (ZA rfl rfl (Zo F25_0 rfl) (ZA rfl rfl (ZZ 0 S22 rfl rfl rfl) (ZA rfl rfl (Zr U22 rfl (IsSlice.long ha_2)) (ZA rfl rfl (Z1 rfl rfl) (ZD (ZC (ZY rfl (fun c_39 => ?_) (fun c_39 => ?_)))))))))))
    ·
     replace hx := ZU c_39 hx
     refine Za (ZC (ZH (JC.block (JC.draw (so := [_, _, _, _]) 16 rfl Mixed ⟨⟨0, rfl⟩, ⟨1, rfl⟩, ⟨2, rfl⟩, ⟨4, rfl⟩, trivial⟩ (JA.val ⟨by kernel_rfl, by kernel_rfl⟩ (ZF _) (i := 0) rfl ⟨by kernel_rfl, by kernel_rfl, rfl⟩ trivial (ZE (Hle.refl _) ⟨⟨0, rfl⟩, ⟨1, rfl⟩, ⟨2, rfl⟩, ⟨4, rfl⟩, trivial⟩) (Zo F25_0 rfl) rfl (JA.val ⟨by kernel_rfl, by kernel_rfl⟩ (ZF _) (i := 1) rfl ⟨by kernel_rfl, by kernel_rfl, rfl⟩ trivial (ZE (Hle.refl _) ⟨⟨0, rfl⟩, ⟨1, rfl⟩, ⟨2, rfl⟩, ⟨4, rfl⟩, trivial⟩) (ZZ 2 S22 rfl rfl rfl) rfl (JA.val ⟨by kernel_rfl, by kernel_rfl⟩ (ZF _) (i := 2) rfl ⟨by kernel_rfl, by kernel_rfl, rfl⟩ trivial (ZE (Hle.refl _) ⟨⟨0, rfl⟩, ⟨1, rfl⟩, ⟨2, rfl⟩, ⟨4, rfl⟩, trivial⟩) (ZI rfl) rfl (JA.val ⟨by kernel_rfl, by kernel_rfl⟩ (ZF _) (i := 3) rfl ⟨by kernel_rfl, by kernel_rfl, rfl⟩ trivial (ZE (Hle.refl _) ⟨⟨0, rfl⟩, ⟨1, rfl⟩, ⟨2, rfl⟩, ⟨4, rfl⟩, trivial⟩) (Zo F25_0 rfl) rfl (JA.val ⟨by kernel_rfl, by kernel_rfl⟩ (ZF _) (i := 4) rfl ⟨by kernel_rfl, by kernel_rfl, rfl⟩ trivial (ZE (Hle.refl _) ⟨⟨0, rfl⟩, ⟨1, rfl⟩, ⟨2, rfl⟩, ⟨4, rfl⟩, trivial⟩) (ZZ 2 S22 rfl rfl rfl) rfl (JA.val ⟨by kernel_rfl, by kernel_rfl⟩ (ZF _) (i := 5) rfl ⟨by kernel_rfl, by kernel_rfl, rfl⟩ trivial (ZE (Hle.refl _) ⟨⟨0, rfl⟩, ⟨1, rfl⟩, ⟨2, rfl⟩, ⟨4, rfl⟩, trivial⟩) (ZI rfl) rfl (JA.val ⟨by kernel_rfl, by kernel_rfl⟩ (ZF _) (i := 8) rfl ⟨by kernel_rfl, by kernel_rfl, rfl⟩ trivial (ZE (Hle.refl _) ⟨⟨0, rfl⟩, ⟨1, rfl⟩, ⟨2, rfl⟩, ⟨4, rfl⟩, trivial⟩) (Zo F25_0 rfl) rfl ?_)))))))))))
     refine JA.val ⟨by kernel_rfl, by kernel_rfl⟩ (ZF _) (i := 9) rfl ⟨by kernel_rfl, by kernel_rfl, rfl⟩ trivial (ZE (Hle.refl _) ⟨⟨0, rfl⟩, ⟨1, rfl⟩, ⟨2, rfl⟩, ⟨4, rfl⟩, trivial⟩) (ZZ 0 S22 rfl rfl rfl) rfl (JA.val ⟨by kernel_rfl, by kernel_rfl⟩ (ZF _) (i := 10) rfl ⟨by kernel_rfl, by kernel_rfl, rfl⟩ trivial (ZE (Hle.refl _) ⟨⟨0, rfl⟩, ⟨1, rfl⟩, ⟨2, rfl⟩, ⟨4, rfl⟩, trivial⟩) (ZI rfl) rfl ?_)
     obtain ⟨y_40, hN_41, hx⟩ := Zt hx
     obtain ⟨b_42, o_43, cs_44, hE_45, hR_46, hl_47, hc_48⟩ := IsSlice.elem (ha_2.mono (RSl.mono RU8.mono) hleH_37) hN_41
     obtain ⟨v_49, rfl, hs_50⟩ := hR_46
     obtain ⟨av_49, cv_49, rfl⟩ := IsSlice.val hs_50
     refine JA.val ⟨by kernel_rfl, by kernel_rfl⟩ (ZF _) (i := 11) rfl ⟨by kernel_rfl, by kernel_rfl, rfl⟩ trivial (ZE (Hle.refl _) ⟨⟨0, rfl⟩, ⟨1, rfl⟩, ⟨2, rfl⟩, ⟨4, rfl⟩, trivial⟩) (R.ix U22 S45 rfl rfl hE_45) rfl (JA.val ⟨by kernel_rfl, by kernel_rfl⟩ (ZF _) (i := 12) rfl ⟨by kernel_rfl, by kernel_rfl, rfl⟩ trivial (ZE (Hle.refl _) ⟨⟨0, rfl⟩, ⟨1, rfl⟩, ⟨2, rfl⟩, ⟨4, rfl⟩, trivial⟩) (R.ldH S45 rfl (hc_48 0 _ rfl)) rfl (JA.one (i := 6) (by kernel_rfl) (JO.step rfl trivial rfl (fun K hK => ?_))))
     obtain ⟨y_51, hN_52, hx⟩ := Zt hx
     obtain ⟨b_53, o_54, cs_55, cur_60, hK_61, hE_56, hR_57, hl_58, hc_59⟩ := RowOf.elem hr_38 hN_52
     subst hK_61
     obtain ⟨v_62, rfl, hs_63⟩ := hR_57
     refine ZA rfl rfl (R.ix U22 S45 rfl rfl hE_56) (ZD (hK _ _ _ (ZE (Hle.refl _) ⟨⟨0, rfl⟩, ⟨1, rfl⟩, ⟨2, rfl⟩, ⟨4, rfl⟩, trivial⟩) (JA.one (i := 7) (by kernel_rfl) (JO.step rfl trivial rfl (fun K hK => ZA rfl rfl (ZZ 3 S45 rfl rfl (hc_59 0 _ rfl)) (ZD (hK _ _ _ (ZE (Hle.refl _) ⟨⟨0, rfl⟩, ⟨1, rfl⟩, ⟨2, rfl⟩, ⟨4, rfl⟩, trivial⟩) (JA.one (i := 13) (by kernel_rfl) (JO.step rfl trivial rfl (fun K hK => ?_))))))))))
     obtain ⟨hn_64, hx⟩ := chkN_some hx
     obtain rfl := OSl.none hn_64 hs_63
     refine JL.seg0 ?_
     obtain ⟨q_66, hm_67, hl_68, hx⟩ := Zz hx
     refine Z2 (HF := (New H H_37)) 0 U45 I5 rfl rfl (Zn _ RU8 _ _ _) rfl (SrcF.sliceC RU8.const RU8.one U45 hs_50) hm_67 hl_68 rfl (Nat.le_refl _) rfl (fun vr_69 Kr_69 hr_69 => ?_)
     obtain ⟨ar_69, cr_69, rfl⟩ := RowOf.val hr_69
     refine ZD (hK _ _ _ (ZE (Hle.refl _) ⟨⟨1, rfl⟩, ⟨2, rfl⟩, ⟨3, rfl⟩, ⟨5, rfl⟩, trivial⟩) (JA.one (i := 14) (by kernel_rfl) (JO.step rfl trivial rfl (fun K hK => ?_))))
     obtain ⟨hp_70, hx⟩ := chk_some hx
     obtain ⟨b_71, o_72, hE_73⟩ := RowOf.place hr_38 hp_70
     refine ZA rfl rfl (R.ix U22 S45 rfl rfl hE_73) (ZD (hK _ _ _ (ZE (Hle.refl _) ⟨⟨1, rfl⟩, ⟨2, rfl⟩, ⟨3, rfl⟩, ⟨5, rfl⟩, trivial⟩) (JA.one (i := 15) (by kernel_rfl) (JO.step rfl trivial rfl (fun K hK => JL.pubN 0 RU8.mono rfl hr_69 (Nat.le_refl _) (fun H_74 hleH_74 hsH_74 => JL.forget 0 ?_))))))
     obtain ⟨m_75, hm_76, hi_77, hx⟩ := setI_some hx
     refine JL.stE 3 (k := ((s_34.2 : Nat) : Int)) (y := (some q_66)) S45 rfl (hr_38.mono (ROSl.mono RU8.mono) (New.mono hleH_74)) rfl hE_73 rfl rfl (⟨_, rfl, hsH_74⟩) ROSl.one hm_76 (fun Kr_78 hr_78 hlr_78 => ZD (hK _ _ _ (ZE hleH_74 ⟨⟨0, rfl⟩, ⟨1, rfl⟩, ⟨2, rfl⟩, ⟨4, rfl⟩, trivial⟩) (Zg (by kernel_rfl) (Zl (ZC (ZB (ZA rfl rfl (ZI rfl) (ZA rfl rfl (R.inc rfl rfl (of_decide_eq_true c_39) (IsSlice.lenI ha_2)) (ZA rfl rfl (ZG rfl) (ZD ?_))))))))))
     replace hx := Zm hd_39 hx
     refine ZL 4 rfl (ZL 4 rfl (ZL 4 rfl (ZL 4 rfl (ZL 4 rfl ?_))))
     exact ZR ⟨(m_75, s_34.2 + 1), H_74, Kr_78, rfl, rfl, rfl, hx, ((hleH_37.trans hleH_74)), hr_78⟩ ⟨rfl, rfl, rfl, rfl, trivial⟩ rfl rfl
    ·
     replace hx := ZV c_39 hx
     refine Z0 (ZX ?_)
     obtain rfl := Zw hd_39 hx
     refine ZX (Zd (ZL 4 rfl (ZL 4 rfl (ZL 4 rfl (ZL 4 rfl (ZL 4 rfl ?_))))))
     exact ZR ⟨H_37, Kr_38, rfl, rfl, rfl, (hleH_37), hr_38⟩ ⟨rfl, rfl, rfl, trivial⟩ rfl rfl
 ·
  have hxo_7 := hx; clear hx; have hx := ht_8; clear ht_8
  refine JC.draw (so := [_, _]) 11 rfl Mixed ⟨⟨0, rfl⟩, ⟨1, rfl⟩, trivial⟩ (JA.val ⟨by kernel_rfl, by kernel_rfl⟩ (ZF _) (i := 0) rfl ⟨by kernel_rfl, by kernel_rfl, rfl⟩ trivial (ZE (Hle.refl _) ⟨⟨0, rfl⟩, ⟨1, rfl⟩, trivial⟩) (Zo F25_0 rfl) rfl (JA.val ⟨by kernel_rfl, by kernel_rfl⟩ (ZF _) (i := 1) rfl ⟨by kernel_rfl, by kernel_rfl, rfl⟩ trivial (ZE (Hle.refl _) ⟨⟨0, rfl⟩, ⟨1, rfl⟩, trivial⟩) (ZZ 1 S22 rfl rfl rfl) rfl (JA.val ⟨by kernel_rfl, by kernel_rfl⟩ (ZF _) (i := 2) rfl ⟨by kernel_rfl, by kernel_rfl, rfl⟩ trivial (ZE (Hle.refl _) ⟨⟨0, rfl⟩, ⟨1, rfl⟩, trivial⟩) (Zr U22 rfl (IsSlice.long ha_2)) rfl (JA.val ⟨by kernel_rfl, by kernel_rfl⟩ (ZF _) (i := 4) rfl ⟨by kernel_rfl, by kernel_rfl, rfl⟩ trivial (ZE (Hle.refl _) ⟨⟨0, rfl⟩, ⟨1, rfl⟩, trivial⟩) (Zo F25_1 rfl) rfl (JA.val ⟨by kernel_rfl, by kernel_rfl⟩ (ZF _) (i := 5) rfl ⟨by kernel_rfl, by kernel_rfl, rfl⟩ trivial (ZE (Hle.refl _) ⟨⟨0, rfl⟩, ⟨1, rfl⟩, trivial⟩) (ZZ 1 S23 rfl rfl rfl) rfl (JA.val ⟨by kernel_rfl, by kernel_rfl⟩ (ZF _) (i := 6) rfl ⟨by kernel_rfl, by kernel_rfl, rfl⟩ trivial (ZE (Hle.refl _) ⟨⟨0, rfl⟩, ⟨1, rfl⟩, trivial⟩) (Zr U23 rfl (IsSlice.long ha_3)) rfl (JAA.start [⟨9, 3, 25, .agg #[.slice none 0 0, .slice none 0 0]⟩] rfl ?_)))))))
  obtain ⟨x_11, hm_10, hc_9, hx⟩ := mks_some hx
  obtain ⟨x_15, hm_14, hc_13, hx⟩ := mks_some hx
  refine JAA.two (i := 3) (j := 7) ⟨⟨_, _, _, rfl, Z25, rfl⟩, trivial⟩ (Hle.refl _) ⟨⟨0, rfl⟩, ⟨1, rfl⟩, trivial⟩ rfl (by kernel_rfl) ?_ ?_
  ·
   refine JOA.step rfl trivial rfl (fun tl_18 to_19 K hK => JL.mkF (HF := New H H) (R := (ROSl RU8 1)) (y := (none : Option (List UInt8))) (n := (p_1.Blocks.length : Int)) U22 I45 rfl rfl (fun _ => ⟨_, rfl, rfl⟩) ROSl.one hm_10 hc_9 rfl rfl (fun vr_12 Kr_12 hr_12 => ?_))
   obtain ⟨ar_12, cr_12, rfl⟩ := RowOf.val hr_12
   refine ZD (hK (by repeat constructor) (by repeat constructor) (ZE (Hle.refl _) ⟨⟨1, rfl⟩, ⟨2, rfl⟩, trivial⟩) (JAA.one (i := 7) ⟨⟨_, _, _, rfl, Z25, rfl⟩, trivial⟩ (Hle.refl _) ⟨⟨1, rfl⟩, ⟨2, rfl⟩, trivial⟩ rfl (by kernel_rfl) (JOA.step rfl trivial rfl (fun tl_20 to_21 K hK => JL.mkF (HF := New H H) (R := R_WriteO) (y := WriteO.mk 0 (none : Option (List UInt8))) (n := (p_1.Waits.length : Int)) U23 I47 rfl rfl (fun _ => ⟨_, rfl, rfl⟩) R_WriteO.one hm_14 hc_13 rfl rfl (fun vr_16 Kr_16 hr_16 => ?_)))))
   obtain ⟨ar_16, cr_16, rfl⟩ := RowOf.val hr_16
   refine ZD (hK (by repeat constructor) (by repeat constructor) (ZE (Hle.refl _) ⟨⟨2, rfl⟩, ⟨3, rfl⟩, trivial⟩) (JAA.val ⟨by kernel_rfl, by kernel_rfl⟩ (ZF _) (i := 8) rfl (by kernel_rfl) rfl trivial (Hle.refl _) ⟨⟨2, rfl⟩, ⟨3, rfl⟩, trivial⟩ (R.bldP (vs := [(0, .slice ar_12 x_11.length cr_12), (1, .slice ar_16 x_15.length cr_16)]) (cs := [.slice ar_12 x_11.length cr_12, .slice ar_16 x_15.length cr_16]) Z25 B25 rfl rfl rfl) rfl (JAA.all ⟨⟨_, _, _, rfl, Z25, rfl⟩, trivial⟩ (Hle.refl _) ⟨⟨2, rfl⟩, ⟨3, rfl⟩, trivial⟩ rfl (by kernel_rfl) (fun b_22 hb_22 => JA.one (i := 10) (by kernel_rfl) (JO.step rfl trivial rfl (fun K hK => ZP 4 S25 rfl rfl rfl rfl rfl (Nat.le_of_ble_eq_true rfl) (ZD (hK _ _ _ (ZE (Hle.refl _) ⟨⟨2, rfl⟩, ⟨3, rfl⟩, trivial⟩) (Zg (by kernel_rfl) ?_)))))))))
   obtain rfl := Option.some.inj hx
   refine ZL 1 rfl (ZL 4 rfl (ZL 3 rfl (ZL 4 rfl ?_)))
   exact ZR ⟨b_22, ar_12, x_11.length, cr_12, Kr_12, ar_16, x_15.length, cr_16, Kr_16, rfl, rfl, rfl, hb_22, hr_12, hr_16⟩ ⟨rfl, rfl, rfl, trivial⟩ rfl rfl
  ·
   refine JOA.step rfl trivial rfl (fun tl_23 to_24 K hK => JL.mkF (HF := New H H) (R := R_WriteO) (y := WriteO.mk 0 (none : Option (List UInt8))) (n := (p_1.Waits.length : Int)) U23 I47 rfl rfl (fun _ => ⟨_, rfl, rfl⟩) R_WriteO.one hm_14 hc_13 rfl rfl (fun vr_16 Kr_16 hr_16 => ?_))
   obtain ⟨ar_16, cr_16, rfl⟩ := RowOf.val hr_16
   refine ZD (hK (by repeat constructor) (by repeat constructor) (ZE (Hle.refl _) ⟨⟨1, rfl⟩, ⟨2, rfl⟩, trivial⟩) (JAA.one (i := 3) ⟨⟨_, _, _, rfl, Z25, rfl⟩, trivial⟩ (Hle.refl _) ⟨⟨1, rfl⟩, ⟨2, rfl⟩, trivial⟩ rfl (by kernel_rfl) (JOA.step rfl trivial rfl (fun tl_25 to_26 K hK => JL.mkF (HF := New H H) (R := (ROSl RU8 1)) (y := (none : Option (List UInt8))) (n := (p_1.Blocks.length : Int)) U22 I45 rfl rfl (fun _ => ⟨_, rfl, rfl⟩) ROSl.one hm_10 hc_9 rfl rfl (fun vr_12 Kr_12 hr_12 => ?_)))))
   obtain ⟨ar_12, cr_12, rfl⟩ := RowOf.val hr_12
   refine ZD (hK (by repeat constructor) (by repeat constructor) (ZE (Hle.refl _) ⟨⟨2, rfl⟩, ⟨3, rfl⟩, trivial⟩) (JAA.val ⟨by kernel_rfl, by kernel_rfl⟩ (ZF _) (i := 8) rfl (by kernel_rfl) rfl trivial (Hle.refl _) ⟨⟨2, rfl⟩, ⟨3, rfl⟩, trivial⟩ (R.bldP (vs := [(0, .slice ar_12 x_11.length cr_12), (1, .slice ar_16 x_15.length cr_16)]) (cs := [.slice ar_12 x_11.length cr_12, .slice ar_16 x_15.length cr_16]) Z25 B25 rfl rfl rfl) rfl (JAA.all ⟨⟨_, _, _, rfl, Z25, rfl⟩, trivial⟩ (Hle.refl _) ⟨⟨2, rfl⟩, ⟨3, rfl⟩, trivial⟩ rfl (by kernel_rfl) (fun b_27 hb_27 => JA.one (i := 10) (by kernel_rfl) (JO.step rfl trivial rfl (fun K hK => ZP 4 S25 rfl rfl rfl rfl rfl (Nat.le_of_ble_eq_true rfl) (ZD (hK _ _ _ (ZE (Hle.refl _) ⟨⟨2, rfl⟩, ⟨3, rfl⟩, trivial⟩) (Zg (by kernel_rfl) ?_)))))))))
   obtain rfl := Option.some.inj hx
   refine ZL 1 rfl (ZL 1 rfl (ZL 4 rfl (ZL 3 rfl (ZL 4 rfl ?_))))
   exact ZR ⟨b_27, ar_12, x_11.length, cr_12, Kr_12, ar_16, x_15.length, cr_16, Kr_16, rfl, rfl, rfl, hb_27, hr_12, hr_16⟩ ⟨rfl, rfl, rfl, trivial⟩ rfl rfl

set_option maxHeartbeats 8000000 in
theorem dev_place_ok (p_1 : Int) (H : Heaplet) (r : Bool) (hx : dev_place p_1 = some r) :
  Does Try.prog 67 #[.int .i64 p_1] [] H (fun u K' H' => u = .bool r ∧ K' = [] ∧ H = H' ∧ True) := by
 refine Does.enterL (vs := [.int .i64 p_1]) (l := [(0, .int .i64 p_1)]) Try.func67 rfl rfl ⟨rfl, trivial⟩ (fun w hlt => ?_)
 unfold dev_place at hx
 refine ZH (ZB (ZA rfl rfl (ZG rfl) (ZD (ZC (ZH (ZB (ZA rfl rfl (ZI rfl) (ZA rfl rfl (R.cv_i64_u64 U3 U133 rfl) (ZA rfl rfl (R.lss64 (a := u64i p_1) (b := (256 : UInt64)) rfl rfl) (ZA rfl rfl (ZG rfl) (ZD ?_)))))))))))
 refine ZC (ZW (ZS (vs := [.bool (decide ((u64i p_1) < (256 : UInt64)))]) (K := []) (rst := []) (.inl rfl) rfl rfl (ZQ rfl rfl) ZK ?_))
 obtain rfl := Option.some.inj hx
 exact ⟨rfl, rfl, rfl, trivial⟩

set_option maxHeartbeats 8000000 in
theorem dev_Check_ok (p_1 : Disk) (H : Heaplet) {aa_2 : Option Addr} {na_2 : Nat} {ca_2 : Nat} {aa_3 : Option Addr} {na_3 : Nat} {ca_3 : Nat} (ha_2 : IsSlice H (RSl RU8 1) 1 (.slice aa_2 na_2 ca_2) p_1.Blocks) (ha_3 : IsSlice H R_Write 2 (.slice aa_3 na_3 ca_3) p_1.Waits) (r : Int) (hx : dev_Check p_1 = some r) :
  Does Try.prog 36 #[.agg #[.slice aa_2 na_2 ca_2, .slice aa_3 na_3 ca_3]] [] H (fun u K' H' => u = .int .i64 r ∧ K' = [] ∧ H = H' ∧ True) := by
 refine Does.enterL (vs := [.agg #[.slice aa_2 na_2 ca_2, .slice aa_3 na_3 ca_3]]) (l := [(0, .agg #[.slice aa_2 na_2 ca_2, .slice aa_3 na_3 ca_3])]) Try.func36 rfl rfl ⟨rfl, trivial⟩ (fun w hlt => ?_)
 unfold dev_Check at hx
 refine ZH (ZB (Z7 rfl rfl (fun b_4 hb_4 => ZA rfl rfl (ZG rfl) (ZD (ZC (ZH ?_))))))
 obtain ⟨t_5, ht_7, hx⟩ := ZJ hx
 refine Zy (fun l o g => l = [(1, .pointer (some ⟨b_4, 0, none⟩)), (3, .bool t_5)] ∧ o = [[(b_4, .cells #[.slice aa_2 na_2 ca_2, .slice aa_3 na_3 ca_3] 25 (0, 0))]] ∧ H = g) ?_ ?_
 ·
  rintro _ _ _ ⟨rfl, rfl, rfl⟩
  refine ZC (ZH (ZH (ZB (ZA rfl rfl (Zo F25_0 rfl) (ZA rfl rfl (ZZ 0 S22 rfl rfl rfl) (ZA rfl rfl (Zr U22 rfl (IsSlice.long ha_2)) (ZA rfl rfl (ZI rfl) (ZD (ZC ?_)))))))))
  obtain ⟨t_9, ht_11, hx⟩ := ZJ hx
  refine Zy (fun l o g => l = [(1, .pointer (some ⟨b_4, 0, none⟩)), (3, .bool t_9)] ∧ o = [[(b_4, .cells #[.slice aa_2 na_2 ca_2, .slice aa_3 na_3 ca_3] 25 (0, 0))]] ∧ H = g) ?_ ?_
  ·
   rintro _ _ _ ⟨rfl, rfl, rfl⟩
   refine ZC (ZH (ZH (ZB (ZA rfl rfl (Zo F25_1 rfl) (ZA rfl rfl (ZZ 0 S23 rfl rfl rfl) (ZA rfl rfl (Zr U23 rfl (IsSlice.long ha_3)) (ZA rfl rfl (ZI rfl) (ZD (ZC ?_)))))))))
   obtain ⟨t_15, ht_17, hx⟩ := ZJ hx
   refine Zy (fun l o g => l = [(3, .bool t_15)] ∧ o = [] ∧ H = g) ?_ ?_
   ·
    rintro _ _ _ ⟨rfl, rfl, rfl⟩
    refine ZC (ZH (ZH (ZB (ZA rfl rfl (ZI rfl) (ZD (ZC (ZY rfl (fun c_21 => ?_) (fun c_21 => ?_))))))))
    ·
     replace hx := ZU c_21 hx
     refine ZH (ZB (ZA rfl rfl (ZG rfl) (ZD (ZC (ZW (Zc (ZS (vs := [.int .i64 0]) (K := []) (rst := []) (.inl rfl) rfl rfl (ZQ rfl rfl) ZK ?_)))))))
     obtain rfl := Option.some.inj hx
     exact ⟨rfl, rfl, rfl, trivial⟩
    ·
     replace hx := ZV c_21 hx
     refine Za (ZC (ZH (ZB (ZA rfl rfl (ZG rfl) (ZD (ZC (ZW (ZS (vs := [.int .i64 8]) (K := []) (rst := []) (.inl rfl) rfl rfl (ZQ rfl rfl) ZK ?_))))))))
     obtain rfl := Option.some.inj hx
     exact ⟨rfl, rfl, rfl, trivial⟩
   ·
    have hxo_16 := hx; clear hx; have hx := ht_17; clear ht_17
    refine JC.block (JC.forget 0 (Z9 (fun n l o g => ∃ s_18 : Bool × Nat, l = [(3, .bool s_18.1), (33, .slice aa_3 na_3 ca_3), (34, .int .i64 (p_1.Waits.length : Int)), (35, .int .i64 ((s_18.2 : Nat) : Int))] ∧ o = [] ∧ H = g ∧ run (dev_Check_l2 p_1) n s_18 = some t_15) FUEL ?_ ⟨(t_9, 0), rfl, rfl, rfl, hx⟩ ⟨rfl, rfl, rfl, rfl, trivial⟩ ?_))
    ·
     rintro _ _ _ ⟨s_18, rfl, rfl, rfl, hn_19⟩
     exact Z5 hn_19
    ·
     rintro n_20 _ _ _ ⟨s_18, rfl, rfl, rfl, hn_19⟩
     clear hx; obtain ⟨oo_22, hx, hd_21⟩ := Z6 hn_19
     unfold dev_Check_l2 at hx
     refine ZH (ZB (ZA rfl rfl (Z1 rfl rfl) (ZD (ZC (ZH (ZY rfl (fun c_21 => ?_) (fun c_21 => ?_)))))))
     ·
      replace hx := ZU c_21 hx
      refine Za (ZC (ZH (JC.block (ZH (ZB ?_)))))
      obtain ⟨y_22, hN_23, hx⟩ := Zt hx
      obtain ⟨b_24, o_25, cs_26, hE_27, hR_28, hl_29, hc_30⟩ := IsSlice.elem ha_3 hN_23
      obtain ⟨v_31, rfl, hs_32⟩ := hR_28
      obtain ⟨av_31, cv_31, rfl⟩ := IsSlice.val hs_32
      refine ZA rfl rfl (R.ix U23 S47 rfl rfl hE_27) (ZA rfl rfl (R.ldHE (cs := [.int .i64 y_22.At, .slice av_31 y_22.Data.length cv_31]) (k := 0) (vs := [.int .i64 y_22.At, .slice av_31 y_22.Data.length cv_31]) S47 rfl hc_30 rfl rfl) (JL.alloc Z47 rfl (fun b_33 hb_33 => ZP 0 S47 rfl rfl rfl rfl rfl (Nat.le_of_ble_eq_true rfl) (ZD (ZC (ZB (ZA rfl rfl (ZI rfl) (ZA rfl rfl (ZI rfl) (Zi (t := 40) rfl (fun c_34 => ?_) (fun c_34 => ?_))))))))))
      ·
       replace hx := ZU c_34 hx
       refine ZN rfl rfl rfl (ZA rfl rfl (Zo F47_0 rfl) (ZN rfl rfl rfl (ZA rfl rfl (ZZ 0 S3 rfl rfl rfl) (ZN rfl rfl rfl ?_))))
       obtain ⟨x_35, hr_36, hx⟩ := ZJ hx
       refine ZO (vs := [_]) (args := [_]) (K := []) (rst := [_]) E67 rfl rfl rfl ZK (dev_place_ok y_22.At _ _ hr_36) rfl (fun u_37 Ku_37 Hu_37 hRu_37 hleu_37 hfu_37 => ?_)
       obtain ⟨rfl, rfl, rfl, -⟩ := hRu_37
       refine ZA rfl rfl (Zf rfl rfl) (ZA rfl rfl (ZI rfl) (Zi (t := 45) rfl (fun c_38 => ?_) (fun c_38 => ?_)))
       ·
        replace hx := ZU c_38 hx
        refine ZN rfl rfl rfl (ZA rfl rfl (Zo F47_1 rfl) (ZN rfl rfl rfl (ZA rfl rfl (ZZ 0 S45 rfl rfl rfl) (ZN rfl rfl rfl (ZA rfl rfl (Zr U45 rfl (IsSlice.long hs_32)) (ZN rfl rfl rfl (ZA rfl rfl (R.eql_i rfl rfl) (ZA rfl rfl (Zf rfl rfl) (ZA rfl rfl (ZG rfl) (ZD (Zl ?_)))))))))))
        refine ZC (ZB (ZA rfl rfl (R.inc rfl rfl (of_decide_eq_true c_21) (IsSlice.lenI ha_3)) (ZA rfl rfl (ZI rfl) (ZD ?_))))
        replace hx := Zm hd_21 hx
        refine JN.forget 0 ?_
        exact ZR ⟨(decide ((y_22.Data.length : Int) = 256), s_18.2 + 1), rfl, rfl, rfl, hx⟩ ⟨rfl, rfl, rfl, rfl, trivial⟩ rfl rfl
       ·
        replace hx := ZV c_38 hx
        refine ZM rfl rfl rfl rfl rfl (ZM rfl rfl rfl rfl rfl (ZM rfl rfl rfl rfl rfl (ZM rfl rfl rfl rfl rfl (ZA rfl rfl (Zb rfl rfl) (ZA rfl rfl (ZG rfl) (ZD (Zl (ZC (ZB (ZA rfl rfl (R.inc rfl rfl (of_decide_eq_true c_21) (IsSlice.lenI ha_3)) (ZA rfl rfl (ZI rfl) ?_)))))))))))
        refine ZD ?_
        replace hx := Zm hd_21 hx
        refine JN.forget 0 ?_
        exact ZR ⟨(false, s_18.2 + 1), rfl, rfl, rfl, hx⟩ ⟨rfl, rfl, rfl, rfl, trivial⟩ rfl rfl
      ·
       replace hx := ZV c_34 hx
       refine ZM rfl rfl rfl rfl rfl (ZM rfl rfl rfl rfl rfl (ZM rfl rfl rfl rfl rfl (ZA rfl rfl (Zb rfl rfl) (ZA rfl rfl (ZI rfl) (ZM rfl rfl rfl rfl rfl (ZM rfl rfl rfl rfl rfl (ZM rfl rfl rfl rfl rfl (ZM rfl rfl rfl rfl rfl (ZA rfl rfl (Zb rfl rfl) (ZA rfl rfl (ZG rfl) (ZD ?_)))))))))))
       refine Zl (ZC (ZB (ZA rfl rfl (R.inc rfl rfl (of_decide_eq_true c_21) (IsSlice.lenI ha_3)) (ZA rfl rfl (ZI rfl) (ZD ?_)))))
       replace hx := Zm hd_21 hx
       refine JN.forget 0 ?_
       exact ZR ⟨(false, s_18.2 + 1), rfl, rfl, rfl, hx⟩ ⟨rfl, rfl, rfl, rfl, trivial⟩ rfl rfl
     ·
      replace hx := ZV c_21 hx
      refine Z0 (ZX ?_)
      obtain rfl := Zw hd_21 hx
      refine ZX (Zd ?_)
      exact ZR ⟨rfl, rfl, rfl⟩ ⟨rfl, trivial⟩ rfl rfl
  ·
   have hxo_10 := hx; clear hx; have hx := ht_11; clear ht_11
   refine JC.block (Z9 (fun n l o g => ∃ s_12 : Bool × Nat, l = [(1, .pointer (some ⟨b_4, 0, none⟩)), (3, .bool s_12.1), (19, .slice aa_2 na_2 ca_2), (20, .int .i64 (p_1.Blocks.length : Int)), (21, .int .i64 ((s_12.2 : Nat) : Int))] ∧ o = [[(b_4, .cells #[.slice aa_2 na_2 ca_2, .slice aa_3 na_3 ca_3] 25 (0, 0))]] ∧ H = g ∧ run (dev_Check_l1 p_1) n s_12 = some t_9) FUEL ?_ ⟨(t_5, 0), rfl, rfl, rfl, hx⟩ ⟨rfl, rfl, rfl, rfl, rfl, trivial⟩ ?_)
   ·
    rintro _ _ _ ⟨s_12, rfl, rfl, rfl, hn_13⟩
    exact Z5 hn_13
   ·
    rintro n_14 _ _ _ ⟨s_12, rfl, rfl, rfl, hn_13⟩
    clear hx; obtain ⟨oo_16, hx, hd_15⟩ := Z6 hn_13
    unfold dev_Check_l1 at hx
    refine ZH (ZB (ZA rfl rfl (Z1 rfl rfl) (ZD (ZC (ZH (ZY rfl (fun c_15 => ?_) (fun c_15 => ?_)))))))
    ·
     replace hx := ZU c_15 hx
     refine Za (ZC (ZH (JC.block (ZH (ZB ?_)))))
     obtain ⟨y_16, hN_17, hx⟩ := Zt hx
     obtain ⟨b_18, o_19, cs_20, hE_21, hR_22, hl_23, hc_24⟩ := IsSlice.elem ha_2 hN_17
     obtain ⟨v_25, rfl, hs_26⟩ := hR_22
     obtain ⟨av_25, cv_25', rfl⟩ := IsSlice.val hs_26
     refine ZA rfl rfl (R.ix U22 S45 rfl rfl hE_21) (ZA rfl rfl (R.ldH S45 rfl (hc_24 0 _ rfl)) (ZA rfl rfl (ZG rfl) (ZD (ZC (ZB (ZA rfl rfl (ZI rfl) (ZA rfl rfl (ZI rfl) (Zi (t := 26) rfl (fun c_27 => ?_) (fun c_27 => ?_)))))))))
     ·
      replace hx := ZU c_27 hx
      refine ZN rfl rfl rfl (ZA rfl rfl (ZI rfl) (ZN rfl rfl rfl (ZA rfl rfl (Zr U45 rfl (IsSlice.long hs_26)) (ZN rfl rfl rfl (ZA rfl rfl (R.eql_i rfl rfl) (ZA rfl rfl (Zf rfl rfl) (ZA rfl rfl (ZG rfl) (ZD (Zl (ZC (ZB ?_)))))))))))
      refine ZA rfl rfl (R.inc rfl rfl (of_decide_eq_true c_15) (IsSlice.lenI ha_2)) (ZA rfl rfl (ZI rfl) (ZD ?_))
      replace hx := Zm hd_15 hx
      exact ZR ⟨(decide ((y_16.length : Int) = 256), s_12.2 + 1), rfl, rfl, rfl, hx⟩ ⟨rfl, rfl, rfl, rfl, rfl, trivial⟩ rfl rfl
     ·
      replace hx := ZV c_27 hx
      refine ZM rfl rfl rfl rfl rfl (ZM rfl rfl rfl rfl rfl (ZM rfl rfl rfl rfl rfl (ZA rfl rfl (Zb rfl rfl) (ZA rfl rfl (ZG rfl) (ZD (Zl (ZC (ZB (ZA rfl rfl (R.inc rfl rfl (of_decide_eq_true c_15) (IsSlice.lenI ha_2)) (ZA rfl rfl (ZI rfl) (ZD ?_)))))))))))
      replace hx := Zm hd_15 hx
      exact ZR ⟨(false, s_12.2 + 1), rfl, rfl, rfl, hx⟩ ⟨rfl, rfl, rfl, rfl, rfl, trivial⟩ rfl rfl
    ·
     replace hx := ZV c_15 hx
     refine Z0 (ZX ?_)
     obtain rfl := Zw hd_15 hx
     refine ZX (Zd ?_)
     exact ZR ⟨rfl, rfl, rfl⟩ ⟨rfl, rfl, trivial⟩ rfl rfl
 ·
  have hxo_6 := hx; clear hx; have hx := ht_7; clear ht_7
  refine ZB (ZA rfl rfl (Zo F25_0 rfl) (ZA rfl rfl (ZZ 0 S22 rfl rfl rfl) (ZA rfl rfl (Zr U22 rfl (IsSlice.long ha_2)) (ZA rfl rfl (R.eql_i rfl rfl) (ZA rfl rfl (ZI rfl) (Zi (t := 12) rfl (fun c_8 => ?_) (fun c_8 => ?_)))))))
  ·
   replace hx := ZU c_8 hx
   refine ZN rfl rfl rfl (ZA rfl rfl (Zo F25_1 rfl) (ZN rfl rfl rfl (ZA rfl rfl (ZZ 0 S23 rfl rfl rfl) (ZN rfl rfl rfl (ZA rfl rfl (Zr U23 rfl (IsSlice.long ha_3)) (ZN rfl rfl rfl (ZA rfl rfl (R.leq_i rfl rfl) (ZA rfl rfl (Zf rfl rfl) (ZA rfl rfl (ZG rfl) (ZD ?_))))))))))
   obtain rfl := Option.some.inj hx
   exact ZR ⟨rfl, rfl, rfl⟩ ⟨rfl, rfl, trivial⟩ rfl rfl
  ·
   replace hx := ZV c_8 hx
   refine ZM rfl rfl rfl rfl rfl (ZM rfl rfl rfl rfl rfl (ZM rfl rfl rfl rfl rfl (ZM rfl rfl rfl rfl rfl (ZA rfl rfl (Zb rfl rfl) (ZA rfl rfl (ZG rfl) (ZD ?_))))))
   obtain rfl := Option.some.inj hx
   exact ZR ⟨rfl, rfl, rfl⟩ ⟨rfl, rfl, trivial⟩ rfl rfl

set_option maxHeartbeats 8000000 in
theorem ptr_Check_ok (p_1 : Ptr) (H : Heaplet) (r : Int) (hx : ptr_Check p_1 = some r) :
  Does Try.prog 49 #[.agg #[.int .i64 p_1.At, .int .u32 (p_1.Birth.toNat : Int), .int .u32 (p_1.Iv.toNat : Int), .int .u32 (p_1.Tag.toNat : Int), .int .u32 (p_1.Sum.toNat : Int)]] [] H (fun u K' H' => u = .int .i64 r ∧ K' = [] ∧ H = H' ∧ True) := by
 refine Does.enterL (vs := [.agg #[.int .i64 p_1.At, .int .u32 (p_1.Birth.toNat : Int), .int .u32 (p_1.Iv.toNat : Int), .int .u32 (p_1.Tag.toNat : Int), .int .u32 (p_1.Sum.toNat : Int)]]) (l := [(0, .agg #[.int .i64 p_1.At, .int .u32 (p_1.Birth.toNat : Int), .int .u32 (p_1.Iv.toNat : Int), .int .u32 (p_1.Tag.toNat : Int), .int .u32 (p_1.Sum.toNat : Int)])]) Try.func49 rfl rfl ⟨rfl, trivial⟩ (fun w hlt => ?_)
 unfold ptr_Check at hx
 refine ZH (ZB (Z7 rfl rfl (fun b_2 hb_2 => ZA rfl rfl (ZG rfl) (ZD (ZC (ZH (ZH (ZB (ZA rfl rfl (Zh 0 (vs := [.int .i64 p_1.At, .int .u32 (p_1.Birth.toNat : Int), .int .u32 (p_1.Iv.toNat : Int), .int .u32 (p_1.Tag.toNat : Int), .int .u32 (p_1.Sum.toNat : Int)]) S28 rfl rfl rfl rfl) (ZA rfl rfl (R.bldP (vs := []) (cs := [.int .i64 0, .int .u32 ((0 : UInt32).toNat : Int), .int .u32 ((0 : UInt32).toNat : Int), .int .u32 ((0 : UInt32).toNat : Int), .int .u32 ((0 : UInt32).toNat : Int)]) Z28 B28 rfl rfl rfl) (ZA rfl rfl (R.eqlAgg QU28 QP28 QG28 QF28 rfl rfl (EqF.i (by decide) S3 U3 rfl rfl (EqF.u32 (a := p_1.Birth) (b := (0 : UInt32)) (by decide) S26 U26 rfl rfl (EqF.u32 (a := p_1.Iv) (b := (0 : UInt32)) (by decide) S26 U26 rfl rfl (EqF.u32 (a := p_1.Tag) (b := (0 : UInt32)) (by decide) S26 U26 rfl rfl (EqF.u32 (a := p_1.Sum) (b := (0 : UInt32)) (by decide) S26 U26 rfl rfl EqF.nil)))))) ?_)))))))))))
 refine ZD (ZC (ZY rfl (fun c_3 => ?_) (fun c_3 => ?_)))
 ·
  replace hx := ZU c_3 hx
  refine ZH (ZB (ZA rfl rfl (ZG rfl) (ZD (ZC (ZW (Zc (ZS (vs := [.int .i64 0]) (K := []) (rst := [_]) (.inl rfl) rfl rfl (ZQ rfl rfl) ZK ?_)))))))
  obtain rfl := Option.some.inj hx
  exact ⟨rfl, rfl, rfl, trivial⟩
 ·
  replace hx := ZV c_3 hx
  refine Za (ZC (ZH (ZH (ZB (ZA rfl rfl (Zo F28_0 rfl) (ZA rfl rfl (ZZ 0 S3 rfl rfl rfl) (ZA rfl rfl (Z1 rfl rfl) (ZA rfl rfl (ZI rfl) (Zi (t := 9) rfl (fun c_4 => ?_) (fun c_4 => ?_))))))))))
  ·
   replace hx := ZU c_4 hx
   refine ZM rfl rfl rfl rfl rfl (ZM rfl rfl rfl rfl rfl (ZM rfl rfl rfl rfl rfl (ZA rfl rfl (Zf rfl rfl) (ZA rfl rfl (ZI rfl) (ZM rfl rfl rfl rfl rfl (ZM rfl rfl rfl rfl rfl (ZM rfl rfl rfl rfl rfl (ZA rfl rfl (Zf rfl rfl) (ZA rfl rfl (ZI rfl) (ZM rfl rfl rfl rfl rfl (ZM rfl rfl rfl rfl rfl ?_)))))))))))
   refine ZM rfl rfl rfl rfl rfl (ZA rfl rfl (Zf rfl rfl) (ZD (ZC (JC.condT rfl (ZH (ZB (ZA rfl rfl (ZG rfl) (ZD (ZC (ZW (Zc ?_)))))))))))
   refine ZS (vs := [.int .i64 8]) (K := []) (rst := [_]) (.inl rfl) rfl rfl (ZQ rfl rfl) ZK ?_
   obtain rfl := Option.some.inj hx
   exact ⟨rfl, rfl, rfl, trivial⟩
  ·
   replace hx := ZV c_4 hx
   refine ZN rfl rfl rfl (ZA rfl rfl (Zo F28_0 rfl) (ZN rfl rfl rfl (ZA rfl rfl (ZZ 0 S3 rfl rfl rfl) (ZN rfl rfl rfl (ZA rfl rfl (R.geq_i rfl rfl) (ZA rfl rfl (Zb rfl rfl) (ZA rfl rfl (ZI rfl) (Zi (t := 14) rfl (fun c_5 => ?_) (fun c_5 => ?_)))))))))
   ·
    replace hx := ZU c_5 hx
    refine ZM rfl rfl rfl rfl rfl (ZM rfl rfl rfl rfl rfl (ZM rfl rfl rfl rfl rfl (ZA rfl rfl (Zf rfl rfl) (ZA rfl rfl (ZI rfl) (ZM rfl rfl rfl rfl rfl (ZM rfl rfl rfl rfl rfl (ZM rfl rfl rfl rfl rfl (ZA rfl rfl (Zf rfl rfl) (ZD (ZC (JC.condT rfl ?_)))))))))))
    refine ZH (ZB (ZA rfl rfl (ZG rfl) (ZD (ZC (ZW (Zc (ZS (vs := [.int .i64 8]) (K := []) (rst := [_]) (.inl rfl) rfl rfl (ZQ rfl rfl) ZK ?_)))))))
    obtain rfl := Option.some.inj hx
    exact ⟨rfl, rfl, rfl, trivial⟩
   ·
    replace hx := ZV c_5 hx
    refine ZN rfl rfl rfl (ZA rfl rfl (Zo F28_1 rfl) (ZN rfl rfl rfl (ZA rfl rfl (ZZ 0 S26 rfl rfl rfl) (ZN rfl rfl rfl (ZA rfl rfl (R.lss32 (a := p_1.Birth) (b := (1 : UInt32)) rfl rfl) (ZA rfl rfl (Zb rfl rfl) (ZA rfl rfl (ZI rfl) (Zi (t := 19) rfl (fun c_6 => ?_) (fun c_6 => ?_)))))))))
    ·
     replace hx := ZU c_6 hx
     refine ZM rfl rfl rfl rfl rfl (ZM rfl rfl rfl rfl rfl (ZM rfl rfl rfl rfl rfl (ZA rfl rfl (Zf rfl rfl) (ZD (ZC (JC.condT rfl (ZH (ZB (ZA rfl rfl (ZG rfl) (ZD (ZC ?_)))))))))))
     refine ZW (Zc (ZS (vs := [.int .i64 8]) (K := []) (rst := [_]) (.inl rfl) rfl rfl (ZQ rfl rfl) ZK ?_))
     obtain rfl := Option.some.inj hx
     exact ⟨rfl, rfl, rfl, trivial⟩
    ·
     replace hx := ZV c_6 hx
     refine ZN rfl rfl rfl (ZA rfl rfl (Zo F28_1 rfl) (ZN rfl rfl rfl (ZA rfl rfl (ZZ 0 S26 rfl rfl rfl) (ZN rfl rfl rfl (ZA rfl rfl (R.gtr32 (a := p_1.Birth) (b := (16777215 : UInt32)) rfl rfl) (ZA rfl rfl (Zb rfl rfl) (ZD (ZC (ZY rfl (fun c_7 => ?_) (fun c_7 => ?_))))))))))
     ·
      replace hx := ZU c_7 hx
      refine ZH (ZB (ZA rfl rfl (ZG rfl) (ZD (ZC (ZW (Zc (ZS (vs := [.int .i64 8]) (K := []) (rst := [_]) (.inl rfl) rfl rfl (ZQ rfl rfl) ZK ?_)))))))
      obtain rfl := Option.some.inj hx
      exact ⟨rfl, rfl, rfl, trivial⟩
     ·
      replace hx := ZV c_7 hx
      refine Za (ZC (ZH (ZB (ZA rfl rfl (ZG rfl) (ZD (ZC (ZW (ZS (vs := [.int .i64 0]) (K := []) (rst := [_]) (.inl rfl) rfl rfl (ZQ rfl rfl) ZK ?_))))))))
      obtain rfl := Option.some.inj hx
      exact ⟨rfl, rfl, rfl, trivial⟩

set_option maxHeartbeats 8000000 in
theorem label_may_ok (p_1 : Label) (H : Heaplet) (r : Bool) (hx : label_may p_1 = some r) :
  Does Try.prog 37 #[.agg #[.int .u32 (p_1.Gen.toNat : Int), .int .u32 (p_1.Epoch.toNat : Int), .int .i64 p_1.Root.At, .int .u32 (p_1.Root.Birth.toNat : Int), .int .u32 (p_1.Root.Iv.toNat : Int), .int .u32 (p_1.Root.Tag.toNat : Int), .int .u32 (p_1.Root.Sum.toNat : Int)]] [] H (fun u K' H' => u = .bool r ∧ K' = [] ∧ H = H' ∧ True) := by
 refine Does.enterL (vs := [.agg #[.int .u32 (p_1.Gen.toNat : Int), .int .u32 (p_1.Epoch.toNat : Int), .int .i64 p_1.Root.At, .int .u32 (p_1.Root.Birth.toNat : Int), .int .u32 (p_1.Root.Iv.toNat : Int), .int .u32 (p_1.Root.Tag.toNat : Int), .int .u32 (p_1.Root.Sum.toNat : Int)]]) (l := [(0, .agg #[.int .u32 (p_1.Gen.toNat : Int), .int .u32 (p_1.Epoch.toNat : Int), .int .i64 p_1.Root.At, .int .u32 (p_1.Root.Birth.toNat : Int), .int .u32 (p_1.Root.Iv.toNat : Int), .int .u32 (p_1.Root.Tag.toNat : Int), .int .u32 (p_1.Root.Sum.toNat : Int)])]) Try.func37 rfl rfl ⟨rfl, trivial⟩ (fun w hlt => ?_)
 unfold label_may at hx
 refine ZH (ZB (Z7 rfl rfl (fun b_2 hb_2 => ZA rfl rfl (ZG rfl) (ZD (ZC (ZH ?_))))))
 obtain ⟨t_3, ht_5, hx⟩ := ZJ hx
 refine Zy (fun l o g => l = [(2, .bool t_3)] ∧ o = [] ∧ H = g) ?_ ?_
 ·
  rintro _ _ _ ⟨rfl, rfl, rfl⟩
  refine ZC (ZW (ZS (vs := [.bool t_3]) (K := []) (rst := []) (.inl rfl) rfl rfl (ZQ rfl rfl) ZK ?_))
  obtain rfl := Option.some.inj hx
  exact ⟨rfl, rfl, rfl, trivial⟩
 ·
  have hxo_4 := hx; clear hx; have hx := ht_5; clear ht_5
  refine ZB (ZA rfl rfl (Zo F30_0 rfl) (ZA rfl rfl (ZZ 0 S26 rfl rfl rfl) (ZA rfl rfl (R.geq32 (a := p_1.Gen) (b := (1 : UInt32)) rfl rfl) (ZA rfl rfl (ZI rfl) (Zi (t := 6) rfl (fun c_6 => ?_) (fun c_6 => ?_))))))
  ·
   replace hx := ZU c_6 hx
   refine ZN rfl rfl rfl (ZA rfl rfl (Zo F30_0 rfl) (ZN rfl rfl rfl (ZA rfl rfl (ZZ 0 S26 rfl rfl rfl) (ZN rfl rfl rfl (ZA rfl rfl (R.leq32 (a := p_1.Gen) (b := (16777215 : UInt32)) rfl rfl) (ZA rfl rfl (Zf rfl rfl) (ZA rfl rfl (ZI rfl) (Zi (t := 11) rfl (fun c_7 => ?_) (fun c_7 => ?_)))))))))
   ·
    replace hx := ZU c_7 hx
    refine ZN rfl rfl rfl (ZA rfl rfl (Zo F30_1 rfl) (ZN rfl rfl rfl (ZA rfl rfl (ZZ 0 S26 rfl rfl rfl) (ZN rfl rfl rfl (ZA rfl rfl (R.geq32 (a := p_1.Epoch) (b := (1 : UInt32)) rfl rfl) (ZA rfl rfl (Zf rfl rfl) (ZA rfl rfl (ZI rfl) (Zi (t := 16) rfl (fun c_8 => ?_) (fun c_8 => ?_)))))))))
    ·
     replace hx := ZU c_8 hx
     refine ZN rfl rfl rfl (ZA rfl rfl (Zo F30_1 rfl) (ZN rfl rfl rfl (ZA rfl rfl (ZZ 0 S26 rfl rfl rfl) (ZN rfl rfl rfl (ZA rfl rfl (R.leq32 (a := p_1.Epoch) (b := (65535 : UInt32)) rfl rfl) (ZA rfl rfl (Zf rfl rfl) (ZA rfl rfl (ZI rfl) (Zi (t := 21) rfl (fun c_9 => ?_) (fun c_9 => ?_)))))))))
     ·
      replace hx := ZU c_9 hx
      refine ZN rfl rfl rfl (ZA rfl rfl (Zo F30_2 rfl) (ZN rfl rfl rfl (ZA rfl rfl (Zh 0 (vs := [.int .i64 p_1.Root.At, .int .u32 (p_1.Root.Birth.toNat : Int), .int .u32 (p_1.Root.Iv.toNat : Int), .int .u32 (p_1.Root.Tag.toNat : Int), .int .u32 (p_1.Root.Sum.toNat : Int)]) S28 rfl rfl rfl rfl) (ZN rfl rfl rfl (ZA rfl rfl (R.bldP (vs := []) (cs := [.int .i64 0, .int .u32 ((0 : UInt32).toNat : Int), .int .u32 ((0 : UInt32).toNat : Int), .int .u32 ((0 : UInt32).toNat : Int), .int .u32 ((0 : UInt32).toNat : Int)]) Z28 B28 rfl rfl rfl) (ZN rfl rfl rfl (ZA rfl rfl (R.neqAgg QU28 QP28 QG28 QF28 rfl rfl (EqF.i (by decide) S3 U3 rfl rfl (EqF.u32 (a := p_1.Root.Birth) (b := (0 : UInt32)) (by decide) S26 U26 rfl rfl (EqF.u32 (a := p_1.Root.Iv) (b := (0 : UInt32)) (by decide) S26 U26 rfl rfl (EqF.u32 (a := p_1.Root.Tag) (b := (0 : UInt32)) (by decide) S26 U26 rfl rfl (EqF.u32 (a := p_1.Root.Sum) (b := (0 : UInt32)) (by decide) S26 U26 rfl rfl EqF.nil)))))) (ZA rfl rfl (Zf rfl rfl) (ZA rfl rfl (ZI rfl) (Zi (t := 27) rfl (fun c_10 => ?_) (fun c_10 => ?_)))))))))))
      ·
       replace hx := ZU c_10 hx
       refine ZN rfl rfl rfl (ZA rfl rfl (Zo F30_2 rfl) (ZN rfl rfl rfl (ZA rfl rfl (Zh 0 (vs := [.int .i64 p_1.Root.At, .int .u32 (p_1.Root.Birth.toNat : Int), .int .u32 (p_1.Root.Iv.toNat : Int), .int .u32 (p_1.Root.Tag.toNat : Int), .int .u32 (p_1.Root.Sum.toNat : Int)]) S28 rfl rfl rfl rfl) (ZN rfl rfl rfl ?_))))
       obtain ⟨x_11, hr_12, hx⟩ := ZJ hx
       refine ZO (vs := [_]) (args := [_]) (K := []) (rst := [_]) E49 rfl rfl rfl ZK (ptr_Check_ok (Ptr.mk p_1.Root.At p_1.Root.Birth p_1.Root.Iv p_1.Root.Tag p_1.Root.Sum) _ _ hr_12) rfl (fun u_13 Ku_13 Hu_13 hRu_13 hleu_13 hfu_13 => ?_)
       obtain ⟨rfl, rfl, rfl, -⟩ := hRu_13
       refine ZN rfl rfl rfl (ZA rfl rfl (R.eql_i rfl rfl) (ZA rfl rfl (Zf rfl rfl) (ZA rfl rfl (ZG rfl) (ZD ?_))))
       obtain rfl := Option.some.inj hx
       refine JN.forget 0 ?_
       exact ZR ⟨rfl, rfl, rfl⟩ ⟨rfl, trivial⟩ rfl rfl
      ·
       replace hx := ZV c_10 hx
       refine ZM rfl rfl rfl rfl rfl (ZM rfl rfl rfl rfl rfl (ZM rfl rfl rfl rfl rfl (ZM rfl rfl rfl rfl rfl (ZA rfl rfl (Zb rfl rfl) (ZA rfl rfl (ZG rfl) (ZD ?_))))))
       obtain rfl := Option.some.inj hx
       refine JN.forget 0 ?_
       exact ZR ⟨rfl, rfl, rfl⟩ ⟨rfl, trivial⟩ rfl rfl
     ·
      replace hx := ZV c_9 hx
      refine ZM rfl rfl rfl rfl rfl (ZM rfl rfl rfl rfl rfl (ZM rfl rfl rfl rfl rfl (ZM rfl rfl rfl rfl rfl (ZA rfl rfl (Zb rfl rfl) (ZA rfl rfl (ZI rfl) (ZM rfl rfl rfl rfl rfl (ZM rfl rfl rfl rfl rfl (ZM rfl rfl rfl rfl rfl (ZM rfl rfl rfl rfl rfl (ZA rfl rfl (Zb rfl rfl) (ZA rfl rfl (ZG rfl) ?_)))))))))))
      refine ZD ?_
      obtain rfl := Option.some.inj hx
      refine JN.forget 0 ?_
      exact ZR ⟨rfl, rfl, rfl⟩ ⟨rfl, trivial⟩ rfl rfl
    ·
     replace hx := ZV c_8 hx
     refine ZM rfl rfl rfl rfl rfl (ZM rfl rfl rfl rfl rfl (ZM rfl rfl rfl rfl rfl (ZA rfl rfl (Zb rfl rfl) (ZA rfl rfl (ZI rfl) (ZM rfl rfl rfl rfl rfl (ZM rfl rfl rfl rfl rfl (ZM rfl rfl rfl rfl rfl (ZM rfl rfl rfl rfl rfl (ZA rfl rfl (Zb rfl rfl) (ZA rfl rfl (ZI rfl) (ZM rfl rfl rfl rfl rfl ?_)))))))))))
     refine ZM rfl rfl rfl rfl rfl (ZM rfl rfl rfl rfl rfl (ZM rfl rfl rfl rfl rfl (ZA rfl rfl (Zb rfl rfl) (ZA rfl rfl (ZG rfl) (ZD ?_)))))
     obtain rfl := Option.some.inj hx
     refine JN.forget 0 ?_
     exact ZR ⟨rfl, rfl, rfl⟩ ⟨rfl, trivial⟩ rfl rfl
   ·
    replace hx := ZV c_7 hx
    refine ZM rfl rfl rfl rfl rfl (ZM rfl rfl rfl rfl rfl (ZM rfl rfl rfl rfl rfl (ZA rfl rfl (Zb rfl rfl) (ZA rfl rfl (ZI rfl) (ZM rfl rfl rfl rfl rfl (ZM rfl rfl rfl rfl rfl (ZM rfl rfl rfl rfl rfl (ZA rfl rfl (Zb rfl rfl) (ZA rfl rfl (ZI rfl) (ZM rfl rfl rfl rfl rfl (ZM rfl rfl rfl rfl rfl ?_)))))))))))
    refine ZM rfl rfl rfl rfl rfl (ZM rfl rfl rfl rfl rfl (ZA rfl rfl (Zb rfl rfl) (ZA rfl rfl (ZI rfl) (ZM rfl rfl rfl rfl rfl (ZM rfl rfl rfl rfl rfl (ZM rfl rfl rfl rfl rfl (ZM rfl rfl rfl rfl rfl (ZA rfl rfl (Zb rfl rfl) (ZA rfl rfl (ZG rfl) (ZD ?_))))))))))
    obtain rfl := Option.some.inj hx
    refine JN.forget 0 ?_
    exact ZR ⟨rfl, rfl, rfl⟩ ⟨rfl, trivial⟩ rfl rfl
  ·
   replace hx := ZV c_6 hx
   refine ZM rfl rfl rfl rfl rfl (ZM rfl rfl rfl rfl rfl (ZM rfl rfl rfl rfl rfl (ZA rfl rfl (Zb rfl rfl) (ZA rfl rfl (ZI rfl) (ZM rfl rfl rfl rfl rfl (ZM rfl rfl rfl rfl rfl (ZM rfl rfl rfl rfl rfl (ZA rfl rfl (Zb rfl rfl) (ZA rfl rfl (ZI rfl) (ZM rfl rfl rfl rfl rfl (ZM rfl rfl rfl rfl rfl ?_)))))))))))
   refine ZM rfl rfl rfl rfl rfl (ZA rfl rfl (Zb rfl rfl) (ZA rfl rfl (ZI rfl) (ZM rfl rfl rfl rfl rfl (ZM rfl rfl rfl rfl rfl (ZM rfl rfl rfl rfl rfl (ZM rfl rfl rfl rfl rfl (ZA rfl rfl (Zb rfl rfl) (ZA rfl rfl (ZI rfl) (ZM rfl rfl rfl rfl rfl (ZM rfl rfl rfl rfl rfl (ZM rfl rfl rfl rfl rfl ?_)))))))))))
   refine ZM rfl rfl rfl rfl rfl (ZA rfl rfl (Zb rfl rfl) (ZA rfl rfl (ZG rfl) (ZD ?_)))
   obtain rfl := Option.some.inj hx
   refine JN.forget 0 ?_
   exact ZR ⟨rfl, rfl, rfl⟩ ⟨rfl, trivial⟩ rfl rfl

set_option maxHeartbeats 8000000 in
theorem label_Slot_ok (p_1 : UInt32) (H : Heaplet) (r : Int) (hx : label_Slot p_1 = some r) :
  Does Try.prog 17 #[.int .u32 (p_1.toNat : Int)] [] H (fun u K' H' => u = .int .i64 r ∧ K' = [] ∧ H = H' ∧ True) := by
 refine Does.enterL (vs := [.int .u32 (p_1.toNat : Int)]) (l := [(0, .int .u32 (p_1.toNat : Int))]) Try.func17 rfl rfl ⟨rfl, trivial⟩ (fun w hlt => ?_)
 unfold label_Slot at hx
 refine ZH (ZB (ZA rfl rfl (ZG rfl) (ZD (ZC (ZH (ZB (ZA rfl rfl (ZI rfl) (ZA rfl rfl (R.rem32 (a := p_1) (b := (4 : UInt32)) rfl rfl (by decide)) (ZA rfl rfl (R.cv_u32_i64 (a := p_1 % (4 : UInt32)) U26 U3 rfl) (ZA rfl rfl (ZG rfl) (ZD ?_)))))))))))
 refine ZC (ZW (ZS (vs := [.int .i64 ((p_1 % (4 : UInt32)).toNat : Int)]) (K := []) (rst := []) (.inl rfl) rfl rfl (ZQ rfl rfl) ZK ?_))
 obtain rfl := Option.some.inj hx
 exact ⟨rfl, rfl, rfl, trivial⟩

set_option maxHeartbeats 8000000 in
theorem code_sized_ok (p_1 : Int) (H : Heaplet) (r : Bool) (hx : code_sized p_1 = some r) :
  Does Try.prog 111 #[.int .i64 p_1] [] H (fun u K' H' => u = .bool r ∧ K' = [] ∧ H = H' ∧ True) := by
 refine Does.enterL (vs := [.int .i64 p_1]) (l := [(0, .int .i64 p_1)]) Try.func111 rfl rfl ⟨rfl, trivial⟩ (fun w hlt => ?_)
 unfold code_sized at hx
 refine ZH (ZB (ZA rfl rfl (ZG rfl) (ZD (ZC (ZH ?_)))))
 obtain ⟨t_2, ht_4, hx⟩ := ZJ hx
 refine Zy (fun l o g => l = [(2, .bool t_2)] ∧ o = [] ∧ H = g) ?_ ?_
 ·
  rintro _ _ _ ⟨rfl, rfl, rfl⟩
  refine ZC (ZW (ZS (vs := [.bool t_2]) (K := []) (rst := []) (.inl rfl) rfl rfl (ZQ rfl rfl) ZK ?_))
  obtain rfl := Option.some.inj hx
  exact ⟨rfl, rfl, rfl, trivial⟩
 ·
  have hxo_3 := hx; clear hx; have hx := ht_4; clear ht_4
  refine ZB (ZA rfl rfl (ZI rfl) (ZA rfl rfl (R.gtr_i rfl rfl) (ZA rfl rfl (ZI rfl) (Zi (t := 5) rfl (fun c_5 => ?_) (fun c_5 => ?_)))))
  ·
   replace hx := ZU c_5 hx
   refine ZN rfl rfl rfl (ZA rfl rfl (ZI rfl) (ZN rfl rfl rfl (ZA rfl rfl (R.leq_i rfl rfl) (ZA rfl rfl (Zf rfl rfl) (ZA rfl rfl (ZG rfl) (ZD ?_))))))
   obtain rfl := Option.some.inj hx
   exact ZR ⟨rfl, rfl, rfl⟩ ⟨rfl, trivial⟩ rfl rfl
  ·
   replace hx := ZV c_5 hx
   refine ZM rfl rfl rfl rfl rfl (ZM rfl rfl rfl rfl rfl (ZA rfl rfl (Zb rfl rfl) (ZA rfl rfl (ZG rfl) (ZD ?_))))
   obtain rfl := Option.some.inj hx
   exact ZR ⟨rfl, rfl, rfl⟩ ⟨rfl, trivial⟩ rfl rfl

set_option maxHeartbeats 8000000 in
theorem code_Put_ok (p_1 : Int) (p_2 : Int) (H : Heaplet) (r : List UInt8 × Int) (hx : code_Put p_1 p_2 = some r) :
  Does Try.prog 72 #[.int .i64 p_1, .int .i64 p_2] [] H (fun u K' H' => ∃ ao0 : Option Addr, ∃ n0 : Nat, ∃ cap0 : Nat, ∃ K0 : Own, u = .tuple #[.slice ao0 n0 cap0, .int .i64 r.2] ∧ K' = [K0] ∧ H = H' ∧ RowOf (New H H) RU8 0 5 1 (.slice ao0 n0 cap0) r.1 K0 ∧ (∀ p ∈ K0, p.1 ∉ ids (List.flatten [])) ∧ True) := by
 refine Does.enterL (vs := [.int .i64 p_1, .int .i64 p_2]) (l := [(0, .int .i64 p_1), (1, .int .i64 p_2)]) Try.func72 rfl rfl ⟨rfl, rfl, trivial⟩ (fun w hlt => ?_)
 unfold code_Put at hx
 refine ZH (ZB (ZA rfl rfl (ZG rfl) (ZA rfl rfl (ZG rfl) (ZD (ZC (ZH (ZH (ZB (ZA rfl rfl (ZI rfl) ?_)))))))))
 obtain ⟨x_3, hr_4, hx⟩ := ZJ hx
 refine ZO (vs := [_]) (args := [_]) (K := []) (rst := []) E111 rfl rfl rfl ZK (code_sized_ok p_2 _ _ hr_4) rfl (fun u_5 Ku_5 Hu_5 hRu_5 hleu_5 hfu_5 => ?_)
 obtain ⟨rfl, rfl, rfl, -⟩ := hRu_5
 refine ZA rfl rfl (R.not rfl) (ZA rfl rfl (ZI rfl) (Zi (t := 10) rfl (fun c_6 => ?_) (fun c_6 => ?_)))
 ·
  replace hx := ZU c_6 hx
  refine ZM rfl rfl rfl rfl rfl (ZM rfl rfl rfl rfl rfl (ZA rfl rfl (Zf rfl rfl) (ZA rfl rfl (ZI rfl) (ZM rfl rfl rfl rfl rfl (ZM rfl rfl rfl rfl rfl (ZM rfl rfl rfl rfl rfl (ZM rfl rfl rfl rfl rfl (ZM rfl rfl rfl rfl rfl (ZA rfl rfl (Zf rfl rfl) (ZD (ZC ?_)))))))))))
  refine JC.condT rfl (ZH (ZB (ZA rfl rfl (ZG rfl) (ZA rfl rfl (ZG rfl) (ZD (ZC (ZW (Zc (JN.seg0 (ZS (vs := [.slice none 0 0, .int .i64 2]) (K := [_]) (rst := []) (.inl rfl) rfl rfl (ZQ rfl (ZQ rfl rfl)) (Ze 0 rfl ZK) ?_))))))))))
  obtain rfl := Option.some.inj hx
  exact ⟨none, 0, 0, [], rfl, rfl, rfl, (Zn _ _ _ _ _), (fun p hp => by cases hp), trivial⟩
 ·
  replace hx := ZV c_6 hx
  refine ZN rfl rfl rfl (ZA rfl rfl (ZI rfl) (ZN rfl rfl rfl (ZA rfl rfl (Z1 rfl rfl) (ZA rfl rfl (Zb rfl rfl) (ZA rfl rfl (ZI rfl) (Zi (t := 14) rfl (fun c_7 => ?_) (fun c_7 => ?_)))))))
  ·
   replace hx := ZU c_7 hx
   refine ZM rfl rfl rfl rfl rfl (ZM rfl rfl rfl rfl rfl (ZM rfl rfl rfl rfl rfl (ZM rfl rfl rfl rfl rfl (ZM rfl rfl rfl rfl rfl (ZA rfl rfl (Zf rfl rfl) (ZD (ZC (JC.condT rfl (ZH (ZB (ZA rfl rfl (ZG rfl) ?_)))))))))))
   refine ZA rfl rfl (ZG rfl) (ZD (ZC (ZW (Zc (JN.seg0 (ZS (vs := [.slice none 0 0, .int .i64 2]) (K := [_]) (rst := []) (.inl rfl) rfl rfl (ZQ rfl (ZQ rfl rfl)) (Ze 0 rfl ZK) ?_))))))
   obtain rfl := Option.some.inj hx
   exact ⟨none, 0, 0, [], rfl, rfl, rfl, (Zn _ _ _ _ _), (fun p hp => by cases hp), trivial⟩
  ·
   replace hx := ZV c_7 hx
   refine ZN rfl rfl rfl (ZA rfl rfl (ZI rfl) (ZN rfl rfl rfl (ZA rfl rfl (ZI rfl) (ZN rfl rfl rfl (ZA rfl rfl (R.mul_i rfl rfl) (ZN rfl rfl rfl ?_))))))
   obtain ⟨hz_8, hx⟩ := chk_some hx
   refine ZA rfl rfl (R.shl_i (n := (w64 (8 * p_2))) rfl rfl hz_8) (ZN rfl rfl rfl (ZA rfl rfl (R.geq_i rfl rfl) (ZA rfl rfl (Zb rfl rfl) (ZD (ZC (ZY rfl (fun c_9 => ?_) (fun c_9 => ?_)))))))
   ·
    replace hx := ZU c_9 hx
    refine ZH (ZB (ZA rfl rfl (ZG rfl) (ZA rfl rfl (ZG rfl) (ZD (ZC (ZW (Zc (JN.seg0 (ZS (vs := [.slice none 0 0, .int .i64 2]) (K := [_]) (rst := []) (.inl rfl) rfl rfl (ZQ rfl (ZQ rfl rfl)) (Ze 0 rfl ZK) ?_)))))))))
    obtain rfl := Option.some.inj hx
    exact ⟨none, 0, 0, [], rfl, rfl, rfl, (Zn _ _ _ _ _), (fun p hp => by cases hp), trivial⟩
   ·
    replace hx := ZV c_9 hx
    refine Za (ZC (ZH (ZB (ZA rfl rfl (ZG rfl) (ZD (ZC (ZH ?_)))))))
    obtain ⟨t_10, ht_12, hx⟩ := ZJ hx
    refine Zy (fun l o g => ∃ ar_17 : Option Addr, ∃ nr_17 : Nat, ∃ cr_17 : Nat, ∃ Kr_17 : Own, l = [(6, .slice ar_17 nr_17 cr_17)] ∧ o = [Kr_17] ∧ H = g ∧ RowOf (New H H) RU8 w.heap.size 5 1 (.slice ar_17 nr_17 cr_17) t_10 Kr_17) ?_ ?_
    ·
     rintro _ _ _ ⟨ar_17, nr_17, cr_17, Kr_17, rfl, rfl, rfl, hr_17⟩
     refine ZC (ZH (ZB (ZA rfl rfl (ZI rfl) (ZA rfl rfl (ZG rfl) (ZA rfl rfl (ZG rfl) (ZD (ZC (ZW (ZS (vs := [.slice ar_17 nr_17 cr_17, .int .i64 0]) (K := [_]) (rst := []) (.inl rfl) rfl rfl (ZQ rfl (ZQ rfl rfl)) (Ze 0 rfl ZK) ?_)))))))))
     obtain rfl := Option.some.inj hx
     exact ⟨ar_17, nr_17, cr_17, Kr_17, rfl, rfl, rfl, (Zs (Nat.zero_le _) hr_17), (new_ids hr_17 hlt), trivial⟩
    ·
     have hxo_11 := hx; clear hx; have hx := ht_12; clear ht_12
     refine JC.block (JC.seg0 (Z9 (fun n l o g => ∃ s_13 : Int × List UInt8, ∃ ar_16 : Option Addr, ∃ nr_16 : Nat, ∃ cr_16 : Nat, ∃ Kr_16 : Own, l = [(0, .int .i64 s_13.1), (1, .int .i64 p_2), (6, .slice ar_16 nr_16 cr_16)] ∧ o = [Kr_16] ∧ H = g ∧ run (code_Put_l1 p_2) n s_13 = some t_10 ∧ RowOf (New H H) RU8 w.heap.size 5 1 (.slice ar_16 nr_16 cr_16) s_13.2 Kr_16) FUEL ?_ ⟨(p_1, ([] : List UInt8)), none, 0, 0, [], rfl, rfl, rfl, hx, (Zn _ _ _ _ _)⟩ ⟨rfl, rfl, rfl, trivial⟩ ?_))
     ·
      rintro _ _ _ ⟨s_13, ar_16, nr_16, cr_16, Kr_16, rfl, rfl, rfl, hn_14, hr_16⟩
      exact Z5 hn_14
     ·
      rintro n_15 _ _ _ ⟨s_13, ar_16, nr_16, cr_16, Kr_16, rfl, rfl, rfl, hn_14, hr_16⟩
      clear hx; obtain ⟨oo_18, hx, hd_17⟩ := Z6 hn_14
      unfold code_Put_l1 at hx
      refine ZH (ZH (ZB (ZA rfl rfl (ZI rfl) (ZA rfl rfl (Zr U45 rfl (RowOf.long hr_16)) (ZA rfl rfl (ZI rfl) (ZA rfl rfl (Z1 rfl rfl) (ZD (ZC (ZY rfl (fun c_17 => ?_) (fun c_17 => ?_))))))))))
      ·
       replace hx := ZU c_17 hx
       refine Za (ZC (ZH (JC.block (ZB (ZA rfl rfl (ZI rfl) (ZA rfl rfl (ZI rfl) (ZA rfl rfl (R.cv_i64_u8 U3 U5 rfl) (JL.bslF (HF := (New H H)) (R := RU8) (ls := [u8i s_13.1]) (vs := [.int .u8 ((u8i s_13.1).toNat : Int)]) U45 I5 rfl rfl (⟨_, _, rfl, rfl, rfl, rfl⟩) RU8.one rfl rfl rfl (by simp [maxLen]) rfl (fun vr_18 Kr_18 hr_18 => ?_)))))))))
       obtain ⟨ar_18, cr_18, rfl⟩ := RowOf.val hr_18
       obtain ⟨q_19, hm_20, hl_21, hx⟩ := Zz hx
       refine Z2 (HF := (New H H)) 1 U45 I5 rfl rfl hr_16 rfl (SrcF.row 0 U45 rfl hr_18) hm_20 hl_21 rfl (Nat.le_refl _) rfl (fun vr_22 Kr_22 hr_22 => ?_)
       obtain ⟨ar_22, cr_22, rfl⟩ := RowOf.val hr_22
       refine ZA rfl rfl (ZG rfl) (ZD (Zl (ZC (ZB (ZA rfl rfl (ZI rfl) (ZA rfl rfl (R.quo_i rfl rfl (by decide)) (ZA rfl rfl (ZG rfl) (ZD ?_))))))))
       replace hx := Zm hd_17 hx
       refine JN.forget 0 ?_
       exact ZR ⟨(w64 (s_13.1.tdiv 256), q_19), ar_22, q_19.length, cr_22, Kr_22, rfl, rfl, rfl, hx, hr_22⟩ ⟨rfl, rfl, rfl, trivial⟩ rfl rfl
      ·
       replace hx := ZV c_17 hx
       refine Z0 (ZX ?_)
       obtain rfl := Zw hd_17 hx
       refine ZX (Zd ?_)
       exact ZR ⟨ar_16, nr_16, cr_16, Kr_16, rfl, rfl, rfl, hr_16⟩ ⟨rfl, trivial⟩ rfl rfl

set_option maxHeartbeats 8000000 in
theorem ptr_sizes_ok (H : Heaplet) (r : A5 Int) (hx : ptr_sizes = some r) :
  Does Try.prog 112 #[] [] H (fun u K' H' => u = .agg #[.int .i64 r.e0, .int .i64 r.e1, .int .i64 r.e2, .int .i64 r.e3, .int .i64 r.e4] ∧ K' = [] ∧ H = H' ∧ True) := by
 refine Does.enterL (vs := []) (l := []) Try.func112 rfl rfl trivial (fun w hlt => ?_)
 unfold ptr_sizes at hx
 refine ZH (ZB (JL.alloc Z158 rfl (fun b_1 hb_1 => ZD (ZC (ZH (ZB (ZA rfl rfl (R.bldA (vs := [(0, .int .i64 1), (1, .int .i64 3), (2, .int .i64 4), (3, .int .i64 4), (4, .int .i64 4)]) (cells := #[.int .i64 1, .int .i64 3, .int .i64 4, .int .i64 4, .int .i64 4]) Z158 B158 rfl rfl rfl rfl) (ZP 0 S158 rfl rfl rfl rfl rfl (Nat.le_of_ble_eq_true rfl) (ZD (ZC (ZW ?_)))))))))))
 refine ZS (vs := [.agg #[.int .i64 1, .int .i64 3, .int .i64 4, .int .i64 4, .int .i64 4]]) (K := []) (rst := [_]) (.inl rfl) rfl rfl (Zq 0 rfl rfl S158 rfl) ZK ?_
 obtain rfl := Option.some.inj hx
 exact ⟨rfl, rfl, rfl, trivial⟩

set_option maxHeartbeats 8000000 in
theorem ptr_Write_ok (p_1 : Ptr) (H : Heaplet) (r : List UInt8 × Int) (hx : ptr_Write p_1 = some r) :
  Does Try.prog 73 #[.agg #[.int .i64 p_1.At, .int .u32 (p_1.Birth.toNat : Int), .int .u32 (p_1.Iv.toNat : Int), .int .u32 (p_1.Tag.toNat : Int), .int .u32 (p_1.Sum.toNat : Int)]] [] H (fun u K' H' => ∃ ao0 : Option Addr, ∃ n0 : Nat, ∃ cap0 : Nat, ∃ K0 : Own, u = .tuple #[.slice ao0 n0 cap0, .int .i64 r.2] ∧ K' = [K0] ∧ H = H' ∧ RowOf (New H H) RU8 0 5 1 (.slice ao0 n0 cap0) r.1 K0 ∧ (∀ p ∈ K0, p.1 ∉ ids (List.flatten [])) ∧ True) := by
 refine Does.enterL (vs := [.agg #[.int .i64 p_1.At, .int .u32 (p_1.Birth.toNat : Int), .int .u32 (p_1.Iv.toNat : Int), .int .u32 (p_1.Tag.toNat : Int), .int .u32 (p_1.Sum.toNat : Int)]]) (l := [(0, .agg #[.int .i64 p_1.At, .int .u32 (p_1.Birth.toNat : Int), .int .u32 (p_1.Iv.toNat : Int), .int .u32 (p_1.Tag.toNat : Int), .int .u32 (p_1.Sum.toNat : Int)])]) Try.func73 rfl rfl ⟨rfl, trivial⟩ (fun w hlt => ?_)
 unfold ptr_Write at hx
 refine ZH (ZB (Z7 rfl rfl (fun b_2 hb_2 => ZA rfl rfl (ZG rfl) (ZA rfl rfl (ZG rfl) (ZD (ZC (ZH (ZH (ZB (ZA rfl rfl (Zh 0 (vs := [.int .i64 p_1.At, .int .u32 (p_1.Birth.toNat : Int), .int .u32 (p_1.Iv.toNat : Int), .int .u32 (p_1.Tag.toNat : Int), .int .u32 (p_1.Sum.toNat : Int)]) S28 rfl rfl rfl rfl) ?_))))))))))
 obtain ⟨x_3, hr_4, hx⟩ := ZJ hx
 refine ZO (vs := [_]) (args := [_]) (K := []) (rst := [_]) E49 rfl rfl rfl ZK (ptr_Check_ok p_1 _ _ hr_4) rfl (fun u_5 Ku_5 Hu_5 hRu_5 hleu_5 hfu_5 => ?_)
 obtain ⟨rfl, rfl, rfl, -⟩ := hRu_5
 refine ZA rfl rfl (ZG rfl) (ZD (ZC (ZH (ZB (ZA rfl rfl (ZI rfl) (ZA rfl rfl (R.neq_i rfl rfl) (ZD (ZC (ZY rfl (fun c_6 => ?_) (fun c_6 => ?_))))))))))
 ·
  replace hx := ZU c_6 hx
  refine ZH (ZB (ZA rfl rfl (ZI rfl) (ZA rfl rfl (ZG rfl) (ZA rfl rfl (ZG rfl) (ZD (ZC (ZW (Zc (JN.seg0 (ZS (vs := [.slice none 0 0, .int .i64 x_3]) (K := [_]) (rst := [_]) (.inl rfl) rfl rfl (ZQ rfl (ZQ rfl rfl)) (Ze 0 rfl ZK) ?_))))))))))
  obtain rfl := Option.some.inj hx
  exact ⟨none, 0, 0, [], rfl, rfl, rfl, (Zn _ _ _ _ _), (fun p hp => by cases hp), trivial⟩
 ·
  replace hx := ZV c_6 hx
  refine Za (ZC (ZH (ZB (ZA rfl rfl (Zo F28_0 rfl) (ZA rfl rfl (ZZ 0 S3 rfl rfl rfl) (ZA rfl rfl (Zo F28_1 rfl) (ZA rfl rfl (ZZ 0 S26 rfl rfl rfl) (ZA rfl rfl (R.cv_u32_i64 (a := p_1.Birth) U26 U3 rfl) (ZA rfl rfl (Zo F28_2 rfl) (ZA rfl rfl (ZZ 0 S26 rfl rfl rfl) (ZA rfl rfl (R.cv_u32_i64 (a := p_1.Iv) U26 U3 rfl) ?_)))))))))))
  refine ZA rfl rfl (Zo F28_3 rfl) (ZA rfl rfl (ZZ 0 S26 rfl rfl rfl) (ZA rfl rfl (R.cv_u32_i64 (a := p_1.Tag) U26 U3 rfl) (ZA rfl rfl (Zo F28_4 rfl) (ZA rfl rfl (ZZ 0 S26 rfl rfl rfl) (ZA rfl rfl (R.cv_u32_i64 (a := p_1.Sum) U26 U3 rfl) (ZA rfl rfl (R.bldA (vs := [(0, .int .i64 p_1.At), (1, .int .i64 (p_1.Birth.toNat : Int)), (2, .int .i64 (p_1.Iv.toNat : Int)), (3, .int .i64 (p_1.Tag.toNat : Int)), (4, .int .i64 (p_1.Sum.toNat : Int))]) (cells := #[.int .i64 p_1.At, .int .i64 (p_1.Birth.toNat : Int), .int .i64 (p_1.Iv.toNat : Int), .int .i64 (p_1.Tag.toNat : Int), .int .i64 (p_1.Sum.toNat : Int)]) Z158 B158 rfl rfl rfl rfl) (JL.alloc Z158 rfl (fun b_7 hb_7 => ZP 0 S158 rfl rfl rfl rfl rfl (Nat.le_of_ble_eq_true rfl) (ZD (ZC (ZH ?_)))))))))))
  refine ZH (ZB ?_)
  obtain ⟨x_8, hr_9, hx⟩ := ZJ hx
  refine ZO (vs := []) (args := []) (K := []) (rst := [_, _]) E112 rfl rfl rfl ZK (ptr_sizes_ok _ _ hr_9) rfl (fun u_10 Ku_10 Hu_10 hRu_10 hleu_10 hfu_10 => ?_)
  obtain ⟨rfl, rfl, rfl, -⟩ := hRu_10
  refine ZA rfl rfl (ZI rfl) (ZD (ZC ?_))
  obtain ⟨t_11, ht_13, hx⟩ := ZJ hx
  refine Zy (fun l o g => ∃ ar_18 : Option Addr, ∃ nr_18 : Nat, ∃ cr_18 : Nat, ∃ Kr_18 : Own, l = [(2, .slice ar_18 nr_18 cr_18)] ∧ o = [Kr_18] ∧ H = g ∧ RowOf (New H H) RU8 w.heap.size 5 1 (.slice ar_18 nr_18 cr_18) t_11 Kr_18) ?_ ?_
  ·
   rintro _ _ _ ⟨ar_18, nr_18, cr_18, Kr_18, rfl, rfl, rfl, hr_18⟩
   refine ZC (ZH (ZB (ZA rfl rfl (ZI rfl) (ZA rfl rfl (ZG rfl) (ZA rfl rfl (ZG rfl) (ZD (ZC (ZW (ZS (vs := [.slice ar_18 nr_18 cr_18, .int .i64 0]) (K := [_]) (rst := []) (.inl rfl) rfl rfl (ZQ rfl (ZQ rfl rfl)) (Ze 0 rfl ZK) ?_)))))))))
   obtain rfl := Option.some.inj hx
   exact ⟨ar_18, nr_18, cr_18, Kr_18, rfl, rfl, rfl, (Zs (Nat.zero_le _) hr_18), (new_ids hr_18 hlt), trivial⟩
  ·
   have hxo_12 := hx; clear hx; have hx := ht_13; clear ht_13
   refine JC.block (JC.seg0 (JC.forget 2 (Zv 1 rfl (Zv 1 rfl (Z9 (fun n l o g => ∃ s_14 : List UInt8 × Nat, ∃ ar_17 : Option Addr, ∃ nr_17 : Nat, ∃ cr_17 : Nat, ∃ Kr_17 : Own, l = [(2, .slice ar_17 nr_17 cr_17), (5, .pointer (some ⟨b_7, 0, none⟩)), (30, .agg #[.int .i64 x_8.e0, .int .i64 x_8.e1, .int .i64 x_8.e2, .int .i64 x_8.e3, .int .i64 x_8.e4]), (31, .int .i64 ((s_14.2 : Nat) : Int))] ∧ o = [Kr_17, [(b_7, .cells #[.int .i64 p_1.At, .int .i64 (p_1.Birth.toNat : Int), .int .i64 (p_1.Iv.toNat : Int), .int .i64 (p_1.Tag.toNat : Int), .int .i64 (p_1.Sum.toNat : Int)] 158 (0, 0))]] ∧ H = g ∧ run (ptr_Write_l1 p_1 x_8) n s_14 = some t_11 ∧ RowOf (New H H) RU8 w.heap.size 5 1 (.slice ar_17 nr_17 cr_17) s_14.1 Kr_17) FUEL ?_ ⟨(([] : List UInt8), 0), none, 0, 0, [], rfl, rfl, rfl, hx, (Zn _ _ _ _ _)⟩ ⟨rfl, rfl, rfl, rfl, trivial⟩ ?_)))))
   ·
    rintro _ _ _ ⟨s_14, ar_17, nr_17, cr_17, Kr_17, rfl, rfl, rfl, hn_15, hr_17⟩
    exact Z5 hn_15
   ·
    rintro n_16 _ _ _ ⟨s_14, ar_17, nr_17, cr_17, Kr_17, rfl, rfl, rfl, hn_15, hr_17⟩
    clear hx; obtain ⟨oo_19, hx, hd_18⟩ := Z6 hn_15
    unfold ptr_Write_l1 at hx
    refine ZH (ZB (ZA rfl rfl (Z1 rfl rfl) (ZD (ZC (ZH (ZY rfl (fun c_18 => ?_) (fun c_18 => ?_)))))))
    ·
     replace hx := ZU c_18 hx
     refine Za (ZC (ZH (JC.block (ZH (ZB (ZA rfl rfl (ZI rfl) ?_))))))
     obtain ⟨y_19, hN_20, hx⟩ := Zt hx
     refine ZA rfl rfl (R.idxA (enc := (fun a : Int => Value.int .i64 a)) (L := x_8.l) U158 S3 rfl rfl rfl rfl rfl hN_20) (ZA rfl rfl (ZG rfl) (ZA rfl rfl (ZG rfl) (ZD (ZC (ZH (ZB (ZA rfl rfl (ZI rfl) ?_)))))))
     obtain ⟨y_21, hN_22, hx⟩ := Zt hx
     refine ZA rfl rfl (R.ixAd (L := (A5.mk p_1.At (p_1.Birth.toNat : Int) (p_1.Iv.toNat : Int) (p_1.Tag.toNat : Int) (p_1.Sum.toNat : Int)).l) U158 S3 rfl rfl rfl hN_22) (ZA rfl rfl (R.ldoA (enc := (fun a : Int => Value.int .i64 a)) (L := (A5.mk p_1.At (p_1.Birth.toNat : Int) (p_1.Iv.toNat : Int) (p_1.Tag.toNat : Int) (p_1.Sum.toNat : Int)).l) 1 S3 rfl rfl rfl hN_22) (ZA rfl rfl (ZI rfl) ?_))
     obtain ⟨x_23, hr_24, hx⟩ := ZJ hx
     refine ZO (vs := [_, _]) (args := [_, _]) (K := []) (rst := [_, _]) E72 rfl rfl rfl ZK (code_Put_ok y_21 y_19 _ _ hr_24) rfl (fun u_25 Ku_25 Hu_25 hRu_25 hleu_25 hfu_25 => ?_)
     obtain ⟨ar_26, nr_26, cr_26, Kr_26, rfl, rfl, rfl, hr_26, hnewr_26, -⟩ := hRu_25
     replace hr_26 := (RowOf.base (Zj (H2 := New H H) RU8.const hr_26) (fun p hp => (hfu_25 p (Zk 0 rfl hp)).resolve_left (hnewr_26 p hp)))
     refine ZA rfl rfl (ZI rfl) (ZA rfl rfl (R.extract rfl rfl) (ZA rfl rfl (R.extract rfl rfl) (ZA rfl rfl (ZG rfl) (ZA rfl rfl (ZG rfl) (ZD (ZC (ZB (ZA rfl rfl (ZI rfl) (ZA rfl rfl (ZI rfl) ?_)))))))))
     obtain ⟨q_27, hm_28, hl_29, hx⟩ := Zz hx
     refine Z2 (HF := (New H H)) 1 U45 I5 rfl rfl hr_17 rfl (SrcF.row 0 U45 rfl hr_26) hm_28 hl_29 rfl (Nat.le_refl _) rfl (fun vr_30 Kr_30 hr_30 => ?_)
     obtain ⟨ar_30, cr_30, rfl⟩ := RowOf.val hr_30
     refine ZA rfl rfl (ZG rfl) (ZD (Zl (ZC (ZB (ZA rfl rfl (R.inc rfl rfl (of_decide_eq_true c_18) (by decide)) (ZA rfl rfl (ZI rfl) (ZD ?_)))))))
     replace hx := Zm hd_18 hx
     refine JN.forget 0 (ZL 1 rfl (ZL 1 rfl ?_))
     exact ZR ⟨(q_27, s_14.2 + 1), ar_30, q_27.length, cr_30, Kr_30, rfl, rfl, rfl, hx, hr_30⟩ ⟨rfl, rfl, rfl, rfl, trivial⟩ rfl rfl
    ·
     replace hx := ZV c_18 hx
     refine Z0 (ZX ?_)
     obtain rfl := Zw hd_18 hx
     refine ZX (Zd (JN.forget 1 ?_))
     exact ZR ⟨ar_17, nr_17, cr_17, Kr_17, rfl, rfl, rfl, hr_17⟩ ⟨rfl, trivial⟩ rfl rfl

theorem slices_Clone_byte_ok (p_1 : List UInt8) (H : Heaplet) {ao : Option Addr} {n cap : Nat} (hs : IsSlice H RU8 1 (.slice ao n cap) p_1) (r : List UInt8) (hx : slices_Clone_byte p_1 = some r) :
  Does Try.prog 147 #[.slice ao n cap] [] H (fun u K' H' => ∃ ao0 : Option Addr, ∃ n0 : Nat, ∃ cap0 : Nat, ∃ K0 : Own, u = .slice ao0 n0 cap0 ∧ K' = [K0] ∧ H = H' ∧ RowOf (New H H') RU8 0 5 1 (.slice ao0 n0 cap0) r K0 ∧ (∀ p ∈ K0, p.1 ∉ ids (List.flatten [])) ∧ True) := by
 rw [slices_Clone_byte.eq_1] at hx
 obtain ⟨q, hq, hl, hx⟩ := Zz hx
 obtain rfl := Option.some.inj hx
 refine Does.enter (vs := [.slice ao n cap]) (l := [(0, .slice ao n cap)]) Try.func147 rfl rfl ⟨rfl, trivial⟩ (fun w => ZH (ZB (ZA rfl rfl (ZG rfl) (ZD (ZC (ZH (ZH (ZB (ZA rfl rfl (ZI rfl) (ZA rfl rfl (R.eqlNil U45 rfl rfl) (ZD ?_)))))))))))
 refine ZC ?_
 cases ao with
 | none =>
  have hp := hs.none_nil
  subst hp
  simp only [List.append_nil] at hq
  subst hq
  refine JC.condT rfl (ZH (ZB (ZA rfl rfl (ZG rfl) (ZD (ZC (ZW (Zc (JN.seg0 (ZS (vs := [.slice none 0 0]) (K := [_]) (rst := []) (.inl rfl) rfl rfl (ZQ rfl rfl) (Ze 0 rfl ZK) ?_)))))))))
  exact ⟨none, 0, 0, [], rfl, rfl, rfl, Zn _ _ _ _ _, (fun p hp => by cases hp), trivial⟩
 | some a =>
  refine JC.condF rfl (Za (ZC (ZH (ZB (JL.bslF (HF := New H H) (R := RU8) (ls := []) (vs := []) U45 I5 rfl rfl rfl RU8.one rfl rfl rfl (by simp [maxLen]) rfl (fun v1 K1 h1 => ?_))))))
  obtain ⟨ao1, cap1, rfl⟩ := RowOf.val h1
  refine ZA rfl rfl (ZI rfl) (Z2 (HF := New H H) 0 U45 I5 rfl rfl h1 rfl (SrcF.sliceC RU8.const RU8.one U45 hs) hq hl rfl (Nat.le_refl _) rfl (fun v2 K2 h2 => ?_))
  obtain ⟨ao2, cap2, rfl⟩ := RowOf.val h2
  refine ZA rfl rfl (ZG rfl) (ZD (ZC (ZW (ZS (vs := [.slice ao2 _ cap2]) (K := [_]) (rst := []) (.inl rfl) rfl rfl (ZQ rfl rfl) (Ze 0 rfl ZK) ?_))))
  exact ⟨_, _, _, _, rfl, rfl, rfl, Zs (Nat.zero_le _) h2, (fun p hp hm => by cases hm), trivial⟩

set_option maxHeartbeats 8000000 in
theorem slices_Clip_byte_ok (p_1 : List UInt8) (H : Heaplet) {aa_2 : Option Addr} {na_2 : Nat} {ca_2 : Nat} (ha_2 : IsSlice H RU8 1 (.slice aa_2 na_2 ca_2) p_1) (r : List UInt8) (hx : slices_Clip_byte p_1 = some r) :
  Does Try.prog 146 #[.slice aa_2 na_2 ca_2] [] H (fun u K' H' => ∃ ao0 : Option Addr, ∃ n0 : Nat, u = .slice ao0 n0 n0 ∧ K' = [] ∧ H = H' ∧ IsSlice H RU8 1 (.slice ao0 n0 n0) r ∧ True) := by
 refine Does.enterL (vs := [.slice aa_2 na_2 ca_2]) (l := [(0, .slice aa_2 na_2 ca_2)]) Try.func146 rfl rfl ⟨rfl, trivial⟩ (fun w hlt => ?_)
 unfold slices_Clip_byte at hx
 refine ZH (ZB (ZA rfl rfl (ZG rfl) (ZD (ZC (ZH (ZB (ZA rfl rfl (ZI rfl) (ZA rfl rfl (ZI rfl) (ZA rfl rfl (Zr U45 rfl (IsSlice.long ha_2)) (ZA rfl rfl (ZI rfl) (ZA rfl rfl (Zr U45 rfl (IsSlice.long ha_2)) ?_)))))))))))
 obtain ⟨m_3, hm_5, hb_4, hx⟩ := slc_some hx
 obtain ⟨vv_6, cv_6, av_6, h1v_6, h2v_6, hsv_6⟩ := IsSlice.cutc ha_2 hm_5 hb_4
 refine ZA rfl rfl (R.slc (cap := cv_6) (a := 0) (b := (p_1.length : Int)) (c := (p_1.length : Int)) (m := p_1) (R := RU8) U45 S5 rfl rfl ⟨_, rfl⟩ ⟨_, rfl⟩ ⟨hb_4.1, hb_4.2.1, Int.le_refl _⟩ h1v_6 (.inr (fun h => by cases h))) ?_
 subst h2v_6
 refine ZA rfl rfl (ZG rfl) (ZD (ZC (ZW (ZS (vs := [.slice av_6 m_3.length m_3.length]) (K := []) (rst := []) (.inl rfl) rfl rfl (ZQ rfl rfl) ZK ?_))))
 obtain rfl := Option.some.inj hx
 exact ⟨av_6, m_3.length, rfl, rfl, rfl, hsv_6, trivial⟩

theorem slices_Chunk_byte_ok (p_1 : List UInt8) (p_2 : Int) (H : Heaplet) {ao : Option Addr} {n cap : Nat} (hs : IsSlice H RU8 1 (.slice ao n cap) p_1) (r : Unit) (hx : slices_Chunk_byte p_1 p_2 = some r) :
  Does Try.prog 95 #[.slice ao n cap, .int .i64 p_2] [] H (fun u K' H' => ∃ b2 b3 : Nat, u = .func (.func 136) #[] #[.pointer (some ⟨b2, 0, none⟩), .pointer (some ⟨b3, 0, none⟩)] ∧ K' = [] ∧ H' b2 0 = some (.slice ao n cap) ∧ H' b3 0 = some (.int .i64 p_2) ∧ (1 ≤ p_2 ∧ p_2 ≤ 1099511627776 ∧ p_1.length ≤ LIM) ∧ True) := by
 unfold slices_Chunk_byte at hx
 split at hx
 case isFalse => cases hx
 rename_i hp
 refine Does.enter (vs := [.slice ao n cap, .int .i64 p_2]) (l := [(0, .slice ao n cap), (1, .int .i64 p_2)]) Try.func95 rfl rfl ⟨rfl, rfl, trivial⟩ (fun w => ZH (ZB (Z7 rfl rfl (fun b2 hb2 => Z7 rfl rfl (fun b3 hb3 => ZA rfl rfl (ZG rfl) (ZD (ZC (ZH (ZH (ZB (ZA rfl rfl (ZZ 0 S3 rfl rfl rfl) ?_)))))))))))
 refine ZA rfl rfl (Z1 rfl rfl) (ZD (ZC (ZY rfl (fun c => ?_) (fun c => ?_))))
 ·
  exact absurd (of_decide_eq_true c) (by omega)
 refine Za (ZC (ZH (ZB (ZA rfl rfl (R.func (vf := []) (vc := [_, _]) rfl rfl) (ZA rfl rfl (ZG rfl) (ZD (ZC (ZW (JN.pubBox 0 rfl hb3 (fun H1 hle1 hc1 => JN.forget 0 (JN.pubBox 0 rfl hb2 (fun H2 hle2 hc2 => ?_))))))))))))
 refine JN.forget 0 (JN.out1 (.inl rfl) rfl rfl rfl ?_)
 exact ⟨_, _, rfl, rfl, hc2 0 _ rfl, hle2 _ _ _ (hc1 0 _ rfl), hp, trivial⟩

set_option maxHeartbeats 8000000 in
theorem slices_Chunk_byte_it (m : List UInt8) (N : Int) (hN : 1 ≤ N ∧ N ≤ 1099511627776 ∧ m.length ≤ LIM) (H : Heaplet) {v : Value} {b2 b3 : Nat} (hs : IsSlice H RU8 1 v m) (hb2 : H b2 0 = some v) (hb3 : H b3 0 = some (.int .i64 N)) :
  IterL Try.prog 136 #[.pointer (some ⟨b2, 0, none⟩), .pointer (some ⟨b3, 0, none⟩)] H (fun H' args (y : List UInt8) => ∃ ao : Option Addr, args = #[.slice ao y.length y.length] ∧ IsSlice H' RU8 1 (.slice ao y.length y.length) y) (chunks N.toNat m.length m) := by
 intro lr I X o hY hI
 obtain ⟨hN1, hN2, hml⟩ := hN
 unfold LIM at hml
 obtain ⟨ao, cap, rfl⟩ := hs.val
 show Does Try.prog 136 #[.func (.yield lr) #[] #[], .pointer (some ⟨b2, 0, none⟩), .pointer (some ⟨b3, 0, none⟩)] o H _
 refine Does.enter (vs := [.func (.yield lr) #[] #[], .pointer (some ⟨b2, 0, none⟩), .pointer (some ⟨b3, 0, none⟩)]) (l := [(0, .func (.yield lr) #[] #[]), (1, .pointer (some ⟨b2, 0, none⟩)), (2, .pointer (some ⟨b3, 0, none⟩))]) Try.func136 rfl rfl ⟨rfl, rfl, rfl, trivial⟩ (fun w => ZH (ZB (ZA rfl rfl (ZG rfl) (ZD (ZC (JC.block ?_))))))
 refine JC.loop (ι := Nat × Nat × List (List UInt8) × List Own × Heaplet) (fun i => [(0, .func (.yield lr) #[] #[]), (1, .pointer (some ⟨b2, 0, none⟩)), (2, .pointer (some ⟨b3, 0, none⟩)), (4, .int .i64 ((i.1 : Nat) : Int))]) (fun i => i.2.2.2.1) (fun i => i.2.2.2.2)
  (fun i => i.1 ≤ 2199023255552 ∧ m.length ≤ i.1 + i.2.1 ∧ i.2.2.1 ++ chunks N.toNat i.2.1 (m.drop i.1) = chunks N.toNat m.length m ∧ I i.2.2.1 i.2.2.2.1 i.2.2.2.2 ∧ Hle H i.2.2.2.2) (fun i => m.length + 1 - i.1) (0, m.length, [], o, H) (⟨by omega, by simp, by simp, hI, Hle.refl _⟩) ⟨rfl, rfl, rfl, rfl, trivial⟩ rfl rfl ?_
 rintro ⟨i, f, pre, o2, H2⟩ hI0
 dsimp only at hI0 ⊢
 obtain ⟨hi2, hf, hpre, hI2, hle⟩ := hI0
 have hb2' := hle _ _ _ hb2
 have hb3' := hle _ _ _ hb3
 have hs2 := IsSlice.mono RU8.mono hle hs
 refine ZH (ZH (ZB (ZA rfl rfl (ZI rfl) (ZA rfl rfl (R.ldH S45 rfl hb2') (ZA rfl rfl (Zr U45 rfl (IsSlice.long hs2)) (ZA rfl rfl (Z1 rfl rfl) (ZD (ZC (ZY rfl (fun c => ?_) (fun c => ?_))))))))))
 ·
  have hlt : i < m.length := by have := of_decide_eq_true c; omega
  have hne : m.drop i ≠ [] := fun h => by have := List.drop_eq_nil_iff.1 h; omega
  obtain ⟨f', rfl⟩ : ∃ f', f = f' + 1 := ⟨f - 1, by omega⟩
  rw [chunks_step hne, List.drop_drop] at hpre
  obtain ⟨e, he⟩ : ∃ e : Int, e = min N ((m.length : Int) - i) := ⟨_, rfl⟩
  have hcut : (m.drop i).take N.toNat = cut m (i : Int) ((i : Int) + e) := by
   unfold cut
   rw [Int.toNat_natCast]
   by_cases h : N ≤ (m.length : Int) - i
   ·
    rw [show ((i : Int) + e).toNat - i = N.toNat by omega]
   ·
    rw [List.take_of_length_le (by rw [List.length_drop]; omega), List.take_of_length_le (by rw [List.length_drop]; omega)]
  refine Za (ZC (ZH (JC.block (ZH ?_))))
  obtain ⟨v1, c1, h1, h2, h3, hs1⟩ := IsSlice.cutv (m' := cut m (i : Int) (m.length : Int)) hs2 rfl ⟨by omega, by omega, Int.le_refl _⟩
  have hl1 : ((cut m (i : Int) (m.length : Int)).length : Int) = (m.length : Int) - i := cut_length (by omega) (by omega) (Int.le_refl _)
  refine JC.draw (so := []) 7 rfl Mixed trivial (JA.val ⟨by kernel_rfl, by kernel_rfl⟩ (ZF _) (i := 0) rfl ⟨by kernel_rfl, by kernel_rfl, rfl⟩ trivial (ZE (Hle.refl _) trivial) (R.ldH S3 rfl hb3') rfl (JA.val ⟨by kernel_rfl, by kernel_rfl⟩ (ZF _) (i := 1) rfl ⟨by kernel_rfl, by kernel_rfl, rfl⟩ trivial (ZE (Hle.refl _) trivial) (R.ldH S45 rfl hb2') rfl (JA.val ⟨by kernel_rfl, by kernel_rfl⟩ (ZF _) (i := 2) rfl ⟨by kernel_rfl, by kernel_rfl, rfl⟩ trivial (ZE (Hle.refl _) trivial) (ZI rfl) rfl (JA.val ⟨by kernel_rfl, by kernel_rfl⟩ (ZF _) (i := 3) rfl ⟨by kernel_rfl, by kernel_rfl, rfl⟩ trivial (ZE (Hle.refl _) trivial) (R.slc (cap := c1) (a := (i : Int)) (b := (m.length : Int)) (c := (c1 : Int)) (m := m) (R := RU8) U45 S5 rfl ⟨_, rfl⟩ rfl (by obtain ⟨ao, n, e, _⟩ := h1; exact ⟨ao, n, e, rfl⟩) ⟨by omega, by omega, h2⟩ h3 (.inl rfl)) rfl (JA.val ⟨by kernel_rfl, by kernel_rfl⟩ (ZF _) (i := 4) rfl ⟨by kernel_rfl, by kernel_rfl, rfl⟩ trivial (ZE (Hle.refl _) trivial) (R.lenE U45 rfl ⟨_, IsSlice.long hs1, hl1⟩) rfl (JA.val ⟨by kernel_rfl, by kernel_rfl⟩ (ZF _) (i := 5) rfl ⟨by kernel_rfl, by kernel_rfl, rfl⟩ trivial (ZE (Hle.refl _) trivial) (R.min2 rfl rfl) rfl ?_))))))
  rw [← he]
  refine JA.val ⟨by kernel_rfl, by kernel_rfl⟩ (ZF _) (i := 6) rfl ⟨by kernel_rfl, by kernel_rfl, rfl⟩ trivial (ZE (Hle.refl _) trivial) (ZG rfl) rfl (Zg (by kernel_rfl) (ZC ?_))
  have hw : w64 ((i : Int) + e) = (i : Int) + e := w64_of (by omega) (by omega)
  obtain ⟨v2, c2, ao2, g1, g2, hs3⟩ := IsSlice.cutc (m' := (m.drop i).take N.toNat) hs2 hcut ⟨by omega, by omega, by omega⟩
  subst g2
  refine ZH (ZB (ZA rfl rfl (ZI rfl) (ZA rfl rfl (R.ldH S45 rfl hb2') (ZA rfl rfl (ZI rfl) (ZA rfl rfl (ZI rfl) (ZA rfl rfl (ZI rfl) (ZA rfl rfl (R.add_i rfl rfl) ?_)))))))
  rw [hw]
  refine ZA rfl rfl (ZI rfl) (ZA rfl rfl (ZI rfl) (ZA rfl rfl (R.add_i rfl rfl) ?_))
  rw [hw]
  refine ZA rfl rfl (R.slc (cap := c2) (a := (i : Int)) (b := (i : Int) + e) (c := (i : Int) + e) (m := m) (R := RU8) U45 S5 rfl ⟨_, rfl⟩ ⟨_, rfl⟩ ⟨_, rfl⟩ ⟨by omega, by omega, Int.le_refl _⟩ g1 (.inr (fun h => by cases h))) (JL.yield (vs := [_]) (mine := []) ((m.drop i).take N.toNat) hY rfl rfl hI2 (⟨⟨ao2, rfl, hs3⟩, _, by rw [← hpre]⟩) rfl rfl (fun o17 H17 hle17 hI17 => ?_) (fun o17 H17 hle17 hX17 => ?_))
  ·
   refine ZA rfl rfl (R.not rfl) (ZD (ZC (JC.condF rfl (Za (Zl (ZC (ZB (ZA rfl rfl (ZI rfl) (ZA rfl rfl (R.ldH S3 rfl (hle17 _ _ _ hb3')) (ZA rfl rfl (R.add_i rfl rfl) (ZA rfl rfl (ZG rfl) ?_)))))))))))
   refine ZD ?_
   have hw2 : w64 ((i : Int) + N) = ((i + N.toNat : Nat) : Int) := by rw [w64_of (by omega) (by omega)]; omega
   refine JN.again (i := (i, f' + 1, pre, o2, H2)) (i + N.toNat, f', pre ++ [(m.drop i).take N.toNat], o17, H17) (by
    refine ⟨?_, ?_, ?_, hI17, hle.trans hle17⟩
    ·
     simp only; omega
    ·
     simp only; omega
    ·
     simp only [List.append_assoc, List.singleton_append]; exact hpre) (by simp only; omega) (by exact ⟨rfl, rfl, rfl, by show some _ = some _; rw [hw2], trivial⟩) rfl rfl
  ·
   refine ZA rfl rfl (R.not rfl) (ZD (ZC (JC.condT rfl (ZW (JN.blkR (Zc (Zc (JN.blkR (JN.out0 (.inl rfl) rfl rfl ?_)))))))))
   exact ⟨hle.trans hle17, .inr ⟨_, ⟨chunks N.toNat f' (m.drop (i + N.toNat)), by rw [← hpre]; simp⟩, hX17⟩⟩
 ·
  have hge : m.length ≤ i := by have := of_decide_eq_false c; omega
  refine Z0 (ZX (ZX (Zd (JN.out0 (.inr rfl) rfl rfl (⟨hle, .inl ⟨pre, ?_, hI2⟩⟩)))))
  rw [← hpre, List.drop_eq_nil_of_le hge, chunks_nil, List.append_nil]

theorem slices_Backward_byte_ok (p_1 : List UInt8) (H : Heaplet) {ao : Option Addr} {n cap : Nat} (hs : IsSlice H RU8 1 (.slice ao n cap) p_1) (r : Unit) (hx : slices_Backward_byte p_1 = some r) :
  Does Try.prog 119 #[.slice ao n cap] [] H (fun u K' H' => ∃ b : Nat, u = .func (.func 151) #[] #[.pointer (some ⟨b, 0, none⟩)] ∧ K' = [] ∧ H' b 0 = some (.slice ao n cap) ∧ True) := by
 refine Does.enter (vs := [.slice ao n cap]) (l := [(0, .slice ao n cap)]) Try.func119 rfl rfl ⟨rfl, trivial⟩ (fun w => ZH (ZB (Z7 rfl rfl (fun b1 hb1 => JL.assign rfl rfl (ZD (ZC (ZH (ZB (JL.func (vf := #[]) (vc := #[_]) rfl rfl rfl (JL.assign rfl rfl (ZD ?_)))))))))))
 refine ZC (ZW (JN.pubBox 0 rfl hb1 (fun H1 hle1 hc1 => JN.forget 0 ?_)))
 have hc := hc1 0 _ rfl
 refine JN.out1 (.inl rfl) rfl rfl rfl ?_
 exact ⟨_, rfl, rfl, hc, trivial⟩

theorem slices_Backward_byte_it (m : List UInt8) (H : Heaplet) {v : Value} {b : Nat} (hs : IsSlice H RU8 1 v m) (hb : H b 0 = some v) :
  IterL Try.prog 151 #[.pointer (some ⟨b, 0, none⟩)] H (fun _ args (y : Nat × UInt8) => args = #[.int .i64 ((y.1 : Nat) : Int), .int .u8 (y.2.toNat : Int)]) (bwd m m.length) := by
 intro lr I X o hY hI
 have hlen := hs.len_le
 obtain ⟨ao, cap, rfl⟩ := hs.val
 show Does Try.prog 151 #[.func (.yield lr) #[] #[], .pointer (some ⟨b, 0, none⟩)] o H _
 refine Does.enter (vs := [.func (.yield lr) #[] #[], .pointer (some ⟨b, 0, none⟩)]) (l := [(0, .func (.yield lr) #[] #[]), (1, .pointer (some ⟨b, 0, none⟩))]) Try.func151 rfl rfl ⟨rfl, rfl, trivial⟩ (fun w => ZH (ZB (JL.ldH S45 rfl hb rfl (JL.lenS U45 rfl hs rfl (JL.subI rfl rfl (wi64 (by omega) (by omega)) rfl (JL.assign rfl rfl (ZD (ZC (JC.block (JC.loop (ι := Nat × List (Nat × UInt8) × List Own × Heaplet) (fun i => [(0, .func (.yield lr) #[] #[]), (1, .pointer (some ⟨b, 0, none⟩)), (3, .int .i64 ((i.1 : Int) - 1))]) (fun i => i.2.2.1) (fun i => i.2.2.2) (fun i => i.1 ≤ m.length ∧ i.2.1 ++ bwd m i.1 = bwd m m.length ∧ I i.2.1 i.2.2.1 i.2.2.2 ∧ Hle H i.2.2.2) (fun i => i.1) (m.length, [], o, H) (⟨Nat.le_refl _, rfl, hI, Hle.refl _⟩) ⟨rfl, rfl, rfl, trivial⟩ rfl rfl ?_))))))))))
 rintro ⟨k, pre, o2, H2⟩ hI0
 dsimp only at hI0 ⊢
 obtain ⟨hk, hpre, hI2, hle⟩ := hI0
 have hb2 := hle _ _ _ hb
 have hs2 := IsB.mono hle hs
 refine ZH (ZH (ZB (JL.move rfl rfl (JL.geq rfl rfl rfl (ZD (ZC (JC.condP rfl (fun c8 => ?_) (fun c8 => ?_))))))))
 ·
  refine Za (ZC (ZH (JC.block (ZH (ZB (JL.move rfl rfl (JL.move rfl rfl (JL.ldH S45 rfl hb2 rfl (JL.move rfl rfl (JL.ixB (k := k - 1) U45 S5 rfl hs2 rfl (by omega) (by omega) rfl (fun b15 o15 hc15 => JL.ldH S5 rfl hc15 rfl ?_)))))))))))
  have e1 : ((k - 1 : Nat) : Int) = (k : Int) - 1 := by omega
  have e2 : m.getD (k - 1) 0 = m[k - 1] := by rw [List.getD_eq_getElem?_getD, List.getElem?_eq_getElem (show k - 1 < m.length by omega), Option.getD_some]
  have e3 : bwd m k = (k - 1, m.getD (k - 1) 0) :: bwd m (k - 1) := by rw [show k = (k - 1) + 1 by omega]; rfl
  refine JL.yield (vs := [_, _]) (mine := []) ((k - 1, m.getD (k - 1) 0)) hY rfl rfl hI2 (⟨by simp only [e1, e2], bwd m (k - 1), by rw [← hpre, e3]⟩) rfl rfl (fun o17 H17 hle17 hI17 => ?_) (fun o17 H17 hle17 hX17 => ?_)
  ·
   refine JL.not rfl rfl (ZD (ZC (JC.condF rfl (Za (Zl (ZC (ZB (JL.move rfl rfl (JL.subI rfl rfl (wi64 (by omega) (by omega)) rfl (JL.assign rfl rfl (ZD ?_)))))))))))
   refine JN.again (i := (k, pre, o2, H2)) (k - 1, pre ++ [(k - 1, m.getD (k - 1) 0)], o17, H17) (by exact ⟨by simp only; omega, by rw [← hpre, e3]; simp, hI17, hle.trans hle17⟩) (by simp only; omega) (by exact ⟨rfl, rfl, by show some _ = some _; simp only [e1], trivial⟩) rfl rfl
  ·
   refine JL.not rfl rfl (ZD (ZC (JC.condT rfl (ZW (JN.blkR (Zc (Zc (JN.blkR (JN.out0 (.inl rfl) rfl rfl ?_)))))))))
   exact ⟨hle.trans hle17, .inr ⟨_, ⟨bwd m (k - 1), by rw [← hpre, e3]; simp⟩, hX17⟩⟩
 ·
  refine Z0 (ZX (ZX (Zd (JN.out0 (.inr rfl) rfl rfl ?_))))
  exact ⟨hle, .inl ⟨pre, by rw [← hpre, show k = 0 by omega]; simp [bwd], hI2⟩⟩

set_option maxHeartbeats 8000000 in
theorem code_Get_ok (p_1 : List UInt8) (p_3 : Int) (p_4 : Int) (H : Heaplet) {aa_2 : Option Addr} {na_2 : Nat} {ca_2 : Nat} (ha_2 : IsSlice H RU8 1 (.slice aa_2 na_2 ca_2) p_1) (r : Int × Int) (hx : code_Get p_1 p_3 p_4 = some r) :
  Does Try.prog 83 #[.slice aa_2 na_2 ca_2, .int .i64 p_3, .int .i64 p_4] [] H (fun u K' H' => u = .tuple #[.int .i64 r.1, .int .i64 r.2] ∧ K' = [] ∧ True) := by
 refine Does.enterML (vs := [.slice aa_2 na_2 ca_2, .int .i64 p_3, .int .i64 p_4]) (l := [(0, .slice aa_2 na_2 ca_2), (1, .int .i64 p_3), (2, .int .i64 p_4)]) Try.func83 rfl rfl ⟨rfl, rfl, rfl, trivial⟩ (fun w hlt => ?_)
 unfold code_Get at hx
 refine ZH (ZB (ZA rfl rfl (ZG rfl) (ZA rfl rfl (ZG rfl) (ZD (ZC (ZH (JC.block (ZH (ZH (ZB (ZA rfl rfl (ZI rfl) ?_)))))))))))
 obtain ⟨x_5, hr_6, hx⟩ := ZJ hx
 refine ZO (vs := [_]) (args := [_]) (K := []) (rst := []) E111 rfl rfl rfl ZK (code_sized_ok p_4 _ _ hr_6) rfl (fun u_7 Ku_7 Hu_7 hRu_7 hleu_7 hfu_7 => ?_)
 obtain ⟨rfl, rfl, rfl, -⟩ := hRu_7
 refine ZA rfl rfl (R.not rfl) (ZA rfl rfl (ZG rfl) (ZD (ZC ?_)))
 obtain ⟨t_8, ht_10, hx⟩ := ZJ hx
 refine Zy (fun l o g => l = [(0, .slice aa_2 na_2 ca_2), (1, .int .i64 p_3), (2, .int .i64 p_4), (11, .bool t_8)] ∧ o = [] ∧ H = g) ?_ ?_
 ·
  rintro _ _ _ ⟨rfl, rfl, rfl⟩
  refine ZC (ZY rfl (fun c_13 => ?_) (fun c_13 => ?_))
  ·
   replace hx := ZU c_13 hx
   refine ZH (ZB (ZA rfl rfl (ZG rfl) (ZA rfl rfl (ZG rfl) (ZD (ZC (ZW (JN.blkR (Zc (JN.outMP (vs := [.int .i64 0, .int .i64 2]) (K := []) (rst := []) (own2 := []) [] (.inl rfl) ⟨rfl, rfl, rfl, rfl⟩ rfl rfl ZK (ZQ rfl (ZQ rfl rfl)) ZK ?_)))))))))
   obtain rfl := Option.some.inj hx
   exact ⟨rfl, rfl, trivial⟩
  ·
   replace hx := ZV c_13 hx
   refine ZH (ZB (ZA rfl rfl (ZI rfl) (ZA rfl rfl (ZI rfl) (ZA rfl rfl (R.add_i rfl rfl) (ZA rfl rfl (ZI rfl) (ZA rfl rfl (Zr U45 rfl (IsSlice.long ha_2)) (ZA rfl rfl (R.gtr_i rfl rfl) (ZA rfl rfl (ZG rfl) (ZD (ZC (ZY rfl (fun c_14 => ?_) (fun c_14 => ?_))))))))))))
   ·
    replace hx := ZU c_14 hx
    refine ZH (ZB (ZA rfl rfl (ZG rfl) (ZA rfl rfl (ZG rfl) (ZD (ZC (ZW (JN.blkR (Zc (JN.outMP (vs := [.int .i64 0, .int .i64 8]) (K := []) (rst := []) (own2 := []) [] (.inl rfl) ⟨rfl, rfl, rfl, rfl⟩ rfl rfl ZK (ZQ rfl (ZQ rfl rfl)) ZK ?_)))))))))
    obtain rfl := Option.some.inj hx
    exact ⟨rfl, rfl, trivial⟩
   ·
    replace hx := ZV c_14 hx
    refine Za (Zl (ZC (ZH (ZB (JL.alloc Z3 rfl (fun b_15 hb_15 => ZP 0 S3 rfl rfl rfl rfl rfl (Nat.le_of_ble_eq_true rfl) (ZD (ZC (ZH (ZH (ZB ?_)))))))))))
    refine ZA rfl rfl (ZI rfl) (ZA rfl rfl (ZI rfl) (ZA rfl rfl (ZI rfl) (ZA rfl rfl (ZI rfl) (ZA rfl rfl (R.add_i rfl rfl) ?_))))
    obtain ⟨m_16, hm_18, hb_17, hx⟩ := slc_some hx
    obtain ⟨vv_19, cv_19, h1v_19, h2v_19, h3v_19, hsv_19⟩ := IsSlice.cutv ha_2 hm_18 hb_17
    refine ZA rfl rfl (R.slc (cap := cv_19) (a := p_3) (b := w64 (p_3 + p_4)) (c := (cv_19 : Int)) (m := p_1) (R := RU8) U45 S5 rfl ⟨_, rfl⟩ ⟨_, rfl⟩ (by obtain ⟨ao, n, e, _⟩ := h1v_19; exact ⟨ao, n, e, rfl⟩) ⟨hb_17.1, hb_17.2.1, h2v_19⟩ h3v_19 (.inl rfl)) ?_
    obtain ⟨av_19, cv_19', rfl⟩ := IsSlice.val hsv_19
    obtain ⟨x_20, hr_21, hx⟩ := ZJ hx
    refine ZO (vs := [_]) (args := [_]) (K := []) (rst := [_]) E119 rfl rfl rfl ZK (slices_Backward_byte_ok m_16 _ hsv_19 _ hr_21) rfl (fun u_22 Ku_22 Hu_22 hRu_22 hleu_22 hfu_22 => ?_)
    obtain ⟨bit_23, rfl, rfl, hit_23, -⟩ := hRu_22
    refine ZD (ZC (JC.block ?_))
    obtain ⟨t_24, ht_26, hx⟩ := ZJ hx
    refine JC.rangeL (RA := fun _ args (y : Nat × UInt8) => args = #[.int .i64 ((y.1 : Nat) : Int), .int .u8 (y.2.toNat : Int)]) rfl code_Get_r1 0 t_24 ht_26 (fun s_27 o g => ∃ H_33 : Heaplet, o = [[(b_15, .cells #[.int .i64 s_27] 3 (0, 0))]] ∧ H_33 = g ∧ Hle Hu_22 H_33) (fun e c o g => False) rfl E151 (slices_Backward_byte_it m_16 _ (hsv_19.mono RU8.mono hleu_22) hit_23) (fun _ _ _ h => by rw [h]; rfl) rfl ⟨Hu_22, rfl, rfl, (Hle.refl _)⟩ ?_ ?_ ?_
    ·
     rintro lr_29 y_28 s_27 args o g out_31 ⟨H_33, rfl, rfl, hleH_33⟩ hA hx2
     clear hx; have hx := hx2; clear hx2; unfold code_Get_r1 at hx
     subst hA
     refine ⟨[(8, .pointer (some ⟨b_15, 0, none⟩)), (10, .int .u8 (y_28.2.toNat : Int))], fun wb_30 hwb_30 => ?_, fun wb_30 hwb_30 => ?_⟩
     ·
      refine ZB (ZA rfl rfl (ZG rfl) (ZD ?_))
      exact JN.assigned ⟨rfl, rfl, trivial⟩
     ·
      refine JC.block (ZB (ZA rfl rfl (ZZ 0 S3 rfl rfl rfl) (ZA rfl rfl (R.mul_i rfl rfl) (ZA rfl rfl (ZI rfl) (ZA rfl rfl (R.cv_u8_i64 (a := y_28.2) U5 U3 rfl) (ZA rfl rfl (R.add_i rfl rfl) (ZP 0 S3 rfl rfl rfl rfl rfl (Nat.le_of_ble_eq_true rfl) (ZD (Zl ?_)))))))))
      obtain rfl := Option.some.inj hx
      exact JN.rN ⟨H_33, rfl, rfl, (hleH_33)⟩
    ·
     rintro D_32 s_27 o g hD_32 htt ⟨H_33, rfl, rfl, hleH_33⟩ hle2
     subst htt; simp only [Sum.elim_inl] at hx
     refine Zl (ZC (ZH (ZB (ZA rfl rfl (ZZ 1 S3 rfl rfl rfl) (ZA rfl rfl (ZG rfl) (ZA rfl rfl (ZG rfl) (ZD (ZC (ZW (JN.outMP (vs := [.int .i64 s_27, .int .i64 0]) (K := []) (rst := [_]) (own2 := [_]) [D_32] (.inl rfl) ⟨rfl, rfl, rfl, rfl⟩ rfl rfl (Ze 0 rfl ZK) (ZQ rfl (ZQ rfl rfl)) ZK ?_))))))))))
     obtain rfl := Option.some.inj hx
     exact ⟨rfl, rfl, trivial⟩
    ·
     rintro D c e o g hD htt hX; exact hX.elim
 ·
  have hxo_9 := hx; clear hx; have hx := ht_10; clear ht_10
  refine ZY rfl (fun c_11 => ?_) (fun c_11 => ?_)
  ·
   replace hx := ZU c_11 hx
   refine Za ?_
   obtain rfl := Option.some.inj hx
   exact ZR ⟨rfl, rfl, rfl⟩ ⟨rfl, rfl, rfl, rfl, trivial⟩ rfl rfl
  ·
   replace hx := ZV c_11 hx
   refine ZH (ZB (ZA rfl rfl (ZI rfl) (ZA rfl rfl (Z1 rfl rfl) (ZA rfl rfl (ZG rfl) (ZD (ZC (ZY rfl (fun c_12 => ?_) (fun c_12 => ?_))))))))
   ·
    replace hx := ZU c_12 hx
    refine Za ?_
    obtain rfl := Option.some.inj hx
    exact ZR ⟨rfl, rfl, rfl⟩ ⟨rfl, rfl, rfl, rfl, trivial⟩ rfl rfl
   ·
    replace hx := ZV c_12 hx
    refine ZB (ZA rfl rfl (ZI rfl) (ZA rfl rfl (ZI rfl) (ZA rfl rfl (Zr U45 rfl (IsSlice.long ha_2)) (ZA rfl rfl (R.gtr_i rfl rfl) (ZA rfl rfl (ZG rfl) (ZD ?_))))))
    obtain rfl := Option.some.inj hx
    exact ZR ⟨rfl, rfl, rfl⟩ ⟨rfl, rfl, rfl, rfl, trivial⟩ rfl rfl

set_option maxHeartbeats 8000000 in
theorem mix_number_ok (p_1 : List UInt8) (H : Heaplet) {aa_2 : Option Addr} {na_2 : Nat} {ca_2 : Nat} (ha_2 : IsSlice H RU8 1 (.slice aa_2 na_2 ca_2) p_1) (r : UInt32) (hx : mix_number p_1 = some r) :
  Does Try.prog 148 #[.slice aa_2 na_2 ca_2] [] H (fun u K' H' => u = .int .u32 (r.toNat : Int) ∧ K' = [] ∧ True) := by
 refine Does.enterL (vs := [.slice aa_2 na_2 ca_2]) (l := [(0, .slice aa_2 na_2 ca_2)]) Try.func148 rfl rfl ⟨rfl, trivial⟩ (fun w hlt => ?_)
 unfold mix_number at hx
 refine ZH (ZB (ZA rfl rfl (ZG rfl) (ZD (ZC (ZH (ZB (ZA rfl rfl (ZI rfl) ?_)))))))
 obtain ⟨x_3, hr_4, hx⟩ := ZJ hx
 refine ZO (vs := [_, _, _]) (args := [_, _, _]) (K := []) (rst := []) E83 rfl rfl rfl ZK (code_Get_ok p_1 0 4 _ ha_2 _ hr_4) rfl (fun u_5 Ku_5 Hu_5 hRu_5 hleu_5 hfu_5 => ?_)
 obtain ⟨rfl, rfl, -⟩ := hRu_5
 refine ZA rfl rfl (ZI rfl) (ZA rfl rfl (R.extract rfl rfl) (ZA rfl rfl (R.extract rfl rfl) (ZA rfl rfl (ZG rfl) (ZA rfl rfl (ZG rfl) (ZD (ZC (ZH (ZB (ZA rfl rfl (ZI rfl) (ZA rfl rfl (R.cv_i64_u32 U3 U26 rfl) (ZA rfl rfl (ZG rfl) ?_)))))))))))
 refine ZD (ZC (ZW (ZS (vs := [.int .u32 ((u32i x_3.1).toNat : Int)]) (K := []) (rst := []) (.inl rfl) rfl rfl (ZQ rfl rfl) ZK ?_)))
 obtain rfl := Option.some.inj hx
 exact ⟨rfl, rfl, trivial⟩

set_option maxHeartbeats 8000000 in
theorem math_bits_RotateLeft32_ok (p_1 : UInt32) (p_2 : Int) (H : Heaplet) (r : UInt32) (hx : math_bits_RotateLeft32 p_1 p_2 = some r) :
  Does Try.prog 186 #[.int .u32 (p_1.toNat : Int), .int .i64 p_2] [] H (fun u K' H' => u = .int .u32 (r.toNat : Int) ∧ K' = [] ∧ H = H' ∧ True) := by
 refine Does.enterL (vs := [.int .u32 (p_1.toNat : Int), .int .i64 p_2]) (l := [(0, .int .u32 (p_1.toNat : Int)), (1, .int .i64 p_2)]) Try.func186 rfl rfl ⟨rfl, rfl, trivial⟩ (fun w hlt => ?_)
 unfold math_bits_RotateLeft32 at hx
 refine ZH (ZB (ZA rfl rfl (ZG rfl) (ZD (ZC (ZH (ZB (ZA rfl rfl (ZI rfl) (ZA rfl rfl (R.cv_i64_u64 U3 U133 rfl) (ZA rfl rfl (R.and64 (a := u64i p_2) (b := (31 : UInt64)) rfl rfl) (ZA rfl rfl (ZG rfl) (ZD ?_)))))))))))
 refine ZC (ZH (ZB (ZA rfl rfl (ZI rfl) (ZA rfl rfl (ZI rfl) (ZA rfl rfl (R.shl32 (n := (((u64i p_2) &&& (31 : UInt64)).toNat : Int)) (a := p_1) rfl rfl (Int.natCast_nonneg _)) (ZA rfl rfl (ZI rfl) (ZA rfl rfl (ZI rfl) (ZA rfl rfl (R.sub64 (a := (32 : UInt64)) (b := (u64i p_2) &&& (31 : UInt64)) rfl rfl) (ZA rfl rfl (R.shr32 (n := (((32 : UInt64) - ((u64i p_2) &&& (31 : UInt64))).toNat : Int)) (a := p_1) rfl rfl (Int.natCast_nonneg _)) (ZA rfl rfl (R.or32 (a := sl32 p_1 ((((u64i p_2) &&& (31 : UInt64)).toNat : Int)).toNat) (b := sr32 p_1 ((((32 : UInt64) - ((u64i p_2) &&& (31 : UInt64))).toNat : Int)).toNat) rfl rfl) (ZA rfl rfl (ZG rfl) ?_)))))))))))
 refine ZD (ZC (ZW (ZS (vs := [.int .u32 (((sl32 p_1 ((((u64i p_2) &&& (31 : UInt64)).toNat : Int)).toNat) ||| (sr32 p_1 ((((32 : UInt64) - ((u64i p_2) &&& (31 : UInt64))).toNat : Int)).toNat)).toNat : Int)]) (K := []) (rst := []) (.inl rfl) rfl rfl (ZQ rfl rfl) ZK ?_)))
 obtain rfl := Option.some.inj hx
 exact ⟨rfl, rfl, rfl, trivial⟩

set_option maxHeartbeats 8000000 in
theorem mix_words_turned_1_ok (p_1 : Int) (p_2 : Int) (p_4 : A4 UInt32) (H : Heaplet) {b_3 : Nat} (r : A4 UInt32) (hx : mix_words_turned_1 p_1 p_2 p_4 = some r) :
  Does Try.prog 185 #[.int .i64 p_1, .int .i64 p_2, .pointer (some ⟨b_3, 0, none⟩)] [[(b_3, .cells #[.int .u32 (p_4.e0.toNat : Int), .int .u32 (p_4.e1.toNat : Int), .int .u32 (p_4.e2.toNat : Int), .int .u32 (p_4.e3.toNat : Int)] 161 (0, 0))]] H (fun u K' H' => u = .tuple #[] ∧ K' = [[(b_3, .cells #[.int .u32 (r.e0.toNat : Int), .int .u32 (r.e1.toNat : Int), .int .u32 (r.e2.toNat : Int), .int .u32 (r.e3.toNat : Int)] 161 (0, 0))]] ∧ H = H' ∧ True) := by
 refine Does.enterL (vs := [.int .i64 p_1, .int .i64 p_2, .pointer (some ⟨b_3, 0, none⟩)]) (l := [(0, .int .i64 p_1), (1, .int .i64 p_2), (2, .pointer (some ⟨b_3, 0, none⟩))]) Try.func185 rfl rfl ⟨rfl, rfl, rfl, trivial⟩ (fun w hlt => ?_)
 unfold mix_words_turned_1 at hx
 refine ZH (ZB (ZA rfl rfl (R.ixA 0 U161 S26 rfl rfl rfl) (ZA rfl rfl (ZZ 0 S26 rfl rfl rfl) (ZA rfl rfl (R.ixA 1 U161 S26 rfl rfl rfl) (ZA rfl rfl (ZZ 0 S26 rfl rfl rfl) (ZA rfl rfl (R.add32 (a := p_4.e0) (b := p_4.e1) rfl rfl) (ZA rfl rfl (R.ixA 0 U161 S26 rfl rfl rfl) (ZP 0 S26 rfl rfl rfl rfl rfl (Nat.le_of_ble_eq_true rfl) (ZD (ZC (ZH ?_)))))))))))
 refine ZB (ZA rfl rfl (R.ixA 3 U161 S26 rfl rfl rfl) (ZA rfl rfl (ZZ 0 S26 rfl rfl rfl) (ZA rfl rfl (R.ixA 0 U161 S26 rfl rfl rfl) (ZA rfl rfl (ZZ 0 S26 rfl rfl rfl) (ZA rfl rfl (R.xor32 (a := p_4.e3) (b := p_4.e0 + p_4.e1) rfl rfl) (ZA rfl rfl (ZI rfl) ?_))))))
 obtain ⟨x_5, hr_6, hx⟩ := ZJ hx
 refine ZO (vs := [_, _]) (args := [_, _]) (K := []) (rst := [_]) E186 rfl rfl rfl ZK (math_bits_RotateLeft32_ok (p_4.e3 ^^^ (p_4.e0 + p_4.e1)) p_1 _ _ hr_6) rfl (fun u_7 Ku_7 Hu_7 hRu_7 hleu_7 hfu_7 => ?_)
 obtain ⟨rfl, rfl, rfl, -⟩ := hRu_7
 refine ZA rfl rfl (R.ixA 3 U161 S26 rfl rfl rfl) (ZP 0 S26 rfl rfl rfl rfl rfl (Nat.le_of_ble_eq_true rfl) (ZD (ZC (ZH (ZB (ZA rfl rfl (R.ixA 2 U161 S26 rfl rfl rfl) (ZA rfl rfl (ZZ 0 S26 rfl rfl rfl) (ZA rfl rfl (R.ixA 3 U161 S26 rfl rfl rfl) (ZA rfl rfl (ZZ 0 S26 rfl rfl rfl) (ZA rfl rfl (R.add32 (a := p_4.e2) (b := x_5) rfl rfl) (ZA rfl rfl (R.ixA 2 U161 S26 rfl rfl rfl) ?_)))))))))))
 refine ZP 0 S26 rfl rfl rfl rfl rfl (Nat.le_of_ble_eq_true rfl) (ZD (ZC (ZB (ZA rfl rfl (R.ixA 1 U161 S26 rfl rfl rfl) (ZA rfl rfl (ZZ 0 S26 rfl rfl rfl) (ZA rfl rfl (R.ixA 2 U161 S26 rfl rfl rfl) (ZA rfl rfl (ZZ 0 S26 rfl rfl rfl) (ZA rfl rfl (R.xor32 (a := p_4.e1) (b := p_4.e2 + x_5) rfl rfl) (ZA rfl rfl (ZI rfl) ?_)))))))))
 obtain ⟨x_8, hr_9, hx⟩ := ZJ hx
 refine ZO (vs := [_, _]) (args := [_, _]) (K := []) (rst := [_]) E186 rfl rfl rfl ZK (math_bits_RotateLeft32_ok (p_4.e1 ^^^ (p_4.e2 + x_5)) p_2 _ _ hr_9) rfl (fun u_10 Ku_10 Hu_10 hRu_10 hleu_10 hfu_10 => ?_)
 obtain ⟨rfl, rfl, rfl, -⟩ := hRu_10
 refine ZA rfl rfl (R.ixA 1 U161 S26 rfl rfl rfl) (ZP 0 S26 rfl rfl rfl rfl rfl (Nat.le_of_ble_eq_true rfl) (ZD (ZS (vs := []) (K := [_]) (rst := []) (.inr rfl) rfl rfl rfl (Ze 0 rfl ZK) ?_)))
 obtain rfl := Option.some.inj hx
 exact ⟨rfl, rfl, rfl, trivial⟩

set_option maxHeartbeats 8000000 in
theorem mix_words_turned_ok (p_1 : A4 UInt32) (H : Heaplet) (r : A4 UInt32) (hx : mix_words_turned p_1 = some r) :
  Does Try.prog 175 #[.agg #[.int .u32 (p_1.e0.toNat : Int), .int .u32 (p_1.e1.toNat : Int), .int .u32 (p_1.e2.toNat : Int), .int .u32 (p_1.e3.toNat : Int)]] [] H (fun u K' H' => u = .agg #[.int .u32 (r.e0.toNat : Int), .int .u32 (r.e1.toNat : Int), .int .u32 (r.e2.toNat : Int), .int .u32 (r.e3.toNat : Int)] ∧ K' = [] ∧ H = H' ∧ True) := by
 refine Does.enterL (vs := [.agg #[.int .u32 (p_1.e0.toNat : Int), .int .u32 (p_1.e1.toNat : Int), .int .u32 (p_1.e2.toNat : Int), .int .u32 (p_1.e3.toNat : Int)]]) (l := [(0, .agg #[.int .u32 (p_1.e0.toNat : Int), .int .u32 (p_1.e1.toNat : Int), .int .u32 (p_1.e2.toNat : Int), .int .u32 (p_1.e3.toNat : Int)])]) Try.func175 rfl rfl ⟨rfl, trivial⟩ (fun w hlt => ?_)
 unfold mix_words_turned at hx
 refine ZH (ZB (Z7 rfl rfl (fun b_2 hb_2 => JL.alloc Z161 rfl (fun b_3 hb_3 => ZD (ZC (ZH (ZB (ZA rfl rfl (R.func (vf := []) (vc := [_]) rfl rfl) (ZA rfl rfl (ZG rfl) (ZD (ZC ?_)))))))))))
 refine ZH (ZB (ZA rfl rfl (ZI rfl) ?_))
 obtain ⟨x_4, hr_5, hx⟩ := ZJ hx
 refine ZO (vs := [_, _]) (args := [_, _, _]) (K := [_]) (rst := [_]) E185 rfl rfl rfl (Ze 1 rfl ZK) (mix_words_turned_1_ok 15 11 p_1 _ _ hr_5) rfl (fun u_6 Ku_6 Hu_6 hRu_6 hleu_6 hfu_6 => ?_)
 obtain ⟨rfl, rfl, rfl, -⟩ := hRu_6
 refine ZD (ZC (ZH (ZB (ZA rfl rfl (ZI rfl) ?_))))
 obtain ⟨x_7, hr_8, hx⟩ := ZJ hx
 refine ZO (vs := [_, _]) (args := [_, _, _]) (K := [_]) (rst := [_]) E185 rfl rfl rfl (Ze 0 rfl ZK) (mix_words_turned_1_ok 9 6 x_4 _ _ hr_8) rfl (fun u_9 Ku_9 Hu_9 hRu_9 hleu_9 hfu_9 => ?_)
 obtain ⟨rfl, rfl, rfl, -⟩ := hRu_9
 refine ZD (ZC (ZH (ZB (ZA rfl rfl (Zh 0 (vs := [.int .u32 (x_7.e0.toNat : Int), .int .u32 (x_7.e1.toNat : Int), .int .u32 (x_7.e2.toNat : Int), .int .u32 (x_7.e3.toNat : Int)]) S161 rfl rfl rfl rfl) (ZP 1 S161 rfl rfl rfl rfl rfl (Nat.le_of_ble_eq_true rfl) (ZD (ZC (ZW (ZS (vs := [.agg #[.int .u32 (x_7.e0.toNat : Int), .int .u32 (x_7.e1.toNat : Int), .int .u32 (x_7.e2.toNat : Int), .int .u32 (x_7.e3.toNat : Int)]]) (K := []) (rst := [_, _]) (.inl rfl) rfl rfl (Zq 1 rfl rfl S161 rfl) ZK ?_)))))))))
 obtain rfl := Option.some.inj hx
 exact ⟨rfl, rfl, rfl, trivial⟩

set_option maxHeartbeats 8000000 in
theorem mix_words_often_ok (p_1 : A4 UInt32) (p_2 : Int) (H : Heaplet) (r : A4 UInt32) (hx : mix_words_often p_1 p_2 = some r) :
  Does Try.prog 149 #[.agg #[.int .u32 (p_1.e0.toNat : Int), .int .u32 (p_1.e1.toNat : Int), .int .u32 (p_1.e2.toNat : Int), .int .u32 (p_1.e3.toNat : Int)], .int .i64 p_2] [] H (fun u K' H' => u = .agg #[.int .u32 (r.e0.toNat : Int), .int .u32 (r.e1.toNat : Int), .int .u32 (r.e2.toNat : Int), .int .u32 (r.e3.toNat : Int)] ∧ K' = [] ∧ H = H' ∧ True) := by
 refine Does.enterL (vs := [.agg #[.int .u32 (p_1.e0.toNat : Int), .int .u32 (p_1.e1.toNat : Int), .int .u32 (p_1.e2.toNat : Int), .int .u32 (p_1.e3.toNat : Int)], .int .i64 p_2]) (l := [(0, .agg #[.int .u32 (p_1.e0.toNat : Int), .int .u32 (p_1.e1.toNat : Int), .int .u32 (p_1.e2.toNat : Int), .int .u32 (p_1.e3.toNat : Int)]), (1, .int .i64 p_2)]) Try.func149 rfl rfl ⟨rfl, rfl, trivial⟩ (fun w hlt => ?_)
 unfold mix_words_often at hx
 refine ZH (ZB (Z7 rfl rfl (fun b_3 hb_3 => JL.alloc Z161 rfl (fun b_4 hb_4 => ZD (ZC (ZH (ZH (ZB (ZA rfl rfl (ZI rfl) (ZA rfl rfl (ZI rfl) (ZD ?_)))))))))))
 refine ZC ?_
 obtain ⟨t_5, ht_7, hx⟩ := ZJ hx
 refine Zy (fun l o g => l = [(2, .pointer (some ⟨b_3, 0, none⟩)), (4, .pointer (some ⟨b_4, 0, none⟩))] ∧ o = [[(b_3, .cells #[.int .u32 (t_5.1.toNat : Int), .int .u32 (t_5.2.1.toNat : Int), .int .u32 (t_5.2.2.1.toNat : Int), .int .u32 (t_5.2.2.2.toNat : Int)] 161 (0, 0))], [(b_4, .cells #[.int .u32 ((0 : UInt32).toNat : Int), .int .u32 ((0 : UInt32).toNat : Int), .int .u32 ((0 : UInt32).toNat : Int), .int .u32 ((0 : UInt32).toNat : Int)] 161 (0, 0))]] ∧ H = g) ?_ ?_
 ·
  rintro _ _ _ ⟨rfl, rfl, rfl⟩
  refine ZC (ZH (ZB (ZA rfl rfl (Zh 0 (vs := [.int .u32 (t_5.1.toNat : Int), .int .u32 (t_5.2.1.toNat : Int), .int .u32 (t_5.2.2.1.toNat : Int), .int .u32 (t_5.2.2.2.toNat : Int)]) S161 rfl rfl rfl rfl) (ZP 1 S161 rfl rfl rfl rfl rfl (Nat.le_of_ble_eq_true rfl) (ZD (ZC (ZW (ZS (vs := [.agg #[.int .u32 (t_5.1.toNat : Int), .int .u32 (t_5.2.1.toNat : Int), .int .u32 (t_5.2.2.1.toNat : Int), .int .u32 (t_5.2.2.2.toNat : Int)]]) (K := []) (rst := [_, _]) (.inl rfl) rfl rfl (Zq 1 rfl rfl S161 rfl) ZK ?_))))))))
  obtain rfl := Option.some.inj hx
  exact ⟨rfl, rfl, rfl, trivial⟩
 ·
  have hxo_6 := hx; clear hx; have hx := ht_7; clear ht_7
  refine JC.block (Zv 1 rfl (Z9 (fun n l o g => ∃ s_8 : UInt32 × UInt32 × UInt32 × UInt32 × Int, l = [(2, .pointer (some ⟨b_3, 0, none⟩)), (4, .pointer (some ⟨b_4, 0, none⟩)), (5, .int .i64 p_2), (6, .int .i64 s_8.2.2.2.2)] ∧ o = [[(b_3, .cells #[.int .u32 (s_8.1.toNat : Int), .int .u32 (s_8.2.1.toNat : Int), .int .u32 (s_8.2.2.1.toNat : Int), .int .u32 (s_8.2.2.2.1.toNat : Int)] 161 (0, 0))], [(b_4, .cells #[.int .u32 ((0 : UInt32).toNat : Int), .int .u32 ((0 : UInt32).toNat : Int), .int .u32 ((0 : UInt32).toNat : Int), .int .u32 ((0 : UInt32).toNat : Int)] 161 (0, 0))]] ∧ H = g ∧ run (mix_words_often_l1 p_2) n s_8 = some t_5) FUEL ?_ ⟨(p_1.e0, p_1.e1, p_1.e2, p_1.e3, 0), rfl, rfl, rfl, hx⟩ ⟨rfl, rfl, rfl, rfl, trivial⟩ ?_))
  ·
   rintro _ _ _ ⟨s_8, rfl, rfl, rfl, hn_9⟩
   exact Z5 hn_9
  ·
   rintro n_10 _ _ _ ⟨s_8, rfl, rfl, rfl, hn_9⟩
   clear hx; obtain ⟨oo_12, hx, hd_11⟩ := Z6 hn_9
   unfold mix_words_often_l1 at hx
   refine ZH (ZB (ZA rfl rfl (Z1 rfl rfl) (ZD (ZC (ZH (ZY rfl (fun c_11 => ?_) (fun c_11 => ?_)))))))
   ·
    replace hx := ZU c_11 hx
    refine Za (ZC (ZH (JC.block (ZB (ZA rfl rfl (Zh 0 (vs := [.int .u32 (s_8.1.toNat : Int), .int .u32 (s_8.2.1.toNat : Int), .int .u32 (s_8.2.2.1.toNat : Int), .int .u32 (s_8.2.2.2.1.toNat : Int)]) S161 rfl rfl rfl rfl) ?_)))))
    obtain ⟨x_12, hr_13, hx⟩ := ZJ hx
    refine ZO (vs := [_]) (args := [_]) (K := []) (rst := [_, _]) E175 rfl rfl rfl ZK (mix_words_turned_ok (A4.mk s_8.1 s_8.2.1 s_8.2.2.1 s_8.2.2.2.1) _ _ hr_13) rfl (fun u_14 Ku_14 Hu_14 hRu_14 hleu_14 hfu_14 => ?_)
    obtain ⟨rfl, rfl, rfl, -⟩ := hRu_14
    refine ZP 0 S161 rfl rfl rfl rfl rfl (Nat.le_of_ble_eq_true rfl) (ZD (Zl (ZC (ZB (ZA rfl rfl (R.add_i rfl rfl) (ZA rfl rfl (ZI rfl) (ZD ?_)))))))
    replace hx := Zm hd_11 hx
    refine ZL 1 rfl (ZL 1 rfl ?_)
    exact ZR ⟨(x_12.e0, x_12.e1, x_12.e2, x_12.e3, w64 (s_8.2.2.2.2 + 1)), rfl, rfl, rfl, hx⟩ ⟨rfl, rfl, rfl, rfl, trivial⟩ rfl rfl
   ·
    replace hx := ZV c_11 hx
    refine Z0 (ZX ?_)
    obtain rfl := Zw hd_11 hx
    refine ZX (Zd (ZL 1 rfl (ZL 1 rfl ?_)))
    exact ZR ⟨rfl, rfl, rfl⟩ ⟨rfl, rfl, trivial⟩ rfl rfl

set_option maxHeartbeats 8000000 in
theorem mix_four_ok (p_1 : List UInt8) (H : Heaplet) {aa_2 : Option Addr} {na_2 : Nat} {ca_2 : Nat} (ha_2 : IsSlice H RU8 1 (.slice aa_2 na_2 ca_2) p_1) (r : A4 UInt32) (hx : mix_four p_1 = some r) :
  Does Try.prog 113 #[.slice aa_2 na_2 ca_2] [] H (fun u K' H' => u = .agg #[.int .u32 (r.e0.toNat : Int), .int .u32 (r.e1.toNat : Int), .int .u32 (r.e2.toNat : Int), .int .u32 (r.e3.toNat : Int)] ∧ K' = [] ∧ True) := by
 refine Does.enterML (vs := [.slice aa_2 na_2 ca_2]) (l := [(0, .slice aa_2 na_2 ca_2)]) Try.func113 rfl rfl ⟨rfl, trivial⟩ (fun w hlt => ?_)
 unfold mix_four at hx
 refine ZH (ZB (JL.alloc Z161 rfl (fun b_3 hb_3 => ZD (ZC (ZH (ZB (ZA rfl rfl (R.bldA (vs := [(0, .int .u32 ((1 : UInt32).toNat : Int)), (1, .int .u32 ((2 : UInt32).toNat : Int)), (2, .int .u32 ((3 : UInt32).toNat : Int)), (3, .int .u32 ((4 : UInt32).toNat : Int))]) (cells := #[.int .u32 ((1 : UInt32).toNat : Int), .int .u32 ((2 : UInt32).toNat : Int), .int .u32 ((3 : UInt32).toNat : Int), .int .u32 ((4 : UInt32).toNat : Int)]) Z161 B161 rfl rfl rfl rfl) (JL.alloc Z161 rfl (fun b_4 hb_4 => ZP 0 S161 rfl rfl rfl rfl rfl (Nat.le_of_ble_eq_true rfl) (ZD (ZC ?_)))))))))))
 refine ZH (ZB (ZA rfl rfl (ZI rfl) ?_))
 obtain ⟨x_5, hr_6, hx⟩ := ZJ hx
 refine ZO (vs := [_]) (args := [_]) (K := []) (rst := [_, _]) E147 rfl rfl rfl ZK (slices_Clone_byte_ok p_1 _ ha_2 _ hr_6) rfl (fun u_7 Ku_7 Hu_7 hRu_7 hleu_7 hfu_7 => ?_)
 obtain ⟨ar_8, nr_8, cr_8, Kr_8, rfl, rfl, rfl, hr_8, hnewr_8, -⟩ := hRu_7
 replace hr_8 := (RowOf.base (Zj (H2 := New H H) RU8.const hr_8) (fun p hp => (hfu_7 p (Zk 0 rfl hp)).resolve_left (hnewr_8 p hp)))
 refine JL.pubN 0 RU8.mono rfl hr_8 (Nat.le_refl _) (fun H_9 hleH_9 hsH_9 => JL.forget 0 ?_)
 obtain ⟨x_10, hr_11, hx⟩ := ZJ hx
 refine ZO (vs := [_]) (args := [_]) (K := []) (rst := [_, _]) E146 rfl rfl rfl ZK (slices_Clip_byte_ok x_5 _ (hsH_9.old RU8.mono) _ hr_11) rfl (fun u_12 Ku_12 Hu_12 hRu_12 hleu_12 hfu_12 => ?_)
 obtain ⟨az_13, nz_13, rfl, rfl, rfl, hz_13, -⟩ := hRu_12
 refine JL.bslF (HF := (New H H_9)) (R := RU8) (ls := [(1 : UInt8)]) (vs := [.int .u8 ((1 : UInt8).toNat : Int)]) U45 I5 rfl rfl (⟨_, _, rfl, rfl, rfl, rfl⟩) RU8.one rfl rfl rfl (by simp [maxLen]) rfl (fun vr_14 Kr_14 hr_14 => ?_)
 obtain ⟨ar_14, cr_14, rfl⟩ := RowOf.val hr_14
 obtain ⟨q_15, hm_16, hl_17, hx⟩ := Zz hx
 refine JL.appC (HF := (New H H_9)) U45 I5 rfl RU8.one (Hle.refl _) hz_13 (fun _ _ h => RU8.const _ _ _ _ h) rfl (SrcF.row 0 U45 rfl (Zj RU8.const hr_14)) (List.cons_ne_nil _ _) hm_16 hl_17 rfl rfl (fun vr_18 Kr_18 hr_18 => ?_)
 obtain ⟨ar_18, cr_18, rfl⟩ := RowOf.val hr_18
 refine ZA rfl rfl (ZG rfl) (ZD (ZC (ZH ?_)))
 obtain ⟨t_19, ht_21, hx⟩ := ZJ hx
 refine Zy (fun l o g => ∃ ar_26 : Option Addr, ∃ nr_26 : Nat, ∃ cr_26 : Nat, ∃ Kr_26 : Own, l = [(0, .slice aa_2 na_2 ca_2), (2, .pointer (some ⟨b_3, 0, none⟩)), (3, .pointer (some ⟨b_4, 0, none⟩)), (4, .slice ar_26 nr_26 cr_26)] ∧ o = [[(b_3, .cells #[.int .u32 ((0 : UInt32).toNat : Int), .int .u32 ((0 : UInt32).toNat : Int), .int .u32 ((0 : UInt32).toNat : Int), .int .u32 ((0 : UInt32).toNat : Int)] 161 (0, 0))], [(b_4, .cells #[.int .u32 ((1 : UInt32).toNat : Int), .int .u32 ((2 : UInt32).toNat : Int), .int .u32 ((3 : UInt32).toNat : Int), .int .u32 ((4 : UInt32).toNat : Int)] 161 (0, 0))], Kr_26] ∧ H_9 = g ∧ RowOf (New H H_9) RU8 w.heap.size 5 1 (.slice ar_26 nr_26 cr_26) t_19 Kr_26) ?_ ?_
 ·
  rintro _ _ _ ⟨ar_26, nr_26, cr_26, Kr_26, rfl, rfl, rfl, hr_26⟩
  refine ZC (ZH (ZH (ZB (ZA rfl rfl (ZI rfl) (JL.pubN 2 RU8.mono rfl hr_26 (Nat.le_refl _) (fun H_27 hleH_27 hsH_27 => JL.forget 2 ?_))))))
  obtain ⟨x_28, hr_29, hx⟩ := ZJ hx
  refine ZO (vs := [_, _]) (args := [_, _]) (K := []) (rst := [_, _]) E95 rfl rfl rfl ZK (slices_Chunk_byte_ok t_19 8 _ (hsH_27.old RU8.mono) _ hr_29) rfl (fun u_30 Ku_30 Hu_30 hRu_30 hleu_30 hfu_30 => ?_)
  obtain ⟨bit_31, cit_31, rfl, rfl, hit_31, kit_31, pit_31, -⟩ := hRu_30
  refine ZD (ZC (JC.block ?_))
  obtain ⟨t_32, ht_34, hx⟩ := ZJ hx
  refine Zv 1 rfl (Zv 1 rfl (JC.rangeL (RA := fun H' args (y : List UInt8) => ∃ ao : Option Addr, args = #[.slice ao y.length y.length] ∧ IsSlice H' RU8 1 (.slice ao y.length y.length) y) rfl mix_four_r2 ((1 : UInt32), (2 : UInt32), (3 : UInt32), (4 : UInt32)) t_32 ht_34 (fun s_35 o g => ∃ H_41 : Heaplet, o = [[(b_3, .cells #[.int .u32 ((0 : UInt32).toNat : Int), .int .u32 ((0 : UInt32).toNat : Int), .int .u32 ((0 : UInt32).toNat : Int), .int .u32 ((0 : UInt32).toNat : Int)] 161 (0, 0))], [(b_4, .cells #[.int .u32 (s_35.1.toNat : Int), .int .u32 (s_35.2.1.toNat : Int), .int .u32 (s_35.2.2.1.toNat : Int), .int .u32 (s_35.2.2.2.toNat : Int)] 161 (0, 0))]] ∧ H_41 = g ∧ Hle Hu_30 H_41) (fun e c o g => False) rfl E136 (slices_Chunk_byte_it t_19 8 pit_31 _ ((hsH_27.mono RU8.mono (New.mono hleu_30)).old RU8.mono) hit_31 kit_31) (fun _ _ _ h => by obtain ⟨_, h, _⟩ := h; rw [h]; rfl) rfl ⟨Hu_30, rfl, rfl, (Hle.refl _)⟩ ?_ ?_ ?_))
  ·
   rintro lr_37 y_36 s_35 args o g out_39 ⟨H_41, rfl, rfl, hleH_41⟩ hA hx2
   clear hx; have hx := hx2; clear hx2; unfold mix_four_r2 at hx
   obtain ⟨aoit_31, rfl, hyit_31⟩ := hA
   refine ⟨[(0, .slice aa_2 na_2 ca_2), (2, .pointer (some ⟨b_3, 0, none⟩)), (3, .pointer (some ⟨b_4, 0, none⟩)), (5, .slice aoit_31 y_36.length y_36.length)], fun wb_38 hwb_38 => ?_, fun wb_38 hwb_38 => ?_⟩
   ·
    refine ZB (ZA rfl rfl (ZG rfl) (ZD ?_))
    exact JN.assigned ⟨rfl, rfl, rfl, rfl, trivial⟩
   ·
    refine JC.block (ZH ?_)
    obtain ⟨t_42, ht_44, hx⟩ := ZJ hx
    refine Zy (fun l o g => ∃ H_55 : Heaplet, l = [(0, .slice aa_2 na_2 ca_2), (2, .pointer (some ⟨b_3, 0, none⟩)), (3, .pointer (some ⟨b_4, 0, none⟩)), (5, .slice aoit_31 y_36.length y_36.length)] ∧ o = [[(b_3, .cells #[.int .u32 ((0 : UInt32).toNat : Int), .int .u32 ((0 : UInt32).toNat : Int), .int .u32 ((0 : UInt32).toNat : Int), .int .u32 ((0 : UInt32).toNat : Int)] 161 (0, 0))], [(b_4, .cells #[.int .u32 (t_42.toNat : Int), .int .u32 (s_35.2.1.toNat : Int), .int .u32 (s_35.2.2.1.toNat : Int), .int .u32 (s_35.2.2.2.toNat : Int)] 161 (0, 0))]] ∧ H_55 = g ∧ Hle H_41 H_55) ?_ ?_
    ·
     rintro _ _ _ ⟨H_55, rfl, rfl, rfl, hleH_55⟩
     refine ZC (ZH (JC.draw (so := [_]) 8 rfl Mixed ⟨⟨0, rfl⟩, trivial⟩ (JA.val ⟨by kernel_rfl, by kernel_rfl⟩ (ZF _) (i := 0) rfl ⟨by kernel_rfl, by kernel_rfl, rfl⟩ trivial (ZE (Hle.refl _) ⟨⟨0, rfl⟩, trivial⟩) (R.ixA 2 U161 S26 rfl rfl rfl) rfl (JA.val ⟨by kernel_rfl, by kernel_rfl⟩ (ZF _) (i := 2) rfl ⟨by kernel_rfl, by kernel_rfl, rfl⟩ trivial (ZE (Hle.refl _) ⟨⟨0, rfl⟩, trivial⟩) (ZI rfl) rfl ?_))))
     obtain ⟨m_56, hm_58, hb_57, hx⟩ := slc_some hx
     obtain ⟨vv_59, cv_59, h1v_59, h2v_59, h3v_59, hsv_59⟩ := IsSlice.cutv (hyit_31.mono RU8.mono hleH_55) hm_58 hb_57
     refine JA.val ⟨by kernel_rfl, by kernel_rfl⟩ (ZF _) (i := 3) rfl ⟨by kernel_rfl, by kernel_rfl, rfl⟩ trivial (ZE (Hle.refl _) ⟨⟨0, rfl⟩, trivial⟩) (R.slc (cap := cv_59) (a := 4) (b := (y_36.length : Int)) (c := (cv_59 : Int)) (m := y_36) (R := RU8) U45 S5 rfl ⟨_, rfl⟩ rfl (by obtain ⟨ao, n, e, _⟩ := h1v_59; exact ⟨ao, n, e, rfl⟩) ⟨hb_57.1, hb_57.2.1, h2v_59⟩ h3v_59 (.inl rfl)) rfl ?_
     obtain ⟨av_59, cv_59', rfl⟩ := IsSlice.val hsv_59
     refine JA.two (i := 1) (j := 4) (by kernel_rfl) ?_ ?_
     ·
      refine JO.step rfl trivial rfl (fun K hK => ZA rfl rfl (ZZ 1 S26 rfl rfl rfl) (ZD (hK _ _ _ (ZE (Hle.refl _) ⟨⟨0, rfl⟩, trivial⟩) (JA.one (i := 4) (by kernel_rfl) (JO.step rfl trivial rfl (fun K hK => ?_))))))
      obtain ⟨x_60, hr_61, hx⟩ := ZJ hx
      refine ZO (vs := [_]) (args := [_]) (K := []) (rst := [_, _]) E148 rfl rfl rfl ZK (mix_number_ok m_56 _ hsv_59 _ hr_61) rfl (fun u_62 Ku_62 Hu_62 hRu_62 hleu_62 hfu_62 => ?_)
      obtain ⟨rfl, rfl, -⟩ := hRu_62
      refine ZD (hK _ _ _ (ZE hleu_62 ⟨⟨0, rfl⟩, trivial⟩) (JA.val ⟨by kernel_rfl, by kernel_rfl⟩ (ZF _) (i := 5) rfl ⟨by kernel_rfl, by kernel_rfl, rfl⟩ trivial (ZE hleu_62 ⟨⟨0, rfl⟩, trivial⟩) (R.xor32 (a := s_35.2.2.1) (b := x_60) rfl rfl) rfl (JA.val ⟨by kernel_rfl, by kernel_rfl⟩ (ZF _) (i := 6) rfl ⟨by kernel_rfl, by kernel_rfl, rfl⟩ trivial (ZE hleu_62 ⟨⟨0, rfl⟩, trivial⟩) (R.ixA 2 U161 S26 rfl rfl rfl) rfl (JA.one (i := 7) (by kernel_rfl) (JO.step rfl trivial rfl (fun K hK => ZP 1 S26 rfl rfl rfl rfl rfl (Nat.le_of_ble_eq_true rfl) (ZD (hK _ _ _ (ZE hleu_62 ⟨⟨0, rfl⟩, trivial⟩) (Zg (by kernel_rfl) (ZC (ZB ?_)))))))))))
      refine ZA rfl rfl (Zh 1 (vs := [.int .u32 (t_42.toNat : Int), .int .u32 (s_35.2.1.toNat : Int), .int .u32 ((s_35.2.2.1 ^^^ x_60).toNat : Int), .int .u32 (s_35.2.2.2.toNat : Int)]) S161 rfl rfl rfl rfl) ?_
      obtain ⟨x_63, hr_64, hx⟩ := ZJ hx
      refine ZO (vs := [_, _]) (args := [_, _]) (K := []) (rst := [_, _]) E149 rfl rfl rfl ZK (mix_words_often_ok (A4.mk t_42 s_35.2.1 (s_35.2.2.1 ^^^ x_60) s_35.2.2.2) 4 _ _ hr_64) rfl (fun u_65 Ku_65 Hu_65 hRu_65 hleu_65 hfu_65 => ?_)
      obtain ⟨rfl, rfl, rfl, -⟩ := hRu_65
      refine ZP 1 S161 rfl rfl rfl rfl rfl (Nat.le_of_ble_eq_true rfl) (ZD (Zl ?_))
      obtain rfl := Option.some.inj hx
      refine ZL 1 rfl (ZL 1 rfl ?_)
      exact JN.rN ⟨Hu_62, rfl, rfl, ((hleH_41.trans (hleH_55.trans hleu_62)))⟩
     ·
      refine JO.step rfl trivial rfl (fun K hK => ?_)
      obtain ⟨x_66, hr_67, hx⟩ := ZJ hx
      refine ZO (vs := [_]) (args := [_]) (K := []) (rst := [_, _]) E148 rfl rfl rfl ZK (mix_number_ok m_56 _ hsv_59 _ hr_67) rfl (fun u_68 Ku_68 Hu_68 hRu_68 hleu_68 hfu_68 => ?_)
      obtain ⟨rfl, rfl, -⟩ := hRu_68
      refine ZD (hK _ _ _ (ZE hleu_68 ⟨⟨0, rfl⟩, trivial⟩) (JA.one (i := 1) (by kernel_rfl) (JO.step rfl trivial rfl (fun K hK => ZA rfl rfl (ZZ 1 S26 rfl rfl rfl) (ZD (hK _ _ _ (ZE hleu_68 ⟨⟨0, rfl⟩, trivial⟩) (JA.val ⟨by kernel_rfl, by kernel_rfl⟩ (ZF _) (i := 5) rfl ⟨by kernel_rfl, by kernel_rfl, rfl⟩ trivial (ZE hleu_68 ⟨⟨0, rfl⟩, trivial⟩) (R.xor32 (a := s_35.2.2.1) (b := x_66) rfl rfl) rfl (JA.val ⟨by kernel_rfl, by kernel_rfl⟩ (ZF _) (i := 6) rfl ⟨by kernel_rfl, by kernel_rfl, rfl⟩ trivial (ZE hleu_68 ⟨⟨0, rfl⟩, trivial⟩) (R.ixA 2 U161 S26 rfl rfl rfl) rfl (JA.one (i := 7) (by kernel_rfl) (JO.step rfl trivial rfl (fun K hK => ZP 1 S26 rfl rfl rfl rfl rfl (Nat.le_of_ble_eq_true rfl) ?_)))))))))))
      refine ZD (hK _ _ _ (ZE hleu_68 ⟨⟨0, rfl⟩, trivial⟩) (Zg (by kernel_rfl) (ZC (ZB (ZA rfl rfl (Zh 1 (vs := [.int .u32 (t_42.toNat : Int), .int .u32 (s_35.2.1.toNat : Int), .int .u32 ((s_35.2.2.1 ^^^ x_66).toNat : Int), .int .u32 (s_35.2.2.2.toNat : Int)]) S161 rfl rfl rfl rfl) ?_)))))
      obtain ⟨x_69, hr_70, hx⟩ := ZJ hx
      refine ZO (vs := [_, _]) (args := [_, _]) (K := []) (rst := [_, _]) E149 rfl rfl rfl ZK (mix_words_often_ok (A4.mk t_42 s_35.2.1 (s_35.2.2.1 ^^^ x_66) s_35.2.2.2) 4 _ _ hr_70) rfl (fun u_71 Ku_71 Hu_71 hRu_71 hleu_71 hfu_71 => ?_)
      obtain ⟨rfl, rfl, rfl, -⟩ := hRu_71
      refine ZP 1 S161 rfl rfl rfl rfl rfl (Nat.le_of_ble_eq_true rfl) (ZD (Zl ?_))
      obtain rfl := Option.some.inj hx
      refine ZL 1 rfl (ZL 1 rfl ?_)
      exact JN.rN ⟨Hu_68, rfl, rfl, ((hleH_41.trans (hleH_55.trans hleu_68)))⟩
    ·
     have hxo_43 := hx; clear hx; have hx := ht_44; clear ht_44
     refine JC.draw (so := [_]) 8 rfl Mixed ⟨⟨0, rfl⟩, trivial⟩ (JA.val ⟨by kernel_rfl, by kernel_rfl⟩ (ZF _) (i := 0) rfl ⟨by kernel_rfl, by kernel_rfl, rfl⟩ trivial (ZE (Hle.refl _) ⟨⟨0, rfl⟩, trivial⟩) (R.ixA 0 U161 S26 rfl rfl rfl) rfl (JA.val ⟨by kernel_rfl, by kernel_rfl⟩ (ZF _) (i := 2) rfl ⟨by kernel_rfl, by kernel_rfl, rfl⟩ trivial (ZE (Hle.refl _) ⟨⟨0, rfl⟩, trivial⟩) (ZI rfl) rfl ?_))
     obtain ⟨m_45, hm_47, hb_46, hx⟩ := slc_some hx
     obtain ⟨vv_48, cv_48, h1v_48, h2v_48, h3v_48, hsv_48⟩ := IsSlice.cutv hyit_31 hm_47 hb_46
     refine JA.val ⟨by kernel_rfl, by kernel_rfl⟩ (ZF _) (i := 3) rfl ⟨by kernel_rfl, by kernel_rfl, rfl⟩ trivial (ZE (Hle.refl _) ⟨⟨0, rfl⟩, trivial⟩) (R.slc (cap := cv_48) (a := 0) (b := 4) (c := (cv_48 : Int)) (m := y_36) (R := RU8) U45 S5 rfl rfl ⟨_, rfl⟩ (by obtain ⟨ao, n, e, _⟩ := h1v_48; exact ⟨ao, n, e, rfl⟩) ⟨hb_46.1, hb_46.2.1, h2v_48⟩ h3v_48 (.inl rfl)) rfl ?_
     obtain ⟨av_48, cv_48', rfl⟩ := IsSlice.val hsv_48
     refine JA.two (i := 1) (j := 4) (by kernel_rfl) ?_ ?_
     ·
      refine JO.step rfl trivial rfl (fun K hK => ZA rfl rfl (ZZ 1 S26 rfl rfl rfl) (ZD (hK _ _ _ (ZE (Hle.refl _) ⟨⟨0, rfl⟩, trivial⟩) (JA.one (i := 4) (by kernel_rfl) (JO.step rfl trivial rfl (fun K hK => ?_))))))
      obtain ⟨x_49, hr_50, hx⟩ := ZJ hx
      refine ZO (vs := [_]) (args := [_]) (K := []) (rst := [_, _]) E148 rfl rfl rfl ZK (mix_number_ok m_45 _ hsv_48 _ hr_50) rfl (fun u_51 Ku_51 Hu_51 hRu_51 hleu_51 hfu_51 => ?_)
      obtain ⟨rfl, rfl, -⟩ := hRu_51
      refine ZD (hK _ _ _ (ZE hleu_51 ⟨⟨0, rfl⟩, trivial⟩) (JA.val ⟨by kernel_rfl, by kernel_rfl⟩ (ZF _) (i := 5) rfl ⟨by kernel_rfl, by kernel_rfl, rfl⟩ trivial (ZE hleu_51 ⟨⟨0, rfl⟩, trivial⟩) (R.xor32 (a := s_35.1) (b := x_49) rfl rfl) rfl (JA.val ⟨by kernel_rfl, by kernel_rfl⟩ (ZF _) (i := 6) rfl ⟨by kernel_rfl, by kernel_rfl, rfl⟩ trivial (ZE hleu_51 ⟨⟨0, rfl⟩, trivial⟩) (R.ixA 0 U161 S26 rfl rfl rfl) rfl (JA.one (i := 7) (by kernel_rfl) (JO.step rfl trivial rfl (fun K hK => ZP 1 S26 rfl rfl rfl rfl rfl (Nat.le_of_ble_eq_true rfl) (ZD (hK _ _ _ (ZE hleu_51 ⟨⟨0, rfl⟩, trivial⟩) (Zg (by kernel_rfl) ?_)))))))))
      obtain rfl := Option.some.inj hx
      refine ZL 1 rfl (ZL 1 rfl ?_)
      exact ZR ⟨Hu_51, rfl, rfl, rfl, (hleu_51)⟩ ⟨rfl, rfl, rfl, rfl, trivial⟩ rfl rfl
     ·
      refine JO.step rfl trivial rfl (fun K hK => ?_)
      obtain ⟨x_52, hr_53, hx⟩ := ZJ hx
      refine ZO (vs := [_]) (args := [_]) (K := []) (rst := [_, _]) E148 rfl rfl rfl ZK (mix_number_ok m_45 _ hsv_48 _ hr_53) rfl (fun u_54 Ku_54 Hu_54 hRu_54 hleu_54 hfu_54 => ?_)
      obtain ⟨rfl, rfl, -⟩ := hRu_54
      refine ZD (hK _ _ _ (ZE hleu_54 ⟨⟨0, rfl⟩, trivial⟩) (JA.one (i := 1) (by kernel_rfl) (JO.step rfl trivial rfl (fun K hK => ZA rfl rfl (ZZ 1 S26 rfl rfl rfl) (ZD (hK _ _ _ (ZE hleu_54 ⟨⟨0, rfl⟩, trivial⟩) (JA.val ⟨by kernel_rfl, by kernel_rfl⟩ (ZF _) (i := 5) rfl ⟨by kernel_rfl, by kernel_rfl, rfl⟩ trivial (ZE hleu_54 ⟨⟨0, rfl⟩, trivial⟩) (R.xor32 (a := s_35.1) (b := x_52) rfl rfl) rfl (JA.val ⟨by kernel_rfl, by kernel_rfl⟩ (ZF _) (i := 6) rfl ⟨by kernel_rfl, by kernel_rfl, rfl⟩ trivial (ZE hleu_54 ⟨⟨0, rfl⟩, trivial⟩) (R.ixA 0 U161 S26 rfl rfl rfl) rfl (JA.one (i := 7) (by kernel_rfl) (JO.step rfl trivial rfl (fun K hK => ZP 1 S26 rfl rfl rfl rfl rfl (Nat.le_of_ble_eq_true rfl) ?_)))))))))))
      refine ZD (hK _ _ _ (ZE hleu_54 ⟨⟨0, rfl⟩, trivial⟩) (Zg (by kernel_rfl) ?_))
      obtain rfl := Option.some.inj hx
      refine ZL 1 rfl (ZL 1 rfl ?_)
      exact ZR ⟨Hu_54, rfl, rfl, rfl, (hleu_54)⟩ ⟨rfl, rfl, rfl, rfl, trivial⟩ rfl rfl
  ·
   rintro D_40 s_35 o g hD_40 htt ⟨H_41, rfl, rfl, hleH_41⟩ hle2
   subst htt; simp only [Sum.elim_inl] at hx
   refine Zl (ZC (ZH (ZB (ZA rfl rfl (R.ixA 1 U161 S26 rfl rfl rfl) (ZA rfl rfl (ZZ 2 S26 rfl rfl rfl) (ZA rfl rfl (ZI rfl) (ZA rfl rfl (Zr U45 rfl (IsSlice.long ha_2)) (ZA rfl rfl (R.cv_i64_u32 U3 U26 rfl) (ZA rfl rfl (R.xor32 (a := s_35.2.1) (b := u32i (p_1.length : Int)) rfl rfl) (ZA rfl rfl (R.ixA 1 U161 S26 rfl rfl rfl) (ZP 2 S26 rfl rfl rfl rfl rfl (Nat.le_of_ble_eq_true rfl) ?_)))))))))))
   refine ZD (ZC (ZH (ZB (ZA rfl rfl (Zh 2 (vs := [.int .u32 (s_35.1.toNat : Int), .int .u32 ((s_35.2.1 ^^^ (u32i (p_1.length : Int))).toNat : Int), .int .u32 (s_35.2.2.1.toNat : Int), .int .u32 (s_35.2.2.2.toNat : Int)]) S161 rfl rfl rfl rfl) ?_))))
   obtain ⟨x_42, hr_43, hx⟩ := ZJ hx
   refine ZO (vs := [_, _]) (args := [_, _]) (K := []) (rst := [_, _, _]) E149 rfl rfl rfl ZK (mix_words_often_ok (A4.mk s_35.1 (s_35.2.1 ^^^ (u32i (p_1.length : Int))) s_35.2.2.1 s_35.2.2.2) 8 _ _ hr_43) rfl (fun u_44 Ku_44 Hu_44 hRu_44 hleu_44 hfu_44 => ?_)
   obtain ⟨rfl, rfl, rfl, -⟩ := hRu_44
   refine ZP 1 S161 rfl rfl rfl rfl rfl (Nat.le_of_ble_eq_true rfl) (ZD (ZC (ZW (JN.outMP (vs := [.agg #[.int .u32 (x_42.e0.toNat : Int), .int .u32 (x_42.e1.toNat : Int), .int .u32 (x_42.e2.toNat : Int), .int .u32 (x_42.e3.toNat : Int)]]) (K := []) (rst := [_, _]) (own2 := [_, _]) [D_40] (.inl rfl) ⟨rfl, rfl, rfl, rfl⟩ rfl rfl (Ze 0 rfl ZK) (Zq 0 rfl rfl S161 rfl) ZK ?_))))
   obtain rfl := Option.some.inj hx
   exact ⟨rfl, rfl, trivial⟩
  ·
   rintro D c e o g hD htt hX; exact hX.elim
 ·
  have hxo_20 := hx; clear hx; have hx := ht_21; clear ht_21
  refine JC.block (JC.forget 1 (Zv 1 rfl (Zv 2 rfl (Z9 (fun n l o g => ∃ s_22 : List UInt8, ∃ ar_25 : Option Addr, ∃ nr_25 : Nat, ∃ cr_25 : Nat, ∃ Kr_25 : Own, l = [(0, .slice aa_2 na_2 ca_2), (2, .pointer (some ⟨b_3, 0, none⟩)), (3, .pointer (some ⟨b_4, 0, none⟩)), (4, .slice ar_25 nr_25 cr_25)] ∧ o = [[(b_3, .cells #[.int .u32 ((0 : UInt32).toNat : Int), .int .u32 ((0 : UInt32).toNat : Int), .int .u32 ((0 : UInt32).toNat : Int), .int .u32 ((0 : UInt32).toNat : Int)] 161 (0, 0))], [(b_4, .cells #[.int .u32 ((1 : UInt32).toNat : Int), .int .u32 ((2 : UInt32).toNat : Int), .int .u32 ((3 : UInt32).toNat : Int), .int .u32 ((4 : UInt32).toNat : Int)] 161 (0, 0))], Kr_25] ∧ H_9 = g ∧ run mix_four_l1 n s_22 = some t_19 ∧ RowOf (New H H_9) RU8 w.heap.size 5 1 (.slice ar_25 nr_25 cr_25) s_22 Kr_25) FUEL ?_ ⟨q_15, ar_18, q_15.length, cr_18, Kr_18, rfl, rfl, rfl, hx, hr_18⟩ ⟨rfl, rfl, rfl, rfl, trivial⟩ ?_))))
  ·
   rintro _ _ _ ⟨s_22, ar_25, nr_25, cr_25, Kr_25, rfl, rfl, rfl, hn_23, hr_25⟩
   exact Z5 hn_23
  ·
   rintro n_24 _ _ _ ⟨s_22, ar_25, nr_25, cr_25, Kr_25, rfl, rfl, rfl, hn_23, hr_25⟩
   clear hx; obtain ⟨oo_27, hx, hd_26⟩ := Z6 hn_23
   unfold mix_four_l1 at hx
   refine ZH (ZH (ZB (ZA rfl rfl (ZI rfl) (ZA rfl rfl (Zr U45 rfl (RowOf.long hr_25)) (ZA rfl rfl (R.rem_i rfl rfl (by decide)) (ZA rfl rfl (R.neq_i rfl rfl) (ZD (ZC (ZY rfl (fun c_26 => ?_) (fun c_26 => ?_))))))))))
   ·
    replace hx := ZU c_26 hx
    refine Za (ZC (JC.block (ZB (ZA rfl rfl (ZI rfl) (JL.bslF (HF := (New H H_9)) (R := RU8) (ls := [(0 : UInt8)]) (vs := [.int .u8 ((0 : UInt8).toNat : Int)]) U45 I5 rfl rfl (⟨_, _, rfl, rfl, rfl, rfl⟩) RU8.one rfl rfl rfl (by simp [maxLen]) rfl (fun vr_27 Kr_27 hr_27 => ?_))))))
    obtain ⟨ar_27, cr_27, rfl⟩ := RowOf.val hr_27
    obtain ⟨q_28, hm_29, hl_30, hx⟩ := Zz hx
    refine Z2 (HF := (New H H_9)) 3 U45 I5 rfl rfl hr_25 rfl (SrcF.row 0 U45 rfl hr_27) hm_29 hl_30 rfl (Nat.le_refl _) rfl (fun vr_31 Kr_31 hr_31 => ?_)
    obtain ⟨ar_31, cr_31, rfl⟩ := RowOf.val hr_31
    refine ZA rfl rfl (ZG rfl) (ZD (Zl ?_))
    replace hx := Zm hd_26 hx
    refine JN.forget 0 (ZL 2 rfl (ZL 2 rfl (ZL 2 rfl ?_)))
    exact ZR ⟨q_28, ar_31, q_28.length, cr_31, Kr_31, rfl, rfl, rfl, hx, hr_31⟩ ⟨rfl, rfl, rfl, rfl, trivial⟩ rfl rfl
   ·
    replace hx := ZV c_26 hx
    refine Z0 (ZX ?_)
    obtain rfl := Zw hd_26 hx
    refine ZX (Zd (ZL 2 rfl (ZL 2 rfl (ZL 2 rfl ?_))))
    exact ZR ⟨ar_25, nr_25, cr_25, Kr_25, rfl, rfl, rfl, hr_25⟩ ⟨rfl, rfl, rfl, rfl, trivial⟩ rfl rfl

set_option maxHeartbeats 8000000 in
theorem mix_Sum_ok (p_1 : List UInt8) (H : Heaplet) {aa_2 : Option Addr} {na_2 : Nat} {ca_2 : Nat} (ha_2 : IsSlice H RU8 1 (.slice aa_2 na_2 ca_2) p_1) (r : UInt32) (hx : mix_Sum p_1 = some r) :
  Does Try.prog 74 #[.slice aa_2 na_2 ca_2] [] H (fun u K' H' => u = .int .u32 (r.toNat : Int) ∧ K' = [] ∧ True) := by
 refine Does.enterL (vs := [.slice aa_2 na_2 ca_2]) (l := [(0, .slice aa_2 na_2 ca_2)]) Try.func74 rfl rfl ⟨rfl, trivial⟩ (fun w hlt => ?_)
 unfold mix_Sum at hx
 refine ZH (ZB (ZA rfl rfl (ZG rfl) (ZD (ZC (ZH (ZB (ZA rfl rfl (ZI rfl) ?_)))))))
 obtain ⟨x_3, hr_4, hx⟩ := ZJ hx
 refine ZO (vs := [_]) (args := [_]) (K := []) (rst := []) E113 rfl rfl rfl ZK (mix_four_ok p_1 _ ha_2 _ hr_4) rfl (fun u_5 Ku_5 Hu_5 hRu_5 hleu_5 hfu_5 => ?_)
 obtain ⟨rfl, rfl, -⟩ := hRu_5
 refine ZA rfl rfl (R.idxAk 0 U161 S26 rfl rfl rfl rfl rfl) (ZA rfl rfl (ZG rfl) (ZD (ZC (ZW (ZS (vs := [.int .u32 (x_3.e0.toNat : Int)]) (K := []) (rst := []) (.inl rfl) rfl rfl (ZQ rfl rfl) ZK ?_)))))
 obtain rfl := Option.some.inj hx
 exact ⟨rfl, rfl, trivial⟩

set_option maxHeartbeats 8000000 in
theorem label_block_ok (p_1 : Label) (H : Heaplet) (r : List UInt8) (hx : label_block p_1 = some r) :
  Does Try.prog 39 #[.agg #[.int .u32 (p_1.Gen.toNat : Int), .int .u32 (p_1.Epoch.toNat : Int), .int .i64 p_1.Root.At, .int .u32 (p_1.Root.Birth.toNat : Int), .int .u32 (p_1.Root.Iv.toNat : Int), .int .u32 (p_1.Root.Tag.toNat : Int), .int .u32 (p_1.Root.Sum.toNat : Int)]] [] H (fun u K' H' => ∃ ao0 : Option Addr, ∃ n0 : Nat, ∃ cap0 : Nat, ∃ K0 : Own, u = .slice ao0 n0 cap0 ∧ K' = [K0] ∧ H = H' ∧ RowOf (New H H) RU8 0 5 1 (.slice ao0 n0 cap0) r K0 ∧ (∀ p ∈ K0, p.1 ∉ ids (List.flatten [])) ∧ True) := by
 refine Does.enterL (vs := [.agg #[.int .u32 (p_1.Gen.toNat : Int), .int .u32 (p_1.Epoch.toNat : Int), .int .i64 p_1.Root.At, .int .u32 (p_1.Root.Birth.toNat : Int), .int .u32 (p_1.Root.Iv.toNat : Int), .int .u32 (p_1.Root.Tag.toNat : Int), .int .u32 (p_1.Root.Sum.toNat : Int)]]) (l := [(0, .agg #[.int .u32 (p_1.Gen.toNat : Int), .int .u32 (p_1.Epoch.toNat : Int), .int .i64 p_1.Root.At, .int .u32 (p_1.Root.Birth.toNat : Int), .int .u32 (p_1.Root.Iv.toNat : Int), .int .u32 (p_1.Root.Tag.toNat : Int), .int .u32 (p_1.Root.Sum.toNat : Int)])]) Try.func39 rfl rfl ⟨rfl, trivial⟩ (fun w hlt => ?_)
 unfold label_block at hx
 refine ZH (ZB (Z7 rfl rfl (fun b_2 hb_2 => ZA rfl rfl (ZG rfl) (ZD (ZC (ZH (ZB (ZA rfl rfl (Zo F30_0 rfl) (ZA rfl rfl (ZZ 0 S26 rfl rfl rfl) (ZA rfl rfl (R.cv_u32_i64 (a := p_1.Gen) U26 U3 rfl) ?_))))))))))
 obtain ⟨x_3, hr_4, hx⟩ := ZJ hx
 refine ZO (vs := [_, _]) (args := [_, _]) (K := []) (rst := [_]) E72 rfl rfl rfl ZK (code_Put_ok (p_1.Gen.toNat : Int) 4 _ _ hr_4) rfl (fun u_5 Ku_5 Hu_5 hRu_5 hleu_5 hfu_5 => ?_)
 obtain ⟨ar_6, nr_6, cr_6, Kr_6, rfl, rfl, rfl, hr_6, hnewr_6, -⟩ := hRu_5
 replace hr_6 := (RowOf.base (Zj (H2 := New H H) RU8.const hr_6) (fun p hp => (hfu_5 p (Zk 0 rfl hp)).resolve_left (hnewr_6 p hp)))
 refine ZA rfl rfl (ZI rfl) (ZA rfl rfl (R.extract rfl rfl) (ZA rfl rfl (R.extract rfl rfl) (ZA rfl rfl (ZG rfl) (ZA rfl rfl (ZG rfl) (ZD (ZC (ZH (ZB (ZA rfl rfl (Zo F30_1 rfl) (ZA rfl rfl (ZZ 1 S26 rfl rfl rfl) (ZA rfl rfl (R.cv_u32_i64 (a := p_1.Epoch) U26 U3 rfl) ?_)))))))))))
 obtain ⟨x_7, hr_8, hx⟩ := ZJ hx
 refine ZO (vs := [_, _]) (args := [_, _]) (K := []) (rst := [_, _]) E72 rfl rfl rfl ZK (code_Put_ok (p_1.Epoch.toNat : Int) 4 _ _ hr_8) rfl (fun u_9 Ku_9 Hu_9 hRu_9 hleu_9 hfu_9 => ?_)
 obtain ⟨ar_10, nr_10, cr_10, Kr_10, rfl, rfl, rfl, hr_10, hnewr_10, -⟩ := hRu_9
 replace hr_10 := (RowOf.base (Zj (H2 := New H H) RU8.const hr_10) (fun p hp => (hfu_9 p (Zk 0 rfl hp)).resolve_left (hnewr_10 p hp)))
 refine ZA rfl rfl (ZI rfl) (ZA rfl rfl (R.extract rfl rfl) (ZA rfl rfl (R.extract rfl rfl) (ZA rfl rfl (ZG rfl) (ZA rfl rfl (ZG rfl) (ZD (ZC (ZH (ZB (ZA rfl rfl (Zo F30_2 rfl) (ZA rfl rfl (Zh 2 (vs := [.int .i64 p_1.Root.At, .int .u32 (p_1.Root.Birth.toNat : Int), .int .u32 (p_1.Root.Iv.toNat : Int), .int .u32 (p_1.Root.Tag.toNat : Int), .int .u32 (p_1.Root.Sum.toNat : Int)]) S28 rfl rfl rfl rfl) ?_))))))))))
 obtain ⟨x_11, hr_12, hx⟩ := ZJ hx
 refine ZO (vs := [_]) (args := [_]) (K := []) (rst := [_, _, _]) E73 rfl rfl rfl ZK (ptr_Write_ok (Ptr.mk p_1.Root.At p_1.Root.Birth p_1.Root.Iv p_1.Root.Tag p_1.Root.Sum) _ _ hr_12) rfl (fun u_13 Ku_13 Hu_13 hRu_13 hleu_13 hfu_13 => ?_)
 obtain ⟨ar_14, nr_14, cr_14, Kr_14, rfl, rfl, rfl, hr_14, hnewr_14, -⟩ := hRu_13
 replace hr_14 := (RowOf.base (Zj (H2 := New H H) RU8.const hr_14) (fun p hp => (hfu_13 p (Zk 0 rfl hp)).resolve_left (hnewr_14 p hp)))
 refine ZA rfl rfl (ZI rfl) (ZA rfl rfl (R.extract rfl rfl) (ZA rfl rfl (R.extract rfl rfl) (ZA rfl rfl (ZG rfl) (ZA rfl rfl (ZG rfl) (ZD (ZC (ZH (ZB (JL.bslF (HF := (New H H)) (R := RU8) (ls := [(67 : UInt8)]) (vs := [.int .u8 ((67 : UInt8).toNat : Int)]) U45 I5 rfl rfl (⟨_, _, rfl, rfl, rfl, rfl⟩) RU8.one rfl rfl rfl (by simp [maxLen]) rfl (fun vr_15 Kr_15 hr_15 => ?_))))))))))
 obtain ⟨ar_15, cr_15, rfl⟩ := RowOf.val hr_15
 refine ZA rfl rfl (ZI rfl) ?_
 obtain ⟨q_16, hm_17, hl_18, hx⟩ := Zz hx
 refine Z2 (HF := (New H H)) 0 U45 I5 rfl rfl hr_15 rfl (SrcF.row 3 U45 rfl hr_6) hm_17 hl_18 rfl (Nat.le_refl _) rfl (fun vr_19 Kr_19 hr_19 => ?_)
 obtain ⟨ar_19, cr_19, rfl⟩ := RowOf.val hr_19
 refine ZA rfl rfl (ZI rfl) ?_
 obtain ⟨q_20, hm_21, hl_22, hx⟩ := Zz hx
 refine Z2 (HF := (New H H)) 0 U45 I5 rfl rfl hr_19 rfl (SrcF.row 2 U45 rfl hr_10) hm_21 hl_22 rfl (Nat.le_refl _) rfl (fun vr_23 Kr_23 hr_23 => ?_)
 obtain ⟨ar_23, cr_23, rfl⟩ := RowOf.val hr_23
 refine ZA rfl rfl (ZI rfl) ?_
 obtain ⟨q_24, hm_25, hl_26, hx⟩ := Zz hx
 refine Z2 (HF := (New H H)) 0 U45 I5 rfl rfl hr_23 rfl (SrcF.row 1 U45 rfl hr_14) hm_25 hl_26 rfl (Nat.le_refl _) rfl (fun vr_27 Kr_27 hr_27 => ?_)
 obtain ⟨ar_27, cr_27, rfl⟩ := RowOf.val hr_27
 refine ZA rfl rfl (ZG rfl) (ZD (ZC (ZH (ZB (ZA rfl rfl (ZI rfl) ?_)))))
 obtain ⟨x_31, hr_32, hx⟩ := ZJ hx
 refine JL.callL2 (vs := [_]) (v := .int .u32 (x_31.toNat : Int)) E74 rfl rfl (fun H_30 hle_29 hl_28 => Does.mono (mix_Sum_ok q_24 _ (Lent.row' 0 hl_28 RU8.mono hle_29 rfl (hr_27.old RU8.mono)) _ hr_32) (fun _ _ _ h => h.1)) rfl (ZA rfl rfl (R.cv_u32_i64 (a := x_31) U26 U3 rfl) ?_)
 obtain ⟨x_33, hr_34, hx⟩ := ZJ hx
 refine ZO (vs := [_, _]) (args := [_, _]) (K := []) (rst := [_, _, _, _, _]) E72 rfl rfl rfl ZK (code_Put_ok (x_31.toNat : Int) 4 _ _ hr_34) rfl (fun u_35 Ku_35 Hu_35 hRu_35 hleu_35 hfu_35 => ?_)
 obtain ⟨ar_36, nr_36, cr_36, Kr_36, rfl, rfl, rfl, hr_36, hnewr_36, -⟩ := hRu_35
 replace hr_36 := (RowOf.base (Zj (H2 := New H H) RU8.const hr_36) (fun p hp => (hfu_35 p (Zk 0 rfl hp)).resolve_left (hnewr_36 p hp)))
 refine ZA rfl rfl (ZI rfl) (ZA rfl rfl (R.extract rfl rfl) (ZA rfl rfl (R.extract rfl rfl) (ZA rfl rfl (ZG rfl) (ZA rfl rfl (ZG rfl) (ZD (ZC (JC.tidyP (l' := [(2, .slice none 0 0), (9, .slice ar_27 q_24.length cr_27), (10, .slice ar_36 nr_36 cr_36)]) (own' := [Kr_36, Kr_27]) (rst := [_, _, _, _]) ⟨rfl, rfl, rfl, trivial⟩ (Ze 0 rfl (Ze 0 rfl ZK)) (ZH (ZB (ZA rfl rfl (ZI rfl) (ZA rfl rfl (ZI rfl) ?_)))))))))))
 obtain ⟨q_37, hm_38, hl_39, hx⟩ := Zz hx
 refine Z2 (HF := (New H H)) 1 U45 I5 rfl rfl hr_27 rfl (SrcF.row 0 U45 rfl hr_36) hm_38 hl_39 rfl (Nat.le_refl _) rfl (fun vr_40 Kr_40 hr_40 => ?_)
 obtain ⟨ar_40, cr_40, rfl⟩ := RowOf.val hr_40
 obtain ⟨z_43, hz_42, hc_41, hx⟩ := mks_some hx
 obtain ⟨q_44, hm_45, hl_46, hx⟩ := Zz hx
 refine JL.appZR (HF := (New H H)) (y := (0 : UInt8)) 1 U45 U3 I5 rfl rfl hr_40 rfl (fun _ => rfl) RU8.one hz_42 hc_41 hm_45 hl_46 rfl (Nat.le_refl _) rfl (fun vr_47 Kr_47 hr_47 => ?_)
 obtain ⟨ar_47, cr_47, rfl⟩ := RowOf.val hr_47
 refine ZA rfl rfl (ZG rfl) (ZD (ZC (ZW (ZS (vs := [.slice ar_47 q_44.length cr_47]) (K := [_]) (rst := [_]) (.inl rfl) rfl rfl (ZQ rfl rfl) (Ze 1 rfl ZK) ?_))))
 obtain rfl := Option.some.inj hx
 exact ⟨ar_47, q_44.length, cr_47, Kr_47, rfl, rfl, rfl, (Zs (Nat.zero_le _) hr_47), (new_ids hr_47 hlt), trivial⟩

set_option maxHeartbeats 8000000 in
theorem dev_Write_1_ok (p_2 : Disk) (H : Heaplet) {b_1 : Nat} {aa_3 : Option Addr} {na_3 : Nat} {ca_3 : Nat} {aa_4 : Option Addr} {na_4 : Nat} {ca_4 : Nat} (ha_3 : IsSlice H (RSl RU8 1) 1 (.slice aa_3 na_3 ca_3) p_2.Blocks) (ha_4 : IsSlice H R_Write 2 (.slice aa_4 na_4 ca_4) p_2.Waits) (r : Disk × Disk) (hx : dev_Write_1 p_2 = some r) :
  Does Try.prog 69 #[.pointer (some ⟨b_1, 0, none⟩)] [[(b_1, .cells #[.slice aa_3 na_3 ca_3, .slice aa_4 na_4 ca_4] 25 (0, 0))]] H (fun u K' H' => ∃ ao0 : Option Addr, ∃ n0 : Nat, ∃ cap0 : Nat, ∃ ao1 : Option Addr, ∃ n1 : Nat, ∃ cap1 : Nat, ∃ ao2 : Option Addr, ∃ n2 : Nat, ∃ cap2 : Nat, ∃ ao3 : Option Addr, ∃ n3 : Nat, ∃ cap3 : Nat, u = .agg #[.slice ao2 n2 cap2, .slice ao3 n3 cap3] ∧ K' = [[(b_1, .cells #[.slice ao0 n0 cap0, .slice ao1 n1 cap1] 25 (0, 0))]] ∧ H = H' ∧ IsSlice H (RSl RU8 1) 1 (.slice ao0 n0 cap0) r.2.Blocks ∧ IsSlice H R_Write 2 (.slice ao1 n1 cap1) r.2.Waits ∧ IsSlice H (RSl RU8 1) 1 (.slice ao2 n2 cap2) r.1.Blocks ∧ IsSlice H R_Write 2 (.slice ao3 n3 cap3) r.1.Waits ∧ True) := by
 refine Does.enterL (vs := [.pointer (some ⟨b_1, 0, none⟩)]) (l := [(0, .pointer (some ⟨b_1, 0, none⟩))]) Try.func69 rfl rfl ⟨rfl, trivial⟩ (fun w hlt => ?_)
 unfold dev_Write_1 at hx
 refine ZH (ZB (JL.alloc Z25 rfl (fun b_5 hb_5 => ZD (ZC (ZH (ZB (ZA rfl rfl (Zh 1 (vs := [.slice aa_3 na_3 ca_3, .slice aa_4 na_4 ca_4]) S25 rfl rfl rfl rfl) (ZP 0 S25 rfl rfl rfl rfl rfl (Nat.le_of_ble_eq_true rfl) (ZD (ZC (ZW ?_)))))))))))
 refine ZS (vs := [.agg #[.slice aa_3 na_3 ca_3, .slice aa_4 na_4 ca_4]]) (K := [_]) (rst := [_]) (.inl rfl) rfl rfl (Zq 0 rfl rfl S25 rfl) (Ze 1 rfl ZK) ?_
 obtain rfl := Option.some.inj hx
 exact ⟨aa_3, na_3, ca_3, aa_4, na_4, ca_4, aa_3, na_3, ca_3, aa_4, na_4, ca_4, rfl, rfl, rfl, ha_3, ha_4, ha_3, ha_4, trivial⟩

set_option maxHeartbeats 8000000 in
theorem dev_guarded_ok (p_1 : Disk) (p_4 : Bool) (p_6 : Disk) (H : Heaplet) {aa_2 : Option Addr} {na_2 : Nat} {ca_2 : Nat} {aa_3 : Option Addr} {na_3 : Nat} {ca_3 : Nat} {b_5 : Nat} {aa_7 : Option Addr} {na_7 : Nat} {ca_7 : Nat} {aa_8 : Option Addr} {na_8 : Nat} {ca_8 : Nat} (ha_2 : IsSlice H (RSl RU8 1) 1 (.slice aa_2 na_2 ca_2) p_1.Blocks) (ha_3 : IsSlice H R_Write 2 (.slice aa_3 na_3 ca_3) p_1.Waits) (ha_7 : IsSlice H (RSl RU8 1) 1 (.slice aa_7 na_7 ca_7) p_6.Blocks) (ha_8 : IsSlice H R_Write 2 (.slice aa_8 na_8 ca_8) p_6.Waits) (r : Disk × Int × Disk) (hx : dev_guarded p_1 p_4 p_6 = some r) :
  Does Try.prog 68 #[.agg #[.slice aa_2 na_2 ca_2, .slice aa_3 na_3 ca_3], .bool p_4, .func (.func 69) #[] #[.pointer (some ⟨b_5, 0, none⟩)]] [[(b_5, .cells #[.slice aa_7 na_7 ca_7, .slice aa_8 na_8 ca_8] 25 (0, 0))]] H (fun u K' H' => ∃ ao0 : Option Addr, ∃ n0 : Nat, ∃ cap0 : Nat, ∃ ao1 : Option Addr, ∃ n1 : Nat, ∃ cap1 : Nat, ∃ ao2 : Option Addr, ∃ n2 : Nat, ∃ cap2 : Nat, ∃ ao3 : Option Addr, ∃ n3 : Nat, ∃ cap3 : Nat, u = .tuple #[.agg #[.slice ao2 n2 cap2, .slice ao3 n3 cap3], .int .i64 r.2.1] ∧ K' = [[(b_5, .cells #[.slice ao0 n0 cap0, .slice ao1 n1 cap1] 25 (0, 0))]] ∧ H = H' ∧ IsSlice H (RSl RU8 1) 1 (.slice ao0 n0 cap0) r.2.2.Blocks ∧ IsSlice H R_Write 2 (.slice ao1 n1 cap1) r.2.2.Waits ∧ IsSlice H (RSl RU8 1) 1 (.slice ao2 n2 cap2) r.1.Blocks ∧ IsSlice H R_Write 2 (.slice ao3 n3 cap3) r.1.Waits ∧ True) := by
 refine Does.enterL (vs := [.agg #[.slice aa_2 na_2 ca_2, .slice aa_3 na_3 ca_3], .bool p_4, .func (.func 69) #[] #[.pointer (some ⟨b_5, 0, none⟩)]]) (l := [(0, .agg #[.slice aa_2 na_2 ca_2, .slice aa_3 na_3 ca_3]), (1, .bool p_4), (2, .func (.func 69) #[] #[.pointer (some ⟨b_5, 0, none⟩)])]) Try.func68 rfl rfl ⟨rfl, rfl, rfl, trivial⟩ (fun w hlt => ?_)
 unfold dev_guarded at hx
 refine ZH (ZB (Z7 rfl rfl (fun b_9 hb_9 => JL.alloc Z25 rfl (fun b_10 hb_10 => ZA rfl rfl (ZG rfl) (ZD (ZC (ZH (ZB (ZA rfl rfl (Zh 1 (vs := [.slice aa_2 na_2 ca_2, .slice aa_3 na_3 ca_3]) S25 rfl rfl rfl rfl) ?_)))))))))
 obtain ⟨x_11, hr_12, hx⟩ := ZJ hx
 refine ZO (vs := [_]) (args := [_]) (K := []) (rst := [_, _, _]) E36 rfl rfl rfl ZK (dev_Check_ok p_1 _ ha_2 ha_3 _ hr_12) rfl (fun u_13 Ku_13 Hu_13 hRu_13 hleu_13 hfu_13 => ?_)
 obtain ⟨rfl, rfl, rfl, -⟩ := hRu_13
 refine ZA rfl rfl (ZG rfl) (ZD (ZC (ZH (JC.block (ZH (ZB (ZA rfl rfl (ZI rfl) (ZA rfl rfl (R.neq_i rfl rfl) (ZA rfl rfl (ZG rfl) (ZD (ZC ?_)))))))))))
 refine ZY rfl (fun c_14 => ?_) (fun c_14 => ?_)
 ·
  replace hx := ZU c_14 hx
  refine ZH (ZB (ZA rfl rfl (R.bldP (vs := []) (cs := [.slice none 0 0, .slice none 0 0]) Z25 B25 rfl rfl rfl) (ZA rfl rfl (ZI rfl) (ZP 0 S25 rfl rfl rfl rfl rfl (Nat.le_of_ble_eq_true rfl) (ZA rfl rfl (ZG rfl) (ZD (ZC (ZW (JN.blkR (Zc (ZS (vs := [.agg #[.slice none 0 0, .slice none 0 0], .int .i64 x_11]) (K := [_]) (rst := [_, _]) (.inl rfl) rfl rfl (Zq 0 rfl rfl S25 (ZQ rfl rfl)) (Ze 2 rfl ZK) ?_)))))))))))
  obtain rfl := Option.some.inj hx
  exact ⟨aa_7, na_7, ca_7, aa_8, na_8, ca_8, none, 0, 0, none, 0, 0, rfl, rfl, rfl, ha_7, ha_8, (IsSlice.nil _ _ _), (IsSlice.nil _ _ _), trivial⟩
 ·
  replace hx := ZV c_14 hx
  refine ZH (ZB (ZA rfl rfl (ZI rfl) (ZA rfl rfl (R.not rfl) (ZA rfl rfl (ZG rfl) (ZD (ZC (ZY rfl (fun c_15 => ?_) (fun c_15 => ?_))))))))
  ·
   replace hx := ZU c_15 hx
   refine ZH (ZB (ZA rfl rfl (R.bldP (vs := []) (cs := [.slice none 0 0, .slice none 0 0]) Z25 B25 rfl rfl rfl) (ZP 0 S25 rfl rfl rfl rfl rfl (Nat.le_of_ble_eq_true rfl) (ZA rfl rfl (ZG rfl) (ZD (ZC (ZW (JN.blkR (Zc (ZS (vs := [.agg #[.slice none 0 0, .slice none 0 0], .int .i64 2]) (K := [_]) (rst := [_, _]) (.inl rfl) rfl rfl (Zq 0 rfl rfl S25 (ZQ rfl rfl)) (Ze 2 rfl ZK) ?_))))))))))
   obtain rfl := Option.some.inj hx
   exact ⟨aa_7, na_7, ca_7, aa_8, na_8, ca_8, none, 0, 0, none, 0, 0, rfl, rfl, rfl, ha_7, ha_8, (IsSlice.nil _ _ _), (IsSlice.nil _ _ _), trivial⟩
  ·
   replace hx := ZV c_15 hx
   refine Za (Zl (ZC (ZH (ZB (ZA rfl rfl (ZI rfl) ?_)))))
   obtain ⟨x_16, hr_17, hx⟩ := ZJ hx
   refine ZO (vs := []) (args := [_]) (K := [_]) (rst := [_, _]) E69 rfl rfl rfl (Ze 2 rfl ZK) (dev_Write_1_ok p_6 _ ha_7 ha_8 _ hr_17) rfl (fun u_18 Ku_18 Hu_18 hRu_18 hleu_18 hfu_18 => ?_)
   obtain ⟨az_19, nz_19, cz_19, az_20, nz_20, cz_20, az_21, nz_21, cz_21, az_22, nz_22, cz_22, rfl, rfl, rfl, hz_19, hz_20, hz_21, hz_22, -⟩ := hRu_18
   refine ZP 1 S25 rfl rfl rfl rfl rfl (Nat.le_of_ble_eq_true rfl) (ZA rfl rfl (ZG rfl) (ZD (ZC (ZW (ZS (vs := [.agg #[.slice az_21 nz_21 cz_21, .slice az_22 nz_22 cz_22], .int .i64 0]) (K := [_]) (rst := [_, _]) (.inl rfl) rfl rfl (Zq 1 rfl rfl S25 (ZQ rfl rfl)) (Ze 0 rfl ZK) ?_)))))
   obtain rfl := Option.some.inj hx
   exact ⟨az_19, nz_19, cz_19, az_20, nz_20, cz_20, az_21, nz_21, cz_21, az_22, nz_22, cz_22, rfl, rfl, rfl, hz_19, hz_20, hz_21, hz_22, trivial⟩

set_option maxHeartbeats 8000000 in
theorem slices_Clip_Write_ok (p_1 : List Write) (H : Heaplet) {aa_2 : Option Addr} {na_2 : Nat} {ca_2 : Nat} (ha_2 : IsSlice H R_Write 2 (.slice aa_2 na_2 ca_2) p_1) (r : List Write) (hx : slices_Clip_Write p_1 = some r) :
  Does Try.prog 71 #[.slice aa_2 na_2 ca_2] [] H (fun u K' H' => ∃ ao0 : Option Addr, ∃ n0 : Nat, u = .slice ao0 n0 n0 ∧ K' = [] ∧ H = H' ∧ IsSlice H R_Write 2 (.slice ao0 n0 n0) r ∧ True) := by
 refine Does.enterL (vs := [.slice aa_2 na_2 ca_2]) (l := [(0, .slice aa_2 na_2 ca_2)]) Try.func71 rfl rfl ⟨rfl, trivial⟩ (fun w hlt => ?_)
 unfold slices_Clip_Write at hx
 refine ZH (ZB (ZA rfl rfl (ZG rfl) (ZD (ZC (ZH (ZB (ZA rfl rfl (ZI rfl) (ZA rfl rfl (ZI rfl) (ZA rfl rfl (Zr U23 rfl (IsSlice.long ha_2)) (ZA rfl rfl (ZI rfl) (ZA rfl rfl (Zr U23 rfl (IsSlice.long ha_2)) ?_)))))))))))
 obtain ⟨m_3, hm_5, hb_4, hx⟩ := slc_some hx
 obtain ⟨vv_6, cv_6, av_6, h1v_6, h2v_6, hsv_6⟩ := IsSlice.cutc ha_2 hm_5 hb_4
 refine ZA rfl rfl (R.slc (cap := cv_6) (a := 0) (b := (p_1.length : Int)) (c := (p_1.length : Int)) (m := p_1) (R := R_Write) U23 S47 rfl rfl ⟨_, rfl⟩ ⟨_, rfl⟩ ⟨hb_4.1, hb_4.2.1, Int.le_refl _⟩ h1v_6 (.inr (fun h => by cases h))) ?_
 subst h2v_6
 refine ZA rfl rfl (ZG rfl) (ZD (ZC (ZW (ZS (vs := [.slice av_6 m_3.length m_3.length]) (K := []) (rst := []) (.inl rfl) rfl rfl (ZQ rfl rfl) ZK ?_))))
 obtain rfl := Option.some.inj hx
 exact ⟨av_6, m_3.length, rfl, rfl, rfl, hsv_6, trivial⟩

set_option maxHeartbeats 8000000 in
theorem dev_cut_ok (p_1 : List Int) (H : Heaplet) {ao : Option Addr} {n cap : Nat} (hs : IsSlice H RInt 1 (.slice ao n cap) p_1) (r : List (List UInt8)) (hx : dev_cut p_1 = some r) :
  Does Try.prog 107 #[.slice ao n cap] [] H (fun u K' H' => ∃ ao0 : Option Addr, ∃ n0 : Nat, ∃ cap0 : Nat, ∃ K0 : Own, u = .slice ao0 n0 cap0 ∧ K' = [K0] ∧ H = H' ∧ Pcs 0 5 45 (.slice ao0 n0 cap0) r K0 ∧ (∀ p ∈ K0, p.1 ∉ ids (List.flatten [])) ∧ True) := by
 unfold dev_cut at hx
 split at hx
 case isFalse => cases hx
 rename_i hp
 obtain rfl := Option.some.inj hx
 obtain ⟨ns, hns⟩ : ∃ ns, ns = p_1.map Int.toNat := ⟨_, rfl⟩
 have hpn : p_1 = ns.map (fun n : Nat => (n : Int)) := by
  rw [hns, List.map_map]
  have : ∀ (q : List Int), (∀ n ∈ q, 0 ≤ n) → q = q.map ((fun n : Nat => (n : Int)) ∘ Int.toNat) := by
   intro q
   induction q with
   | nil => intro _; rfl
   | cons y q ih => intro h; rw [List.map_cons, ← ih (fun n hn => h n (by simp [hn]))]; congr 1; have := h y (by simp); simp only [Function.comp]; omega
  exact this _ hp.1
 have hsum : ns.sum ≤ LIM := by rw [hns]; exact hp.2.1
 have hlen : ns.length ≤ LIM := by rw [hns, List.length_map]; exact hp.2.2
 have hpl : p_1.length = ns.length := by rw [hns, List.length_map]
 have hat : ∀ i, i < ns.length → ∃ y : Nat, ns[i]? = some y ∧ Nth p_1 (i : Int) (y : Int) := fun i hi => by
  refine ⟨ns[i], List.getElem?_eq_getElem hi, Int.natCast_nonneg i, ?_⟩
  rw [hpn]; simp [hi]
 have htk : ∀ i, (ns.take i).sum ≤ ns.sum := fun i => by
  have := congrArg List.sum (List.take_append_drop i ns)
  rw [List.sum_append] at this; omega
 have hstep : ∀ i y, ns[i]? = some y → ns.take (i + 1) = ns.take i ++ [y] := fun i y h => by rw [List.take_add_one, h]; rfl
 have hL : LIM = 1099511627776 := rfl
 have hr : (p_1.map fun n => List.replicate n.toNat (0 : UInt8)) = ns.map fun n => List.replicate n 0 := by rw [hpn, List.map_map]; rfl
 rw [hr]
 clear hr
 obtain ⟨ao, cap, e0⟩ := hs.val
 rw [e0] at hs
 simp only [e0]
 rw [hpl] at hs ⊢
 refine Does.enterL (vs := [.slice ao ns.length cap]) (l := [(0, .slice ao ns.length cap)]) Try.func107 rfl rfl ⟨rfl, trivial⟩ (fun w hlt => ZH (ZB (ZA rfl rfl (ZG rfl) (ZD (ZC (ZH (ZB (ZA rfl rfl (ZG rfl) (ZD (ZC (ZH ?_)))))))))))
 -- how many in all
 refine Zy (fun l o g => l = [(0, .slice ao ns.length cap), (2, .slice none 0 0), (3, .int .i64 ((ns.sum : Nat) : Int))] ∧ o = [] ∧ H = g) ?_ ?_
 rotate_left
 ·
  refine ZH (ZB (ZA rfl rfl (ZI rfl) (ZA rfl rfl (Zr U75 rfl ⟨_, _, rfl⟩) (ZA rfl rfl (ZI rfl) (ZD (ZC (JC.block (JC.loop (ι := Nat) (fun i => [(0, .slice ao ns.length cap), (2, .slice none 0 0), (9, .slice ao ns.length cap), (10, .int .i64 (ns.length : Int)), (3, .int .i64 (((ns.take i).sum : Nat) : Int)), (11, .int .i64 ((i : Nat) : Int))]) (fun _ => []) (fun _ => H) (fun i => i ≤ ns.length) (fun i => ns.length - i) 0 (Nat.zero_le _) ⟨rfl, rfl, rfl, rfl, rfl, rfl, trivial⟩ rfl rfl ?_))))))))
  intro i hi
  refine ZH (ZB (ZA rfl rfl (Z1 rfl rfl) (ZD (ZC (ZH (ZY rfl (fun c => ?_) (fun c => ?_)))))))
  ·
   have hlt' : i < ns.length := by have := of_decide_eq_true c; omega
   obtain ⟨y, hy, hN⟩ := hat i hlt'
   obtain ⟨b1, q1, cs1, hE1, hR1, hl1, hc1⟩ := IsSlice.elem hs hN
   obtain rfl : cs1 = [.int .i64 (y : Int)] := hR1
   have hsy := hstep i y hy
   have hw : w64 ((((ns.take i).sum : Nat) : Int) + (y : Int)) = (((ns.take (i + 1)).sum : Nat) : Int) := by
    have h1 := htk (i + 1)
    rw [hsy, List.sum_append] at h1 ⊢
    simp only [List.sum_cons, List.sum_nil, Nat.add_zero] at h1 ⊢
    rw [w64_of (by omega) (by omega)]; omega
   refine Za (ZC (ZH (JC.block (ZH (ZB (ZA rfl rfl (R.ix U75 S3 rfl rfl hE1) (ZA rfl rfl (R.ldH S3 rfl (hc1 0 _ rfl)) (ZA rfl rfl (ZG rfl) (ZD (ZC (ZB ?_)))))))))))
   refine ZA rfl rfl (ZI rfl) (ZA rfl rfl (ZI rfl) (ZA rfl rfl (R.add_i rfl rfl) ?_))
   rw [hw]
   refine ZA rfl rfl (ZG rfl) (ZD (Zl (ZC (ZB (ZA rfl rfl (R.inc rfl rfl (of_decide_eq_true c) (by omega)) (ZA rfl rfl (ZI rfl) (ZD (JN.again (i := i) (i + 1) hlt' (by omega) ⟨rfl, rfl, rfl, rfl, rfl, rfl, trivial⟩ rfl rfl))))))))
  ·
   have hge : i = ns.length := by have := of_decide_eq_false c; omega
   subst hge
   refine Z0 (ZX (ZX (Zd ?_)))
   rw [List.take_length]
   exact ZR ⟨rfl, rfl, rfl⟩ ⟨rfl, rfl, rfl, trivial⟩ rfl rfl
 rintro _ _ _ ⟨rfl, rfl, rfl⟩
 refine ZC (ZH (ZB (ZA rfl rfl (ZI rfl) (JL.mkB U45 I5 rfl rfl hsum rfl rfl (fun hb hhb => ZA rfl rfl (ZG rfl) (ZD (ZC (ZH (Zy (fun l o g => ∃ (ao2 : Option Addr) (n2 cap2 : Nat) (Ko : Own), l = [(2, .slice ao2 n2 cap2)] ∧ o = [Ko, [(hb, .cells (bvs (List.replicate ns.sum 0)).toArray 5 (0, 0))]] ∧ H = g ∧ RowOf (fun _ _ => none) (RPc hb) w.heap.size 45 1 (.slice ao2 n2 cap2) (offs 0 ns) Ko) ?_ ?_)))))))))
 rotate_left
 ·
  refine ZH (ZB (ZA rfl rfl (ZI rfl) (ZA rfl rfl (Zr U75 rfl ⟨_, _, rfl⟩) (ZA rfl rfl (ZI rfl) (JL.seg0 (ZD (ZC (JC.block ?_))))))))
  refine JC.loop (ι := Nat × Nat × Option Addr × Nat × Nat × Own) (fun i => [(21, .slice ao ns.length cap), (22, .int .i64 (ns.length : Int)), (2, .slice i.2.2.1 i.2.2.2.1 i.2.2.2.2.1), (6, .slice (some ⟨hb, i.2.1, none⟩) (ns.sum - (ns.take i.1).sum) (ns.sum - (ns.take i.1).sum)), (23, .int .i64 ((i.1 : Nat) : Int))])
   (fun i => [i.2.2.2.2.2, [(hb, .cells (bvs (List.replicate ns.sum 0)).toArray 5 (0, 0))]]) (fun _ => H)
   (fun i => i.1 ≤ ns.length ∧ (ns.sum - (ns.take i.1).sum = 0 ∨ i.2.1 = (ns.take i.1).sum) ∧ RowOf (fun _ _ => none) (RPc hb) w.heap.size 45 1 (.slice i.2.2.1 i.2.2.2.1 i.2.2.2.2.1) (offs 0 (ns.take i.1)) i.2.2.2.2.2) (fun i => ns.length - i.1) (0, 0, none, 0, 0, [])
   ⟨Nat.zero_le _, .inr rfl, Zn _ _ _ _ _⟩ ⟨rfl, rfl, rfl, rfl, rfl, trivial⟩ rfl rfl ?_
  rintro ⟨i, s, ao2, n2, cap2, Ko⟩ ⟨hi, hsi, hout⟩
  dsimp only at hi hsi hout ⊢
  refine ZH (ZB (ZA rfl rfl (Z1 rfl rfl) (ZD (ZC (ZH (ZY rfl (fun c => ?_) (fun c => ?_)))))))
  ·
   have hlt' : i < ns.length := by have := of_decide_eq_true c; omega
   obtain ⟨y, hy, hN⟩ := hat i hlt'
   obtain ⟨b1, q1, cs1, hE1, hR1, hl1, hc1⟩ := IsSlice.elem hs hN
   obtain rfl : cs1 = [.int .i64 (y : Int)] := hR1
   have hsy := hstep i y hy
   have htot := htk (i + 1)
   have hsm : (ns.take (i + 1)).sum = (ns.take i).sum + y := by rw [hsy, List.sum_append]; simp
   obtain ⟨rem, hrem⟩ : ∃ rem, rem = ns.sum - (ns.take i).sum := ⟨_, rfl⟩
   rw [← hrem] at hsi ⊢
   have hyr : y ≤ rem := by omega
   have hcy : y = 0 ∨ s = (ns.take i).sum := by
    rcases hsi with h | h
    ·
     left; omega
    ·
     exact .inr h
   have hrem2 : ns.sum - (ns.take (i + 1)).sum = rem - y := by omega
   have e31 : Value.slice (some ⟨hb, s, none⟩) y y = sliced (some ⟨hb, s, none⟩) (0 : Int).toNat (y : Int).toNat (y : Int).toNat 1 := by
    unfold sliced
    simp only [Int.toNat_natCast, Int.toNat_zero, Nat.sub_zero, Option.map_some, Nat.zero_mul, add_lit, Nat.add_zero]
    split <;> rfl
   obtain ⟨s2, hs2, e36⟩ : ∃ s2, (rem - y = 0 ∨ s2 = (ns.take (i + 1)).sum) ∧ Value.slice (some ⟨hb, s2, none⟩) (rem - y) (rem - y) = sliced (some ⟨hb, s, none⟩) (y : Int).toNat (rem : Int).toNat (rem : Int).toNat 1 := by
    unfold sliced
    simp only [Int.toNat_natCast, Option.map_some, add_lit, Nat.mul_one]
    by_cases h : rem = y
    ·
     exact ⟨s, .inl (by omega), by rw [if_pos h]⟩
    ·
     refine ⟨s + y, .inr ?_, by rw [if_neg h]⟩
     rcases hsi with h' | h' <;> omega
   have hq : offs 0 (ns.take (i + 1)) = offs 0 (ns.take i) ++ [((ns.take i).sum, y)] := by rw [hsy, offs_append]; simp [offs]
   have hll : (offs 0 (ns.take i)).length + [((ns.take i).sum, y)].length ≤ LIM := by rw [offs_length, List.length_take]; simp only [List.length_cons, List.length_nil]; omega
   refine Za (ZC (ZH (JC.block (ZH (ZB (ZA rfl rfl (R.ix U75 S3 rfl rfl hE1) (ZA rfl rfl (R.ldH S3 rfl (hc1 0 _ rfl)) (ZA rfl rfl (ZG rfl) (ZD (ZC (ZH ?_)))))))))))
   refine ZB (ZA rfl rfl (ZI rfl) (ZA rfl rfl (ZI rfl) (ZA rfl rfl (ZI rfl) (ZA rfl rfl (ZI rfl) (ZA rfl rfl (R.slc (cap := rem) (a := 0) (b := (y : Int)) (c := (y : Int)) (m := List.replicate rem (0 : UInt8)) (R := RU8) (v' := .slice (some ⟨hb, s, none⟩) y y) U45 S5 rfl rfl ⟨_, rfl⟩ ⟨_, rfl⟩ ⟨Int.le_refl _, by omega, Int.le_refl _⟩ ⟨some ⟨hb, s, none⟩, by rw [List.length_replicate], by omega, e31⟩ (.inr (fun h => by cases h))) (JL.bslF (HF := fun _ _ => none) (R := RPc hb) (ls := [((ns.take i).sum, y)]) (vs := [.slice (some ⟨hb, s, none⟩) y y]) U22 I45 rfl rfl (⟨_, _, rfl, rfl, ⟨s, rfl, hcy⟩, rfl⟩) (RPc.one hb) rfl rfl rfl (by simp [maxLen]) rfl (fun v3 K3 h3 => ?_)))))))
   obtain ⟨ao3, cap3, rfl⟩ := RowOf.val h3
   refine Z2 (HF := fun _ _ => none) 1 U22 I45 rfl rfl hout rfl (SrcF.row 0 U22 rfl h3) hq hll rfl (Nat.le_refl _) rfl (fun v4 K4 h4 => ?_)
   obtain ⟨ao4, cap4, rfl⟩ := RowOf.val h4
   refine ZA rfl rfl (ZG rfl) (ZD (ZC (ZB (ZA rfl rfl (ZI rfl) (ZA rfl rfl (ZI rfl) (ZA rfl rfl (R.slc (cap := rem) (a := (y : Int)) (b := (rem : Int)) (c := (rem : Int)) (m := List.replicate rem (0 : UInt8)) (R := RU8) (v' := .slice (some ⟨hb, s2, none⟩) (rem - y) (rem - y)) U45 S5 rfl ⟨_, rfl⟩ (by simp) ⟨some ⟨hb, s, none⟩, rem, rfl, rfl⟩ ⟨by omega, by omega, Int.le_refl _⟩ ⟨some ⟨hb, s, none⟩, by rw [List.length_replicate], by omega, e36⟩ (.inl rfl)) (ZA rfl rfl (ZG rfl) (ZD (Zl (ZC (ZB ?_)))))))))))
   refine ZA rfl rfl (R.inc rfl rfl (of_decide_eq_true c) (by omega)) (ZA rfl rfl (ZI rfl) (ZD (JN.forget 0 (JN.again (i := (i, s, ao2, n2, cap2, Ko)) (i + 1, s2, ao4, _, cap4, K4) ⟨hlt', by dsimp only; rw [hrem2]; exact hs2, h4⟩ (by dsimp only; omega) ⟨rfl, rfl, rfl, by dsimp only; rw [hrem2]; rfl, rfl, trivial⟩ rfl rfl))))
  ·
   have hge : i = ns.length := by have := of_decide_eq_false c; omega
   subst hge
   refine Z0 (ZX (ZX (Zd ?_)))
   rw [List.take_length] at hout
   exact ZR ⟨_, _, _, _, rfl, rfl, rfl, hout⟩ ⟨rfl, trivial⟩ rfl rfl
 rintro _ _ _ ⟨ao2, n2, cap2, Ko, rfl, rfl, rfl, hout⟩
 refine ZC (ZW (ZS (vs := [.slice ao2 n2 cap2]) (K := [Ko ++ [(hb, .cells (bvs (List.replicate ns.sum 0)).toArray 5 (0, 0))]]) (rst := []) (.inl rfl) rfl rfl (ZQ rfl rfl) (by simp) ?_))
 have hflat : (ns.map fun n => List.replicate n (0 : UInt8)).flatten = List.replicate ns.sum 0 := by
  clear hat hstep htk hs hout hpn hns hpl hsum hlen
  induction ns with
  | nil => rfl
  | cons y r ih => rw [List.map_cons, List.flatten_cons, ih, List.sum_cons, List.replicate_append_replicate]
 have hlens : lens (ns.map fun n => List.replicate n (0 : UInt8)) = ns := by unfold lens; rw [List.map_map]; simp [Function.comp_def]
 refine ⟨ao2, n2, cap2, _, rfl, rfl, rfl, ⟨hb, Ko, ?_, Nat.zero_le _, ?_, ?_⟩, (fun p hp hm => by cases hm), trivial⟩
 ·
  rw [hflat]
 ·
  rw [hflat, List.length_replicate]; exact lim_max hsum
 ·
  rw [hlens]; exact Zs (Nat.zero_le _) hout

theorem bytes_Clone_ok (p_1 : List UInt8) (H : Heaplet) {ao : Option Addr} {n cap : Nat} (hs : IsSlice H RU8 1 (.slice ao n cap) p_1) (r : List UInt8) (hx : bytes_Clone p_1 = some r) :
  Does Try.prog 105 #[.slice ao n cap] [] H (fun u K' H' => ∃ ao0 : Option Addr, ∃ n0 : Nat, ∃ cap0 : Nat, ∃ K0 : Own, u = .slice ao0 n0 cap0 ∧ K' = [K0] ∧ H = H' ∧ RowOf (New H H') RU8 0 5 1 (.slice ao0 n0 cap0) r K0 ∧ (∀ p ∈ K0, p.1 ∉ ids (List.flatten [])) ∧ True) := by
 rw [bytes_Clone.eq_1] at hx
 obtain ⟨q, hq, hl, hx⟩ := Zz hx
 obtain rfl := Option.some.inj hx
 refine Does.enter (vs := [.slice ao n cap]) (l := [(0, .slice ao n cap)]) Try.func105 rfl rfl ⟨rfl, trivial⟩ (fun w => ZH (ZB (ZA rfl rfl (ZG rfl) (ZD (ZC (ZH (ZH (ZB (ZA rfl rfl (ZI rfl) (ZA rfl rfl (R.eqlNil U45 rfl rfl) (ZD ?_)))))))))))
 refine ZC ?_
 cases ao with
 | none =>
  have hp := hs.none_nil
  subst hp
  simp only [List.append_nil] at hq
  subst hq
  refine JC.condT rfl (ZH (ZB (ZA rfl rfl (ZG rfl) (ZD (ZC (ZW (Zc (JN.seg0 (ZS (vs := [.slice none 0 0]) (K := [_]) (rst := []) (.inl rfl) rfl rfl (ZQ rfl rfl) (Ze 0 rfl ZK) ?_)))))))))
  exact ⟨none, 0, 0, [], rfl, rfl, rfl, Zn _ _ _ _ _, (fun p hp => by cases hp), trivial⟩
 | some a =>
  refine JC.condF rfl (Za (ZC (ZH (ZB (JL.bslF (HF := New H H) (R := RU8) (ls := []) (vs := []) U45 I5 rfl rfl rfl RU8.one rfl rfl rfl (by simp [maxLen]) rfl (fun v1 K1 h1 => ?_))))))
  obtain ⟨ao1, cap1, rfl⟩ := RowOf.val h1
  refine ZA rfl rfl (ZI rfl) (Z2 (HF := New H H) 0 U45 I5 rfl rfl h1 rfl (SrcF.sliceC RU8.const RU8.one U45 hs) hq hl rfl (Nat.le_refl _) rfl (fun v2 K2 h2 => ?_))
  obtain ⟨ao2, cap2, rfl⟩ := RowOf.val h2
  refine ZA rfl rfl (ZG rfl) (ZD (ZC (ZW (ZS (vs := [.slice ao2 _ cap2]) (K := [_]) (rst := []) (.inl rfl) rfl rfl (ZQ rfl rfl) (Ze 0 rfl ZK) ?_))))
  exact ⟨_, _, _, _, rfl, rfl, rfl, Zs (Nat.zero_le _) h2, (fun p hp hm => by cases hm), trivial⟩
end Go.Proofs.Ytdoebbgjjlicjaa
