import Derived.Test.YtdoebbgjjlicjaaT2
import Derived.Test.YtdoebbgjjlicjaaOwMc
/- walks: what the code computes, function by function. -/
namespace Go.Proofs.Ytdoebbgjjlicjaa
open Go.Ow Go.RowKit Go.Proofs
set_option linter.unusedVariables false
set_option linter.unusedSimpArgs false
set_option maxHeartbeats 8000000 in
theorem math_bits_Mul64_ok (p_1 : UInt64) (p_2 : UInt64) (H : Heaplet) (r : UInt64 × UInt64) (hx : math_bits_Mul64 p_1 p_2 = some r) :
  Does Try.prog 174 #[.int .u64 (p_1.toNat : Int), .int .u64 (p_2.toNat : Int)] [] H (fun u K' H' => u = .tuple #[.int .u64 (r.1.toNat : Int), .int .u64 (r.2.toNat : Int)] ∧ K' = [] ∧ H = H' ∧ True) := by
 refine Does.enterL (vs := [.int .u64 (p_1.toNat : Int), .int .u64 (p_2.toNat : Int)]) (l := [(0, .int .u64 (p_1.toNat : Int)), (1, .int .u64 (p_2.toNat : Int))]) Try.func174 rfl rfl ⟨rfl, rfl, trivial⟩ (fun w hlt => ?_)
 unfold math_bits_Mul64 at hx
 refine JC.seq (JC.region (JL.val rfl rfl (R.assign rfl) (JL.val rfl rfl (R.assign rfl) (JL.nil (JN.next (JC.seq (JC.region (JL.val rfl rfl (R.move rfl) (JL.val rfl rfl (R.and64 (a := p_1) (b := (4294967295 : UInt64)) rfl rfl) (JL.val rfl rfl (R.assign rfl) (JL.nil ?_)))))))))))
 refine JN.next (JC.seq (JC.region (JL.val rfl rfl (R.move rfl) (JL.val rfl rfl (R.shr64 (n := ((32 : UInt64).toNat : Int)) (a := p_1) rfl rfl (by decide)) (JL.val rfl rfl (R.assign rfl) (JL.nil (JN.next (JC.seq (JC.region (JL.val rfl rfl (R.move rfl) (JL.val rfl rfl (R.and64 (a := p_2) (b := (4294967295 : UInt64)) rfl rfl) ?_)))))))))))
 refine JL.val rfl rfl (R.assign rfl) (JL.nil (JN.next (JC.seq (JC.region (JL.val rfl rfl (R.move rfl) (JL.val rfl rfl (R.shr64 (n := ((32 : UInt64).toNat : Int)) (a := p_2) rfl rfl (by decide)) (JL.val rfl rfl (R.assign rfl) (JL.nil (JN.next (JC.seq (JC.region ?_)))))))))))
 refine JL.val rfl rfl (R.move rfl) (JL.val rfl rfl (R.move rfl) (JL.val rfl rfl (R.mul64 (a := p_1 &&& (4294967295 : UInt64)) (b := p_2 &&& (4294967295 : UInt64)) rfl rfl) (JL.val rfl rfl (R.assign rfl) (JL.nil (JN.next (JC.seq (JC.region (JL.val rfl rfl (R.move rfl) (JL.val rfl rfl (R.move rfl) (JL.val rfl rfl (R.mul64 (a := sr64 p_1 (((32 : UInt64).toNat : Int)).toNat) (b := p_2 &&& (4294967295 : UInt64)) rfl rfl) (JL.val rfl rfl (R.move rfl) ?_)))))))))))
 refine JL.val rfl rfl (R.shr64 (n := ((32 : UInt64).toNat : Int)) (a := (p_1 &&& (4294967295 : UInt64)) * (p_2 &&& (4294967295 : UInt64))) rfl rfl (by decide)) (JL.val rfl rfl (R.add64 (a := (sr64 p_1 (((32 : UInt64).toNat : Int)).toNat) * (p_2 &&& (4294967295 : UInt64))) (b := sr64 ((p_1 &&& (4294967295 : UInt64)) * (p_2 &&& (4294967295 : UInt64))) (((32 : UInt64).toNat : Int)).toNat) rfl rfl) (JL.val rfl rfl (R.assign rfl) (JL.nil (JN.next (JC.seq (JC.region (JL.val rfl rfl (R.move rfl) (JL.val rfl rfl (R.and64 (a := ((sr64 p_1 (((32 : UInt64).toNat : Int)).toNat) * (p_2 &&& (4294967295 : UInt64))) + (sr64 ((p_1 &&& (4294967295 : UInt64)) * (p_2 &&& (4294967295 : UInt64))) (((32 : UInt64).toNat : Int)).toNat)) (b := (4294967295 : UInt64)) rfl rfl) (JL.val rfl rfl (R.assign rfl) (JL.nil (JN.next ?_)))))))))))
 refine JC.seq (JC.region (JL.val rfl rfl (R.move rfl) (JL.val rfl rfl (R.shr64 (n := ((32 : UInt64).toNat : Int)) (a := ((sr64 p_1 (((32 : UInt64).toNat : Int)).toNat) * (p_2 &&& (4294967295 : UInt64))) + (sr64 ((p_1 &&& (4294967295 : UInt64)) * (p_2 &&& (4294967295 : UInt64))) (((32 : UInt64).toNat : Int)).toNat)) rfl rfl (by decide)) (JL.val rfl rfl (R.assign rfl) (JL.nil (JN.next (JC.seq (JC.region (JL.val rfl rfl (R.move rfl) (JL.val rfl rfl (R.move rfl) (JL.val rfl rfl (R.move rfl) ?_)))))))))))
 refine JL.val rfl rfl (R.mul64 (a := p_1 &&& (4294967295 : UInt64)) (b := sr64 p_2 (((32 : UInt64).toNat : Int)).toNat) rfl rfl) (JL.val rfl rfl (R.add64 (a := (((sr64 p_1 (((32 : UInt64).toNat : Int)).toNat) * (p_2 &&& (4294967295 : UInt64))) + (sr64 ((p_1 &&& (4294967295 : UInt64)) * (p_2 &&& (4294967295 : UInt64))) (((32 : UInt64).toNat : Int)).toNat)) &&& (4294967295 : UInt64)) (b := (p_1 &&& (4294967295 : UInt64)) * (sr64 p_2 (((32 : UInt64).toNat : Int)).toNat)) rfl rfl) (JL.val rfl rfl (R.assign rfl) (JL.nil (JN.next (JC.seq (JC.region (JL.val rfl rfl (R.move rfl) (JL.val rfl rfl (R.move rfl) (JL.val rfl rfl (R.mul64 (a := sr64 p_1 (((32 : UInt64).toNat : Int)).toNat) (b := sr64 p_2 (((32 : UInt64).toNat : Int)).toNat) rfl rfl) (JL.val rfl rfl (R.move rfl) (JL.val rfl rfl (R.add64 (a := (sr64 p_1 (((32 : UInt64).toNat : Int)).toNat) * (sr64 p_2 (((32 : UInt64).toNat : Int)).toNat)) (b := sr64 (((sr64 p_1 (((32 : UInt64).toNat : Int)).toNat) * (p_2 &&& (4294967295 : UInt64))) + (sr64 ((p_1 &&& (4294967295 : UInt64)) * (p_2 &&& (4294967295 : UInt64))) (((32 : UInt64).toNat : Int)).toNat)) (((32 : UInt64).toNat : Int)).toNat) rfl rfl) ?_)))))))))))
 refine JL.val rfl rfl (R.move rfl) (JL.val rfl rfl (R.shr64 (n := ((32 : UInt64).toNat : Int)) (a := ((((sr64 p_1 (((32 : UInt64).toNat : Int)).toNat) * (p_2 &&& (4294967295 : UInt64))) + (sr64 ((p_1 &&& (4294967295 : UInt64)) * (p_2 &&& (4294967295 : UInt64))) (((32 : UInt64).toNat : Int)).toNat)) &&& (4294967295 : UInt64)) + ((p_1 &&& (4294967295 : UInt64)) * (sr64 p_2 (((32 : UInt64).toNat : Int)).toNat))) rfl rfl (by decide)) (JL.val rfl rfl (R.add64 (a := ((sr64 p_1 (((32 : UInt64).toNat : Int)).toNat) * (sr64 p_2 (((32 : UInt64).toNat : Int)).toNat)) + (sr64 (((sr64 p_1 (((32 : UInt64).toNat : Int)).toNat) * (p_2 &&& (4294967295 : UInt64))) + (sr64 ((p_1 &&& (4294967295 : UInt64)) * (p_2 &&& (4294967295 : UInt64))) (((32 : UInt64).toNat : Int)).toNat)) (((32 : UInt64).toNat : Int)).toNat)) (b := sr64 (((((sr64 p_1 (((32 : UInt64).toNat : Int)).toNat) * (p_2 &&& (4294967295 : UInt64))) + (sr64 ((p_1 &&& (4294967295 : UInt64)) * (p_2 &&& (4294967295 : UInt64))) (((32 : UInt64).toNat : Int)).toNat)) &&& (4294967295 : UInt64)) + ((p_1 &&& (4294967295 : UInt64)) * (sr64 p_2 (((32 : UInt64).toNat : Int)).toNat))) (((32 : UInt64).toNat : Int)).toNat) rfl rfl) (JL.val rfl rfl (R.assign rfl) (JL.nil (JN.next (JC.tidyP (l' := [(0, .int .u64 (p_1.toNat : Int)), (1, .int .u64 (p_2.toNat : Int)), (4, .int .u64 (((((sr64 p_1 (((32 : UInt64).toNat : Int)).toNat) * (sr64 p_2 (((32 : UInt64).toNat : Int)).toNat)) + (sr64 (((sr64 p_1 (((32 : UInt64).toNat : Int)).toNat) * (p_2 &&& (4294967295 : UInt64))) + (sr64 ((p_1 &&& (4294967295 : UInt64)) * (p_2 &&& (4294967295 : UInt64))) (((32 : UInt64).toNat : Int)).toNat)) (((32 : UInt64).toNat : Int)).toNat)) + (sr64 (((((sr64 p_1 (((32 : UInt64).toNat : Int)).toNat) * (p_2 &&& (4294967295 : UInt64))) + (sr64 ((p_1 &&& (4294967295 : UInt64)) * (p_2 &&& (4294967295 : UInt64))) (((32 : UInt64).toNat : Int)).toNat)) &&& (4294967295 : UInt64)) + ((p_1 &&& (4294967295 : UInt64)) * (sr64 p_2 (((32 : UInt64).toNat : Int)).toNat))) (((32 : UInt64).toNat : Int)).toNat)).toNat : Int)), (5, .int .u64 ((0 : UInt64).toNat : Int))]) (own' := []) (rst := []) ⟨rfl, rfl, rfl, rfl, trivial⟩ picks0 (JC.seq (JC.region (JL.val rfl rfl (R.move rfl) (JL.val rfl rfl (R.move rfl) (JL.val rfl rfl (R.mul64 (a := p_1) (b := p_2) rfl rfl) ?_)))))))))))
 refine JL.val rfl rfl (R.assign rfl) (JL.nil (JN.next (JC.ret (JN.outP (vs := [.int .u64 (((((sr64 p_1 (((32 : UInt64).toNat : Int)).toNat) * (sr64 p_2 (((32 : UInt64).toNat : Int)).toNat)) + (sr64 (((sr64 p_1 (((32 : UInt64).toNat : Int)).toNat) * (p_2 &&& (4294967295 : UInt64))) + (sr64 ((p_1 &&& (4294967295 : UInt64)) * (p_2 &&& (4294967295 : UInt64))) (((32 : UInt64).toNat : Int)).toNat)) (((32 : UInt64).toNat : Int)).toNat)) + (sr64 (((((sr64 p_1 (((32 : UInt64).toNat : Int)).toNat) * (p_2 &&& (4294967295 : UInt64))) + (sr64 ((p_1 &&& (4294967295 : UInt64)) * (p_2 &&& (4294967295 : UInt64))) (((32 : UInt64).toNat : Int)).toNat)) &&& (4294967295 : UInt64)) + ((p_1 &&& (4294967295 : UInt64)) * (sr64 p_2 (((32 : UInt64).toNat : Int)).toNat))) (((32 : UInt64).toNat : Int)).toNat)).toNat : Int), .int .u64 ((p_1 * p_2).toNat : Int)]) (K := []) (rst := []) (.inl rfl) rfl rfl (Res.tmp rfl (Res.tmp rfl rfl)) picks0 ?_))))
 obtain rfl := Option.some.inj hx
 exact ⟨rfl, rfl, rfl, trivial⟩

set_option maxHeartbeats 8000000 in
theorem math_bits_Mul_ok (p_1 : UInt64) (p_2 : UInt64) (H : Heaplet) (r : UInt64 × UInt64) (hx : math_bits_Mul p_1 p_2 = some r) :
  Does Try.prog 143 #[.int .u64 (p_1.toNat : Int), .int .u64 (p_2.toNat : Int)] [] H (fun u K' H' => u = .tuple #[.int .u64 (r.1.toNat : Int), .int .u64 (r.2.toNat : Int)] ∧ K' = [] ∧ H = H' ∧ True) := by
 refine Does.enterL (vs := [.int .u64 (p_1.toNat : Int), .int .u64 (p_2.toNat : Int)]) (l := [(0, .int .u64 (p_1.toNat : Int)), (1, .int .u64 (p_2.toNat : Int))]) Try.func143 rfl rfl ⟨rfl, rfl, trivial⟩ (fun w hlt => ?_)
 unfold math_bits_Mul at hx
 refine JC.seq (JC.region (JL.val rfl rfl (R.assign rfl) (JL.val rfl rfl (R.assign rfl) (JL.nil (JN.next (JC.seq (JC.condF rfl (JC.skip (JN.next (JC.seq (JC.region ?_)))))))))))
 refine JL.val rfl rfl (R.move rfl) (JL.val rfl rfl (R.move rfl) ?_)
 obtain ⟨x_3, hr_4, hx⟩ := bnd_some hx
 refine JL.callC (vs := [_, _]) (args := [_, _]) (K := []) (rst := []) E174 rfl rfl rfl picks0 (math_bits_Mul64_ok p_1 p_2 _ _ hr_4) rfl (fun u_5 Ku_5 Hu_5 hRu_5 hleu_5 hfu_5 => ?_)
 obtain ⟨rfl, rfl, rfl, -⟩ := hRu_5
 refine JL.val rfl rfl (R.move rfl) (JL.val rfl rfl (R.extract rfl rfl) (JL.val rfl rfl (R.extract rfl rfl) (JL.val rfl rfl (R.assign rfl) (JL.val rfl rfl (R.assign rfl) (JL.nil (JN.next (JC.seq (JC.region (JL.val rfl rfl (R.move rfl) (JL.val rfl rfl (R.move rfl) (JL.val rfl rfl (R.assign rfl) ?_)))))))))))
 refine JL.val rfl rfl (R.assign rfl) (JL.nil (JN.next (JC.ret (JN.outP (vs := [.int .u64 (x_3.1.toNat : Int), .int .u64 (x_3.2.toNat : Int)]) (K := []) (rst := []) (.inl rfl) rfl rfl (Res.tmp rfl (Res.tmp rfl rfl)) picks0 ?_))))
 obtain rfl := Option.some.inj hx
 exact ⟨rfl, rfl, rfl, trivial⟩

set_option maxHeartbeats 8000000 in
theorem slices_Repeat_int_ok (p_1 : List Int) (p_3 : Int) (H : Heaplet) {aoa_2 : Option Addr} {na_2 : Nat} {capa_2 : Nat} (ha_2 : IsSlice H RInt 1 (.slice aoa_2 na_2 capa_2) p_1) (r : List Int) (hx : slices_Repeat_int p_1 p_3 = some r) :
  Does Try.prog 108 #[.slice aoa_2 na_2 capa_2, .int .i64 p_3] [] H (fun u K' H' => ∃ ao0 : Option Addr, ∃ n0 : Nat, ∃ cap0 : Nat, ∃ K0 : Own, u = .slice ao0 n0 cap0 ∧ K' = [K0] ∧ H = H' ∧ RowOf (New H H) RInt 0 3 1 (.slice ao0 n0 cap0) r K0 ∧ (∀ p ∈ K0, p.1 ∉ ids (List.flatten [])) ∧ True) := by
 refine Does.enterL (vs := [.slice aoa_2 na_2 capa_2, .int .i64 p_3]) (l := [(0, .slice aoa_2 na_2 capa_2), (1, .int .i64 p_3)]) Try.func108 rfl rfl ⟨rfl, rfl, trivial⟩ (fun w hlt => ?_)
 unfold slices_Repeat_int at hx
 refine JC.seq (JC.region (JL.val rfl rfl (R.assign rfl) (JL.nil (JN.next (JC.seq (JC.seq (JC.region (JL.val rfl rfl (R.move rfl) (JL.val rfl rfl (R.lss_i rfl rfl) (JL.nil (JN.next ?_)))))))))))
 refine JC.condB rfl (fun c_4 => ?_) (fun c_4 => ?_)
 ·
  replace hx := cond_t c_4 hx
  refine JC.region ?_
  cases hx
 ·
  replace hx := cond_f c_4 hx
  refine JC.skip (JN.next (JC.seq (JC.region (JL.val rfl rfl (R.move rfl) (JL.val rfl rfl (R.lenL U75 rfl (IsSlice.long ha_2)) (JL.val rfl rfl (R.cv_i64_u64 U3 U133 rfl) (JL.val rfl rfl (R.move rfl) (JL.val rfl rfl (R.cv_i64_u64 U3 U133 rfl) ?_))))))))
  obtain ⟨x_5, hr_6, hx⟩ := bnd_some hx
  refine JL.callC (vs := [_, _]) (args := [_, _]) (K := []) (rst := []) E143 rfl rfl rfl picks0 (math_bits_Mul_ok (u64i (p_1.length : Int)) (u64i p_3) _ _ hr_6) rfl (fun u_7 Ku_7 Hu_7 hRu_7 hleu_7 hfu_7 => ?_)
  obtain ⟨rfl, rfl, rfl, -⟩ := hRu_7
  refine JL.val rfl rfl (R.move rfl) (JL.val rfl rfl (R.extract rfl rfl) (JL.val rfl rfl (R.extract rfl rfl) (JL.val rfl rfl (R.assign rfl) (JL.val rfl rfl (R.assign rfl) (JL.nil (JN.next (JC.seq (JC.seq (JC.region (JL.val rfl rfl (R.move rfl) (JL.val rfl rfl (R.gtr64 (a := x_5.1) (b := (0 : UInt64)) rfl rfl) ?_)))))))))))
  refine JL.val rfl rfl (R.move rfl) (JL.gSplit (t := 23) rfl (fun c_8 => ?_) (fun c_8 => ?_))
  ·
   replace hx := cond_t c_8 hx
   refine JL.gNo rfl rfl rfl rfl rfl (JL.gNo rfl rfl rfl rfl rfl (JL.val rfl rfl (R.pickT rfl rfl) (JL.nil (JN.next (JC.condT rfl (JC.region ?_))))))
   cases hx
  ·
   replace hx := cond_f c_8 hx
   refine JL.gYes rfl rfl rfl (JL.val rfl rfl (R.move rfl) (JL.gYes rfl rfl rfl (JL.val rfl rfl (R.gtr64 (a := x_5.2) (b := (9223372036854775807 : UInt64)) rfl rfl) (JL.val rfl rfl (R.pickF rfl rfl) (JL.nil (JN.next (JC.condB rfl (fun c_9 => ?_) (fun c_9 => ?_))))))))
   ·
    replace hx := cond_t c_9 hx
    refine JC.region ?_
    cases hx
   ·
    replace hx := cond_f c_9 hx
    refine JC.skip (JN.next (JC.seq (JC.region (JL.val rfl rfl (R.move rfl) (JL.val rfl rfl (R.cv_u64_i64 (a := x_5.2) U133 U3 rfl) ?_)))))
    obtain ⟨x_12, hm_11, hc_10, hx⟩ := mks_some hx
    refine JL.mkF (HF := New H H) (R := RInt) (y := 0) (n := w64 (x_5.2.toNat : Int)) U75 I3 rfl rfl (fun _ => rfl) RInt.one hm_11 hc_10 rfl rfl (fun vr_13 Kr_13 hr_13 => ?_)
    obtain ⟨aor_13, capr_13, rfl⟩ := RowOf.val hr_13
    refine JL.val rfl rfl (R.assign rfl) (JL.nil (JN.next (JC.seq (JC.region (JL.val rfl rfl (R.move rfl) (JL.val rfl rfl (R.move rfl) ?_))))))
    obtain ⟨m_14, hm_15, hb_16, hx⟩ := cpyO_some hx
    refine JL.copyR (HF := (New H H)) (lo := 0) (hi := (x_12.length : Int)) 0 U75 S3 rfl hr_13 rfl (RowOf.whole hr_13) rfl (CSrc.slice RInt.one (Hle.refl _) ha_2 (fun _ _ h => RInt.const _ _ _ _ h)) hb_16 hm_15 rfl (fun Kr_17 hr_17 => JL.val rfl rfl (R.assign rfl) (JL.nil (JN.next (JC.seq ?_))))
    obtain ⟨t_18, ht_20, hx⟩ := bnd_some hx
    refine JC.cut (fun l o g => ∃ Kr_25 : Own, l = [(7, .slice aor_13 x_12.length capr_13)] ∧ o = [Kr_25] ∧ H = g ∧ RowOf (New H H) RInt w.heap.size 3 1 (.slice aor_13 x_12.length capr_13) t_18 Kr_25) ?_ ?_
    ·
     rintro _ _ _ ⟨Kr_25, rfl, rfl, rfl, hr_25⟩
     refine JN.next (JC.seq (JC.region (JL.val rfl rfl (R.move rfl) (JL.val rfl rfl (R.assign rfl) (JL.nil (JN.next (JC.ret (JN.outP (vs := [.slice aor_13 x_12.length capr_13]) (K := [_]) (rst := []) (.inl rfl) rfl rfl (Res.tmp rfl rfl) (picks 0 rfl picks0) ?_))))))))
     obtain rfl := Option.some.inj hx
     exact ⟨aor_13, x_12.length, capr_13, Kr_25, rfl, rfl, rfl, (RowOf.weak (Nat.zero_le _) hr_25), (new_ids hr_25 hlt), trivial⟩
    ·
     have hxo_19 := hx; clear hx; have hx := ht_20; clear ht_20
     refine JC.block (JC.loopI (fun n l o g => ∃ s_21 : List Int × Int, ∃ Kr_24 : Own, l = [(7, .slice aor_13 x_12.length capr_13), (8, .int .i64 s_21.2)] ∧ o = [Kr_24] ∧ H = g ∧ run slices_Repeat_int_l1 n s_21 = some t_18 ∧ RowOf (New H H) RInt w.heap.size 3 1 (.slice aor_13 x_12.length capr_13) s_21.1 Kr_24) FUEL ?_ ⟨(m_14, min (p_1.length : Int) ((x_12.length : Int) - 0)), Kr_17, rfl, rfl, rfl, hx, hr_17⟩ ⟨rfl, rfl, trivial⟩ ?_)
     ·
      rintro _ _ _ ⟨s_21, Kr_24, rfl, rfl, rfl, hn_22, hr_24⟩
      exact run_zero hn_22
     ·
      rintro n_23 _ _ _ ⟨s_21, Kr_24, rfl, rfl, rfl, hn_22, hr_24⟩
      clear hx; obtain ⟨oo_26, hx, hd_25⟩ := run_some hn_22
      unfold slices_Repeat_int_l1 at hx
      refine JC.seq (JC.seq (JC.region (JL.val rfl rfl (R.move rfl) (JL.val rfl rfl (R.move rfl) (JL.val rfl rfl (R.lenL U75 rfl (RowOf.long hr_24)) (JL.val rfl rfl (R.lss_i rfl rfl) (JL.nil (JN.next (JC.condB rfl (fun c_25 => ?_) (fun c_25 => ?_))))))))))
      ·
       replace hx := cond_t c_25 hx
       refine JC.skip (JN.next (JC.block (JC.draw (so := []) 10 rfl Mixed trivial (JA.val ⟨by kernel_rfl, by kernel_rfl⟩ (calm_only _) (i := 0) rfl ⟨by kernel_rfl, by kernel_rfl, rfl⟩ trivial (stab_of (Hle.refl _) trivial) (R.move rfl) rfl (JA.val ⟨by kernel_rfl, by kernel_rfl⟩ (calm_only _) (i := 1) rfl ⟨by kernel_rfl, by kernel_rfl, rfl⟩ trivial (stab_of (Hle.refl _) trivial) (R.move rfl) rfl (JA.val ⟨by kernel_rfl, by kernel_rfl⟩ (calm_only _) (i := 2) rfl ⟨by kernel_rfl, by kernel_rfl, rfl⟩ trivial (stab_of (Hle.refl _) trivial) (R.move rfl) rfl (JA.val ⟨by kernel_rfl, by kernel_rfl⟩ (calm_only _) (i := 4) rfl ⟨by kernel_rfl, by kernel_rfl, rfl⟩ trivial (stab_of (Hle.refl _) trivial) (R.move rfl) rfl (JA.val ⟨by kernel_rfl, by kernel_rfl⟩ (calm_only _) (i := 5) rfl ⟨by kernel_rfl, by kernel_rfl, rfl⟩ trivial (stab_of (Hle.refl _) trivial) (R.move rfl) rfl ?_))))))))
       obtain ⟨hb_27, hx⟩ := chk_some hx
       obtain ⟨hb_29, hx⟩ := chk_some hx
       obtain ⟨m_30, hm_31, hb_32, hx⟩ := cpyO_some hx
       refine JA.two (i := 3) (j := 6) (by kernel_rfl) ?_ ?_
       ·
        refine JO.step rfl trivial rfl (fun K hK => ?_)
        obtain ⟨vv_26, cv_26, h1v_26, h2v_26, h3v_26, hsv_26, hlv_26⟩ := RowOf.cutv hr_24 hb_27
        refine JL.val rfl rfl (R.slc (cap := cv_26) (a := s_21.2) (b := (s_21.1.length : Int)) (c := (cv_26 : Int)) (m := s_21.1) (R := RInt) U75 S3 rfl ⟨_, rfl⟩ rfl (by obtain ⟨ao, n, e, _⟩ := h1v_26; exact ⟨ao, n, e, rfl⟩) ⟨hb_27.1, hb_27.2.1, h2v_26⟩ h3v_26 (.inl rfl)) (JL.nil (hK _ _ _ (stab_of (Hle.refl _) trivial) (JA.one (i := 6) (by kernel_rfl) (JO.step rfl trivial rfl (fun K hK => ?_)))))
        obtain ⟨vv_28, cv_28, h1v_28, h2v_28, h3v_28, hsv_28, hlv_28⟩ := RowOf.cutv hr_24 hb_29
        refine JL.val rfl rfl (R.slc (cap := cv_28) (a := (0 : Int)) (b := s_21.2) (c := (cv_28 : Int)) (m := s_21.1) (R := RInt) U75 S3 rfl rfl ⟨_, rfl⟩ (by obtain ⟨ao, n, e, _⟩ := h1v_28; exact ⟨ao, n, e, rfl⟩) ⟨hb_29.1, hb_29.2.1, h2v_28⟩ h3v_28 (.inl rfl)) (JL.nil (hK _ _ _ (stab_of (Hle.refl _) trivial) (JA.one (i := 7) (by kernel_rfl) (JO.step rfl trivial rfl (fun K hK => JL.copyR (HF := (New H H)) (lo := s_21.2) (hi := (s_21.1.length : Int)) 0 U75 S3 rfl hr_24 rfl hsv_26 rfl (CSrc.part 0 rfl hr_24 hsv_28 hb_29 rfl) hb_32 hm_31 rfl (fun Kr_33 hr_33 => JL.nil (hK _ _ _ (stab_of (Hle.refl _) trivial) (JA.val ⟨by kernel_rfl, by kernel_rfl⟩ (calm_only _) (i := 8) rfl ⟨by kernel_rfl, by kernel_rfl, rfl⟩ trivial (stab_of (Hle.refl _) trivial) (R.add_i rfl rfl) rfl (JA.val ⟨by kernel_rfl, by kernel_rfl⟩ (calm_only _) (i := 9) rfl ⟨by kernel_rfl, by kernel_rfl, rfl⟩ trivial (stab_of (Hle.refl _) trivial) (R.assign rfl) rfl (JA.doneN (by kernel_rfl) (JN.blkN ?_)))))))))))
        replace hx := run_next hd_25 hx
        exact JN.cut ⟨(m_30, w64 (s_21.2 + (min ((cut s_21.1 (0 : Int) s_21.2).length : Int) ((s_21.1.length : Int) - s_21.2)))), Kr_33, rfl, rfl, rfl, hx, hr_33⟩ ⟨rfl, rfl, trivial⟩ rfl rfl
       ·
        refine JO.step rfl trivial rfl (fun K hK => ?_)
        obtain ⟨vv_28, cv_28, h1v_28, h2v_28, h3v_28, hsv_28, hlv_28⟩ := RowOf.cutv hr_24 hb_29
        refine JL.val rfl rfl (R.slc (cap := cv_28) (a := (0 : Int)) (b := s_21.2) (c := (cv_28 : Int)) (m := s_21.1) (R := RInt) U75 S3 rfl rfl ⟨_, rfl⟩ (by obtain ⟨ao, n, e, _⟩ := h1v_28; exact ⟨ao, n, e, rfl⟩) ⟨hb_29.1, hb_29.2.1, h2v_28⟩ h3v_28 (.inl rfl)) (JL.nil (hK _ _ _ (stab_of (Hle.refl _) trivial) (JA.one (i := 3) (by kernel_rfl) (JO.step rfl trivial rfl (fun K hK => ?_)))))
        obtain ⟨vv_26, cv_26, h1v_26, h2v_26, h3v_26, hsv_26, hlv_26⟩ := RowOf.cutv hr_24 hb_27
        refine JL.val rfl rfl (R.slc (cap := cv_26) (a := s_21.2) (b := (s_21.1.length : Int)) (c := (cv_26 : Int)) (m := s_21.1) (R := RInt) U75 S3 rfl ⟨_, rfl⟩ rfl (by obtain ⟨ao, n, e, _⟩ := h1v_26; exact ⟨ao, n, e, rfl⟩) ⟨hb_27.1, hb_27.2.1, h2v_26⟩ h3v_26 (.inl rfl)) (JL.nil (hK _ _ _ (stab_of (Hle.refl _) trivial) (JA.one (i := 7) (by kernel_rfl) (JO.step rfl trivial rfl (fun K hK => JL.copyR (HF := (New H H)) (lo := s_21.2) (hi := (s_21.1.length : Int)) 0 U75 S3 rfl hr_24 rfl hsv_26 rfl (CSrc.part 0 rfl hr_24 hsv_28 hb_29 rfl) hb_32 hm_31 rfl (fun Kr_33 hr_33 => JL.nil (hK _ _ _ (stab_of (Hle.refl _) trivial) (JA.val ⟨by kernel_rfl, by kernel_rfl⟩ (calm_only _) (i := 8) rfl ⟨by kernel_rfl, by kernel_rfl, rfl⟩ trivial (stab_of (Hle.refl _) trivial) (R.add_i rfl rfl) rfl (JA.val ⟨by kernel_rfl, by kernel_rfl⟩ (calm_only _) (i := 9) rfl ⟨by kernel_rfl, by kernel_rfl, rfl⟩ trivial (stab_of (Hle.refl _) trivial) (R.assign rfl) rfl (JA.doneN (by kernel_rfl) (JN.blkN ?_)))))))))))
        replace hx := run_next hd_25 hx
        exact JN.cut ⟨(m_30, w64 (s_21.2 + (min ((cut s_21.1 (0 : Int) s_21.2).length : Int) ((s_21.1.length : Int) - s_21.2)))), Kr_33, rfl, rfl, rfl, hx, hr_33⟩ ⟨rfl, rfl, trivial⟩ rfl rfl
      ·
       replace hx := cond_f c_25 hx
       refine JC.exit (JN.passX ?_)
       obtain rfl := run_done hd_25 hx
       refine JN.passX (JN.exitSame ?_)
       exact JN.cut ⟨Kr_24, rfl, rfl, rfl, hr_24⟩ ⟨rfl, trivial⟩ rfl rfl

set_option maxHeartbeats 8000000 in
theorem dev_cut_ok (p_1 : List Int) (H : Heaplet) {ao : Option Addr} {n cap : Nat} (hs : IsSlice H RInt 1 (.slice ao n cap) p_1) (r : List (List UInt8)) (hx : dev_cut p_1 = some r) :
  Does Try.prog 107 #[.slice ao n cap] [] H (fun u K' H' => ∃ ao0 : Option Addr, ∃ n0 : Nat, ∃ cap0 : Nat, ∃ K0 : Own, u = .slice ao0 n0 cap0 ∧ K' = [K0] ∧ H = H' ∧ Pcs 0 5 45 (.slice ao0 n0 cap0) r K0 ∧ (∀ p ∈ K0, p.1 ∉ ids (List.flatten [])) ∧ True) := by
 unfold dev_cut at hx
 split at hx
 case isFalse => cases hx
 rename_i hp
 obtain rfl := Option.some.inj hx
 obtain ⟨ns, hns⟩ : ∃ ns, ns = p_1.map Int.toNat := ⟨_, rfl⟩
 have hpn : p_1 = ns.map (fun n : Nat => (n : Int)) := by
  rw [hns, List.map_map]
  have : ∀ (q : List Int), (∀ n ∈ q, 0 ≤ n) → q = q.map ((fun n : Nat => (n : Int)) ∘ Int.toNat) := by
   intro q
   induction q with
   | nil => intro _; rfl
   | cons y q ih => intro h; rw [List.map_cons, ← ih (fun n hn => h n (by simp [hn]))]; congr 1; have := h y (by simp); simp only [Function.comp]; omega
  exact this _ hp.1
 have hsum : ns.sum ≤ LIM := by rw [hns]; exact hp.2.1
 have hlen : ns.length ≤ LIM := by rw [hns, List.length_map]; exact hp.2.2
 have hpl : p_1.length = ns.length := by rw [hns, List.length_map]
 have hat : ∀ i, i < ns.length → ∃ y : Nat, ns[i]? = some y ∧ Nth p_1 (i : Int) (y : Int) := fun i hi => by
  refine ⟨ns[i], List.getElem?_eq_getElem hi, Int.natCast_nonneg i, ?_⟩
  rw [hpn]; simp [hi]
 have htk : ∀ i, (ns.take i).sum ≤ ns.sum := fun i => by
  have := congrArg List.sum (List.take_append_drop i ns)
  rw [List.sum_append] at this; omega
 have hstep : ∀ i y, ns[i]? = some y → ns.take (i + 1) = ns.take i ++ [y] := fun i y h => by rw [List.take_add_one, h]; rfl
 have hL : LIM = 1099511627776 := rfl
 have hr : (p_1.map fun n => List.replicate n.toNat (0 : UInt8)) = ns.map fun n => List.replicate n 0 := by rw [hpn, List.map_map]; rfl
 rw [hr]
 clear hr
 obtain ⟨ao, cap, e0⟩ := hs.val
 rw [e0] at hs
 simp only [e0]
 rw [hpl] at hs ⊢
 refine Does.enterL (vs := [.slice ao ns.length cap]) (l := [(0, .slice ao ns.length cap)]) Try.func107 rfl rfl ⟨rfl, trivial⟩ (fun w hlt => JC.seq (JC.region (JL.val rfl rfl (R.assign rfl) (JL.nil (JN.next (JC.seq (JC.region (JL.val rfl rfl (R.assign rfl) (JL.nil (JN.next (JC.seq ?_)))))))))))
 -- how many in all
 refine JC.cut (fun l o g => l = [(0, .slice ao ns.length cap), (2, .slice none 0 0), (3, .int .i64 ((ns.sum : Nat) : Int))] ∧ o = [] ∧ H = g) ?_ ?_
 rotate_left
 ·
  refine JC.seq (JC.region (JL.val rfl rfl (R.move rfl) (JL.val rfl rfl (R.lenL U75 rfl ⟨_, _, rfl⟩) (JL.val rfl rfl (R.move rfl) (JL.nil (JN.next (JC.block (JC.loop (ι := Nat) (fun i => [(0, .slice ao ns.length cap), (2, .slice none 0 0), (9, .slice ao ns.length cap), (10, .int .i64 (ns.length : Int)), (3, .int .i64 (((ns.take i).sum : Nat) : Int)), (11, .int .i64 ((i : Nat) : Int))]) (fun _ => []) (fun _ => H) (fun i => i ≤ ns.length) (fun i => ns.length - i) 0 (Nat.zero_le _) ⟨rfl, rfl, rfl, rfl, rfl, rfl, trivial⟩ rfl rfl ?_))))))))
  intro i hi
  refine JC.seq (JC.region (JL.val rfl rfl (R.lss_i rfl rfl) (JL.nil (JN.next (JC.seq (JC.condB rfl (fun c => ?_) (fun c => ?_)))))))
  ·
   have hlt' : i < ns.length := by have := of_decide_eq_true c; omega
   obtain ⟨y, hy, hN⟩ := hat i hlt'
   obtain ⟨b1, q1, cs1, hE1, hR1, hl1, hc1⟩ := IsSlice.elem hs hN
   obtain rfl : cs1 = [.int .i64 (y : Int)] := hR1
   have hsy := hstep i y hy
   have hw : w64 ((((ns.take i).sum : Nat) : Int) + (y : Int)) = (((ns.take (i + 1)).sum : Nat) : Int) := by
    have h1 := htk (i + 1)
    rw [hsy, List.sum_append] at h1 ⊢
    simp only [List.sum_cons, List.sum_nil, Nat.add_zero] at h1 ⊢
    rw [w64_of (by omega) (by omega)]; omega
   refine JC.skip (JN.next (JC.seq (JC.block (JC.seq (JC.region (JL.val rfl rfl (R.ix U75 S3 rfl rfl hE1) (JL.val rfl rfl (R.ldH S3 rfl (hc1 0 _ rfl)) (JL.val rfl rfl (R.assign rfl) (JL.nil (JN.next (JC.region ?_)))))))))))
   refine JL.val rfl rfl (R.move rfl) (JL.val rfl rfl (R.move rfl) (JL.val rfl rfl (R.add_i rfl rfl) ?_))
   rw [hw]
   refine JL.val rfl rfl (R.assign rfl) (JL.nil (JN.blkN (JN.next (JC.region (JL.val rfl rfl (R.inc rfl rfl (of_decide_eq_true c) (by omega)) (JL.val rfl rfl (R.move rfl) (JL.nil (JN.again (i := i) (i + 1) hlt' (by omega) ⟨rfl, rfl, rfl, rfl, rfl, rfl, trivial⟩ rfl rfl))))))))
  ·
   have hge : i = ns.length := by have := of_decide_eq_false c; omega
   subst hge
   refine JC.exit (JN.passX (JN.passX (JN.exitSame ?_)))
   rw [List.take_length]
   exact JN.cut ⟨rfl, rfl, rfl⟩ ⟨rfl, rfl, rfl, trivial⟩ rfl rfl
 rintro _ _ _ ⟨rfl, rfl, rfl⟩
 refine JN.next (JC.seq (JC.region (JL.val rfl rfl (R.move rfl) (JL.mkB U45 I5 rfl rfl hsum rfl rfl (fun hb hhb => JL.val rfl rfl (R.assign rfl) (JL.nil (JN.next (JC.seq (JC.cut (fun l o g => ∃ (ao2 : Option Addr) (n2 cap2 : Nat) (Ko : Own), l = [(2, .slice ao2 n2 cap2)] ∧ o = [Ko, [(hb, .cells (bvs (List.replicate ns.sum 0)).toArray 5 (0, 0))]] ∧ H = g ∧ RowOf (fun _ _ => none) (RPc hb) w.heap.size 45 1 (.slice ao2 n2 cap2) (offs 0 ns) Ko) ?_ ?_)))))))))
 rotate_left
 ·
  refine JC.seq (JC.region (JL.val rfl rfl (R.move rfl) (JL.val rfl rfl (R.lenL U75 rfl ⟨_, _, rfl⟩) (JL.val rfl rfl (R.move rfl) (JL.seg0 (JL.nil (JN.next (JC.block ?_))))))))
  refine JC.loop (ι := Nat × Nat × Option Addr × Nat × Nat × Own) (fun i => [(21, .slice ao ns.length cap), (22, .int .i64 (ns.length : Int)), (2, .slice i.2.2.1 i.2.2.2.1 i.2.2.2.2.1), (6, .slice (some ⟨hb, i.2.1, none⟩) (ns.sum - (ns.take i.1).sum) (ns.sum - (ns.take i.1).sum)), (23, .int .i64 ((i.1 : Nat) : Int))])
   (fun i => [i.2.2.2.2.2, [(hb, .cells (bvs (List.replicate ns.sum 0)).toArray 5 (0, 0))]]) (fun _ => H)
   (fun i => i.1 ≤ ns.length ∧ (ns.sum - (ns.take i.1).sum = 0 ∨ i.2.1 = (ns.take i.1).sum) ∧ RowOf (fun _ _ => none) (RPc hb) w.heap.size 45 1 (.slice i.2.2.1 i.2.2.2.1 i.2.2.2.2.1) (offs 0 (ns.take i.1)) i.2.2.2.2.2) (fun i => ns.length - i.1) (0, 0, none, 0, 0, [])
   ⟨Nat.zero_le _, .inr rfl, RowOf.nil _ _ _ _ _⟩ ⟨rfl, rfl, rfl, rfl, rfl, trivial⟩ rfl rfl ?_
  rintro ⟨i, s, ao2, n2, cap2, Ko⟩ ⟨hi, hsi, hout⟩
  dsimp only at hi hsi hout ⊢
  refine JC.seq (JC.region (JL.val rfl rfl (R.lss_i rfl rfl) (JL.nil (JN.next (JC.seq (JC.condB rfl (fun c => ?_) (fun c => ?_)))))))
  ·
   have hlt' : i < ns.length := by have := of_decide_eq_true c; omega
   obtain ⟨y, hy, hN⟩ := hat i hlt'
   obtain ⟨b1, q1, cs1, hE1, hR1, hl1, hc1⟩ := IsSlice.elem hs hN
   obtain rfl : cs1 = [.int .i64 (y : Int)] := hR1
   have hsy := hstep i y hy
   have htot := htk (i + 1)
   have hsm : (ns.take (i + 1)).sum = (ns.take i).sum + y := by rw [hsy, List.sum_append]; simp
   obtain ⟨rem, hrem⟩ : ∃ rem, rem = ns.sum - (ns.take i).sum := ⟨_, rfl⟩
   rw [← hrem] at hsi ⊢
   have hyr : y ≤ rem := by omega
   have hcy : y = 0 ∨ s = (ns.take i).sum := by
    rcases hsi with h | h
    ·
     left; omega
    ·
     exact .inr h
   have hrem2 : ns.sum - (ns.take (i + 1)).sum = rem - y := by omega
   have e31 : Value.slice (some ⟨hb, s, none⟩) y y = sliced (some ⟨hb, s, none⟩) (0 : Int).toNat (y : Int).toNat (y : Int).toNat 1 := by
    unfold sliced
    simp only [Int.toNat_natCast, Int.toNat_zero, Nat.sub_zero, Option.map_some, Nat.zero_mul, add_lit, Nat.add_zero]
    split <;> rfl
   obtain ⟨s2, hs2, e36⟩ : ∃ s2, (rem - y = 0 ∨ s2 = (ns.take (i + 1)).sum) ∧ Value.slice (some ⟨hb, s2, none⟩) (rem - y) (rem - y) = sliced (some ⟨hb, s, none⟩) (y : Int).toNat (rem : Int).toNat (rem : Int).toNat 1 := by
    unfold sliced
    simp only [Int.toNat_natCast, Option.map_some, add_lit, Nat.mul_one]
    by_cases h : rem = y
    ·
     exact ⟨s, .inl (by omega), by rw [if_pos h]⟩
    ·
     refine ⟨s + y, .inr ?_, by rw [if_neg h]⟩
     rcases hsi with h' | h' <;> omega
   have hq : offs 0 (ns.take (i + 1)) = offs 0 (ns.take i) ++ [((ns.take i).sum, y)] := by rw [hsy, offs_append]; simp [offs]
   have hll : (offs 0 (ns.take i)).length + [((ns.take i).sum, y)].length ≤ LIM := by rw [offs_length, List.length_take]; simp only [List.length_cons, List.length_nil]; omega
   refine JC.skip (JN.next (JC.seq (JC.block (JC.seq (JC.region (JL.val rfl rfl (R.ix U75 S3 rfl rfl hE1) (JL.val rfl rfl (R.ldH S3 rfl (hc1 0 _ rfl)) (JL.val rfl rfl (R.assign rfl) (JL.nil (JN.next (JC.seq ?_)))))))))))
   refine JC.region (JL.val rfl rfl (R.move rfl) (JL.val rfl rfl (R.move rfl) (JL.val rfl rfl (R.move rfl) (JL.val rfl rfl (R.move rfl) (JL.val rfl rfl (R.slc (cap := rem) (a := 0) (b := (y : Int)) (c := (y : Int)) (m := List.replicate rem (0 : UInt8)) (R := RU8) (v' := .slice (some ⟨hb, s, none⟩) y y) U45 S5 rfl rfl ⟨_, rfl⟩ ⟨_, rfl⟩ ⟨Int.le_refl _, by omega, Int.le_refl _⟩ ⟨some ⟨hb, s, none⟩, by rw [List.length_replicate], by omega, e31⟩ (.inr (fun h => by cases h))) (JL.bslF (HF := fun _ _ => none) (R := RPc hb) (ls := [((ns.take i).sum, y)]) (vs := [.slice (some ⟨hb, s, none⟩) y y]) U22 I45 rfl rfl (⟨_, _, rfl, rfl, ⟨s, rfl, hcy⟩, rfl⟩) (RPc.one hb) rfl rfl rfl (by simp [maxLen]) rfl (fun v3 K3 h3 => ?_)))))))
   obtain ⟨ao3, cap3, rfl⟩ := RowOf.val h3
   refine JL.appF (HF := fun _ _ => none) 1 U22 I45 rfl rfl hout rfl (SrcF.row 0 U22 rfl h3) hq hll rfl (Nat.le_refl _) rfl (fun v4 K4 h4 => ?_)
   obtain ⟨ao4, cap4, rfl⟩ := RowOf.val h4
   refine JL.val rfl rfl (R.assign rfl) (JL.nil (JN.next (JC.region (JL.val rfl rfl (R.move rfl) (JL.val rfl rfl (R.move rfl) (JL.val rfl rfl (R.slc (cap := rem) (a := (y : Int)) (b := (rem : Int)) (c := (rem : Int)) (m := List.replicate rem (0 : UInt8)) (R := RU8) (v' := .slice (some ⟨hb, s2, none⟩) (rem - y) (rem - y)) U45 S5 rfl ⟨_, rfl⟩ (by simp) ⟨some ⟨hb, s, none⟩, rem, rfl, rfl⟩ ⟨by omega, by omega, Int.le_refl _⟩ ⟨some ⟨hb, s, none⟩, by rw [List.length_replicate], by omega, e36⟩ (.inl rfl)) (JL.val rfl rfl (R.assign rfl) (JL.nil (JN.blkN (JN.next (JC.region ?_)))))))))))
   refine JL.val rfl rfl (R.inc rfl rfl (of_decide_eq_true c) (by omega)) (JL.val rfl rfl (R.move rfl) (JL.nil (JN.forget 0 (JN.again (i := (i, s, ao2, n2, cap2, Ko)) (i + 1, s2, ao4, _, cap4, K4) ⟨hlt', by dsimp only; rw [hrem2]; exact hs2, h4⟩ (by dsimp only; omega) ⟨rfl, rfl, rfl, by dsimp only; rw [hrem2]; rfl, rfl, trivial⟩ rfl rfl))))
  ·
   have hge : i = ns.length := by have := of_decide_eq_false c; omega
   subst hge
   refine JC.exit (JN.passX (JN.passX (JN.exitSame ?_)))
   rw [List.take_length] at hout
   exact JN.cut ⟨_, _, _, _, rfl, rfl, rfl, hout⟩ ⟨rfl, trivial⟩ rfl rfl
 rintro _ _ _ ⟨ao2, n2, cap2, Ko, rfl, rfl, rfl, hout⟩
 refine JN.next (JC.ret (JN.outP (vs := [.slice ao2 n2 cap2]) (K := [Ko ++ [(hb, .cells (bvs (List.replicate ns.sum 0)).toArray 5 (0, 0))]]) (rst := []) (.inl rfl) rfl rfl (Res.tmp rfl rfl) (by simp) ?_))
 have hflat : (ns.map fun n => List.replicate n (0 : UInt8)).flatten = List.replicate ns.sum 0 := by
  clear hat hstep htk hs hout hpn hns hpl hsum hlen
  induction ns with
  | nil => rfl
  | cons y r ih => rw [List.map_cons, List.flatten_cons, ih, List.sum_cons, List.replicate_append_replicate]
 have hlens : lens (ns.map fun n => List.replicate n (0 : UInt8)) = ns := by unfold lens; rw [List.map_map]; simp [Function.comp_def]
 refine ⟨ao2, n2, cap2, _, rfl, rfl, rfl, ⟨hb, Ko, ?_, Nat.zero_le _, ?_, ?_⟩, (fun p hp hm => by cases hm), trivial⟩
 ·
  rw [hflat]
 ·
  rw [hflat, List.length_replicate]; exact lim_max hsum
 ·
  rw [hlens]; exact RowOf.weak (Nat.zero_le _) hout

set_option maxHeartbeats 8000000 in
theorem dev_New_ok (H : Heaplet) (r : Disk) (hx : dev_New = some r) :
  Does Try.prog 64 #[] [] H (fun u K' H' => ∃ ao0 : Option Addr, ∃ n0 : Nat, ∃ cap0 : Nat, ∃ K0 : Own, ∃ ao1 : Option Addr, ∃ n1 : Nat, u = .agg #[.slice ao0 n0 cap0, .slice ao1 n1 n1] ∧ K' = [K0] ∧ Pcs 0 5 45 (.slice ao0 n0 cap0) r.Blocks K0 ∧ (∀ p ∈ K0, p.1 ∉ ids (List.flatten [])) ∧ IsSlice (New H H') R_Write 2 (.slice ao1 n1 n1) r.Waits ∧ True) := by
 refine Does.enterL (vs := []) (l := []) Try.func64 rfl rfl trivial (fun w hlt => ?_)
 unfold dev_New at hx
 refine JC.seq (JC.region (JL.alloc Z25 rfl (fun b_1 hb_1 => JL.nil (JN.next (JC.seq (JC.region (JL.bslF (HF := (New H H)) (R := RInt) (ls := [256]) (vs := [.int .i64 256]) U75 I3 rfl rfl (⟨_, _, rfl, rfl, rfl, rfl⟩) RInt.one rfl rfl rfl (by simp [maxLen]) rfl (fun vr_2 Kr_2 hr_2 => ?_))))))))
 obtain ⟨aor_2, capr_2, rfl⟩ := RowOf.val hr_2
 obtain ⟨x_6, hr_7, hx⟩ := bnd_some hx
 refine JL.callL3 (vs := [_, _]) E108 rfl rfl (fun H_5 hle_4 hl_3 => slices_Repeat_int_ok ([256]) 256 _ (Lent.row' 0 hl_3 RInt.mono hle_4 rfl (hr_2.old RInt.mono)) _ hr_7) rfl (fun _ _ _ _ hR_9 hf_10 => ?_)
 obtain ⟨aor_8, nr_8, capr_8, Kr_8, rfl, rfl, rfl, hr_8, -, -⟩ := hR_9
 replace hr_8 := RowOf.base (RowOf.const (H2 := New H H) RInt.const hr_8) (fun p hp => hf_10 p (mem_seg 0 rfl hp))
 refine JL.pubN 0 RInt.mono rfl hr_8 (Nat.le_refl _) (fun H_11 hleH_11 hsH_11 => JL.forget 0 ?_)
 obtain ⟨x_12, hr_13, hx⟩ := bnd_some hx
 refine JL.callC (vs := [_]) (args := [_]) (K := []) (rst := [_, _]) E107 rfl rfl rfl picks0 (dev_cut_ok x_6 _ (hsH_11.old RInt.mono) _ hr_13) rfl (fun u_14 Ku_14 Hu_14 hRu_14 hleu_14 hfu_14 => ?_)
 obtain ⟨aor_15, nr_15, capr_15, Kr_15, rfl, rfl, rfl, hr_15, hnewr_15, -⟩ := hRu_14
 replace hr_15 := (Pcs.base hr_15 (fun p hp => (hfu_14 p (mem_seg 0 rfl hp)).resolve_left (hnewr_15 p hp)))
 refine JL.val rfl rfl (R.bldP (vs := [(0, .slice aor_15 nr_15 capr_15)]) (cs := [.slice aor_15 nr_15 capr_15, .slice none 0 0]) Z25 B25 rfl rfl rfl) (JL.store 2 S25 rfl rfl rfl rfl rfl (Nat.le_of_ble_eq_true rfl) (JL.nil (JN.next (JC.ret (JN.outP (vs := [.agg #[.slice aor_15 nr_15 capr_15, .slice none 0 0]]) (K := [_]) (rst := [_, _]) (.inl rfl) rfl rfl (Res.cellN 2 rfl rfl S25 rfl) (picks 0 rfl picks0) ?_)))))
 obtain rfl := Option.some.inj hx
 exact ⟨aor_15, nr_15, capr_15, Kr_15, none, 0, rfl, rfl, (Pcs.weak (Nat.zero_le _) hr_15), (newP_ids hr_15 hlt), (IsSlice.nil _ _ _), trivial⟩

set_option maxHeartbeats 8000000 in
theorem bytes_Repeat_ok (p_1 : List UInt8) (p_3 : Int) (H : Heaplet) {aoa_2 : Option Addr} {na_2 : Nat} {capa_2 : Nat} (ha_2 : IsSlice H RU8 1 (.slice aoa_2 na_2 capa_2) p_1) (r : List UInt8) (hx : bytes_Repeat p_1 p_3 = some r) :
  Does Try.prog 109 #[.slice aoa_2 na_2 capa_2, .int .i64 p_3] [] H (fun u K' H' => ∃ ao0 : Option Addr, ∃ n0 : Nat, ∃ cap0 : Nat, ∃ K0 : Own, u = .slice ao0 n0 cap0 ∧ K' = [K0] ∧ H = H' ∧ RowOf (New H H) RU8 0 5 1 (.slice ao0 n0 cap0) r K0 ∧ (∀ p ∈ K0, p.1 ∉ ids (List.flatten [])) ∧ True) := by
 refine Does.enterL (vs := [.slice aoa_2 na_2 capa_2, .int .i64 p_3]) (l := [(0, .slice aoa_2 na_2 capa_2), (1, .int .i64 p_3)]) Try.func109 rfl rfl ⟨rfl, rfl, trivial⟩ (fun w hlt => ?_)
 unfold bytes_Repeat at hx
 refine JC.seq (JC.region (JL.val rfl rfl (R.assign rfl) (JL.nil (JN.next (JC.seq (JC.seq (JC.region (JL.val rfl rfl (R.move rfl) (JL.val rfl rfl (R.eql_i rfl rfl) (JL.nil (JN.next ?_)))))))))))
 refine JC.condB rfl (fun c_4 => ?_) (fun c_4 => ?_)
 ·
  replace hx := cond_t c_4 hx
  refine JC.seq (JC.region (JL.bslF (HF := (New H H)) (R := RU8) (ls := ([] : List UInt8)) (vs := []) U45 I5 rfl rfl (rfl) RU8.one rfl rfl rfl (by simp [maxLen]) rfl (fun vr_5 Kr_5 hr_5 => ?_)))
  obtain ⟨aor_5, capr_5, rfl⟩ := RowOf.val hr_5
  refine JL.val rfl rfl (R.assign rfl) (JL.nil (JN.next (JC.ret (JN.passR (JN.outP (vs := [.slice aor_5 (([] : List UInt8).length) capr_5]) (K := [_]) (rst := []) (.inl rfl) rfl rfl (Res.tmp rfl rfl) (picks 0 rfl picks0) ?_)))))
  obtain rfl := Option.some.inj hx
  exact ⟨aor_5, ([] : List UInt8).length, capr_5, Kr_5, rfl, rfl, rfl, (RowOf.weak (Nat.zero_le _) hr_5), (new_ids hr_5 hlt), trivial⟩
 ·
  replace hx := cond_f c_4 hx
  refine JC.skip (JN.next (JC.seq (JC.seq (JC.region (JL.val rfl rfl (R.move rfl) (JL.val rfl rfl (R.lss_i rfl rfl) (JL.nil (JN.next (JC.condB rfl (fun c_6 => ?_) (fun c_6 => ?_))))))))))
  ·
   replace hx := cond_t c_6 hx
   refine JC.region ?_
   cases hx
  ·
   replace hx := cond_f c_6 hx
   refine JC.skip (JN.next (JC.seq (JC.region (JL.val rfl rfl (R.move rfl) (JL.val rfl rfl (R.lenL U45 rfl (IsSlice.long ha_2)) (JL.val rfl rfl (R.cv_i64_u64 U3 U133 rfl) (JL.val rfl rfl (R.move rfl) (JL.val rfl rfl (R.cv_i64_u64 U3 U133 rfl) ?_))))))))
   obtain ⟨x_7, hr_8, hx⟩ := bnd_some hx
   refine JL.callC (vs := [_, _]) (args := [_, _]) (K := []) (rst := []) E143 rfl rfl rfl picks0 (math_bits_Mul_ok (u64i (p_1.length : Int)) (u64i p_3) _ _ hr_8) rfl (fun u_9 Ku_9 Hu_9 hRu_9 hleu_9 hfu_9 => ?_)
   obtain ⟨rfl, rfl, rfl, -⟩ := hRu_9
   refine JL.val rfl rfl (R.move rfl) (JL.val rfl rfl (R.extract rfl rfl) (JL.val rfl rfl (R.extract rfl rfl) (JL.val rfl rfl (R.assign rfl) (JL.val rfl rfl (R.assign rfl) (JL.nil (JN.next (JC.seq (JC.seq (JC.region (JL.val rfl rfl (R.move rfl) (JL.val rfl rfl (R.gtr64 (a := x_7.1) (b := (0 : UInt64)) rfl rfl) ?_)))))))))))
   refine JL.val rfl rfl (R.move rfl) (JL.gSplit (t := 29) rfl (fun c_10 => ?_) (fun c_10 => ?_))
   ·
    replace hx := cond_t c_10 hx
    refine JL.gNo rfl rfl rfl rfl rfl (JL.gNo rfl rfl rfl rfl rfl (JL.val rfl rfl (R.pickT rfl rfl) (JL.nil (JN.next (JC.condT rfl (JC.region ?_))))))
    cases hx
   ·
    replace hx := cond_f c_10 hx
    refine JL.gYes rfl rfl rfl (JL.val rfl rfl (R.move rfl) (JL.gYes rfl rfl rfl (JL.val rfl rfl (R.gtr64 (a := x_7.2) (b := (9223372036854775807 : UInt64)) rfl rfl) (JL.val rfl rfl (R.pickF rfl rfl) (JL.nil (JN.next (JC.condB rfl (fun c_11 => ?_) (fun c_11 => ?_))))))))
    ·
     replace hx := cond_t c_11 hx
     refine JC.region ?_
     cases hx
    ·
     replace hx := cond_f c_11 hx
     refine JC.skip (JN.next (JC.seq (JC.region (JL.val rfl rfl (R.move rfl) (JL.val rfl rfl (R.cv_u64_i64 (a := x_7.2) U133 U3 rfl) (JL.val rfl rfl (R.assign rfl) (JL.nil (JN.next (JC.seq (JC.seq (JC.region ?_)))))))))))
     refine JL.val rfl rfl (R.move rfl) (JL.val rfl rfl (R.lenL U45 rfl (IsSlice.long ha_2)) (JL.val rfl rfl (R.eql_i rfl rfl) (JL.nil (JN.next (JC.condB rfl (fun c_12 => ?_) (fun c_12 => ?_))))))
     ·
      replace hx := cond_t c_12 hx
      refine JC.seq (JC.region (JL.bslF (HF := (New H H)) (R := RU8) (ls := ([] : List UInt8)) (vs := []) U45 I5 rfl rfl (rfl) RU8.one rfl rfl rfl (by simp [maxLen]) rfl (fun vr_13 Kr_13 hr_13 => ?_)))
      obtain ⟨aor_13, capr_13, rfl⟩ := RowOf.val hr_13
      refine JL.val rfl rfl (R.assign rfl) (JL.nil (JN.next (JC.ret (JN.passR (JN.outP (vs := [.slice aor_13 (([] : List UInt8).length) capr_13]) (K := [_]) (rst := []) (.inl rfl) rfl rfl (Res.tmp rfl rfl) (picks 0 rfl picks0) ?_)))))
      obtain rfl := Option.some.inj hx
      exact ⟨aor_13, ([] : List UInt8).length, capr_13, Kr_13, rfl, rfl, rfl, (RowOf.weak (Nat.zero_le _) hr_13), (new_ids hr_13 hlt), trivial⟩
     ·
      replace hx := cond_f c_12 hx
      refine JC.skip (JN.next (JC.seq (JC.region (JL.val rfl rfl (R.move rfl) (JL.val rfl rfl (R.assign rfl) (JL.nil (JN.next (JC.seq (JC.seq (JC.region (JL.val rfl rfl (R.move rfl) ?_)))))))))))
      refine JL.val rfl rfl (R.gtr_i rfl rfl) (JL.nil (JN.next ?_))
      obtain ⟨t_14, ht_16, hx⟩ := bnd_some hx
      refine JC.cut (fun l o g => l = [(0, .slice aoa_2 na_2 capa_2), (7, .int .i64 (w64 (x_7.2.toNat : Int))), (8, .int .i64 t_14)] ∧ o = [] ∧ H = g) ?_ ?_
      ·
       rintro _ _ _ ⟨rfl, rfl, rfl⟩
       refine JN.next (JC.seq (JC.region (JL.val rfl rfl (R.move rfl) ?_)))
       obtain ⟨nz_200, hm_21, hc_22, hx⟩ := mks_some hx
       obtain ⟨nn_25, hnn_26⟩ := Int.eq_ofNat_of_zero_le hc_22.1
       refine JL.mkNZ (HF := New H H) (N := nn_25) Try.func144 (by kernel_rfl) rfl (by kernel_rfl) U45 (by kernel_rfl) (congrArg (fun q => some (Value.int .i64 q)) hnn_26) (by simpa [hnn_26] using hc_22.2) rfl (fun aor_24 capr_24 nz_20 Kr_24 hL_23 hr_24 => ?_)
       replace hx := bytes_Repeat_any hm_21 hnn_26 hL_23 hx (by have := hc_22.2; omega)
       refine JL.val rfl rfl (R.move rfl) (JL.val rfl rfl (R.move rfl) ?_)
       obtain ⟨m_29, hm_30, hb_28, hx⟩ := slc_some hx
       obtain ⟨vv_27, cv_27, aov_27, h1v_27, h2v_27, hsv_27⟩ := RowOf.cutc hr_24 hm_30 hb_28
       refine JL.val rfl rfl (R.slc (cap := cv_27) (a := 0) (b := w64 (x_7.2.toNat : Int)) (c := w64 (x_7.2.toNat : Int)) (m := nz_20) (R := RU8) U45 S5 rfl rfl ⟨_, rfl⟩ ⟨_, rfl⟩ ⟨hb_28.1, hb_28.2.1, Int.le_refl _⟩ h1v_27 (.inr (fun h => by cases h))) ?_
       subst h2v_27
       refine JL.val rfl rfl (R.assign rfl) (JL.nil (JN.next (JC.seq (JC.region (JL.val rfl rfl (R.move rfl) (JL.val rfl rfl (R.move rfl) ?_))))))
       obtain ⟨m_32, hm_33, hb_34, hx⟩ := cpyO_some hx
       refine JL.copyR (HF := (New H H)) (lo := 0) (hi := (m_29.length : Int)) 0 U45 S5 rfl hsv_27 rfl (RowOf.whole hsv_27) rfl (CSrc.slice RU8.one (Hle.refl _) ha_2 (fun _ _ h => RU8.const _ _ _ _ h)) hb_34 hm_33 rfl (fun Kr_35 hr_35 => JL.val rfl rfl (R.assign rfl) (JL.nil (JN.next (JC.seq ?_))))
       obtain ⟨t_36, ht_38, hx⟩ := bnd_some hx
       refine JC.cut (fun l o g => ∃ Kr_43 : Own, l = [(9, .slice aov_27 m_29.length m_29.length)] ∧ o = [Kr_43] ∧ H = g ∧ RowOf (New H H) RU8 w.heap.size 5 1 (.slice aov_27 m_29.length m_29.length) t_36 Kr_43) ?_ ?_
       ·
        rintro _ _ _ ⟨Kr_43, rfl, rfl, rfl, hr_43⟩
        refine JN.next (JC.seq (JC.region (JL.val rfl rfl (R.move rfl) (JL.val rfl rfl (R.assign rfl) (JL.nil (JN.next (JC.ret (JN.outP (vs := [.slice aov_27 m_29.length m_29.length]) (K := [_]) (rst := []) (.inl rfl) rfl rfl (Res.tmp rfl rfl) (picks 0 rfl picks0) ?_))))))))
        obtain rfl := Option.some.inj hx
        exact ⟨aov_27, m_29.length, m_29.length, Kr_43, rfl, rfl, rfl, (RowOf.weak (Nat.zero_le _) hr_43), (new_ids hr_43 hlt), trivial⟩
       ·
        have hxo_37 := hx; clear hx; have hx := ht_38; clear ht_38
        refine JC.block (JC.loopI (fun n l o g => ∃ s_39 : List UInt8 × Int, ∃ Kr_42 : Own, l = [(7, .int .i64 (w64 (x_7.2.toNat : Int))), (8, .int .i64 t_14), (9, .slice aov_27 m_29.length m_29.length), (10, .int .i64 s_39.2)] ∧ o = [Kr_42] ∧ H = g ∧ run (bytes_Repeat_l1 x_7 t_14) n s_39 = some t_36 ∧ RowOf (New H H) RU8 w.heap.size 5 1 (.slice aov_27 m_29.length m_29.length) s_39.1 Kr_42) FUEL ?_ ⟨(m_32, min (p_1.length : Int) ((m_29.length : Int) - 0)), Kr_35, rfl, rfl, rfl, hx, hr_35⟩ ⟨rfl, rfl, rfl, rfl, trivial⟩ ?_)
        ·
         rintro _ _ _ ⟨s_39, Kr_42, rfl, rfl, rfl, hn_40, hr_42⟩
         exact run_zero hn_40
        ·
         rintro n_41 _ _ _ ⟨s_39, Kr_42, rfl, rfl, rfl, hn_40, hr_42⟩
         clear hx; obtain ⟨oo_44, hx, hd_43⟩ := run_some hn_40
         unfold bytes_Repeat_l1 at hx
         refine JC.seq (JC.seq (JC.region (JL.val rfl rfl (R.move rfl) (JL.val rfl rfl (R.move rfl) (JL.val rfl rfl (R.lss_i rfl rfl) (JL.nil (JN.next (JC.condB rfl (fun c_43 => ?_) (fun c_43 => ?_)))))))))
         ·
          replace hx := cond_t c_43 hx
          refine JC.skip (JN.next (JC.block (JC.seq (JC.region (JL.val rfl rfl (R.move rfl) (JL.val rfl rfl (R.move rfl) (JL.val rfl rfl (R.min2 rfl rfl) (JL.val rfl rfl (R.assign rfl) (JL.nil (JN.next (JC.draw (so := []) 10 rfl Mixed trivial ?_)))))))))))
          refine JA.val ⟨by kernel_rfl, by kernel_rfl⟩ (calm_only _) (i := 0) rfl ⟨by kernel_rfl, by kernel_rfl, rfl⟩ trivial (stab_of (Hle.refl _) trivial) (R.move rfl) rfl (JA.val ⟨by kernel_rfl, by kernel_rfl⟩ (calm_only _) (i := 1) rfl ⟨by kernel_rfl, by kernel_rfl, rfl⟩ trivial (stab_of (Hle.refl _) trivial) (R.move rfl) rfl (JA.val ⟨by kernel_rfl, by kernel_rfl⟩ (calm_only _) (i := 2) rfl ⟨by kernel_rfl, by kernel_rfl, rfl⟩ trivial (stab_of (Hle.refl _) trivial) (R.move rfl) rfl (JA.val ⟨by kernel_rfl, by kernel_rfl⟩ (calm_only _) (i := 4) rfl ⟨by kernel_rfl, by kernel_rfl, rfl⟩ trivial (stab_of (Hle.refl _) trivial) (R.move rfl) rfl (JA.val ⟨by kernel_rfl, by kernel_rfl⟩ (calm_only _) (i := 5) rfl ⟨by kernel_rfl, by kernel_rfl, rfl⟩ trivial (stab_of (Hle.refl _) trivial) (R.move rfl) rfl ?_))))
          obtain ⟨hb_45, hx⟩ := chk_some hx
          obtain ⟨hb_47, hx⟩ := chk_some hx
          obtain ⟨m_48, hm_49, hb_50, hx⟩ := cpyO_some hx
          refine JA.two (i := 3) (j := 6) (by kernel_rfl) ?_ ?_
          ·
           refine JO.step rfl trivial rfl (fun K hK => ?_)
           obtain ⟨vv_44, cv_44, h1v_44, h2v_44, h3v_44, hsv_44, hlv_44⟩ := RowOf.cutv hr_42 hb_45
           refine JL.val rfl rfl (R.slc (cap := cv_44) (a := s_39.2) (b := (s_39.1.length : Int)) (c := (cv_44 : Int)) (m := s_39.1) (R := RU8) U45 S5 rfl ⟨_, rfl⟩ rfl (by obtain ⟨ao, n, e, _⟩ := h1v_44; exact ⟨ao, n, e, rfl⟩) ⟨hb_45.1, hb_45.2.1, h2v_44⟩ h3v_44 (.inl rfl)) (JL.nil (hK _ _ _ (stab_of (Hle.refl _) trivial) (JA.one (i := 6) (by kernel_rfl) (JO.step rfl trivial rfl (fun K hK => ?_)))))
           obtain ⟨vv_46, cv_46, h1v_46, h2v_46, h3v_46, hsv_46, hlv_46⟩ := RowOf.cutv hr_42 hb_47
           refine JL.val rfl rfl (R.slc (cap := cv_46) (a := (0 : Int)) (b := min s_39.2 t_14) (c := (cv_46 : Int)) (m := s_39.1) (R := RU8) U45 S5 rfl rfl ⟨_, rfl⟩ (by obtain ⟨ao, n, e, _⟩ := h1v_46; exact ⟨ao, n, e, rfl⟩) ⟨hb_47.1, hb_47.2.1, h2v_46⟩ h3v_46 (.inl rfl)) (JL.nil (hK _ _ _ (stab_of (Hle.refl _) trivial) (JA.one (i := 7) (by kernel_rfl) (JO.step rfl trivial rfl (fun K hK => JL.copyR (HF := (New H H)) (lo := s_39.2) (hi := (s_39.1.length : Int)) 0 U45 S5 rfl hr_42 rfl hsv_44 rfl (CSrc.part 0 rfl hr_42 hsv_46 hb_47 rfl) hb_50 hm_49 rfl (fun Kr_51 hr_51 => JL.nil (hK _ _ _ (stab_of (Hle.refl _) trivial) (JA.val ⟨by kernel_rfl, by kernel_rfl⟩ (calm_only _) (i := 8) rfl ⟨by kernel_rfl, by kernel_rfl, rfl⟩ trivial (stab_of (Hle.refl _) trivial) (R.add_i rfl rfl) rfl (JA.val ⟨by kernel_rfl, by kernel_rfl⟩ (calm_only _) (i := 9) rfl ⟨by kernel_rfl, by kernel_rfl, rfl⟩ trivial (stab_of (Hle.refl _) trivial) (R.assign rfl) rfl (JA.doneN (by kernel_rfl) (JN.blkN ?_)))))))))))
           replace hx := run_next hd_43 hx
           exact JN.cut ⟨(m_48, w64 (s_39.2 + (min ((cut s_39.1 (0 : Int) (min s_39.2 t_14)).length : Int) ((s_39.1.length : Int) - s_39.2)))), Kr_51, rfl, rfl, rfl, hx, hr_51⟩ ⟨rfl, rfl, rfl, rfl, trivial⟩ rfl rfl
          ·
           refine JO.step rfl trivial rfl (fun K hK => ?_)
           obtain ⟨vv_46, cv_46, h1v_46, h2v_46, h3v_46, hsv_46, hlv_46⟩ := RowOf.cutv hr_42 hb_47
           refine JL.val rfl rfl (R.slc (cap := cv_46) (a := (0 : Int)) (b := min s_39.2 t_14) (c := (cv_46 : Int)) (m := s_39.1) (R := RU8) U45 S5 rfl rfl ⟨_, rfl⟩ (by obtain ⟨ao, n, e, _⟩ := h1v_46; exact ⟨ao, n, e, rfl⟩) ⟨hb_47.1, hb_47.2.1, h2v_46⟩ h3v_46 (.inl rfl)) (JL.nil (hK _ _ _ (stab_of (Hle.refl _) trivial) (JA.one (i := 3) (by kernel_rfl) (JO.step rfl trivial rfl (fun K hK => ?_)))))
           obtain ⟨vv_44, cv_44, h1v_44, h2v_44, h3v_44, hsv_44, hlv_44⟩ := RowOf.cutv hr_42 hb_45
           refine JL.val rfl rfl (R.slc (cap := cv_44) (a := s_39.2) (b := (s_39.1.length : Int)) (c := (cv_44 : Int)) (m := s_39.1) (R := RU8) U45 S5 rfl ⟨_, rfl⟩ rfl (by obtain ⟨ao, n, e, _⟩ := h1v_44; exact ⟨ao, n, e, rfl⟩) ⟨hb_45.1, hb_45.2.1, h2v_44⟩ h3v_44 (.inl rfl)) (JL.nil (hK _ _ _ (stab_of (Hle.refl _) trivial) (JA.one (i := 7) (by kernel_rfl) (JO.step rfl trivial rfl (fun K hK => JL.copyR (HF := (New H H)) (lo := s_39.2) (hi := (s_39.1.length : Int)) 0 U45 S5 rfl hr_42 rfl hsv_44 rfl (CSrc.part 0 rfl hr_42 hsv_46 hb_47 rfl) hb_50 hm_49 rfl (fun Kr_51 hr_51 => JL.nil (hK _ _ _ (stab_of (Hle.refl _) trivial) (JA.val ⟨by kernel_rfl, by kernel_rfl⟩ (calm_only _) (i := 8) rfl ⟨by kernel_rfl, by kernel_rfl, rfl⟩ trivial (stab_of (Hle.refl _) trivial) (R.add_i rfl rfl) rfl (JA.val ⟨by kernel_rfl, by kernel_rfl⟩ (calm_only _) (i := 9) rfl ⟨by kernel_rfl, by kernel_rfl, rfl⟩ trivial (stab_of (Hle.refl _) trivial) (R.assign rfl) rfl (JA.doneN (by kernel_rfl) (JN.blkN ?_)))))))))))
           replace hx := run_next hd_43 hx
           exact JN.cut ⟨(m_48, w64 (s_39.2 + (min ((cut s_39.1 (0 : Int) (min s_39.2 t_14)).length : Int) ((s_39.1.length : Int) - s_39.2)))), Kr_51, rfl, rfl, rfl, hx, hr_51⟩ ⟨rfl, rfl, rfl, rfl, trivial⟩ rfl rfl
         ·
          replace hx := cond_f c_43 hx
          refine JC.exit (JN.passX ?_)
          obtain rfl := run_done hd_43 hx
          refine JN.passX (JN.exitSame ?_)
          exact JN.cut ⟨Kr_42, rfl, rfl, rfl, hr_42⟩ ⟨rfl, trivial⟩ rfl rfl
      ·
       have hxo_15 := hx; clear hx; have hx := ht_16; clear ht_16
       refine JC.condB rfl (fun c_17 => ?_) (fun c_17 => ?_)
       ·
        replace hx := cond_t c_17 hx
        refine JC.seq (JC.region (JL.val rfl rfl (R.move rfl) (JL.val rfl rfl (R.lenL U45 rfl (IsSlice.long ha_2)) ?_)))
        obtain ⟨hz_18, hx⟩ := chk_some hx
        refine JL.val rfl rfl (R.quo_i rfl rfl hz_18) (JL.val rfl rfl (R.move rfl) (JL.val rfl rfl (R.lenL U45 rfl (IsSlice.long ha_2)) (JL.val rfl rfl (R.mul_i rfl rfl) (JL.val rfl rfl (R.assign rfl) (JL.nil (JN.next (JC.seq (JC.region (JL.val rfl rfl (R.move rfl) (JL.val rfl rfl (R.eql_i rfl rfl) (JL.nil ?_)))))))))))
        refine JN.next (JC.condB rfl (fun c_19 => ?_) (fun c_19 => ?_))
        ·
         replace hx := cond_t c_19 hx
         refine JC.region (JL.val rfl rfl (R.move rfl) (JL.val rfl rfl (R.lenL U45 rfl (IsSlice.long ha_2)) (JL.val rfl rfl (R.assign rfl) (JL.nil ?_))))
         obtain rfl := Option.some.inj hx
         exact JN.cut ⟨rfl, rfl, rfl⟩ ⟨rfl, rfl, rfl, trivial⟩ rfl rfl
        ·
         replace hx := cond_f c_19 hx
         refine JC.skip ?_
         obtain rfl := Option.some.inj hx
         exact JN.cut ⟨rfl, rfl, rfl⟩ ⟨rfl, rfl, rfl, trivial⟩ rfl rfl
       ·
        replace hx := cond_f c_17 hx
        refine JC.skip ?_
        obtain rfl := Option.some.inj hx
        exact JN.cut ⟨rfl, rfl, rfl⟩ ⟨rfl, rfl, rfl, trivial⟩ rfl rfl

set_option maxHeartbeats 8000000 in
theorem space_New_ok (H : Heaplet) (r : List UInt8) (hx : space_New = some r) :
  Does Try.prog 65 #[] [] H (fun u K' H' => ∃ ao0 : Option Addr, ∃ n0 : Nat, ∃ cap0 : Nat, ∃ K0 : Own, u = .slice ao0 n0 cap0 ∧ K' = [K0] ∧ H = H' ∧ RowOf (New H H) RU8 0 5 1 (.slice ao0 n0 cap0) r K0 ∧ (∀ p ∈ K0, p.1 ∉ ids (List.flatten [])) ∧ True) := by
 refine Does.enterL (vs := []) (l := []) Try.func65 rfl rfl trivial (fun w hlt => ?_)
 unfold space_New at hx
 refine JC.seq (JC.region (JL.val rfl rfl (R.assign rfl) (JL.nil (JN.next (JC.seq (JC.region (JL.bslF (HF := (New H H)) (R := RU8) (ls := [(1 : UInt8)]) (vs := [.int .u8 ((1 : UInt8).toNat : Int)]) U45 I5 rfl rfl (⟨_, _, rfl, rfl, rfl, rfl⟩) RU8.one rfl rfl rfl (by simp [maxLen]) rfl (fun vr_1 Kr_1 hr_1 => ?_))))))))
 obtain ⟨aor_1, capr_1, rfl⟩ := RowOf.val hr_1
 obtain ⟨x_5, hr_6, hx⟩ := bnd_some hx
 refine JL.callL3 (vs := [_, _]) E109 rfl rfl (fun H_4 hle_3 hl_2 => bytes_Repeat_ok ([(1 : UInt8)]) 12 _ (Lent.row' 0 hl_2 RU8.mono hle_3 rfl (hr_1.old RU8.mono)) _ hr_6) rfl (fun _ _ _ _ hR_8 hf_9 => ?_)
 obtain ⟨aor_7, nr_7, capr_7, Kr_7, rfl, rfl, rfl, hr_7, -, -⟩ := hR_8
 replace hr_7 := RowOf.base (RowOf.const (H2 := New H H) RU8.const hr_7) (fun p hp => hf_9 p (mem_seg 0 rfl hp))
 obtain ⟨z_12, hz_11, hc_10, hx⟩ := mks_some hx
 obtain ⟨q_13, hm_14, hl_15, hx⟩ := app_some hx
 refine JL.appZR (HF := (New H H)) (y := (0 : UInt8)) 0 U45 U3 I5 rfl rfl hr_7 rfl (fun _ => rfl) RU8.one hz_11 hc_10 hm_14 hl_15 rfl (Nat.le_refl _) rfl (fun vr_16 Kr_16 hr_16 => ?_)
 obtain ⟨aor_16, capr_16, rfl⟩ := RowOf.val hr_16
 refine JL.val rfl rfl (R.assign rfl) (JL.nil (JN.next (JC.ret (JN.outP (vs := [.slice aor_16 q_13.length capr_16]) (K := [_]) (rst := [_]) (.inl rfl) rfl rfl (Res.tmp rfl rfl) (picks 0 rfl picks0) ?_))))
 obtain rfl := Option.some.inj hx
 exact ⟨aor_16, q_13.length, capr_16, Kr_16, rfl, rfl, rfl, (RowOf.weak (Nat.zero_le _) hr_16), (new_ids hr_16 hlt), trivial⟩

set_option maxHeartbeats 8000000 in
theorem store_New_ok (H : Heaplet) (r : Store) (hx : store_New = some r) :
  Does Try.prog 33 #[] [] H (fun u K' H' => ∃ ao0 : Option Addr, ∃ n0 : Nat, ∃ cap0 : Nat, ∃ K0 : Own, ∃ ao1 : Option Addr, ∃ n1 : Nat, ∃ ao2 : Option Addr, ∃ n2 : Nat, ∃ cap2 : Nat, ∃ K2 : Own, u = .agg #[.slice ao0 n0 cap0, .slice ao1 n1 n1, .slice ao2 n2 cap2, .int .u32 (r.Epoch.toNat : Int), .int .u32 (r.Count.toNat : Int)] ∧ K' = [K0, K2] ∧ Pcs 0 5 45 (.slice ao0 n0 cap0) r.Disk.Blocks K0 ∧ (∀ p ∈ K0, p.1 ∉ ids (List.flatten [])) ∧ IsSlice (New H H') R_Write 2 (.slice ao1 n1 n1) r.Disk.Waits ∧ RowOf (New H H') RU8 0 5 1 (.slice ao2 n2 cap2) r.Space K2 ∧ (∀ p ∈ K2, p.1 ∉ ids (List.flatten [])) ∧ True) := by
 refine Does.enterL (vs := []) (l := []) Try.func33 rfl rfl trivial (fun w hlt => ?_)
 unfold store_New at hx
 refine JC.seq (JC.region (JL.alloc Z50 rfl (fun b_1 hb_1 => JL.nil (JN.next (JC.seq (JC.region ?_))))))
 obtain ⟨x_2, hr_3, hx⟩ := bnd_some hx
 refine JL.callC (vs := []) (args := []) (K := []) (rst := [_]) E64 rfl rfl rfl picks0 (dev_New_ok _ _ hr_3) rfl (fun u_4 Ku_4 Hu_4 hRu_4 hleu_4 hfu_4 => ?_)
 obtain ⟨aor_5, nr_5, capr_5, Kr_5, aoz_6, nz_6, rfl, rfl, hr_5, hnewr_5, hz_6, -⟩ := hRu_4
 replace hr_5 := (Pcs.base hr_5 (fun p hp => (hfu_4 p (mem_seg 0 rfl hp)).resolve_left (hnewr_5 p hp)))
 replace hz_6 := IsSlice.mono R_Write.mono (New.call (Hle.refl _)) hz_6
 obtain ⟨x_7, hr_8, hx⟩ := bnd_some hx
 refine JL.callC (vs := []) (args := []) (K := []) (rst := [_, _]) E65 rfl rfl rfl picks0 (space_New_ok _ _ hr_8) rfl (fun u_9 Ku_9 Hu_9 hRu_9 hleu_9 hfu_9 => ?_)
 obtain ⟨aor_10, nr_10, capr_10, Kr_10, rfl, rfl, rfl, hr_10, hnewr_10, -⟩ := hRu_9
 replace hr_10 := (RowOf.base (RowOf.const (H2 := New H Hu_4) RU8.const hr_10) (fun p hp => (hfu_9 p (mem_seg 0 rfl hp)).resolve_left (hnewr_10 p hp)))
 refine JL.val rfl rfl (R.bldP (vs := [(0, .agg #[.slice aor_5 nr_5 capr_5, .slice aoz_6 nz_6 nz_6]), (1, .slice aor_10 nr_10 capr_10), (2, .int .u32 ((1 : UInt32).toNat : Int))]) (cs := [.slice aor_5 nr_5 capr_5, .slice aoz_6 nz_6 nz_6, .slice aor_10 nr_10 capr_10, .int .u32 ((1 : UInt32).toNat : Int), .int .u32 ((0 : UInt32).toNat : Int)]) Z50 B50 rfl rfl rfl) (JL.store 2 S50 rfl rfl rfl rfl rfl (Nat.le_of_ble_eq_true rfl) (JL.nil (JN.next (JC.ret (JN.outP (vs := [.agg #[.slice aor_5 nr_5 capr_5, .slice aoz_6 nz_6 nz_6, .slice aor_10 nr_10 capr_10, .int .u32 ((1 : UInt32).toNat : Int), .int .u32 ((0 : UInt32).toNat : Int)]]) (K := [_, _]) (rst := [_]) (.inl rfl) rfl rfl (Res.cellN 2 rfl rfl S50 rfl) (picks 1 rfl (picks 0 rfl picks0)) ?_)))))
 obtain rfl := Option.some.inj hx
 exact ⟨aor_5, nr_5, capr_5, Kr_5, aoz_6, nz_6, aor_10, nr_10, capr_10, Kr_10, rfl, rfl, (Pcs.weak (Nat.zero_le _) hr_5), (newP_ids hr_5 hlt), hz_6, (RowOf.weak (Nat.zero_le _) hr_10), (new_ids hr_10 hlt), trivial⟩

set_option maxHeartbeats 8000000 in
theorem dev_place_ok (p_1 : Int) (H : Heaplet) (r : Bool) (hx : dev_place p_1 = some r) :
  Does Try.prog 67 #[.int .i64 p_1] [] H (fun u K' H' => u = .bool r ∧ K' = [] ∧ H = H' ∧ True) := by
 refine Does.enterL (vs := [.int .i64 p_1]) (l := [(0, .int .i64 p_1)]) Try.func67 rfl rfl ⟨rfl, trivial⟩ (fun w hlt => ?_)
 unfold dev_place at hx
 refine JC.seq (JC.region (JL.val rfl rfl (R.assign rfl) (JL.nil (JN.next (JC.seq (JC.region (JL.val rfl rfl (R.move rfl) (JL.val rfl rfl (R.cv_i64_u64 U3 U133 rfl) (JL.val rfl rfl (R.lss64 (a := u64i p_1) (b := (256 : UInt64)) rfl rfl) (JL.val rfl rfl (R.assign rfl) (JL.nil ?_)))))))))))
 refine JN.next (JC.ret (JN.outP (vs := [.bool (decide ((u64i p_1) < (256 : UInt64)))]) (K := []) (rst := []) (.inl rfl) rfl rfl (Res.tmp rfl rfl) picks0 ?_))
 obtain rfl := Option.some.inj hx
 exact ⟨rfl, rfl, rfl, trivial⟩

set_option maxHeartbeats 8000000 in
theorem dev_Check_ok (p_1 : Disk) (H : Heaplet) {aoa_2 : Option Addr} {na_2 : Nat} {capa_2 : Nat} {aoa_3 : Option Addr} {na_3 : Nat} {capa_3 : Nat} (ha_2 : IsSlice H (RSl RU8 1) 1 (.slice aoa_2 na_2 capa_2) p_1.Blocks) (ha_3 : IsSlice H R_Write 2 (.slice aoa_3 na_3 capa_3) p_1.Waits) (r : Int) (hx : dev_Check p_1 = some r) :
  Does Try.prog 36 #[.agg #[.slice aoa_2 na_2 capa_2, .slice aoa_3 na_3 capa_3]] [] H (fun u K' H' => u = .int .i64 r ∧ K' = [] ∧ H = H' ∧ True) := by
 refine Does.enterL (vs := [.agg #[.slice aoa_2 na_2 capa_2, .slice aoa_3 na_3 capa_3]]) (l := [(0, .agg #[.slice aoa_2 na_2 capa_2, .slice aoa_3 na_3 capa_3])]) Try.func36 rfl rfl ⟨rfl, trivial⟩ (fun w hlt => ?_)
 unfold dev_Check at hx
 refine JC.seq (JC.region (JL.box rfl rfl (fun b_4 hb_4 => JL.val rfl rfl (R.assign rfl) (JL.nil (JN.next (JC.seq ?_))))))
 obtain ⟨t_5, ht_7, hx⟩ := bnd_some hx
 refine JC.cut (fun l o g => l = [(1, .pointer (some ⟨b_4, 0, none⟩)), (3, .bool t_5)] ∧ o = [[(b_4, .cells #[.slice aoa_2 na_2 capa_2, .slice aoa_3 na_3 capa_3] 25 (0, 0))]] ∧ H = g) ?_ ?_
 ·
  rintro _ _ _ ⟨rfl, rfl, rfl⟩
  refine JN.next (JC.seq (JC.seq (JC.region (JL.val rfl rfl (R.fa F25_0 rfl) (JL.val rfl rfl (R.ldo 0 S22 rfl rfl rfl) (JL.val rfl rfl (R.lenL U22 rfl (IsSlice.long ha_2)) (JL.val rfl rfl (R.move rfl) (JL.nil (JN.next ?_)))))))))
  obtain ⟨t_9, ht_11, hx⟩ := bnd_some hx
  refine JC.cut (fun l o g => l = [(1, .pointer (some ⟨b_4, 0, none⟩)), (3, .bool t_9)] ∧ o = [[(b_4, .cells #[.slice aoa_2 na_2 capa_2, .slice aoa_3 na_3 capa_3] 25 (0, 0))]] ∧ H = g) ?_ ?_
  ·
   rintro _ _ _ ⟨rfl, rfl, rfl⟩
   refine JN.next (JC.seq (JC.seq (JC.region (JL.val rfl rfl (R.fa F25_1 rfl) (JL.val rfl rfl (R.ldo 0 S23 rfl rfl rfl) (JL.val rfl rfl (R.lenL U23 rfl (IsSlice.long ha_3)) (JL.val rfl rfl (R.move rfl) (JL.nil (JN.next ?_)))))))))
   obtain ⟨t_15, ht_17, hx⟩ := bnd_some hx
   refine JC.cut (fun l o g => l = [(3, .bool t_15)] ∧ o = [] ∧ H = g) ?_ ?_
   ·
    rintro _ _ _ ⟨rfl, rfl, rfl⟩
    refine JN.next (JC.seq (JC.seq (JC.region (JL.val rfl rfl (R.move rfl) (JL.nil (JN.next (JC.condB rfl (fun c_21 => ?_) (fun c_21 => ?_))))))))
    ·
     replace hx := cond_t c_21 hx
     refine JC.seq (JC.region (JL.val rfl rfl (R.assign rfl) (JL.nil (JN.next (JC.ret (JN.passR (JN.outP (vs := [.int .i64 0]) (K := []) (rst := []) (.inl rfl) rfl rfl (Res.tmp rfl rfl) picks0 ?_)))))))
     obtain rfl := Option.some.inj hx
     exact ⟨rfl, rfl, rfl, trivial⟩
    ·
     replace hx := cond_f c_21 hx
     refine JC.skip (JN.next (JC.seq (JC.region (JL.val rfl rfl (R.assign rfl) (JL.nil (JN.next (JC.ret (JN.outP (vs := [.int .i64 8]) (K := []) (rst := []) (.inl rfl) rfl rfl (Res.tmp rfl rfl) picks0 ?_))))))))
     obtain rfl := Option.some.inj hx
     exact ⟨rfl, rfl, rfl, trivial⟩
   ·
    have hxo_16 := hx; clear hx; have hx := ht_17; clear ht_17
    refine JC.block (JC.forget 0 (JC.loopI (fun n l o g => ∃ s_18 : Bool × Nat, l = [(3, .bool s_18.1), (33, .slice aoa_3 na_3 capa_3), (34, .int .i64 (p_1.Waits.length : Int)), (35, .int .i64 ((s_18.2 : Nat) : Int))] ∧ o = [] ∧ H = g ∧ run (dev_Check_l2 p_1) n s_18 = some t_15) FUEL ?_ ⟨(t_9, 0), rfl, rfl, rfl, hx⟩ ⟨rfl, rfl, rfl, rfl, trivial⟩ ?_))
    ·
     rintro _ _ _ ⟨s_18, rfl, rfl, rfl, hn_19⟩
     exact run_zero hn_19
    ·
     rintro n_20 _ _ _ ⟨s_18, rfl, rfl, rfl, hn_19⟩
     clear hx; obtain ⟨oo_22, hx, hd_21⟩ := run_some hn_19
     unfold dev_Check_l2 at hx
     refine JC.seq (JC.region (JL.val rfl rfl (R.lss_i rfl rfl) (JL.nil (JN.next (JC.seq (JC.condB rfl (fun c_21 => ?_) (fun c_21 => ?_)))))))
     ·
      replace hx := cond_t c_21 hx
      refine JC.skip (JN.next (JC.seq (JC.block (JC.seq (JC.region ?_)))))
      obtain ⟨y_22, hN_23, hx⟩ := idx_some hx
      obtain ⟨b_24, o_25, cs_26, hE_27, hR_28, hl_29, hc_30⟩ := IsSlice.elem ha_3 hN_23
      obtain ⟨v_31, rfl, hs_32⟩ := hR_28
      obtain ⟨aov_31, capv_31, rfl⟩ := IsSlice.val hs_32
      refine JL.val rfl rfl (R.ix U23 S47 rfl rfl hE_27) (JL.val rfl rfl (R.ldHE (cs := [.int .i64 y_22.At, .slice aov_31 y_22.Data.length capv_31]) (k := 0) (vs := [.int .i64 y_22.At, .slice aov_31 y_22.Data.length capv_31]) S47 rfl hc_30 rfl rfl) (JL.alloc Z47 rfl (fun b_33 hb_33 => JL.store 0 S47 rfl rfl rfl rfl rfl (Nat.le_of_ble_eq_true rfl) (JL.nil (JN.next (JC.region (JL.val rfl rfl (R.move rfl) (JL.val rfl rfl (R.move rfl) (JL.gSplit (t := 40) rfl (fun c_34 => ?_) (fun c_34 => ?_))))))))))
      ·
       replace hx := cond_t c_34 hx
       refine JL.gYes rfl rfl rfl (JL.val rfl rfl (R.fa F47_0 rfl) (JL.gYes rfl rfl rfl (JL.val rfl rfl (R.ldo 0 S3 rfl rfl rfl) (JL.gYes rfl rfl rfl ?_))))
       obtain ⟨x_35, hr_36, hx⟩ := bnd_some hx
       refine JL.callC (vs := [_]) (args := [_]) (K := []) (rst := [_]) E67 rfl rfl rfl picks0 (dev_place_ok y_22.At _ _ hr_36) rfl (fun u_37 Ku_37 Hu_37 hRu_37 hleu_37 hfu_37 => ?_)
       obtain ⟨rfl, rfl, rfl, -⟩ := hRu_37
       refine JL.val rfl rfl (R.pickT rfl rfl) (JL.val rfl rfl (R.move rfl) (JL.gSplit (t := 45) rfl (fun c_38 => ?_) (fun c_38 => ?_)))
       ·
        replace hx := cond_t c_38 hx
        refine JL.gYes rfl rfl rfl (JL.val rfl rfl (R.fa F47_1 rfl) (JL.gYes rfl rfl rfl (JL.val rfl rfl (R.ldo 0 S45 rfl rfl rfl) (JL.gYes rfl rfl rfl (JL.val rfl rfl (R.lenL U45 rfl (IsSlice.long hs_32)) (JL.gYes rfl rfl rfl (JL.val rfl rfl (R.eql_i rfl rfl) (JL.val rfl rfl (R.pickT rfl rfl) (JL.val rfl rfl (R.assign rfl) (JL.nil (JN.blkN ?_)))))))))))
        refine JN.next (JC.region (JL.val rfl rfl (R.inc rfl rfl (of_decide_eq_true c_21) (IsSlice.lenI ha_3)) (JL.val rfl rfl (R.move rfl) (JL.nil ?_))))
        replace hx := run_next hd_21 hx
        refine JN.forget 0 ?_
        exact JN.cut ⟨(decide ((y_22.Data.length : Int) = 256), s_18.2 + 1), rfl, rfl, rfl, hx⟩ ⟨rfl, rfl, rfl, rfl, trivial⟩ rfl rfl
       ·
        replace hx := cond_f c_38 hx
        refine JL.gNo rfl rfl rfl rfl rfl (JL.gNo rfl rfl rfl rfl rfl (JL.gNo rfl rfl rfl rfl rfl (JL.gNo rfl rfl rfl rfl rfl (JL.val rfl rfl (R.pickF rfl rfl) (JL.val rfl rfl (R.assign rfl) (JL.nil (JN.blkN (JN.next (JC.region (JL.val rfl rfl (R.inc rfl rfl (of_decide_eq_true c_21) (IsSlice.lenI ha_3)) (JL.val rfl rfl (R.move rfl) ?_)))))))))))
        refine JL.nil ?_
        replace hx := run_next hd_21 hx
        refine JN.forget 0 ?_
        exact JN.cut ⟨(false, s_18.2 + 1), rfl, rfl, rfl, hx⟩ ⟨rfl, rfl, rfl, rfl, trivial⟩ rfl rfl
      ·
       replace hx := cond_f c_34 hx
       refine JL.gNo rfl rfl rfl rfl rfl (JL.gNo rfl rfl rfl rfl rfl (JL.gNo rfl rfl rfl rfl rfl (JL.val rfl rfl (R.pickF rfl rfl) (JL.val rfl rfl (R.move rfl) (JL.gNo rfl rfl rfl rfl rfl (JL.gNo rfl rfl rfl rfl rfl (JL.gNo rfl rfl rfl rfl rfl (JL.gNo rfl rfl rfl rfl rfl (JL.val rfl rfl (R.pickF rfl rfl) (JL.val rfl rfl (R.assign rfl) (JL.nil ?_)))))))))))
       refine JN.blkN (JN.next (JC.region (JL.val rfl rfl (R.inc rfl rfl (of_decide_eq_true c_21) (IsSlice.lenI ha_3)) (JL.val rfl rfl (R.move rfl) (JL.nil ?_)))))
       replace hx := run_next hd_21 hx
       refine JN.forget 0 ?_
       exact JN.cut ⟨(false, s_18.2 + 1), rfl, rfl, rfl, hx⟩ ⟨rfl, rfl, rfl, rfl, trivial⟩ rfl rfl
     ·
      replace hx := cond_f c_21 hx
      refine JC.exit (JN.passX ?_)
      obtain rfl := run_done hd_21 hx
      refine JN.passX (JN.exitSame ?_)
      exact JN.cut ⟨rfl, rfl, rfl⟩ ⟨rfl, trivial⟩ rfl rfl
  ·
   have hxo_10 := hx; clear hx; have hx := ht_11; clear ht_11
   refine JC.block (JC.loopI (fun n l o g => ∃ s_12 : Bool × Nat, l = [(1, .pointer (some ⟨b_4, 0, none⟩)), (3, .bool s_12.1), (19, .slice aoa_2 na_2 capa_2), (20, .int .i64 (p_1.Blocks.length : Int)), (21, .int .i64 ((s_12.2 : Nat) : Int))] ∧ o = [[(b_4, .cells #[.slice aoa_2 na_2 capa_2, .slice aoa_3 na_3 capa_3] 25 (0, 0))]] ∧ H = g ∧ run (dev_Check_l1 p_1) n s_12 = some t_9) FUEL ?_ ⟨(t_5, 0), rfl, rfl, rfl, hx⟩ ⟨rfl, rfl, rfl, rfl, rfl, trivial⟩ ?_)
   ·
    rintro _ _ _ ⟨s_12, rfl, rfl, rfl, hn_13⟩
    exact run_zero hn_13
   ·
    rintro n_14 _ _ _ ⟨s_12, rfl, rfl, rfl, hn_13⟩
    clear hx; obtain ⟨oo_16, hx, hd_15⟩ := run_some hn_13
    unfold dev_Check_l1 at hx
    refine JC.seq (JC.region (JL.val rfl rfl (R.lss_i rfl rfl) (JL.nil (JN.next (JC.seq (JC.condB rfl (fun c_15 => ?_) (fun c_15 => ?_)))))))
    ·
     replace hx := cond_t c_15 hx
     refine JC.skip (JN.next (JC.seq (JC.block (JC.seq (JC.region ?_)))))
     obtain ⟨y_16, hN_17, hx⟩ := idx_some hx
     obtain ⟨b_18, o_19, cs_20, hE_21, hR_22, hl_23, hc_24⟩ := IsSlice.elem ha_2 hN_17
     obtain ⟨v_25, rfl, hs_26⟩ := hR_22
     obtain ⟨aov_25, capv_25, rfl⟩ := IsSlice.val hs_26
     refine JL.val rfl rfl (R.ix U22 S45 rfl rfl hE_21) (JL.val rfl rfl (R.ldH S45 rfl (hc_24 0 _ rfl)) (JL.val rfl rfl (R.assign rfl) (JL.nil (JN.next (JC.region (JL.val rfl rfl (R.move rfl) (JL.val rfl rfl (R.move rfl) (JL.gSplit (t := 26) rfl (fun c_27 => ?_) (fun c_27 => ?_)))))))))
     ·
      replace hx := cond_t c_27 hx
      refine JL.gYes rfl rfl rfl (JL.val rfl rfl (R.move rfl) (JL.gYes rfl rfl rfl (JL.val rfl rfl (R.lenL U45 rfl (IsSlice.long hs_26)) (JL.gYes rfl rfl rfl (JL.val rfl rfl (R.eql_i rfl rfl) (JL.val rfl rfl (R.pickT rfl rfl) (JL.val rfl rfl (R.assign rfl) (JL.nil (JN.blkN (JN.next (JC.region ?_)))))))))))
      refine JL.val rfl rfl (R.inc rfl rfl (of_decide_eq_true c_15) (IsSlice.lenI ha_2)) (JL.val rfl rfl (R.move rfl) (JL.nil ?_))
      replace hx := run_next hd_15 hx
      exact JN.cut ⟨(decide ((y_16.length : Int) = 256), s_12.2 + 1), rfl, rfl, rfl, hx⟩ ⟨rfl, rfl, rfl, rfl, rfl, trivial⟩ rfl rfl
     ·
      replace hx := cond_f c_27 hx
      refine JL.gNo rfl rfl rfl rfl rfl (JL.gNo rfl rfl rfl rfl rfl (JL.gNo rfl rfl rfl rfl rfl (JL.val rfl rfl (R.pickF rfl rfl) (JL.val rfl rfl (R.assign rfl) (JL.nil (JN.blkN (JN.next (JC.region (JL.val rfl rfl (R.inc rfl rfl (of_decide_eq_true c_15) (IsSlice.lenI ha_2)) (JL.val rfl rfl (R.move rfl) (JL.nil ?_)))))))))))
      replace hx := run_next hd_15 hx
      exact JN.cut ⟨(false, s_12.2 + 1), rfl, rfl, rfl, hx⟩ ⟨rfl, rfl, rfl, rfl, rfl, trivial⟩ rfl rfl
    ·
     replace hx := cond_f c_15 hx
     refine JC.exit (JN.passX ?_)
     obtain rfl := run_done hd_15 hx
     refine JN.passX (JN.exitSame ?_)
     exact JN.cut ⟨rfl, rfl, rfl⟩ ⟨rfl, rfl, trivial⟩ rfl rfl
 ·
  have hxo_6 := hx; clear hx; have hx := ht_7; clear ht_7
  refine JC.region (JL.val rfl rfl (R.fa F25_0 rfl) (JL.val rfl rfl (R.ldo 0 S22 rfl rfl rfl) (JL.val rfl rfl (R.lenL U22 rfl (IsSlice.long ha_2)) (JL.val rfl rfl (R.eql_i rfl rfl) (JL.val rfl rfl (R.move rfl) (JL.gSplit (t := 12) rfl (fun c_8 => ?_) (fun c_8 => ?_)))))))
  ·
   replace hx := cond_t c_8 hx
   refine JL.gYes rfl rfl rfl (JL.val rfl rfl (R.fa F25_1 rfl) (JL.gYes rfl rfl rfl (JL.val rfl rfl (R.ldo 0 S23 rfl rfl rfl) (JL.gYes rfl rfl rfl (JL.val rfl rfl (R.lenL U23 rfl (IsSlice.long ha_3)) (JL.gYes rfl rfl rfl (JL.val rfl rfl (R.leq_i rfl rfl) (JL.val rfl rfl (R.pickT rfl rfl) (JL.val rfl rfl (R.assign rfl) (JL.nil ?_))))))))))
   obtain rfl := Option.some.inj hx
   exact JN.cut ⟨rfl, rfl, rfl⟩ ⟨rfl, rfl, trivial⟩ rfl rfl
  ·
   replace hx := cond_f c_8 hx
   refine JL.gNo rfl rfl rfl rfl rfl (JL.gNo rfl rfl rfl rfl rfl (JL.gNo rfl rfl rfl rfl rfl (JL.gNo rfl rfl rfl rfl rfl (JL.val rfl rfl (R.pickF rfl rfl) (JL.val rfl rfl (R.assign rfl) (JL.nil ?_))))))
   obtain rfl := Option.some.inj hx
   exact JN.cut ⟨rfl, rfl, rfl⟩ ⟨rfl, rfl, trivial⟩ rfl rfl

set_option maxHeartbeats 8000000 in
theorem slices_Max_byte_ok (p_1 : List UInt8) (H : Heaplet) {aoa_2 : Option Addr} {na_2 : Nat} {capa_2 : Nat} (ha_2 : IsSlice H RU8 1 (.slice aoa_2 na_2 capa_2) p_1) (r : UInt8) (hx : slices_Max_byte p_1 = some r) :
  Does Try.prog 96 #[.slice aoa_2 na_2 capa_2] [] H (fun u K' H' => u = .int .u8 (r.toNat : Int) ∧ K' = [] ∧ H = H' ∧ True) := by
 refine Does.enterL (vs := [.slice aoa_2 na_2 capa_2]) (l := [(0, .slice aoa_2 na_2 capa_2)]) Try.func96 rfl rfl ⟨rfl, trivial⟩ (fun w hlt => ?_)
 unfold slices_Max_byte at hx
 refine JC.seq (JC.region (JL.val rfl rfl (R.assign rfl) (JL.nil (JN.next (JC.seq (JC.seq (JC.region (JL.val rfl rfl (R.move rfl) (JL.val rfl rfl (R.lenL U45 rfl (IsSlice.long ha_2)) (JL.val rfl rfl (R.lss_i rfl rfl) (JL.nil ?_)))))))))))
 refine JN.next (JC.condB rfl (fun c_3 => ?_) (fun c_3 => ?_))
 ·
  replace hx := cond_t c_3 hx
  refine JC.region ?_
  cases hx
 ·
  replace hx := cond_f c_3 hx
  refine JC.skip (JN.next (JC.seq (JC.region (JL.val rfl rfl (R.move rfl) ?_))))
  obtain ⟨y_4, hN_5, hx⟩ := idx_some hx
  obtain ⟨b_6, o_7, cs_8, hE_9, hR_10, hl_11, hc_12⟩ := IsSlice.elem ha_2 hN_5
  obtain rfl := hR_10
  refine JL.val rfl rfl (R.ix U45 S5 rfl rfl hE_9) (JL.val rfl rfl (R.ldH S5 rfl (hc_12 0 _ rfl)) (JL.val rfl rfl (R.assign rfl) (JL.nil (JN.next (JC.seq (JC.seq (JC.region (JL.val rfl rfl (R.assign rfl) (JL.nil (JN.next ?_))))))))))
  obtain ⟨t_13, ht_15, hx⟩ := bnd_some hx
  refine JC.cut (fun l o g => l = [(3, .int .u8 (t_13.toNat : Int))] ∧ o = [] ∧ H = g) ?_ ?_
  ·
   rintro _ _ _ ⟨rfl, rfl, rfl⟩
   refine JN.next (JC.seq (JC.region (JL.val rfl rfl (R.move rfl) (JL.val rfl rfl (R.assign rfl) (JL.nil (JN.next (JC.ret (JN.outP (vs := [.int .u8 (t_13.toNat : Int)]) (K := []) (rst := []) (.inl rfl) rfl rfl (Res.tmp rfl rfl) picks0 ?_))))))))
   obtain rfl := Option.some.inj hx
   exact ⟨rfl, rfl, rfl, trivial⟩
  ·
   have hxo_14 := hx; clear hx; have hx := ht_15; clear ht_15
   refine JC.block (JC.loopI (fun n l o g => ∃ s_16 : UInt8 × Nat, l = [(0, .slice aoa_2 na_2 capa_2), (3, .int .u8 (s_16.1.toNat : Int)), (4, .int .i64 ((s_16.2 : Nat) : Int))] ∧ o = [] ∧ H = g ∧ run (slices_Max_byte_l1 p_1) n s_16 = some t_13) FUEL ?_ ⟨(y_4, 1), rfl, rfl, rfl, hx⟩ ⟨rfl, rfl, rfl, trivial⟩ ?_)
   ·
    rintro _ _ _ ⟨s_16, rfl, rfl, rfl, hn_17⟩
    exact run_zero hn_17
   ·
    rintro n_18 _ _ _ ⟨s_16, rfl, rfl, rfl, hn_17⟩
    clear hx; obtain ⟨oo_20, hx, hd_19⟩ := run_some hn_17
    unfold slices_Max_byte_l1 at hx
    refine JC.seq (JC.seq (JC.region (JL.val rfl rfl (R.move rfl) (JL.val rfl rfl (R.move rfl) (JL.val rfl rfl (R.lenL U45 rfl (IsSlice.long ha_2)) (JL.val rfl rfl (R.lss_i rfl rfl) (JL.nil (JN.next (JC.condB rfl (fun c_19 => ?_) (fun c_19 => ?_))))))))))
    ·
     replace hx := cond_t c_19 hx
     refine JC.skip (JN.next (JC.seq (JC.block (JC.region (JL.val rfl rfl (R.move rfl) (JL.val rfl rfl (R.move rfl) (JL.val rfl rfl (R.move rfl) ?_)))))))
     obtain ⟨y_20, hN_21, hx⟩ := idx_some hx
     obtain ⟨b_22, o_23, cs_24, hE_25, hR_26, hl_27, hc_28⟩ := IsSlice.elem ha_2 hN_21
     obtain rfl := hR_26
     refine JL.val rfl rfl (R.ix U45 S5 rfl rfl hE_25) (JL.val rfl rfl (R.ldH S5 rfl (hc_28 0 _ rfl)) (JL.val rfl rfl (R.max2b (a := s_16.1) (b := y_20) rfl rfl) (JL.val rfl rfl (R.assign rfl) (JL.nil (JN.blkN (JN.next (JC.region (JL.val rfl rfl (R.move rfl) (JL.val rfl rfl (R.inc rfl rfl (of_decide_eq_true c_19) (IsSlice.lenI ha_2)) (JL.val rfl rfl (R.assign rfl) (JL.nil ?_)))))))))))
     replace hx := run_next hd_19 hx
     exact JN.cut ⟨(maxB s_16.1 y_20, s_16.2 + 1), rfl, rfl, rfl, hx⟩ ⟨rfl, rfl, rfl, trivial⟩ rfl rfl
    ·
     replace hx := cond_f c_19 hx
     refine JC.exit (JN.passX ?_)
     obtain rfl := run_done hd_19 hx
     refine JN.passX (JN.exitSame ?_)
     exact JN.cut ⟨rfl, rfl, rfl⟩ ⟨rfl, trivial⟩ rfl rfl

theorem unicode_utf8_RuneCount_ok (p_0 : List UInt8) (H : Heaplet) {ao0 : Option Addr} {n0 cap0 : Nat} (h0 : IsSlice H RU8 1 (.slice ao0 n0 cap0) p_0) (r : Int) (hx : unicode_utf8_RuneCount p_0 = some r) :
  Does Try.prog 137 #[.slice ao0 n0 cap0] [] H (fun u K' H' => u = .int .i64 r ∧ K' = [] ∧ H = H' ∧ True) := by cases hx

theorem bytes_Index_ok (p_0 : List UInt8) (p_1 : List UInt8) (H : Heaplet) {ao0 : Option Addr} {n0 cap0 : Nat} {ao1 : Option Addr} {n1 cap1 : Nat} (h0 : IsSlice H RU8 1 (.slice ao0 n0 cap0) p_0) (h1 : IsSlice H RU8 1 (.slice ao1 n1 cap1) p_1) (r : Int) (hx : bytes_Index p_0 p_1 = some r) :
  Does Try.prog 139 #[.slice ao0 n0 cap0, .slice ao1 n1 cap1] [] H (fun u K' H' => u = .int .i64 r ∧ K' = [] ∧ H = H' ∧ True) := by cases hx

set_option maxHeartbeats 8000000 in
theorem bytes_Count_ok (p_1 : List UInt8) (p_3 : List UInt8) (H : Heaplet) {aoa_2 : Option Addr} {na_2 : Nat} {capa_2 : Nat} {aoa_4 : Option Addr} {na_4 : Nat} {capa_4 : Nat} (ha_2 : IsSlice H RU8 1 (.slice aoa_2 na_2 capa_2) p_1) (ha_4 : IsSlice H RU8 1 (.slice aoa_4 na_4 capa_4) p_3) (r : Int) (hx : bytes_Count p_1 p_3 = some r) :
  Does Try.prog 97 #[.slice aoa_2 na_2 capa_2, .slice aoa_4 na_4 capa_4] [] H (fun u K' H' => u = .int .i64 r ∧ K' = [] ∧ H = H' ∧ True) := by
 refine Does.enterL (vs := [.slice aoa_2 na_2 capa_2, .slice aoa_4 na_4 capa_4]) (l := [(0, .slice aoa_2 na_2 capa_2), (1, .slice aoa_4 na_4 capa_4)]) Try.func97 rfl rfl ⟨rfl, rfl, trivial⟩ (fun w hlt => ?_)
 unfold bytes_Count at hx
 refine JC.seq (JC.region (JL.val rfl rfl (R.assign rfl) (JL.nil (JN.next (JC.seq (JC.seq (JC.region (JL.val rfl rfl (R.move rfl) (JL.val rfl rfl (R.lenL U45 rfl (IsSlice.long ha_4)) (JL.val rfl rfl (R.eql_i rfl rfl) (JL.nil ?_)))))))))))
 refine JN.next (JC.condB rfl (fun c_5 => ?_) (fun c_5 => ?_))
 ·
  replace hx := cond_t c_5 hx
  refine JC.seq (JC.region (JL.val rfl rfl (R.move rfl) ?_))
  obtain ⟨x_6, hr_7, hx⟩ := bnd_some hx
  refine JL.callC (vs := [_]) (args := [_]) (K := []) (rst := []) E137 rfl rfl rfl picks0 (unicode_utf8_RuneCount_ok p_1 _ ha_2 _ hr_7) rfl (fun u_8 Ku_8 Hu_8 hRu_8 hleu_8 hfu_8 => ?_)
  obtain ⟨rfl, rfl, rfl, -⟩ := hRu_8
  refine JL.val rfl rfl (R.add_i rfl rfl) (JL.val rfl rfl (R.assign rfl) (JL.nil (JN.next (JC.ret (JN.passR (JN.outP (vs := [.int .i64 (w64 (x_6 + 1))]) (K := []) (rst := []) (.inl rfl) rfl rfl (Res.tmp rfl rfl) picks0 ?_))))))
  obtain rfl := Option.some.inj hx
  exact ⟨rfl, rfl, rfl, trivial⟩
 ·
  replace hx := cond_f c_5 hx
  refine JC.skip (JN.next (JC.seq (JC.seq (JC.region (JL.val rfl rfl (R.move rfl) (JL.val rfl rfl (R.lenL U45 rfl (IsSlice.long ha_4)) (JL.val rfl rfl (R.eql_i rfl rfl) (JL.nil (JN.next (JC.condB rfl (fun c_9 => ?_) (fun c_9 => ?_)))))))))))
  ·
   replace hx := cond_t c_9 hx
   refine JC.seq (JC.region (JL.val rfl rfl (R.move rfl) (JL.val rfl rfl (R.move rfl) ?_)))
   obtain ⟨y_10, hN_11, hx⟩ := idx_some hx
   obtain ⟨b_12, o_13, cs_14, hE_15, hR_16, hl_17, hc_18⟩ := IsSlice.elem ha_4 hN_11
   obtain rfl := hR_16
   refine JL.val rfl rfl (R.ix U45 S5 rfl rfl hE_15) (JL.val rfl rfl (R.ldH S5 rfl (hc_18 0 _ rfl)) (JL.val rfl rfl (R.countB (m := p_1) (c := y_10) Try.func138 (by kernel_rfl) rfl (by kernel_rfl) (by kernel_rfl) rfl ha_2 rfl) (JL.val rfl rfl (R.assign rfl) (JL.nil (JN.next (JC.ret (JN.passR (JN.outP (vs := [.int .i64 ((cntB p_1 y_10 : Nat) : Int)]) (K := []) (rst := []) (.inl rfl) rfl rfl (Res.tmp rfl rfl) picks0 ?_))))))))
   obtain rfl := Option.some.inj hx
   exact ⟨rfl, rfl, rfl, trivial⟩
  ·
   replace hx := cond_f c_9 hx
   refine JC.skip (JN.next (JC.seq (JC.region (JL.val rfl rfl (R.assign rfl) (JL.nil (JN.next ?_))))))
   obtain ⟨t_19, ht_21, hx⟩ := bnd_some hx
   have hxo_20 := hx; clear hx; have hx := ht_21; clear ht_21
   refine JC.block (JC.loopI (fun n l o g => ∃ s_22 : List UInt8 × Int, ∃ aoz_25 : Option Addr, ∃ nz_25 : Nat, ∃ capz_25 : Nat, l = [(0, .slice aoz_25 nz_25 capz_25), (1, .slice aoa_4 na_4 capa_4), (5, .int .i64 s_22.2)] ∧ o = [] ∧ H = g ∧ run (bytes_Count_l1 p_3) n s_22 = some t_19 ∧ IsSlice H RU8 1 (.slice aoz_25 nz_25 capz_25) s_22.1) FUEL ?_ ⟨(p_1, 0), aoa_2, na_2, capa_2, rfl, rfl, rfl, hx, ha_2⟩ ⟨rfl, rfl, rfl, trivial⟩ ?_)
   ·
    rintro _ _ _ ⟨s_22, aoz_25, nz_25, capz_25, rfl, rfl, rfl, hn_23, hz_25⟩
    exact run_zero hn_23
   ·
    rintro n_24 _ _ _ ⟨s_22, aoz_25, nz_25, capz_25, rfl, rfl, rfl, hn_23, hz_25⟩
    clear hx; obtain ⟨oo_27, hx, hd_26⟩ := run_some hn_23
    unfold bytes_Count_l1 at hx
    refine JC.block (JC.seq (JC.region (JL.val rfl rfl (R.move rfl) (JL.val rfl rfl (R.move rfl) ?_))))
    obtain ⟨x_26, hr_27, hx⟩ := bnd_some hx
    refine JL.callC (vs := [_, _]) (args := [_, _]) (K := []) (rst := []) E139 rfl rfl rfl picks0 (bytes_Index_ok s_22.1 p_3 _ hz_25 ha_4 _ hr_27) rfl (fun u_28 Ku_28 Hu_28 hRu_28 hleu_28 hfu_28 => ?_)
    obtain ⟨rfl, rfl, rfl, -⟩ := hRu_28
    refine JL.val rfl rfl (R.assign rfl) (JL.nil (JN.next (JC.seq (JC.seq (JC.region (JL.val rfl rfl (R.move rfl) (JL.val rfl rfl (R.eql_i rfl rfl) (JL.nil (JN.next (JC.condB rfl (fun c_29 => ?_) (fun c_29 => ?_)))))))))))
    ·
     replace hx := cond_t c_29 hx
     refine JC.seq (JC.region (JL.val rfl rfl (R.move rfl) (JL.val rfl rfl (R.assign rfl) (JL.nil (JN.next (JC.ret (JN.passR (JN.blkR ?_))))))))
     obtain rfl := run_done hd_26 hx
     refine JN.passR (JN.blkR ?_)
     clear hx; have hx := hxo_20
     refine JN.outP (vs := [.int .i64 s_22.2]) (K := []) (rst := []) (.inl rfl) rfl rfl (Res.tmp rfl rfl) picks0 ?_
     obtain rfl := Option.some.inj hx
     exact ⟨rfl, rfl, rfl, trivial⟩
    ·
     replace hx := cond_f c_29 hx
     refine JC.skip (JN.next (JC.seq (JC.region (JL.val rfl rfl (R.move rfl) (JL.val rfl rfl (R.add_i rfl rfl) (JL.val rfl rfl (R.assign rfl) (JL.nil (JN.next (JC.region (JL.val rfl rfl (R.move rfl) (JL.val rfl rfl (R.move rfl) ?_)))))))))))
     refine JL.val rfl rfl (R.move rfl) (JL.val rfl rfl (R.lenL U45 rfl (IsSlice.long ha_4)) (JL.val rfl rfl (R.add_i rfl rfl) ?_))
     obtain ⟨m_30, hm_32, hb_31, hx⟩ := slc_some hx
     obtain ⟨vv_33, cv_33, h1v_33, h2v_33, h3v_33, hsv_33⟩ := IsSlice.cutv hz_25 hm_32 hb_31
     refine JL.val rfl rfl (R.slc (cap := cv_33) (a := w64 (x_26 + (p_3.length : Int))) (b := (s_22.1.length : Int)) (c := (cv_33 : Int)) (m := s_22.1) (R := RU8) U45 S5 rfl ⟨_, rfl⟩ rfl (by obtain ⟨ao, n, e, _⟩ := h1v_33; exact ⟨ao, n, e, rfl⟩) ⟨hb_31.1, hb_31.2.1, h2v_33⟩ h3v_33 (.inl rfl)) ?_
     obtain ⟨aov_33, capv_33, rfl⟩ := IsSlice.val hsv_33
     refine JL.val rfl rfl (R.assign rfl) (JL.nil (JN.blkN ?_))
     replace hx := run_next hd_26 hx
     exact JN.cut ⟨(m_30, w64 (s_22.2 + 1)), aov_33, m_30.length, capv_33, rfl, rfl, rfl, hx, hsv_33⟩ ⟨rfl, rfl, rfl, trivial⟩ rfl rfl

set_option maxHeartbeats 8000000 in
theorem space_Check_ok (p_1 : List UInt8) (H : Heaplet) {aoa_2 : Option Addr} {na_2 : Nat} {capa_2 : Nat} (ha_2 : IsSlice H RU8 1 (.slice aoa_2 na_2 capa_2) p_1) (r : Int) (hx : space_Check p_1 = some r) :
  Does Try.prog 57 #[.slice aoa_2 na_2 capa_2] [] H (fun u K' H' => u = .int .i64 r ∧ K' = [] ∧ H = H' ∧ True) := by
 refine Does.enterL (vs := [.slice aoa_2 na_2 capa_2]) (l := [(0, .slice aoa_2 na_2 capa_2)]) Try.func57 rfl rfl ⟨rfl, trivial⟩ (fun w hlt => ?_)
 unfold space_Check at hx
 refine JC.seq (JC.region (JL.val rfl rfl (R.assign rfl) (JL.nil (JN.next (JC.seq (JC.seq (JC.region (JL.val rfl rfl (R.move rfl) (JL.val rfl rfl (R.lenL U45 rfl (IsSlice.long ha_2)) (JL.val rfl rfl (R.neq_i rfl rfl) (JL.val rfl rfl (R.move rfl) ?_)))))))))))
 refine JL.gSplit (t := 6) rfl (fun c_3 => ?_) (fun c_3 => ?_)
 ·
  replace hx := cond_t c_3 hx
  refine JL.gNo rfl rfl rfl rfl rfl (JL.gNo rfl rfl rfl rfl rfl (JL.gNo rfl rfl rfl rfl rfl (JL.val rfl rfl (R.pickT rfl rfl) (JL.val rfl rfl (R.move rfl) (JL.gNo rfl rfl rfl rfl rfl (JL.gNo rfl rfl rfl rfl rfl (JL.gNo rfl rfl rfl rfl rfl (JL.gNo rfl rfl rfl rfl rfl (JL.gNo rfl rfl rfl rfl rfl (JL.val rfl rfl (R.pickT rfl rfl) (JL.nil ?_)))))))))))
  refine JN.next (JC.condT rfl (JC.seq (JC.region (JL.val rfl rfl (R.assign rfl) (JL.nil (JN.next (JC.ret (JN.passR (JN.outP (vs := [.int .i64 8]) (K := []) (rst := []) (.inl rfl) rfl rfl (Res.tmp rfl rfl) picks0 ?_)))))))))
  obtain rfl := Option.some.inj hx
  exact ⟨rfl, rfl, rfl, trivial⟩
 ·
  replace hx := cond_f c_3 hx
  refine JL.gYes rfl rfl rfl (JL.val rfl rfl (R.move rfl) (JL.gYes rfl rfl rfl ?_))
  obtain ⟨x_4, hr_5, hx⟩ := bnd_some hx
  refine JL.callC (vs := [_]) (args := [_]) (K := []) (rst := []) E96 rfl rfl rfl picks0 (slices_Max_byte_ok p_1 _ ha_2 _ hr_5) rfl (fun u_6 Ku_6 Hu_6 hRu_6 hleu_6 hfu_6 => ?_)
  obtain ⟨rfl, rfl, rfl, -⟩ := hRu_6
  refine JL.gYes rfl rfl rfl (JL.val rfl rfl (R.gtr8 (a := x_4) (b := (2 : UInt8)) rfl rfl) (JL.val rfl rfl (R.pickF rfl rfl) (JL.val rfl rfl (R.move rfl) (JL.gSplit (t := 11) rfl (fun c_7 => ?_) (fun c_7 => ?_)))))
  ·
   replace hx := cond_t c_7 hx
   refine JL.gNo rfl rfl rfl rfl rfl (JL.gNo rfl rfl rfl rfl rfl (JL.gNo rfl rfl rfl rfl rfl (JL.gNo rfl rfl rfl rfl rfl (JL.gNo rfl rfl rfl rfl rfl (JL.val rfl rfl (R.pickT rfl rfl) (JL.nil (JN.next (JC.condT rfl (JC.seq (JC.region (JL.val rfl rfl (R.assign rfl) ?_)))))))))))
   refine JL.nil (JN.next (JC.ret (JN.passR (JN.outP (vs := [.int .i64 8]) (K := []) (rst := []) (.inl rfl) rfl rfl (Res.tmp rfl rfl) picks0 ?_))))
   obtain rfl := Option.some.inj hx
   exact ⟨rfl, rfl, rfl, trivial⟩
  ·
   replace hx := cond_f c_7 hx
   refine JL.gYes rfl rfl rfl (JL.val rfl rfl (R.move rfl) (JL.gYes rfl rfl rfl ?_))
   obtain ⟨m_8, hm_10, hb_9, hx⟩ := slc_some hx
   obtain ⟨vv_11, cv_11, h1v_11, h2v_11, h3v_11, hsv_11⟩ := IsSlice.cutv ha_2 hm_10 hb_9
   refine JL.val rfl rfl (R.slc (cap := cv_11) (a := 0) (b := 12) (c := (cv_11 : Int)) (m := p_1) (R := RU8) U45 S5 rfl rfl ⟨_, rfl⟩ (by obtain ⟨ao, n, e, _⟩ := h1v_11; exact ⟨ao, n, e, rfl⟩) ⟨hb_9.1, hb_9.2.1, h2v_11⟩ h3v_11 (.inl rfl)) ?_
   obtain ⟨aov_11, capv_11, rfl⟩ := IsSlice.val hsv_11
   refine JL.gYes rfl rfl rfl (JL.bslF (HF := (New H H)) (R := RU8) (ls := [(1 : UInt8)]) (vs := [.int .u8 ((1 : UInt8).toNat : Int)]) U45 I5 rfl rfl (⟨_, _, rfl, rfl, rfl, rfl⟩) RU8.one rfl rfl rfl (by simp [maxLen]) rfl (fun vr_12 Kr_12 hr_12 => ?_))
   obtain ⟨aor_12, capr_12, rfl⟩ := RowOf.val hr_12
   refine JL.gYes rfl rfl rfl ?_
   obtain ⟨x_16, hr_17, hx⟩ := bnd_some hx
   refine JL.callL2 (vs := [_, _]) (v := .int .i64 x_16) E97 rfl rfl (fun H_15 hle_14 hl_13 => Does.mono (bytes_Count_ok m_8 ([(1 : UInt8)]) _ (IsSlice.mono RU8.mono hle_14 hsv_11) (Lent.row' 0 hl_13 RU8.mono hle_14 rfl (hr_12.old RU8.mono)) _ hr_17) (fun _ _ _ h => h.1)) rfl (JL.gYes rfl rfl rfl (JL.val rfl rfl (R.neq_i rfl rfl) (JL.val rfl rfl (R.pickF rfl rfl) (JL.nil (JN.next (JC.condB rfl (fun c_18 => ?_) (fun c_18 => ?_)))))))
   ·
    replace hx := cond_t c_18 hx
    refine JC.seq (JC.region (JL.val rfl rfl (R.assign rfl) (JL.nil (JN.next (JC.ret (JN.passR (JN.outP (vs := [.int .i64 8]) (K := []) (rst := [_]) (.inl rfl) rfl rfl (Res.tmp rfl rfl) picks0 ?_)))))))
    obtain rfl := Option.some.inj hx
    exact ⟨rfl, rfl, rfl, trivial⟩
   ·
    replace hx := cond_f c_18 hx
    refine JC.skip (JN.next (JC.seq (JC.region (JL.val rfl rfl (R.assign rfl) (JL.nil (JN.next (JC.ret (JN.outP (vs := [.int .i64 0]) (K := []) (rst := [_]) (.inl rfl) rfl rfl (Res.tmp rfl rfl) picks0 ?_))))))))
    obtain rfl := Option.some.inj hx
    exact ⟨rfl, rfl, rfl, trivial⟩

set_option maxHeartbeats 8000000 in
theorem store_Check_ok (p_1 : Store) (H : Heaplet) {aoa_2 : Option Addr} {na_2 : Nat} {capa_2 : Nat} {aoa_3 : Option Addr} {na_3 : Nat} {capa_3 : Nat} {aoa_4 : Option Addr} {na_4 : Nat} {capa_4 : Nat} (ha_2 : IsSlice H (RSl RU8 1) 1 (.slice aoa_2 na_2 capa_2) p_1.Disk.Blocks) (ha_3 : IsSlice H R_Write 2 (.slice aoa_3 na_3 capa_3) p_1.Disk.Waits) (ha_4 : IsSlice H RU8 1 (.slice aoa_4 na_4 capa_4) p_1.Space) (r : Int) (hx : store_Check p_1 = some r) :
  Does Try.prog 26 #[.agg #[.slice aoa_2 na_2 capa_2, .slice aoa_3 na_3 capa_3, .slice aoa_4 na_4 capa_4, .int .u32 (p_1.Epoch.toNat : Int), .int .u32 (p_1.Count.toNat : Int)]] [] H (fun u K' H' => u = .int .i64 r ∧ K' = [] ∧ H = H' ∧ True) := by
 refine Does.enterL (vs := [.agg #[.slice aoa_2 na_2 capa_2, .slice aoa_3 na_3 capa_3, .slice aoa_4 na_4 capa_4, .int .u32 (p_1.Epoch.toNat : Int), .int .u32 (p_1.Count.toNat : Int)]]) (l := [(0, .agg #[.slice aoa_2 na_2 capa_2, .slice aoa_3 na_3 capa_3, .slice aoa_4 na_4 capa_4, .int .u32 (p_1.Epoch.toNat : Int), .int .u32 (p_1.Count.toNat : Int)])]) Try.func26 rfl rfl ⟨rfl, trivial⟩ (fun w hlt => ?_)
 unfold store_Check at hx
 refine JC.seq (JC.region (JL.box rfl rfl (fun b_5 hb_5 => JL.val rfl rfl (R.assign rfl) (JL.nil (JN.next (JC.seq (JC.seq (JC.region (JL.val rfl rfl (R.fa F50_0 rfl) (JL.val rfl rfl (R.ldoN 0 (vs := [.slice aoa_2 na_2 capa_2, .slice aoa_3 na_3 capa_3]) S25 rfl rfl rfl rfl) ?_))))))))))
 obtain ⟨x_6, hr_7, hx⟩ := bnd_some hx
 refine JL.callC (vs := [_]) (args := [_]) (K := []) (rst := [_]) E36 rfl rfl rfl picks0 (dev_Check_ok (Disk.mk p_1.Disk.Blocks p_1.Disk.Waits) _ ha_2 ha_3 _ hr_7) rfl (fun u_8 Ku_8 Hu_8 hRu_8 hleu_8 hfu_8 => ?_)
 obtain ⟨rfl, rfl, rfl, -⟩ := hRu_8
 refine JL.val rfl rfl (R.neq_i rfl rfl) (JL.val rfl rfl (R.move rfl) (JL.gSplit (t := 7) rfl (fun c_9 => ?_) (fun c_9 => ?_)))
 ·
  replace hx := cond_t c_9 hx
  refine JL.gNo rfl rfl rfl rfl rfl (JL.gNo rfl rfl rfl rfl rfl (JL.gNo rfl rfl rfl rfl rfl (JL.gNo rfl rfl rfl rfl rfl (JL.val rfl rfl (R.pickT rfl rfl) (JL.val rfl rfl (R.move rfl) (JL.gNo rfl rfl rfl rfl rfl (JL.gNo rfl rfl rfl rfl rfl (JL.gNo rfl rfl rfl rfl rfl (JL.val rfl rfl (R.pickT rfl rfl) (JL.val rfl rfl (R.move rfl) (JL.gNo rfl rfl rfl rfl rfl ?_)))))))))))
  refine JL.gNo rfl rfl rfl rfl rfl (JL.gNo rfl rfl rfl rfl rfl (JL.val rfl rfl (R.pickT rfl rfl) (JL.val rfl rfl (R.move rfl) (JL.gNo rfl rfl rfl rfl rfl (JL.gNo rfl rfl rfl rfl rfl (JL.gNo rfl rfl rfl rfl rfl (JL.val rfl rfl (R.pickT rfl rfl) (JL.nil (JN.next (JC.condT rfl (JC.seq ?_)))))))))))
  refine JC.region (JL.val rfl rfl (R.assign rfl) (JL.nil (JN.next (JC.ret (JN.passR (JN.outP (vs := [.int .i64 8]) (K := []) (rst := [_]) (.inl rfl) rfl rfl (Res.tmp rfl rfl) picks0 ?_))))))
  obtain rfl := Option.some.inj hx
  exact ⟨rfl, rfl, rfl, trivial⟩
 ·
  replace hx := cond_f c_9 hx
  refine JL.gYes rfl rfl rfl (JL.val rfl rfl (R.fa F50_1 rfl) (JL.gYes rfl rfl rfl (JL.val rfl rfl (R.ldo 0 S45 rfl rfl rfl) (JL.gYes rfl rfl rfl ?_))))
  obtain ⟨x_10, hr_11, hx⟩ := bnd_some hx
  refine JL.callC (vs := [_]) (args := [_]) (K := []) (rst := [_]) E57 rfl rfl rfl picks0 (space_Check_ok p_1.Space _ ha_4 _ hr_11) rfl (fun u_12 Ku_12 Hu_12 hRu_12 hleu_12 hfu_12 => ?_)
  obtain ⟨rfl, rfl, rfl, -⟩ := hRu_12
  refine JL.gYes rfl rfl rfl (JL.val rfl rfl (R.neq_i rfl rfl) (JL.val rfl rfl (R.pickF rfl rfl) (JL.val rfl rfl (R.move rfl) (JL.gSplit (t := 13) rfl (fun c_13 => ?_) (fun c_13 => ?_)))))
  ·
   replace hx := cond_t c_13 hx
   refine JL.gNo rfl rfl rfl rfl rfl (JL.gNo rfl rfl rfl rfl rfl (JL.gNo rfl rfl rfl rfl rfl (JL.val rfl rfl (R.pickT rfl rfl) (JL.val rfl rfl (R.move rfl) (JL.gNo rfl rfl rfl rfl rfl (JL.gNo rfl rfl rfl rfl rfl (JL.gNo rfl rfl rfl rfl rfl (JL.val rfl rfl (R.pickT rfl rfl) (JL.val rfl rfl (R.move rfl) (JL.gNo rfl rfl rfl rfl rfl (JL.gNo rfl rfl rfl rfl rfl ?_)))))))))))
   refine JL.gNo rfl rfl rfl rfl rfl (JL.val rfl rfl (R.pickT rfl rfl) (JL.nil (JN.next (JC.condT rfl (JC.seq (JC.region (JL.val rfl rfl (R.assign rfl) (JL.nil (JN.next (JC.ret (JN.passR ?_)))))))))))
   refine JN.outP (vs := [.int .i64 8]) (K := []) (rst := [_]) (.inl rfl) rfl rfl (Res.tmp rfl rfl) picks0 ?_
   obtain rfl := Option.some.inj hx
   exact ⟨rfl, rfl, rfl, trivial⟩
  ·
   replace hx := cond_f c_13 hx
   refine JL.gYes rfl rfl rfl (JL.val rfl rfl (R.fa F50_2 rfl) (JL.gYes rfl rfl rfl (JL.val rfl rfl (R.ldo 0 S26 rfl rfl rfl) (JL.gYes rfl rfl rfl (JL.val rfl rfl (R.lss32 (a := p_1.Epoch) (b := (1 : UInt32)) rfl rfl) (JL.val rfl rfl (R.pickF rfl rfl) (JL.val rfl rfl (R.move rfl) (JL.gSplit (t := 18) rfl (fun c_14 => ?_) (fun c_14 => ?_)))))))))
   ·
    replace hx := cond_t c_14 hx
    refine JL.gNo rfl rfl rfl rfl rfl (JL.gNo rfl rfl rfl rfl rfl (JL.gNo rfl rfl rfl rfl rfl (JL.val rfl rfl (R.pickT rfl rfl) (JL.val rfl rfl (R.move rfl) (JL.gNo rfl rfl rfl rfl rfl (JL.gNo rfl rfl rfl rfl rfl (JL.gNo rfl rfl rfl rfl rfl (JL.val rfl rfl (R.pickT rfl rfl) (JL.nil (JN.next (JC.condT rfl ?_)))))))))))
    refine JC.seq (JC.region (JL.val rfl rfl (R.assign rfl) (JL.nil (JN.next (JC.ret (JN.passR (JN.outP (vs := [.int .i64 8]) (K := []) (rst := [_]) (.inl rfl) rfl rfl (Res.tmp rfl rfl) picks0 ?_)))))))
    obtain rfl := Option.some.inj hx
    exact ⟨rfl, rfl, rfl, trivial⟩
   ·
    replace hx := cond_f c_14 hx
    refine JL.gYes rfl rfl rfl (JL.val rfl rfl (R.fa F50_2 rfl) (JL.gYes rfl rfl rfl (JL.val rfl rfl (R.ldo 0 S26 rfl rfl rfl) (JL.gYes rfl rfl rfl (JL.val rfl rfl (R.gtr32 (a := p_1.Epoch) (b := (65535 : UInt32)) rfl rfl) (JL.val rfl rfl (R.pickF rfl rfl) (JL.val rfl rfl (R.move rfl) (JL.gSplit (t := 23) rfl (fun c_15 => ?_) (fun c_15 => ?_)))))))))
    ·
     replace hx := cond_t c_15 hx
     refine JL.gNo rfl rfl rfl rfl rfl (JL.gNo rfl rfl rfl rfl rfl (JL.gNo rfl rfl rfl rfl rfl (JL.val rfl rfl (R.pickT rfl rfl) (JL.nil (JN.next (JC.condT rfl (JC.seq (JC.region (JL.val rfl rfl (R.assign rfl) (JL.nil (JN.next ?_)))))))))))
     refine JC.ret (JN.passR (JN.outP (vs := [.int .i64 8]) (K := []) (rst := [_]) (.inl rfl) rfl rfl (Res.tmp rfl rfl) picks0 ?_))
     obtain rfl := Option.some.inj hx
     exact ⟨rfl, rfl, rfl, trivial⟩
    ·
     replace hx := cond_f c_15 hx
     refine JL.gYes rfl rfl rfl (JL.val rfl rfl (R.fa F50_3 rfl) (JL.gYes rfl rfl rfl (JL.val rfl rfl (R.ldo 0 S26 rfl rfl rfl) (JL.gYes rfl rfl rfl (JL.val rfl rfl (R.gtr32 (a := p_1.Count) (b := (65535 : UInt32)) rfl rfl) (JL.val rfl rfl (R.pickF rfl rfl) (JL.nil (JN.next (JC.condB rfl (fun c_16 => ?_) (fun c_16 => ?_))))))))))
     ·
      replace hx := cond_t c_16 hx
      refine JC.seq (JC.region (JL.val rfl rfl (R.assign rfl) (JL.nil (JN.next (JC.ret (JN.passR (JN.outP (vs := [.int .i64 8]) (K := []) (rst := [_]) (.inl rfl) rfl rfl (Res.tmp rfl rfl) picks0 ?_)))))))
      obtain rfl := Option.some.inj hx
      exact ⟨rfl, rfl, rfl, trivial⟩
     ·
      replace hx := cond_f c_16 hx
      refine JC.skip (JN.next (JC.seq (JC.region (JL.val rfl rfl (R.assign rfl) (JL.nil (JN.next (JC.ret (JN.outP (vs := [.int .i64 0]) (K := []) (rst := [_]) (.inl rfl) rfl rfl (Res.tmp rfl rfl) picks0 ?_))))))))
      obtain rfl := Option.some.inj hx
      exact ⟨rfl, rfl, rfl, trivial⟩

set_option maxHeartbeats 8000000 in
theorem store_asked_ok (p_1 : Store) (p_5 : UInt32) (p_6 : Int) (p_7 : List (List UInt8)) (H : Heaplet) {aoa_2 : Option Addr} {na_2 : Nat} {capa_2 : Nat} {aoa_3 : Option Addr} {na_3 : Nat} {capa_3 : Nat} {aoa_4 : Option Addr} {na_4 : Nat} {capa_4 : Nat} {aoa_8 : Option Addr} {na_8 : Nat} {capa_8 : Nat} (ha_2 : IsSlice H (RSl RU8 1) 1 (.slice aoa_2 na_2 capa_2) p_1.Disk.Blocks) (ha_3 : IsSlice H R_Write 2 (.slice aoa_3 na_3 capa_3) p_1.Disk.Waits) (ha_4 : IsSlice H RU8 1 (.slice aoa_4 na_4 capa_4) p_1.Space) (ha_8 : IsSlice H (RSl RU8 1) 1 (.slice aoa_8 na_8 capa_8) p_7) (r : Int) (hx : store_asked p_1 p_5 p_6 p_7 = some r) :
  Does Try.prog 98 #[.agg #[.slice aoa_2 na_2 capa_2, .slice aoa_3 na_3 capa_3, .slice aoa_4 na_4 capa_4, .int .u32 (p_1.Epoch.toNat : Int), .int .u32 (p_1.Count.toNat : Int)], .int .u32 (p_5.toNat : Int), .int .i64 p_6, .slice aoa_8 na_8 capa_8] [] H (fun u K' H' => u = .int .i64 r ∧ K' = [] ∧ H = H' ∧ True) := by
 refine Does.enterL (vs := [.agg #[.slice aoa_2 na_2 capa_2, .slice aoa_3 na_3 capa_3, .slice aoa_4 na_4 capa_4, .int .u32 (p_1.Epoch.toNat : Int), .int .u32 (p_1.Count.toNat : Int)], .int .u32 (p_5.toNat : Int), .int .i64 p_6, .slice aoa_8 na_8 capa_8]) (l := [(0, .agg #[.slice aoa_2 na_2 capa_2, .slice aoa_3 na_3 capa_3, .slice aoa_4 na_4 capa_4, .int .u32 (p_1.Epoch.toNat : Int), .int .u32 (p_1.Count.toNat : Int)]), (1, .int .u32 (p_5.toNat : Int)), (2, .int .i64 p_6), (3, .slice aoa_8 na_8 capa_8)]) Try.func98 rfl rfl ⟨rfl, rfl, rfl, rfl, trivial⟩ (fun w hlt => ?_)
 unfold store_asked at hx
 refine JC.seq (JC.region (JL.box rfl rfl (fun b_9 hb_9 => JL.val rfl rfl (R.assign rfl) (JL.nil (JN.next (JC.seq (JC.seq (JC.region (JL.val rfl rfl (R.ldoN 0 (vs := [.slice aoa_2 na_2 capa_2, .slice aoa_3 na_3 capa_3, .slice aoa_4 na_4 capa_4, .int .u32 (p_1.Epoch.toNat : Int), .int .u32 (p_1.Count.toNat : Int)]) S50 rfl rfl rfl rfl) ?_)))))))))
 obtain ⟨x_10, hr_11, hx⟩ := bnd_some hx
 refine JL.callC (vs := [_]) (args := [_]) (K := []) (rst := [_]) E26 rfl rfl rfl picks0 (store_Check_ok p_1 _ ha_2 ha_3 ha_4 _ hr_11) rfl (fun u_12 Ku_12 Hu_12 hRu_12 hleu_12 hfu_12 => ?_)
 obtain ⟨rfl, rfl, rfl, -⟩ := hRu_12
 refine JL.val rfl rfl (R.assign rfl) (JL.nil (JN.next (JC.seq (JC.region (JL.val rfl rfl (R.move rfl) (JL.val rfl rfl (R.neq_i rfl rfl) (JL.nil (JN.next (JC.condB rfl (fun c_13 => ?_) (fun c_13 => ?_))))))))))
 ·
  replace hx := cond_t c_13 hx
  refine JC.seq (JC.region (JL.val rfl rfl (R.move rfl) (JL.val rfl rfl (R.assign rfl) (JL.nil (JN.next (JC.ret (JN.passR (JN.outP (vs := [.int .i64 x_10]) (K := []) (rst := [_]) (.inl rfl) rfl rfl (Res.tmp rfl rfl) picks0 ?_))))))))
  obtain rfl := Option.some.inj hx
  exact ⟨rfl, rfl, rfl, trivial⟩
 ·
  replace hx := cond_f c_13 hx
  refine JC.skip (JN.next (JC.seq (JC.seq (JC.region (JL.val rfl rfl (R.move rfl) (JL.val rfl rfl (R.lss32 (a := p_5) (b := (1 : UInt32)) rfl rfl) (JL.val rfl rfl (R.move rfl) (JL.gSplit (t := 19) rfl (fun c_14 => ?_) (fun c_14 => ?_)))))))))
  ·
   replace hx := cond_t c_14 hx
   refine JL.gNo rfl rfl rfl rfl rfl (JL.gNo rfl rfl rfl rfl rfl (JL.val rfl rfl (R.pickT rfl rfl) (JL.nil (JN.next (JC.condT rfl (JC.seq (JC.region (JL.val rfl rfl (R.assign rfl) (JL.nil (JN.next (JC.ret ?_)))))))))))
   refine JN.passR (JN.outP (vs := [.int .i64 2]) (K := []) (rst := [_]) (.inl rfl) rfl rfl (Res.tmp rfl rfl) picks0 ?_)
   obtain rfl := Option.some.inj hx
   exact ⟨rfl, rfl, rfl, trivial⟩
  ·
   replace hx := cond_f c_14 hx
   refine JL.gYes rfl rfl rfl (JL.val rfl rfl (R.move rfl) (JL.gYes rfl rfl rfl (JL.val rfl rfl (R.gtr32 (a := p_5) (b := (16777215 : UInt32)) rfl rfl) (JL.val rfl rfl (R.pickF rfl rfl) (JL.nil (JN.next (JC.condB rfl (fun c_15 => ?_) (fun c_15 => ?_))))))))
   ·
    replace hx := cond_t c_15 hx
    refine JC.seq (JC.region (JL.val rfl rfl (R.assign rfl) (JL.nil (JN.next (JC.ret (JN.passR (JN.outP (vs := [.int .i64 2]) (K := []) (rst := [_]) (.inl rfl) rfl rfl (Res.tmp rfl rfl) picks0 ?_)))))))
    obtain rfl := Option.some.inj hx
    exact ⟨rfl, rfl, rfl, trivial⟩
   ·
    replace hx := cond_f c_15 hx
    refine JC.skip (JN.next (JC.seq (JC.seq (JC.region (JL.val rfl rfl (R.move rfl) (JL.val rfl rfl (R.lenL U22 rfl (IsSlice.long ha_8)) (JL.val rfl rfl (R.move rfl) (JL.nil (JN.next ?_)))))))))
    obtain ⟨t_16, ht_18, hx⟩ := bnd_some hx
    refine JC.cut (fun l o g => ∃ t_16a : Unit, l = [] ∧ o = [] ∧ H = g ∧ t_16 = .inl t_16a) ?_ ?_
    ·
     rintro _ _ _ ⟨t_16a, rfl, rfl, rfl, rfl⟩
     simp only [Sum.elim_inl] at hx
     refine JN.next (JC.seq (JC.region (JL.val rfl rfl (R.assign rfl) (JL.nil (JN.next (JC.ret (JN.outP (vs := [.int .i64 0]) (K := []) (rst := []) (.inl rfl) rfl rfl (Res.tmp rfl rfl) picks0 ?_)))))))
     obtain rfl := Option.some.inj hx
     exact ⟨rfl, rfl, rfl, trivial⟩
    ·
     have hxo_17 := hx; clear hx; have hx := ht_18; clear ht_18
     refine JC.block (JC.forget 0 (JC.loopI (fun n l o g => ∃ s_19 : Int × Nat, l = [(2, .int .i64 s_19.1), (23, .slice aoa_8 na_8 capa_8), (24, .int .i64 (p_7.length : Int)), (25, .int .i64 ((s_19.2 : Nat) : Int))] ∧ o = [] ∧ H = g ∧ run (store_asked_l1 p_7) n s_19 = some t_16) FUEL ?_ ⟨(p_6, 0), rfl, rfl, rfl, hx⟩ ⟨rfl, rfl, rfl, rfl, trivial⟩ ?_))
     ·
      rintro _ _ _ ⟨s_19, rfl, rfl, rfl, hn_20⟩
      exact run_zero hn_20
     ·
      rintro n_21 _ _ _ ⟨s_19, rfl, rfl, rfl, hn_20⟩
      clear hx; obtain ⟨oo_23, hx, hd_22⟩ := run_some hn_20
      unfold store_asked_l1 at hx
      refine JC.seq (JC.region (JL.val rfl rfl (R.lss_i rfl rfl) (JL.nil (JN.next (JC.seq (JC.condB rfl (fun c_22 => ?_) (fun c_22 => ?_)))))))
      ·
       replace hx := cond_t c_22 hx
       refine JC.skip (JN.next (JC.seq (JC.block (JC.seq (JC.region ?_)))))
       obtain ⟨y_23, hN_24, hx⟩ := idx_some hx
       obtain ⟨b_25, o_26, cs_27, hE_28, hR_29, hl_30, hc_31⟩ := IsSlice.elem ha_8 hN_24
       obtain ⟨v_32, rfl, hs_33⟩ := hR_29
       obtain ⟨aov_32, capv_32, rfl⟩ := IsSlice.val hs_33
       refine JL.val rfl rfl (R.ix U22 S45 rfl rfl hE_28) (JL.val rfl rfl (R.ldH S45 rfl (hc_31 0 _ rfl)) (JL.val rfl rfl (R.assign rfl) (JL.nil (JN.next (JC.seq (JC.seq (JC.region (JL.val rfl rfl (R.move rfl) (JL.val rfl rfl (R.lenL U45 rfl (IsSlice.long hs_33)) (JL.val rfl rfl (R.move rfl) (JL.val rfl rfl (R.neq_i rfl rfl) ?_)))))))))))
       refine JL.nil (JN.next (JC.condB rfl (fun c_34 => ?_) (fun c_34 => ?_)))
       ·
        replace hx := cond_t c_34 hx
        refine JC.seq (JC.region (JL.val rfl rfl (R.assign rfl) (JL.nil (JN.next (JC.ret (JN.passR (JN.blkR (JN.passR ?_))))))))
        obtain rfl := run_done hd_22 hx
        refine JN.passR (JN.blkR ?_)
        clear hx; have hx := hxo_17
        simp only [Sum.elim_inl, Sum.elim_inr] at hx
        refine JN.passR (JN.passR (JN.outP (vs := [.int .i64 3]) (K := []) (rst := []) (.inl rfl) rfl rfl (Res.tmp rfl rfl) picks0 ?_))
        obtain rfl := Option.some.inj hx
        exact ⟨rfl, rfl, rfl, trivial⟩
       ·
        replace hx := cond_f c_34 hx
        refine JC.skip (JN.next (JC.region (JL.val rfl rfl (R.assign rfl) (JL.nil (JN.blkN (JN.next (JC.region (JL.val rfl rfl (R.inc rfl rfl (of_decide_eq_true c_22) (IsSlice.lenI ha_8)) (JL.val rfl rfl (R.move rfl) (JL.nil ?_))))))))))
        replace hx := run_next hd_22 hx
        exact JN.cut ⟨(256, s_19.2 + 1), rfl, rfl, rfl, hx⟩ ⟨rfl, rfl, rfl, rfl, trivial⟩ rfl rfl
      ·
       replace hx := cond_f c_22 hx
       refine JC.exit (JN.passX ?_)
       obtain rfl := run_done hd_22 hx
       refine JN.passX (JN.exitSame ?_)
       exact JN.cut ⟨(), rfl, rfl, rfl, rfl⟩ trivial rfl rfl

set_option maxHeartbeats 8000000 in
theorem space_free_ok (p_1 : List UInt8) (H : Heaplet) {aoa_2 : Option Addr} {na_2 : Nat} {capa_2 : Nat} (ha_2 : IsSlice H RU8 1 (.slice aoa_2 na_2 capa_2) p_1) (r : (Int × List UInt8)) (hx : space_free p_1 = some r) :
  Does Try.prog 164 #[.slice aoa_2 na_2 capa_2] [] H (fun u K' H' => ∃ b0 : Nat, ∃ b1 : Nat, ∃ ao2 : Option Addr, ∃ n2 : Nat, ∃ cap2 : Nat, u = .func (.func 181) #[] #[.pointer (some ⟨b0, 0, none⟩), .pointer (some ⟨b1, 0, none⟩)] ∧ K' = [[(b0, .cells #[.int .i64 r.1] 3 (0, 0))], [(b1, .cells #[.slice ao2 n2 cap2] 45 (0, 0))]] ∧ H = H' ∧ IsSlice H RU8 1 (.slice ao2 n2 cap2) r.2 ∧ True) := by
 refine Does.enterL (vs := [.slice aoa_2 na_2 capa_2]) (l := [(0, .slice aoa_2 na_2 capa_2)]) Try.func164 rfl rfl ⟨rfl, trivial⟩ (fun w hlt => ?_)
 unfold space_free at hx
 refine JC.seq (JC.region (JL.box rfl rfl (fun b_3 hb_3 => JL.val rfl rfl (R.assign rfl) (JL.nil (JN.next (JC.seq (JC.region (JL.alloc Z3 rfl (fun b_4 hb_4 => JL.store 0 S3 rfl rfl rfl rfl rfl (Nat.le_of_ble_eq_true rfl) (JL.nil (JN.next ?_)))))))))))
 refine JC.seq (JC.region (JL.val rfl rfl (R.func (vf := []) (vc := [_, _]) rfl rfl) (JL.val rfl rfl (R.assign rfl) (JL.nil (JN.next (JC.ret (JN.outP (vs := [.func (.func 181) #[] #[.pointer (some ⟨b_4, 0, none⟩), .pointer (some ⟨b_3, 0, none⟩)]]) (K := [_, _]) (rst := []) (.inl rfl) rfl rfl (Res.tmp rfl rfl) (picks 0 rfl (picks 0 rfl picks0)) ?_)))))))
 obtain rfl := Option.some.inj hx
 exact ⟨b_4, b_3, aoa_2, na_2, capa_2, rfl, rfl, rfl, ha_2, trivial⟩

set_option maxHeartbeats 8000000 in
theorem space_free_1_ok (p_2 : Int) (p_4 : List UInt8) (H : Heaplet) {b_1 : Nat} {b_3 : Nat} {aoa_5 : Option Addr} {na_5 : Nat} {capa_5 : Nat} (ha_5 : IsSlice H RU8 1 (.slice aoa_5 na_5 capa_5) p_4) (r : Int × Int × List UInt8) (hx : space_free_1 p_2 p_4 = some r) :
  Does Try.prog 181 #[.pointer (some ⟨b_1, 0, none⟩), .pointer (some ⟨b_3, 0, none⟩)] [[(b_1, .cells #[.int .i64 p_2] 3 (0, 0))], [(b_3, .cells #[.slice aoa_5 na_5 capa_5] 45 (0, 0))]] H (fun u K' H' => ∃ ao0 : Option Addr, ∃ n0 : Nat, ∃ cap0 : Nat, u = .int .i64 r.1 ∧ K' = [[(b_1, .cells #[.int .i64 r.2.1] 3 (0, 0))], [(b_3, .cells #[.slice ao0 n0 cap0] 45 (0, 0))]] ∧ H = H' ∧ IsSlice H RU8 1 (.slice ao0 n0 cap0) r.2.2 ∧ True) := by
 refine Does.enterL (vs := [.pointer (some ⟨b_1, 0, none⟩), .pointer (some ⟨b_3, 0, none⟩)]) (l := [(0, .pointer (some ⟨b_1, 0, none⟩)), (1, .pointer (some ⟨b_3, 0, none⟩))]) Try.func181 rfl rfl ⟨rfl, rfl, trivial⟩ (fun w hlt => ?_)
 unfold space_free_1 at hx
 refine JC.seq (JC.region (JL.val rfl rfl (R.assign rfl) (JL.nil (JN.next (JC.seq (JC.seq (JC.region (JL.val rfl rfl (R.ldo 0 S3 rfl rfl rfl) (JL.val rfl rfl (R.add_i rfl rfl) (JL.store 0 S3 rfl rfl rfl rfl rfl (Nat.le_of_ble_eq_true rfl) (JL.nil ?_)))))))))))
 refine JN.next ?_
 obtain ⟨t_6, ht_8, hx⟩ := bnd_some hx
 refine JC.cut (fun l o g => ∃ t_6a : Int, l = [(0, .pointer (some ⟨b_1, 0, none⟩)), (1, .pointer (some ⟨b_3, 0, none⟩))] ∧ o = [[(b_1, .cells #[.int .i64 t_6a] 3 (0, 0))], [(b_3, .cells #[.slice aoa_5 na_5 capa_5] 45 (0, 0))]] ∧ H = g ∧ t_6 = .inl t_6a) ?_ ?_
 ·
  rintro _ _ _ ⟨t_6a, rfl, rfl, rfl, rfl⟩
  simp only [Sum.elim_inl] at hx
  refine JN.next (JC.seq (JC.region (JL.val rfl rfl (R.assign rfl) (JL.nil (JN.next (JC.ret (JN.outP (vs := [.int .i64 (-1)]) (K := [_, _]) (rst := []) (.inl rfl) rfl rfl (Res.tmp rfl rfl) (picks 0 rfl (picks 0 rfl picks0)) ?_)))))))
  obtain rfl := Option.some.inj hx
  exact ⟨aoa_5, na_5, capa_5, rfl, rfl, rfl, ha_5, trivial⟩
 ·
  have hxo_7 := hx; clear hx; have hx := ht_8; clear ht_8
  refine JC.block (JC.front 1 rfl (JC.front 1 rfl (JC.loopI (fun n l o g => ∃ s_9 : Int, l = [(0, .pointer (some ⟨b_1, 0, none⟩)), (1, .pointer (some ⟨b_3, 0, none⟩))] ∧ o = [[(b_1, .cells #[.int .i64 s_9] 3 (0, 0))], [(b_3, .cells #[.slice aoa_5 na_5 capa_5] 45 (0, 0))]] ∧ H = g ∧ run (space_free_1_l1 p_4) n s_9 = some t_6) FUEL ?_ ⟨w64 (p_2 + 1), rfl, rfl, rfl, hx⟩ ⟨rfl, rfl, trivial⟩ ?_)))
  ·
   rintro _ _ _ ⟨s_9, rfl, rfl, rfl, hn_10⟩
   exact run_zero hn_10
  ·
   rintro n_11 _ _ _ ⟨s_9, rfl, rfl, rfl, hn_10⟩
   clear hx; obtain ⟨oo_13, hx, hd_12⟩ := run_some hn_10
   unfold space_free_1_l1 at hx
   refine JC.seq (JC.seq (JC.region (JL.val rfl rfl (R.ldo 0 S3 rfl rfl rfl) (JL.val rfl rfl (R.ldo 1 S45 rfl rfl rfl) (JL.val rfl rfl (R.lenL U45 rfl (IsSlice.long ha_5)) (JL.val rfl rfl (R.lss_i rfl rfl) (JL.nil (JN.next (JC.condB rfl (fun c_12 => ?_) (fun c_12 => ?_))))))))))
   ·
    replace hx := cond_t c_12 hx
    refine JC.skip (JN.next (JC.seq (JC.block (JC.seq (JC.region (JL.val rfl rfl (R.ldo 1 S45 rfl rfl rfl) (JL.val rfl rfl (R.ldo 0 S3 rfl rfl rfl) ?_)))))))
    obtain ⟨y_13, hN_14, hx⟩ := idx_some hx
    obtain ⟨b_15, o_16, cs_17, hE_18, hR_19, hl_20, hc_21⟩ := IsSlice.elem ha_5 hN_14
    obtain rfl := hR_19
    refine JL.val rfl rfl (R.ix U45 S5 rfl rfl hE_18) (JL.val rfl rfl (R.ldH S5 rfl (hc_21 0 _ rfl)) (JL.val rfl rfl (R.eql8 (a := y_13) (b := (0 : UInt8)) rfl rfl) (JL.nil (JN.next (JC.condB rfl (fun c_22 => ?_) (fun c_22 => ?_))))))
    ·
     replace hx := cond_t c_22 hx
     refine JC.seq (JC.region (JL.val rfl rfl (R.ldo 0 S3 rfl rfl rfl) (JL.val rfl rfl (R.assign rfl) (JL.nil (JN.next (JC.ret (JN.blkR (JN.passR ?_))))))))
     obtain rfl := run_done hd_12 hx
     refine JN.passR (JN.blkR ?_)
     clear hx; have hx := hxo_7
     simp only [Sum.elim_inl, Sum.elim_inr] at hx
     refine JN.passR (JN.passR (JN.outP (vs := [.int .i64 s_9]) (K := [_, _]) (rst := []) (.inl rfl) rfl rfl (Res.tmp rfl rfl) (picks 0 rfl (picks 0 rfl picks0)) ?_))
     obtain rfl := Option.some.inj hx
     exact ⟨aoa_5, na_5, capa_5, rfl, rfl, rfl, ha_5, trivial⟩
    ·
     replace hx := cond_f c_22 hx
     refine JC.skip (JN.blkN (JN.next (JC.region (JL.val rfl rfl (R.ldo 0 S3 rfl rfl rfl) (JL.val rfl rfl (R.add_i rfl rfl) (JL.store 0 S3 rfl rfl rfl rfl rfl (Nat.le_of_ble_eq_true rfl) (JL.nil ?_)))))))
     replace hx := run_next hd_12 hx
     refine JN.front 1 rfl (JN.front 1 rfl ?_)
     exact JN.cut ⟨w64 (s_9 + 1), rfl, rfl, rfl, hx⟩ ⟨rfl, rfl, trivial⟩ rfl rfl
   ·
    replace hx := cond_f c_12 hx
    refine JC.exit (JN.passX ?_)
    obtain rfl := run_done hd_12 hx
    refine JN.passX (JN.exitSame (JN.front 1 rfl (JN.front 1 rfl ?_)))
    exact JN.cut ⟨s_9, rfl, rfl, rfl, rfl⟩ ⟨rfl, rfl, trivial⟩ rfl rfl

theorem bytes_Clone_ok (p_1 : List UInt8) (H : Heaplet) {ao : Option Addr} {n cap : Nat} (hs : IsSlice H RU8 1 (.slice ao n cap) p_1) (r : List UInt8) (hx : bytes_Clone p_1 = some r) :
  Does Try.prog 105 #[.slice ao n cap] [] H (fun u K' H' => ∃ ao0 : Option Addr, ∃ n0 : Nat, ∃ cap0 : Nat, ∃ K0 : Own, u = .slice ao0 n0 cap0 ∧ K' = [K0] ∧ H = H' ∧ RowOf (New H H') RU8 0 5 1 (.slice ao0 n0 cap0) r K0 ∧ (∀ p ∈ K0, p.1 ∉ ids (List.flatten [])) ∧ True) := by
 rw [bytes_Clone.eq_1] at hx
 obtain ⟨q, hq, hl, hx⟩ := app_some hx
 obtain rfl := Option.some.inj hx
 refine Does.enter (vs := [.slice ao n cap]) (l := [(0, .slice ao n cap)]) Try.func105 rfl rfl ⟨rfl, trivial⟩ (fun w => JC.seq (JC.region (JL.val rfl rfl (R.assign rfl) (JL.nil (JN.next (JC.seq (JC.seq (JC.region (JL.val rfl rfl (R.move rfl) (JL.val rfl rfl (R.eqlNil U45 rfl rfl) (JL.nil ?_)))))))))))
 refine JN.next ?_
 cases ao with
 | none =>
  have hp := hs.none_nil
  subst hp
  simp only [List.append_nil] at hq
  subst hq
  refine JC.condT rfl (JC.seq (JC.region (JL.val rfl rfl (R.assign rfl) (JL.nil (JN.next (JC.ret (JN.passR (JN.seg0 (JN.outP (vs := [.slice none 0 0]) (K := [_]) (rst := []) (.inl rfl) rfl rfl (Res.tmp rfl rfl) (picks 0 rfl picks0) ?_)))))))))
  exact ⟨none, 0, 0, [], rfl, rfl, rfl, RowOf.nil _ _ _ _ _, (fun p hp => by cases hp), trivial⟩
 | some a =>
  refine JC.condF rfl (JC.skip (JN.next (JC.seq (JC.region (JL.bslF (HF := New H H) (R := RU8) (ls := []) (vs := []) U45 I5 rfl rfl rfl RU8.one rfl rfl rfl (by simp [maxLen]) rfl (fun v1 K1 h1 => ?_))))))
  obtain ⟨ao1, cap1, rfl⟩ := RowOf.val h1
  refine JL.val rfl rfl (R.move rfl) (JL.appF (HF := New H H) 0 U45 I5 rfl rfl h1 rfl (SrcF.sliceC RU8.const RU8.one U45 hs) hq hl rfl (Nat.le_refl _) rfl (fun v2 K2 h2 => ?_))
  obtain ⟨ao2, cap2, rfl⟩ := RowOf.val h2
  refine JL.val rfl rfl (R.assign rfl) (JL.nil (JN.next (JC.ret (JN.outP (vs := [.slice ao2 _ cap2]) (K := [_]) (rst := []) (.inl rfl) rfl rfl (Res.tmp rfl rfl) (picks 0 rfl picks0) ?_))))
  exact ⟨_, _, _, _, rfl, rfl, rfl, RowOf.weak (Nat.zero_le _) h2, (fun p hp hm => by cases hm), trivial⟩

set_option maxHeartbeats 8000000 in
theorem space_Take_ok (p_1 : List UInt8) (H : Heaplet) {aoa_2 : Option Addr} {na_2 : Nat} {capa_2 : Nat} (ha_2 : IsSlice H RU8 1 (.slice aoa_2 na_2 capa_2) p_1) (r : List UInt8 × Int × Int) (hx : space_Take p_1 = some r) :
  Does Try.prog 140 #[.slice aoa_2 na_2 capa_2] [] H (fun u K' H' => ∃ ao0 : Option Addr, ∃ n0 : Nat, ∃ cap0 : Nat, ∃ K0 : Own, u = .tuple #[.slice ao0 n0 cap0, .int .i64 r.2.1, .int .i64 r.2.2] ∧ K' = [K0] ∧ H = H' ∧ RowOf (New H H) RU8 0 5 1 (.slice ao0 n0 cap0) r.1 K0 ∧ (∀ p ∈ K0, p.1 ∉ ids (List.flatten [])) ∧ True) := by
 refine Does.enterL (vs := [.slice aoa_2 na_2 capa_2]) (l := [(0, .slice aoa_2 na_2 capa_2)]) Try.func140 rfl rfl ⟨rfl, trivial⟩ (fun w hlt => ?_)
 unfold space_Take at hx
 refine JC.seq (JC.region (JL.val rfl rfl (R.assign rfl) (JL.val rfl rfl (R.assign rfl) (JL.val rfl rfl (R.assign rfl) (JL.nil (JN.next (JC.seq (JC.seq (JC.region (JL.val rfl rfl (R.move rfl) ?_))))))))))
 obtain ⟨x_3, hr_4, hx⟩ := bnd_some hx
 refine JL.callC (vs := [_]) (args := [_]) (K := []) (rst := []) E57 rfl rfl rfl picks0 (space_Check_ok p_1 _ ha_2 _ hr_4) rfl (fun u_5 Ku_5 Hu_5 hRu_5 hleu_5 hfu_5 => ?_)
 obtain ⟨rfl, rfl, rfl, -⟩ := hRu_5
 refine JL.val rfl rfl (R.assign rfl) (JL.nil (JN.next (JC.seq (JC.region (JL.val rfl rfl (R.move rfl) (JL.val rfl rfl (R.neq_i rfl rfl) (JL.nil (JN.next (JC.condB rfl (fun c_6 => ?_) (fun c_6 => ?_))))))))))
 ·
  replace hx := cond_t c_6 hx
  refine JC.seq (JC.region (JL.val rfl rfl (R.move rfl) (JL.val rfl rfl (R.assign rfl) (JL.val rfl rfl (R.assign rfl) (JL.val rfl rfl (R.assign rfl) (JL.nil (JN.next (JC.ret (JN.passR (JN.seg0 (JN.outP (vs := [.slice none 0 0, .int .i64 0, .int .i64 x_3]) (K := [_]) (rst := []) (.inl rfl) rfl rfl (Res.tmp rfl (Res.tmp rfl (Res.tmp rfl rfl))) (picks 0 rfl picks0) ?_)))))))))))
  obtain rfl := Option.some.inj hx
  exact ⟨none, 0, 0, [], rfl, rfl, rfl, (RowOf.nil _ _ _ _ _), (fun p hp => by cases hp), trivial⟩
 ·
  replace hx := cond_f c_6 hx
  refine JC.skip (JN.next (JC.seq (JC.seq (JC.region (JL.val rfl rfl (R.move rfl) ?_)))))
  obtain ⟨x_7, hr_8, hx⟩ := bnd_some hx
  refine JL.callC (vs := [_]) (args := [_]) (K := []) (rst := []) E164 rfl rfl rfl picks0 (space_free_ok p_1 _ ha_2 _ hr_8) rfl (fun u_9 Ku_9 Hu_9 hRu_9 hleu_9 hfu_9 => ?_)
  obtain ⟨b_10, b_11, aoz_12, nz_12, capz_12, rfl, rfl, rfl, hz_12, -⟩ := hRu_9
  have hb_10 := (hfu_9 _ (mem_seg 0 rfl (List.mem_singleton.2 rfl))).resolve_left (fun h => by cases h)
  have hb_11 := (hfu_9 _ (mem_seg 1 rfl (List.mem_singleton.2 rfl))).resolve_left (fun h => by cases h)
  obtain ⟨x_13, hr_14, hx⟩ := bnd_some hx
  refine JL.callC (vs := []) (args := [_, _]) (K := [_, _]) (rst := []) E181 rfl rfl rfl (picks 0 rfl (picks 0 rfl picks0)) (space_free_1_ok x_7.1 x_7.2 _ hz_12 _ hr_14) rfl (fun u_15 Ku_15 Hu_15 hRu_15 hleu_15 hfu_15 => ?_)
  obtain ⟨aoz_16, nz_16, capz_16, rfl, rfl, rfl, hz_16, -⟩ := hRu_15
  refine JL.val rfl rfl (R.assign rfl) (JL.nil (JN.next (JC.seq (JC.region (JL.val rfl rfl (R.move rfl) (JL.val rfl rfl (R.lss_i rfl rfl) (JL.nil (JN.next (JC.condB rfl (fun c_17 => ?_) (fun c_17 => ?_))))))))))
  ·
   replace hx := cond_t c_17 hx
   refine JC.seq (JC.region (JL.val rfl rfl (R.assign rfl) (JL.val rfl rfl (R.assign rfl) (JL.val rfl rfl (R.assign rfl) (JL.nil (JN.next (JC.ret (JN.passR (JN.seg0 (JN.outP (vs := [.slice none 0 0, .int .i64 0, .int .i64 9]) (K := [_]) (rst := [_, _]) (.inl rfl) rfl rfl (Res.tmp rfl (Res.tmp rfl (Res.tmp rfl rfl))) (picks 0 rfl picks0) ?_))))))))))
   obtain rfl := Option.some.inj hx
   exact ⟨none, 0, 0, [], rfl, rfl, rfl, (RowOf.nil _ _ _ _ _), (fun p hp => by cases hp), trivial⟩
  ·
   replace hx := cond_f c_17 hx
   refine JC.skip (JN.next (JC.seq (JC.region (JL.val rfl rfl (R.move rfl) ?_))))
   obtain ⟨x_18, hr_19, hx⟩ := bnd_some hx
   refine JL.callC (vs := [_]) (args := [_]) (K := []) (rst := [_, _]) E105 rfl rfl rfl picks0 (bytes_Clone_ok p_1 _ ha_2 _ hr_19) rfl (fun u_20 Ku_20 Hu_20 hRu_20 hleu_20 hfu_20 => ?_)
   obtain ⟨aor_21, nr_21, capr_21, Kr_21, rfl, rfl, rfl, hr_21, hnewr_21, -⟩ := hRu_20
   replace hr_21 := (RowOf.base (RowOf.const (H2 := New H H) RU8.const hr_21) (fun p hp => (hfu_20 p (mem_seg 0 rfl hp)).resolve_left (hnewr_21 p hp)))
   refine JL.val rfl rfl (R.assign rfl) (JL.nil (JN.next (JC.seq (JC.region (JL.val rfl rfl (R.move rfl) (JL.val rfl rfl (R.move rfl) ?_))))))
   obtain ⟨hp_22, hx⟩ := chk_some hx
   obtain ⟨b_23, o_24, hE_25⟩ := RowOf.place hr_21 hp_22
   refine JL.val rfl rfl (R.ix U45 S5 rfl rfl hE_25) ?_
   obtain ⟨m_26, hm_27, hi_28, hx⟩ := setI_some hx
   refine JL.stE 0 (k := x_13.1) (y := (1 : UInt8)) S5 rfl hr_21 rfl hE_25 rfl rfl (rfl) RU8.one hm_27 (fun Kr_29 hr_29 hlr_29 => JL.nil (JN.next (JC.seq (JC.region (JL.val rfl rfl (R.move rfl) (JL.val rfl rfl (R.move rfl) (JL.val rfl rfl (R.assign rfl) (JL.val rfl rfl (R.assign rfl) (JL.val rfl rfl (R.assign rfl) (JL.nil (JN.next ?_)))))))))))
   refine JC.ret (JN.outP (vs := [.slice aor_21 nr_21 capr_21, .int .i64 x_13.1, .int .i64 0]) (K := [_]) (rst := [_, _]) (.inl rfl) rfl rfl (Res.tmp rfl (Res.tmp rfl (Res.tmp rfl rfl))) (picks 0 rfl picks0) ?_)
   obtain rfl := Option.some.inj hx
   exact ⟨aor_21, nr_21, capr_21, Kr_29, rfl, rfl, rfl, (RowOf.weak (Nat.zero_le _) hr_29), (new_ids hr_29 hlt), trivial⟩

set_option maxHeartbeats 8000000 in
theorem dev_Write_1_ok (p_2 : Disk) (H : Heaplet) {b_1 : Nat} {aoa_3 : Option Addr} {na_3 : Nat} {capa_3 : Nat} {aoa_4 : Option Addr} {na_4 : Nat} {capa_4 : Nat} (ha_3 : IsSlice H (RSl RU8 1) 1 (.slice aoa_3 na_3 capa_3) p_2.Blocks) (ha_4 : IsSlice H R_Write 2 (.slice aoa_4 na_4 capa_4) p_2.Waits) (r : Disk × Disk) (hx : dev_Write_1 p_2 = some r) :
  Does Try.prog 69 #[.pointer (some ⟨b_1, 0, none⟩)] [[(b_1, .cells #[.slice aoa_3 na_3 capa_3, .slice aoa_4 na_4 capa_4] 25 (0, 0))]] H (fun u K' H' => ∃ ao0 : Option Addr, ∃ n0 : Nat, ∃ cap0 : Nat, ∃ ao1 : Option Addr, ∃ n1 : Nat, ∃ cap1 : Nat, ∃ ao2 : Option Addr, ∃ n2 : Nat, ∃ cap2 : Nat, ∃ ao3 : Option Addr, ∃ n3 : Nat, ∃ cap3 : Nat, u = .agg #[.slice ao2 n2 cap2, .slice ao3 n3 cap3] ∧ K' = [[(b_1, .cells #[.slice ao0 n0 cap0, .slice ao1 n1 cap1] 25 (0, 0))]] ∧ H = H' ∧ IsSlice H (RSl RU8 1) 1 (.slice ao0 n0 cap0) r.2.Blocks ∧ IsSlice H R_Write 2 (.slice ao1 n1 cap1) r.2.Waits ∧ IsSlice H (RSl RU8 1) 1 (.slice ao2 n2 cap2) r.1.Blocks ∧ IsSlice H R_Write 2 (.slice ao3 n3 cap3) r.1.Waits ∧ True) := by
 refine Does.enterL (vs := [.pointer (some ⟨b_1, 0, none⟩)]) (l := [(0, .pointer (some ⟨b_1, 0, none⟩))]) Try.func69 rfl rfl ⟨rfl, trivial⟩ (fun w hlt => ?_)
 unfold dev_Write_1 at hx
 refine JC.seq (JC.region (JL.alloc Z25 rfl (fun b_5 hb_5 => JL.nil (JN.next (JC.seq (JC.region (JL.val rfl rfl (R.ldoN 1 (vs := [.slice aoa_3 na_3 capa_3, .slice aoa_4 na_4 capa_4]) S25 rfl rfl rfl rfl) (JL.store 0 S25 rfl rfl rfl rfl rfl (Nat.le_of_ble_eq_true rfl) (JL.nil (JN.next (JC.ret ?_)))))))))))
 refine JN.outP (vs := [.agg #[.slice aoa_3 na_3 capa_3, .slice aoa_4 na_4 capa_4]]) (K := [_]) (rst := [_]) (.inl rfl) rfl rfl (Res.cellN 0 rfl rfl S25 rfl) (picks 1 rfl picks0) ?_
 obtain rfl := Option.some.inj hx
 exact ⟨aoa_3, na_3, capa_3, aoa_4, na_4, capa_4, aoa_3, na_3, capa_3, aoa_4, na_4, capa_4, rfl, rfl, rfl, ha_3, ha_4, ha_3, ha_4, trivial⟩

set_option maxHeartbeats 8000000 in
theorem dev_guarded_ok (p_1 : Disk) (p_4 : Bool) (p_6 : Disk) (H : Heaplet) {aoa_2 : Option Addr} {na_2 : Nat} {capa_2 : Nat} {aoa_3 : Option Addr} {na_3 : Nat} {capa_3 : Nat} {b_5 : Nat} {aoa_7 : Option Addr} {na_7 : Nat} {capa_7 : Nat} {aoa_8 : Option Addr} {na_8 : Nat} {capa_8 : Nat} (ha_2 : IsSlice H (RSl RU8 1) 1 (.slice aoa_2 na_2 capa_2) p_1.Blocks) (ha_3 : IsSlice H R_Write 2 (.slice aoa_3 na_3 capa_3) p_1.Waits) (ha_7 : IsSlice H (RSl RU8 1) 1 (.slice aoa_7 na_7 capa_7) p_6.Blocks) (ha_8 : IsSlice H R_Write 2 (.slice aoa_8 na_8 capa_8) p_6.Waits) (r : Disk × Int × Disk) (hx : dev_guarded p_1 p_4 p_6 = some r) :
  Does Try.prog 68 #[.agg #[.slice aoa_2 na_2 capa_2, .slice aoa_3 na_3 capa_3], .bool p_4, .func (.func 69) #[] #[.pointer (some ⟨b_5, 0, none⟩)]] [[(b_5, .cells #[.slice aoa_7 na_7 capa_7, .slice aoa_8 na_8 capa_8] 25 (0, 0))]] H (fun u K' H' => ∃ ao0 : Option Addr, ∃ n0 : Nat, ∃ cap0 : Nat, ∃ ao1 : Option Addr, ∃ n1 : Nat, ∃ cap1 : Nat, ∃ ao2 : Option Addr, ∃ n2 : Nat, ∃ cap2 : Nat, ∃ ao3 : Option Addr, ∃ n3 : Nat, ∃ cap3 : Nat, u = .tuple #[.agg #[.slice ao2 n2 cap2, .slice ao3 n3 cap3], .int .i64 r.2.1] ∧ K' = [[(b_5, .cells #[.slice ao0 n0 cap0, .slice ao1 n1 cap1] 25 (0, 0))]] ∧ H = H' ∧ IsSlice H (RSl RU8 1) 1 (.slice ao0 n0 cap0) r.2.2.Blocks ∧ IsSlice H R_Write 2 (.slice ao1 n1 cap1) r.2.2.Waits ∧ IsSlice H (RSl RU8 1) 1 (.slice ao2 n2 cap2) r.1.Blocks ∧ IsSlice H R_Write 2 (.slice ao3 n3 cap3) r.1.Waits ∧ True) := by
 refine Does.enterL (vs := [.agg #[.slice aoa_2 na_2 capa_2, .slice aoa_3 na_3 capa_3], .bool p_4, .func (.func 69) #[] #[.pointer (some ⟨b_5, 0, none⟩)]]) (l := [(0, .agg #[.slice aoa_2 na_2 capa_2, .slice aoa_3 na_3 capa_3]), (1, .bool p_4), (2, .func (.func 69) #[] #[.pointer (some ⟨b_5, 0, none⟩)])]) Try.func68 rfl rfl ⟨rfl, rfl, rfl, trivial⟩ (fun w hlt => ?_)
 unfold dev_guarded at hx
 refine JC.seq (JC.region (JL.box rfl rfl (fun b_9 hb_9 => JL.alloc Z25 rfl (fun b_10 hb_10 => JL.val rfl rfl (R.assign rfl) (JL.nil (JN.next (JC.seq (JC.region (JL.val rfl rfl (R.ldoN 1 (vs := [.slice aoa_2 na_2 capa_2, .slice aoa_3 na_3 capa_3]) S25 rfl rfl rfl rfl) ?_)))))))))
 obtain ⟨x_11, hr_12, hx⟩ := bnd_some hx
 refine JL.callC (vs := [_]) (args := [_]) (K := []) (rst := [_, _, _]) E36 rfl rfl rfl picks0 (dev_Check_ok p_1 _ ha_2 ha_3 _ hr_12) rfl (fun u_13 Ku_13 Hu_13 hRu_13 hleu_13 hfu_13 => ?_)
 obtain ⟨rfl, rfl, rfl, -⟩ := hRu_13
 refine JL.val rfl rfl (R.assign rfl) (JL.nil (JN.next (JC.seq (JC.block (JC.seq (JC.region (JL.val rfl rfl (R.move rfl) (JL.val rfl rfl (R.neq_i rfl rfl) (JL.val rfl rfl (R.assign rfl) (JL.nil (JN.next ?_)))))))))))
 refine JC.condB rfl (fun c_14 => ?_) (fun c_14 => ?_)
 ·
  replace hx := cond_t c_14 hx
  refine JC.seq (JC.region (JL.val rfl rfl (R.bldP (vs := []) (cs := [.slice none 0 0, .slice none 0 0]) Z25 B25 rfl rfl rfl) (JL.val rfl rfl (R.move rfl) (JL.store 0 S25 rfl rfl rfl rfl rfl (Nat.le_of_ble_eq_true rfl) (JL.val rfl rfl (R.assign rfl) (JL.nil (JN.next (JC.ret (JN.blkR (JN.passR (JN.outP (vs := [.agg #[.slice none 0 0, .slice none 0 0], .int .i64 x_11]) (K := [_]) (rst := [_, _]) (.inl rfl) rfl rfl (Res.cellN 0 rfl rfl S25 (Res.tmp rfl rfl)) (picks 2 rfl picks0) ?_)))))))))))
  obtain rfl := Option.some.inj hx
  exact ⟨aoa_7, na_7, capa_7, aoa_8, na_8, capa_8, none, 0, 0, none, 0, 0, rfl, rfl, rfl, ha_7, ha_8, (IsSlice.nil _ _ _), (IsSlice.nil _ _ _), trivial⟩
 ·
  replace hx := cond_f c_14 hx
  refine JC.seq (JC.region (JL.val rfl rfl (R.move rfl) (JL.val rfl rfl (R.not rfl) (JL.val rfl rfl (R.assign rfl) (JL.nil (JN.next (JC.condB rfl (fun c_15 => ?_) (fun c_15 => ?_))))))))
  ·
   replace hx := cond_t c_15 hx
   refine JC.seq (JC.region (JL.val rfl rfl (R.bldP (vs := []) (cs := [.slice none 0 0, .slice none 0 0]) Z25 B25 rfl rfl rfl) (JL.store 0 S25 rfl rfl rfl rfl rfl (Nat.le_of_ble_eq_true rfl) (JL.val rfl rfl (R.assign rfl) (JL.nil (JN.next (JC.ret (JN.blkR (JN.passR (JN.outP (vs := [.agg #[.slice none 0 0, .slice none 0 0], .int .i64 2]) (K := [_]) (rst := [_, _]) (.inl rfl) rfl rfl (Res.cellN 0 rfl rfl S25 (Res.tmp rfl rfl)) (picks 2 rfl picks0) ?_))))))))))
   obtain rfl := Option.some.inj hx
   exact ⟨aoa_7, na_7, capa_7, aoa_8, na_8, capa_8, none, 0, 0, none, 0, 0, rfl, rfl, rfl, ha_7, ha_8, (IsSlice.nil _ _ _), (IsSlice.nil _ _ _), trivial⟩
  ·
   replace hx := cond_f c_15 hx
   refine JC.skip (JN.blkN (JN.next (JC.seq (JC.region (JL.val rfl rfl (R.move rfl) ?_)))))
   obtain ⟨x_16, hr_17, hx⟩ := bnd_some hx
   refine JL.callC (vs := []) (args := [_]) (K := [_]) (rst := [_, _]) E69 rfl rfl rfl (picks 2 rfl picks0) (dev_Write_1_ok p_6 _ ha_7 ha_8 _ hr_17) rfl (fun u_18 Ku_18 Hu_18 hRu_18 hleu_18 hfu_18 => ?_)
   obtain ⟨aoz_19, nz_19, capz_19, aoz_20, nz_20, capz_20, aoz_21, nz_21, capz_21, aoz_22, nz_22, capz_22, rfl, rfl, rfl, hz_19, hz_20, hz_21, hz_22, -⟩ := hRu_18
   refine JL.store 1 S25 rfl rfl rfl rfl rfl (Nat.le_of_ble_eq_true rfl) (JL.val rfl rfl (R.assign rfl) (JL.nil (JN.next (JC.ret (JN.outP (vs := [.agg #[.slice aoz_21 nz_21 capz_21, .slice aoz_22 nz_22 capz_22], .int .i64 0]) (K := [_]) (rst := [_, _]) (.inl rfl) rfl rfl (Res.cellN 1 rfl rfl S25 (Res.tmp rfl rfl)) (picks 0 rfl picks0) ?_)))))
   obtain rfl := Option.some.inj hx
   exact ⟨aoz_19, nz_19, capz_19, aoz_20, nz_20, capz_20, aoz_21, nz_21, capz_21, aoz_22, nz_22, capz_22, rfl, rfl, rfl, hz_19, hz_20, hz_21, hz_22, trivial⟩

set_option maxHeartbeats 8000000 in
theorem slices_Clip_Write_ok (p_1 : List Write) (H : Heaplet) {aoa_2 : Option Addr} {na_2 : Nat} {capa_2 : Nat} (ha_2 : IsSlice H R_Write 2 (.slice aoa_2 na_2 capa_2) p_1) (r : List Write) (hx : slices_Clip_Write p_1 = some r) :
  Does Try.prog 71 #[.slice aoa_2 na_2 capa_2] [] H (fun u K' H' => ∃ ao0 : Option Addr, ∃ n0 : Nat, u = .slice ao0 n0 n0 ∧ K' = [] ∧ H = H' ∧ IsSlice H R_Write 2 (.slice ao0 n0 n0) r ∧ True) := by
 refine Does.enterL (vs := [.slice aoa_2 na_2 capa_2]) (l := [(0, .slice aoa_2 na_2 capa_2)]) Try.func71 rfl rfl ⟨rfl, trivial⟩ (fun w hlt => ?_)
 unfold slices_Clip_Write at hx
 refine JC.seq (JC.region (JL.val rfl rfl (R.assign rfl) (JL.nil (JN.next (JC.seq (JC.region (JL.val rfl rfl (R.move rfl) (JL.val rfl rfl (R.move rfl) (JL.val rfl rfl (R.lenL U23 rfl (IsSlice.long ha_2)) (JL.val rfl rfl (R.move rfl) (JL.val rfl rfl (R.lenL U23 rfl (IsSlice.long ha_2)) ?_)))))))))))
 obtain ⟨m_3, hm_5, hb_4, hx⟩ := slc_some hx
 obtain ⟨vv_6, cv_6, aov_6, h1v_6, h2v_6, hsv_6⟩ := IsSlice.cutc ha_2 hm_5 hb_4
 refine JL.val rfl rfl (R.slc (cap := cv_6) (a := 0) (b := (p_1.length : Int)) (c := (p_1.length : Int)) (m := p_1) (R := R_Write) U23 S47 rfl rfl ⟨_, rfl⟩ ⟨_, rfl⟩ ⟨hb_4.1, hb_4.2.1, Int.le_refl _⟩ h1v_6 (.inr (fun h => by cases h))) ?_
 subst h2v_6
 refine JL.val rfl rfl (R.assign rfl) (JL.nil (JN.next (JC.ret (JN.outP (vs := [.slice aov_6 m_3.length m_3.length]) (K := []) (rst := []) (.inl rfl) rfl rfl (Res.tmp rfl rfl) picks0 ?_))))
 obtain rfl := Option.some.inj hx
 exact ⟨aov_6, m_3.length, rfl, rfl, rfl, hsv_6, trivial⟩

set_option maxHeartbeats 8000000 in
theorem dev_Twin_ok (p_1 : Disk) (H : Heaplet) {aoa_2 : Option Addr} {na_2 : Nat} {capa_2 : Nat} {aoa_3 : Option Addr} {na_3 : Nat} {capa_3 : Nat} (ha_2 : IsSlice H (RSl RU8 1) 1 (.slice aoa_2 na_2 capa_2) p_1.Blocks) (ha_3 : IsSlice H R_Write 2 (.slice aoa_3 na_3 capa_3) p_1.Waits) (r : Disk) (hx : dev_Twin p_1 = some r) :
  Does Try.prog 70 #[.agg #[.slice aoa_2 na_2 capa_2, .slice aoa_3 na_3 capa_3]] [] H (fun u K' H' => ∃ ao0 : Option Addr, ∃ n0 : Nat, ∃ cap0 : Nat, ∃ K0 : Own, ∃ ao1 : Option Addr, ∃ n1 : Nat, ∃ cap1 : Nat, ∃ K1 : Own, u = .agg #[.slice ao0 n0 cap0, .slice ao1 n1 cap1] ∧ K' = [K0, K1] ∧ Pcs 0 5 45 (.slice ao0 n0 cap0) r.Blocks K0 ∧ (∀ p ∈ K0, p.1 ∉ ids (List.flatten [])) ∧ RowOf (New H H') R_Write 0 47 2 (.slice ao1 n1 cap1) r.Waits K1 ∧ (∀ p ∈ K1, p.1 ∉ ids (List.flatten [])) ∧ True) := by
 refine Does.enterL (vs := [.agg #[.slice aoa_2 na_2 capa_2, .slice aoa_3 na_3 capa_3]]) (l := [(0, .agg #[.slice aoa_2 na_2 capa_2, .slice aoa_3 na_3 capa_3])]) Try.func70 rfl rfl ⟨rfl, trivial⟩ (fun w hlt => ?_)
 unfold dev_Twin at hx
 refine JC.seq (JC.region (JL.box rfl rfl (fun b_4 hb_4 => JL.alloc Z25 rfl (fun b_5 hb_5 => JL.nil (JN.next (JC.seq (JC.region (JL.val rfl rfl (R.assign rfl) (JL.nil (JN.next (JC.seq ?_)))))))))))
 refine JC.seq (JC.region (JL.val rfl rfl (R.fa F25_0 rfl) (JL.val rfl rfl (R.ldo 1 S22 rfl rfl rfl) (JL.val rfl rfl (R.lenL U22 rfl (IsSlice.long ha_2)) (JL.val rfl rfl (R.move rfl) (JL.nil (JN.next ?_)))))))
 obtain ⟨t_6, ht_8, hx⟩ := bnd_some hx
 refine JC.cut (fun l o g => ∃ aor_13 : Option Addr, ∃ nr_13 : Nat, ∃ capr_13 : Nat, ∃ Kr_13 : Own, l = [(1, .pointer (some ⟨b_4, 0, none⟩)), (2, .pointer (some ⟨b_5, 0, none⟩)), (3, .slice aor_13 nr_13 capr_13)] ∧ o = [[(b_4, .cells #[.slice aoa_2 na_2 capa_2, .slice aoa_3 na_3 capa_3] 25 (0, 0))], [(b_5, .cells #[.slice none 0 0, .slice none 0 0] 25 (0, 0))], Kr_13] ∧ H = g ∧ RowOf (New H H) RInt w.heap.size 3 1 (.slice aor_13 nr_13 capr_13) t_6 Kr_13) ?_ ?_
 ·
  rintro _ _ _ ⟨aor_13, nr_13, capr_13, Kr_13, rfl, rfl, rfl, hr_13⟩
  refine JN.next (JC.seq (JC.region (JL.val rfl rfl (R.move rfl) (JL.pubN 2 RInt.mono rfl hr_13 (Nat.le_refl _) (fun H_14 hleH_14 hsH_14 => JL.forget 2 ?_)))))
  obtain ⟨x_15, hr_16, hx⟩ := bnd_some hx
  refine JL.callC (vs := [_]) (args := [_]) (K := []) (rst := [_, _]) E107 rfl rfl rfl picks0 (dev_cut_ok t_6 _ (hsH_14.old RInt.mono) _ hr_16) rfl (fun u_17 Ku_17 Hu_17 hRu_17 hleu_17 hfu_17 => ?_)
  obtain ⟨aor_18, nr_18, capr_18, Kr_18, rfl, rfl, rfl, hr_18, hnewr_18, -⟩ := hRu_17
  replace hr_18 := (Pcs.base hr_18 (fun p hp => (hfu_17 p (mem_seg 0 rfl hp)).resolve_left (hnewr_18 p hp)))
  refine JL.val rfl rfl (R.fa F25_0 rfl) (JL.store 2 S22 rfl rfl rfl rfl rfl (Nat.le_of_ble_eq_true rfl) (JL.nil (JN.next (JC.seq (JC.seq (JC.region (JL.val rfl rfl (R.fa F25_0 rfl) (JL.val rfl rfl (R.ldo 1 S22 rfl rfl rfl) (JL.val rfl rfl (R.lenL U22 rfl (IsSlice.long ha_2)) (JL.val rfl rfl (R.move rfl) (JL.nil ?_)))))))))))
  refine JN.next ?_
  obtain ⟨t_19, ht_21, hx⟩ := bnd_some hx
  refine JC.cut (fun l o g => ∃ Kr_26 : Own, l = [(1, .pointer (some ⟨b_4, 0, none⟩)), (2, .pointer (some ⟨b_5, 0, none⟩))] ∧ o = [[(b_4, .cells #[.slice aoa_2 na_2 capa_2, .slice aoa_3 na_3 capa_3] 25 (0, 0))], [(b_5, .cells #[.slice aor_18 nr_18 capr_18, .slice none 0 0] 25 (0, 0))], Kr_26] ∧ H_14 = g ∧ Pcs w.heap.size 5 45 (.slice aor_18 nr_18 capr_18) t_19 Kr_26) ?_ ?_
  ·
   rintro _ _ _ ⟨Kr_26, rfl, rfl, rfl, hr_26⟩
   refine JN.next (JC.seq (JC.seq (JC.region (JL.val rfl rfl (R.fa F25_1 rfl) (JL.val rfl rfl (R.ldo 0 S23 rfl rfl rfl) (JL.val rfl rfl (R.lenL U23 rfl (IsSlice.long ha_3)) (JL.val rfl rfl (R.move rfl) (JL.nil (JN.next ?_)))))))))
   obtain ⟨t_27, ht_29, hx⟩ := bnd_some hx
   refine JC.cut (fun l o g => ∃ H_35 : Heaplet, ∃ aor_36 : Option Addr, ∃ nr_36 : Nat, ∃ capr_36 : Nat, ∃ Kr_36 : Own, l = [(2, .pointer (some ⟨b_5, 0, none⟩))] ∧ o = [[(b_5, .cells #[.slice aor_18 nr_18 capr_18, .slice aor_36 nr_36 capr_36] 25 (0, 0))], Kr_26, Kr_36] ∧ H_35 = g ∧ Hle H_14 H_35 ∧ RowOf (New H H_35) R_Write w.heap.size 47 2 (.slice aor_36 nr_36 capr_36) t_27 Kr_36) ?_ ?_
   ·
    rintro _ _ _ ⟨H_35, aor_36, nr_36, capr_36, Kr_36, rfl, rfl, rfl, hleH_35, hr_36⟩
    refine JN.next (JC.ret (JN.outP (vs := [.agg #[.slice aor_18 nr_18 capr_18, .slice aor_36 nr_36 capr_36]]) (K := [_, _]) (rst := [_]) (.inl rfl) rfl rfl (Res.cellN 0 rfl rfl S25 rfl) (picks 1 rfl (picks 1 rfl picks0)) ?_))
    obtain rfl := Option.some.inj hx
    exact ⟨aor_18, nr_18, capr_18, Kr_26, aor_36, nr_36, capr_36, Kr_36, rfl, rfl, (Pcs.weak (Nat.zero_le _) hr_26), (newP_ids hr_26 hlt), (RowOf.weak (Nat.zero_le _) hr_36), (new_ids hr_36 hlt), trivial⟩
   ·
    have hxo_28 := hx; clear hx; have hx := ht_29; clear ht_29
    refine JC.block (JC.seg0 (JC.forget 1 (JC.front 2 rfl (JC.front 2 rfl (JC.loopI (fun n l o g => ∃ s_30 : List Write × Nat, ∃ H_33 : Heaplet, ∃ aor_34 : Option Addr, ∃ nr_34 : Nat, ∃ capr_34 : Nat, ∃ Kr_34 : Own, l = [(2, .pointer (some ⟨b_5, 0, none⟩)), (43, .slice aoa_3 na_3 capa_3), (44, .int .i64 (p_1.Waits.length : Int)), (45, .int .i64 ((s_30.2 : Nat) : Int))] ∧ o = [[(b_5, .cells #[.slice aor_18 nr_18 capr_18, .slice aor_34 nr_34 capr_34] 25 (0, 0))], Kr_26, Kr_34] ∧ H_33 = g ∧ run (dev_Twin_l3 p_1) n s_30 = some t_27 ∧ Hle H_14 H_33 ∧ RowOf (New H H_33) R_Write w.heap.size 47 2 (.slice aor_34 nr_34 capr_34) s_30.1 Kr_34) FUEL ?_ ⟨(([] : List Write), 0), H_14, none, 0, 0, [], rfl, rfl, rfl, hx, (Hle.refl _), (RowOf.nil _ _ _ _ _)⟩ ⟨rfl, rfl, rfl, rfl, trivial⟩ ?_)))))
    ·
     rintro _ _ _ ⟨s_30, H_33, aor_34, nr_34, capr_34, Kr_34, rfl, rfl, rfl, hn_31, hleH_33, hr_34⟩
     exact run_zero hn_31
    ·
     rintro n_32 _ _ _ ⟨s_30, H_33, aor_34, nr_34, capr_34, Kr_34, rfl, rfl, rfl, hn_31, hleH_33, hr_34⟩
     clear hx; obtain ⟨oo_36, hx, hd_35⟩ := run_some hn_31
     unfold dev_Twin_l3 at hx
     refine JC.seq (JC.region (JL.val rfl rfl (R.lss_i rfl rfl) (JL.nil (JN.next (JC.seq (JC.condB rfl (fun c_35 => ?_) (fun c_35 => ?_)))))))
     ·
      replace hx := cond_t c_35 hx
      refine JC.skip (JN.next (JC.seq (JC.block (JC.seq (JC.region ?_)))))
      obtain ⟨y_36, hN_37, hx⟩ := idx_some hx
      obtain ⟨b_38, o_39, cs_40, hE_41, hR_42, hl_43, hc_44⟩ := IsSlice.elem (ha_3.mono R_Write.mono (hleH_14.trans hleH_33)) hN_37
      obtain ⟨v_45, rfl, hs_46⟩ := hR_42
      obtain ⟨aov_45, capv_45, rfl⟩ := IsSlice.val hs_46
      refine JL.val rfl rfl (R.ix U23 S47 rfl rfl hE_41) (JL.val rfl rfl (R.ldHE (cs := [.int .i64 y_36.At, .slice aov_45 y_36.Data.length capv_45]) (k := 0) (vs := [.int .i64 y_36.At, .slice aov_45 y_36.Data.length capv_45]) S47 rfl hc_44 rfl rfl) (JL.alloc Z47 rfl (fun b_47 hb_47 => JL.store 0 S47 rfl rfl rfl rfl rfl (Nat.le_of_ble_eq_true rfl) (JL.nil (JN.next (JC.draw (so := [_, _]) 12 rfl Mixed ⟨⟨0, rfl⟩, ⟨2, rfl⟩, trivial⟩ (JA.val ⟨by kernel_rfl, by kernel_rfl⟩ (calm_only _) (i := 0) rfl ⟨by kernel_rfl, by kernel_rfl, rfl⟩ trivial (stab_of (Hle.refl _) ⟨⟨0, rfl⟩, ⟨2, rfl⟩, trivial⟩) (R.fa F25_1 rfl) rfl (JA.val ⟨by kernel_rfl, by kernel_rfl⟩ (calm_only _) (i := 2) rfl ⟨by kernel_rfl, by kernel_rfl, rfl⟩ trivial (stab_of (Hle.refl _) ⟨⟨0, rfl⟩, ⟨2, rfl⟩, trivial⟩) (R.fa F47_0 rfl) rfl (JA.val ⟨by kernel_rfl, by kernel_rfl⟩ (calm_only _) (i := 3) rfl ⟨by kernel_rfl, by kernel_rfl, rfl⟩ trivial (stab_of (Hle.refl _) ⟨⟨0, rfl⟩, ⟨2, rfl⟩, trivial⟩) (R.ldo 0 S3 rfl rfl rfl) rfl (JA.val ⟨by kernel_rfl, by kernel_rfl⟩ (calm_only _) (i := 4) rfl ⟨by kernel_rfl, by kernel_rfl, rfl⟩ trivial (stab_of (Hle.refl _) ⟨⟨0, rfl⟩, ⟨2, rfl⟩, trivial⟩) (R.fa F47_1 rfl) rfl (JA.val ⟨by kernel_rfl, by kernel_rfl⟩ (calm_only _) (i := 5) rfl ⟨by kernel_rfl, by kernel_rfl, rfl⟩ trivial (stab_of (Hle.refl _) ⟨⟨0, rfl⟩, ⟨2, rfl⟩, trivial⟩) (R.ldo 0 S45 rfl rfl rfl) rfl ?_)))))))))))
      obtain ⟨x_48, hr_49, hx⟩ := bnd_some hx
      obtain ⟨q_54, hm_55, hl_56, hx⟩ := app_some hx
      refine JA.two (i := 1) (j := 6) (by kernel_rfl) ?_ ?_
      ·
       refine JO.step rfl trivial rfl (fun K hK => JL.val rfl rfl (R.ldo 1 S23 rfl rfl rfl) (JL.nil (hK _ _ _ (stab_of (Hle.refl _) ⟨⟨0, rfl⟩, ⟨2, rfl⟩, trivial⟩) (JA.one (i := 6) (by kernel_rfl) (JO.step rfl trivial rfl (fun K hK => JL.callC (vs := [_]) (args := [_]) (K := []) (rst := [_, _, _, _]) E105 rfl rfl rfl picks0 (bytes_Clone_ok y_36.Data _ hs_46 _ hr_49) rfl (fun u_50 Ku_50 Hu_50 hRu_50 hleu_50 hfu_50 => ?_)))))))
       obtain ⟨aor_51, nr_51, capr_51, Kr_51, rfl, rfl, rfl, hr_51, hnewr_51, -⟩ := hRu_50
       replace hr_51 := (RowOf.base (RowOf.const (H2 := New H H_33) RU8.const hr_51) (fun p hp => (hfu_50 p (mem_seg 0 rfl hp)).resolve_left (hnewr_51 p hp)))
       refine JL.nil (hK _ _ _ (stab_of (Hle.refl _) ⟨⟨1, rfl⟩, ⟨3, rfl⟩, trivial⟩) (JA.val ⟨by kernel_rfl, by kernel_rfl⟩ (calm_only _) (i := 7) rfl ⟨by kernel_rfl, by kernel_rfl, rfl⟩ trivial (stab_of (Hle.refl _) ⟨⟨1, rfl⟩, ⟨3, rfl⟩, trivial⟩) (R.bldP (vs := [(0, .int .i64 y_36.At), (1, .slice aor_51 nr_51 capr_51)]) (cs := [.int .i64 y_36.At, .slice aor_51 nr_51 capr_51]) Z47 B47 rfl rfl rfl) rfl (JA.one (i := 8) (by kernel_rfl) (JO.step rfl trivial rfl (fun K hK => JL.pubN 0 RU8.mono rfl hr_51 (Nat.le_refl _) (fun H_52 hleH_52 hsH_52 => JL.forget 0 (JL.bslF (HF := (New H H_52)) (R := R_Write) (ls := [Write.mk y_36.At x_48]) (vs := [.agg #[.int .i64 y_36.At, .slice aor_51 nr_51 capr_51]]) U23 I47 rfl rfl (⟨_, _, rfl, rfl, ⟨_, rfl, hsH_52⟩, rfl⟩) R_Write.one rfl rfl rfl (by simp [maxLen]) rfl (fun vr_53 Kr_53 hr_53 => ?_))))))))
       obtain ⟨aor_53, capr_53, rfl⟩ := RowOf.val hr_53
       refine JL.nil (hK _ _ _ (stab_of hleH_52 ⟨⟨1, rfl⟩, ⟨3, rfl⟩, trivial⟩) (JA.one (i := 9) (by kernel_rfl) (JO.step rfl trivial rfl (fun K hK => JL.appF (HF := (New H H_52)) 4 U23 I47 rfl rfl (hr_34.mono R_Write.mono (New.mono hleH_52)) rfl (SrcF.row 0 U23 rfl hr_53) hm_55 hl_56 rfl (Nat.le_refl _) rfl (fun vr_57 Kr_57 hr_57 => ?_)))))
       obtain ⟨aor_57, capr_57, rfl⟩ := RowOf.val hr_57
       refine JL.nil (hK _ _ _ (stab_of hleH_52 ⟨⟨1, rfl⟩, ⟨3, rfl⟩, trivial⟩) (JA.val ⟨by kernel_rfl, by kernel_rfl⟩ (calm_only _) (i := 10) rfl ⟨by kernel_rfl, by kernel_rfl, rfl⟩ trivial (stab_of hleH_52 ⟨⟨1, rfl⟩, ⟨3, rfl⟩, trivial⟩) (R.fa F25_1 rfl) rfl (JA.one (i := 11) (by kernel_rfl) (JO.step rfl trivial rfl (fun K hK => JL.store 2 S23 rfl rfl rfl rfl rfl (Nat.le_of_ble_eq_true rfl) (JL.nil (hK _ _ _ (stab_of hleH_52 ⟨⟨1, rfl⟩, ⟨3, rfl⟩, trivial⟩) (JA.doneN (by kernel_rfl) (JN.blkN (JN.next (JC.region ?_)))))))))))
       refine JL.val rfl rfl (R.inc rfl rfl (of_decide_eq_true c_35) (IsSlice.lenI ha_3)) (JL.val rfl rfl (R.move rfl) (JL.nil ?_))
       replace hx := run_next hd_35 hx
       refine JN.forget 1 (JN.forget 0 (JN.front 2 rfl (JN.front 2 rfl (JN.front 2 rfl ?_))))
       exact JN.cut ⟨(q_54, s_30.2 + 1), H_52, aor_57, q_54.length, capr_57, Kr_57, rfl, rfl, rfl, hx, ((hleH_33.trans hleH_52)), hr_57⟩ ⟨rfl, rfl, rfl, rfl, trivial⟩ rfl rfl
      ·
       refine JO.step rfl trivial rfl (fun K hK => JL.callC (vs := [_]) (args := [_]) (K := []) (rst := [_, _, _, _]) E105 rfl rfl rfl picks0 (bytes_Clone_ok y_36.Data _ hs_46 _ hr_49) rfl (fun u_50 Ku_50 Hu_50 hRu_50 hleu_50 hfu_50 => ?_))
       obtain ⟨aor_51, nr_51, capr_51, Kr_51, rfl, rfl, rfl, hr_51, hnewr_51, -⟩ := hRu_50
       replace hr_51 := (RowOf.base (RowOf.const (H2 := New H H_33) RU8.const hr_51) (fun p hp => (hfu_50 p (mem_seg 0 rfl hp)).resolve_left (hnewr_51 p hp)))
       refine JL.nil (hK _ _ _ (stab_of (Hle.refl _) ⟨⟨1, rfl⟩, ⟨3, rfl⟩, trivial⟩) (JA.val ⟨by kernel_rfl, by kernel_rfl⟩ (calm_only _) (i := 7) rfl ⟨by kernel_rfl, by kernel_rfl, rfl⟩ trivial (stab_of (Hle.refl _) ⟨⟨1, rfl⟩, ⟨3, rfl⟩, trivial⟩) (R.bldP (vs := [(0, .int .i64 y_36.At), (1, .slice aor_51 nr_51 capr_51)]) (cs := [.int .i64 y_36.At, .slice aor_51 nr_51 capr_51]) Z47 B47 rfl rfl rfl) rfl (JA.two (i := 1) (j := 8) (by kernel_rfl) ?_ ?_)))
       ·
        refine JO.step rfl trivial rfl (fun K hK => JL.val rfl rfl (R.ldo 2 S23 rfl rfl rfl) (JL.nil (hK _ _ _ (stab_of (Hle.refl _) ⟨⟨1, rfl⟩, ⟨3, rfl⟩, trivial⟩) (JA.one (i := 8) (by kernel_rfl) (JO.step rfl trivial rfl (fun K hK => JL.pubN 0 RU8.mono rfl hr_51 (Nat.le_refl _) (fun H_52 hleH_52 hsH_52 => JL.forget 0 (JL.bslF (HF := (New H H_52)) (R := R_Write) (ls := [Write.mk y_36.At x_48]) (vs := [.agg #[.int .i64 y_36.At, .slice aor_51 nr_51 capr_51]]) U23 I47 rfl rfl (⟨_, _, rfl, rfl, ⟨_, rfl, hsH_52⟩, rfl⟩) R_Write.one rfl rfl rfl (by simp [maxLen]) rfl (fun vr_53 Kr_53 hr_53 => ?_)))))))))
        obtain ⟨aor_53, capr_53, rfl⟩ := RowOf.val hr_53
        refine JL.nil (hK _ _ _ (stab_of hleH_52 ⟨⟨1, rfl⟩, ⟨3, rfl⟩, trivial⟩) (JA.one (i := 9) (by kernel_rfl) (JO.step rfl trivial rfl (fun K hK => JL.appF (HF := (New H H_52)) 4 U23 I47 rfl rfl (hr_34.mono R_Write.mono (New.mono hleH_52)) rfl (SrcF.row 0 U23 rfl hr_53) hm_55 hl_56 rfl (Nat.le_refl _) rfl (fun vr_57 Kr_57 hr_57 => ?_)))))
        obtain ⟨aor_57, capr_57, rfl⟩ := RowOf.val hr_57
        refine JL.nil (hK _ _ _ (stab_of hleH_52 ⟨⟨1, rfl⟩, ⟨3, rfl⟩, trivial⟩) (JA.val ⟨by kernel_rfl, by kernel_rfl⟩ (calm_only _) (i := 10) rfl ⟨by kernel_rfl, by kernel_rfl, rfl⟩ trivial (stab_of hleH_52 ⟨⟨1, rfl⟩, ⟨3, rfl⟩, trivial⟩) (R.fa F25_1 rfl) rfl (JA.one (i := 11) (by kernel_rfl) (JO.step rfl trivial rfl (fun K hK => JL.store 2 S23 rfl rfl rfl rfl rfl (Nat.le_of_ble_eq_true rfl) (JL.nil (hK _ _ _ (stab_of hleH_52 ⟨⟨1, rfl⟩, ⟨3, rfl⟩, trivial⟩) (JA.doneN (by kernel_rfl) (JN.blkN (JN.next (JC.region ?_)))))))))))
        refine JL.val rfl rfl (R.inc rfl rfl (of_decide_eq_true c_35) (IsSlice.lenI ha_3)) (JL.val rfl rfl (R.move rfl) (JL.nil ?_))
        replace hx := run_next hd_35 hx
        refine JN.forget 1 (JN.forget 0 (JN.front 2 rfl (JN.front 2 rfl (JN.front 2 rfl ?_))))
        exact JN.cut ⟨(q_54, s_30.2 + 1), H_52, aor_57, q_54.length, capr_57, Kr_57, rfl, rfl, rfl, hx, ((hleH_33.trans hleH_52)), hr_57⟩ ⟨rfl, rfl, rfl, rfl, trivial⟩ rfl rfl
       ·
        refine JO.step rfl trivial rfl (fun K hK => JL.pubN 0 RU8.mono rfl hr_51 (Nat.le_refl _) (fun H_52 hleH_52 hsH_52 => JL.forget 0 (JL.bslF (HF := (New H H_52)) (R := R_Write) (ls := [Write.mk y_36.At x_48]) (vs := [.agg #[.int .i64 y_36.At, .slice aor_51 nr_51 capr_51]]) U23 I47 rfl rfl (⟨_, _, rfl, rfl, ⟨_, rfl, hsH_52⟩, rfl⟩) R_Write.one rfl rfl rfl (by simp [maxLen]) rfl (fun vr_53 Kr_53 hr_53 => ?_))))
        obtain ⟨aor_53, capr_53, rfl⟩ := RowOf.val hr_53
        refine JL.nil (hK _ _ _ (stab_of hleH_52 ⟨⟨1, rfl⟩, ⟨3, rfl⟩, trivial⟩) (JA.one (i := 1) (by kernel_rfl) (JO.step rfl trivial rfl (fun K hK => JL.val rfl rfl (R.ldo 2 S23 rfl rfl rfl) (JL.nil (hK _ _ _ (stab_of hleH_52 ⟨⟨1, rfl⟩, ⟨3, rfl⟩, trivial⟩) (JA.one (i := 9) (by kernel_rfl) (JO.step rfl trivial rfl (fun K hK => JL.appF (HF := (New H H_52)) 4 U23 I47 rfl rfl (hr_34.mono R_Write.mono (New.mono hleH_52)) rfl (SrcF.row 0 U23 rfl hr_53) hm_55 hl_56 rfl (Nat.le_refl _) rfl (fun vr_57 Kr_57 hr_57 => ?_))))))))))
        obtain ⟨aor_57, capr_57, rfl⟩ := RowOf.val hr_57
        refine JL.nil (hK _ _ _ (stab_of hleH_52 ⟨⟨1, rfl⟩, ⟨3, rfl⟩, trivial⟩) (JA.val ⟨by kernel_rfl, by kernel_rfl⟩ (calm_only _) (i := 10) rfl ⟨by kernel_rfl, by kernel_rfl, rfl⟩ trivial (stab_of hleH_52 ⟨⟨1, rfl⟩, ⟨3, rfl⟩, trivial⟩) (R.fa F25_1 rfl) rfl (JA.one (i := 11) (by kernel_rfl) (JO.step rfl trivial rfl (fun K hK => JL.store 2 S23 rfl rfl rfl rfl rfl (Nat.le_of_ble_eq_true rfl) (JL.nil (hK _ _ _ (stab_of hleH_52 ⟨⟨1, rfl⟩, ⟨3, rfl⟩, trivial⟩) (JA.doneN (by kernel_rfl) (JN.blkN (JN.next (JC.region ?_)))))))))))
        refine JL.val rfl rfl (R.inc rfl rfl (of_decide_eq_true c_35) (IsSlice.lenI ha_3)) (JL.val rfl rfl (R.move rfl) (JL.nil ?_))
        replace hx := run_next hd_35 hx
        refine JN.forget 1 (JN.forget 0 (JN.front 2 rfl (JN.front 2 rfl (JN.front 2 rfl ?_))))
        exact JN.cut ⟨(q_54, s_30.2 + 1), H_52, aor_57, q_54.length, capr_57, Kr_57, rfl, rfl, rfl, hx, ((hleH_33.trans hleH_52)), hr_57⟩ ⟨rfl, rfl, rfl, rfl, trivial⟩ rfl rfl
     ·
      replace hx := cond_f c_35 hx
      refine JC.exit (JN.passX ?_)
      obtain rfl := run_done hd_35 hx
      refine JN.passX (JN.exitSame (JN.front 2 rfl (JN.front 2 rfl (JN.front 2 rfl ?_))))
      exact JN.cut ⟨H_33, aor_34, nr_34, capr_34, Kr_34, rfl, rfl, rfl, (hleH_33), hr_34⟩ ⟨rfl, trivial⟩ rfl rfl
  ·
   have hxo_20 := hx; clear hx; have hx := ht_21; clear ht_21
   refine JC.block (JC.front 2 rfl (JC.front 2 rfl (JC.loopI (fun n l o g => ∃ s_22 : List (List UInt8) × Nat, ∃ Kr_25 : Own, l = [(1, .pointer (some ⟨b_4, 0, none⟩)), (2, .pointer (some ⟨b_5, 0, none⟩)), (27, .slice aoa_2 na_2 capa_2), (28, .int .i64 (p_1.Blocks.length : Int)), (29, .int .i64 ((s_22.2 : Nat) : Int))] ∧ o = [[(b_4, .cells #[.slice aoa_2 na_2 capa_2, .slice aoa_3 na_3 capa_3] 25 (0, 0))], [(b_5, .cells #[.slice aor_18 nr_18 capr_18, .slice none 0 0] 25 (0, 0))], Kr_25] ∧ H_14 = g ∧ run (dev_Twin_l2 p_1) n s_22 = some t_19 ∧ Pcs w.heap.size 5 45 (.slice aor_18 nr_18 capr_18) s_22.1 Kr_25) FUEL ?_ ⟨(x_15, 0), Kr_18, rfl, rfl, rfl, hx, hr_18⟩ ⟨rfl, rfl, rfl, rfl, rfl, trivial⟩ ?_)))
   ·
    rintro _ _ _ ⟨s_22, Kr_25, rfl, rfl, rfl, hn_23, hr_25⟩
    exact run_zero hn_23
   ·
    rintro n_24 _ _ _ ⟨s_22, Kr_25, rfl, rfl, rfl, hn_23, hr_25⟩
    clear hx; obtain ⟨oo_27, hx, hd_26⟩ := run_some hn_23
    unfold dev_Twin_l2 at hx
    refine JC.seq (JC.region (JL.val rfl rfl (R.lss_i rfl rfl) (JL.nil (JN.next (JC.seq (JC.condB rfl (fun c_26 => ?_) (fun c_26 => ?_)))))))
    ·
     replace hx := cond_t c_26 hx
     refine JC.skip (JN.next (JC.seq (JC.block (JC.seq (JC.region (JL.val rfl rfl (R.move rfl) ?_))))))
     obtain ⟨y_27, hN_28, hx⟩ := idx_some hx
     obtain ⟨b_29, o_30, cs_31, hE_32, hR_33, hl_34, hc_35⟩ := IsSlice.elem (ha_2.mono (RSl.mono RU8.mono) hleH_14) hN_28
     obtain ⟨v_36, rfl, hs_37⟩ := hR_33
     obtain ⟨aov_36, capv_36, rfl⟩ := IsSlice.val hs_37
     refine JL.val rfl rfl (R.ix U22 S45 rfl rfl hE_32) (JL.val rfl rfl (R.ldH S45 rfl (hc_35 0 _ rfl)) (JL.val rfl rfl (R.assign rfl) (JL.val rfl rfl (R.assign rfl) (JL.nil (JN.next (JC.region (JL.val rfl rfl (R.fa F25_0 rfl) (JL.val rfl rfl (R.ldo 1 S22 rfl rfl rfl) (JL.val rfl rfl (R.move rfl) ?_)))))))))
     obtain ⟨y_38, hN_39, hx⟩ := idx_some hx
     obtain ⟨b_41, o_40, cur_42, pv_43, hE_44, hm_45, hc_46, hA_47⟩ := Pcs.at hr_25 hN_39
     refine JL.val rfl rfl (R.ix U22 S45 rfl rfl hE_44) (JL.val rfl rfl (R.ldM 2 S45 rfl rfl hm_45 hc_46) (JL.val rfl rfl (R.move rfl) ?_))
     obtain ⟨hl_48, hx⟩ := chk_some hx
     obtain ⟨m_51, hm_49, hi_50, hx⟩ := setI_some hx
     refine JL.copyP 2 U45 S5 rfl hr_25 hN_39 hA_47 rfl rfl (Hle.refl _) hs_37 hl_48 rfl (fun Kr_52 hr_52 => ?_)
     rw [← hm_49] at hr_52
     refine JL.nil (JN.blkN (JN.next (JC.region (JL.val rfl rfl (R.inc rfl rfl (of_decide_eq_true c_26) (IsSlice.lenI ha_2)) (JL.val rfl rfl (R.move rfl) (JL.nil ?_))))))
     replace hx := run_next hd_26 hx
     refine JN.front 2 rfl (JN.front 2 rfl (JN.front 2 rfl ?_))
     exact JN.cut ⟨(m_51, s_22.2 + 1), Kr_52, rfl, rfl, rfl, hx, hr_52⟩ ⟨rfl, rfl, rfl, rfl, rfl, trivial⟩ rfl rfl
    ·
     replace hx := cond_f c_26 hx
     refine JC.exit (JN.passX ?_)
     obtain rfl := run_done hd_26 hx
     refine JN.passX (JN.exitSame (JN.front 2 rfl (JN.front 2 rfl (JN.front 2 rfl ?_))))
     exact JN.cut ⟨Kr_25, rfl, rfl, rfl, hr_25⟩ ⟨rfl, rfl, trivial⟩ rfl rfl
 ·
  have hxo_7 := hx; clear hx; have hx := ht_8; clear ht_8
  refine JC.block (JC.seg0 (JC.front 1 rfl (JC.front 2 rfl (JC.loopI (fun n l o g => ∃ s_9 : List Int × Nat, ∃ aor_12 : Option Addr, ∃ nr_12 : Nat, ∃ capr_12 : Nat, ∃ Kr_12 : Own, l = [(1, .pointer (some ⟨b_4, 0, none⟩)), (2, .pointer (some ⟨b_5, 0, none⟩)), (3, .slice aor_12 nr_12 capr_12), (11, .slice aoa_2 na_2 capa_2), (12, .int .i64 (p_1.Blocks.length : Int)), (13, .int .i64 ((s_9.2 : Nat) : Int))] ∧ o = [[(b_4, .cells #[.slice aoa_2 na_2 capa_2, .slice aoa_3 na_3 capa_3] 25 (0, 0))], [(b_5, .cells #[.slice none 0 0, .slice none 0 0] 25 (0, 0))], Kr_12] ∧ H = g ∧ run (dev_Twin_l1 p_1) n s_9 = some t_6 ∧ RowOf (New H H) RInt w.heap.size 3 1 (.slice aor_12 nr_12 capr_12) s_9.1 Kr_12) FUEL ?_ ⟨(([] : List Int), 0), none, 0, 0, [], rfl, rfl, rfl, hx, (RowOf.nil _ _ _ _ _)⟩ ⟨rfl, rfl, rfl, rfl, rfl, rfl, trivial⟩ ?_))))
  ·
   rintro _ _ _ ⟨s_9, aor_12, nr_12, capr_12, Kr_12, rfl, rfl, rfl, hn_10, hr_12⟩
   exact run_zero hn_10
  ·
   rintro n_11 _ _ _ ⟨s_9, aor_12, nr_12, capr_12, Kr_12, rfl, rfl, rfl, hn_10, hr_12⟩
   clear hx; obtain ⟨oo_14, hx, hd_13⟩ := run_some hn_10
   unfold dev_Twin_l1 at hx
   refine JC.seq (JC.region (JL.val rfl rfl (R.lss_i rfl rfl) (JL.nil (JN.next (JC.seq (JC.condB rfl (fun c_13 => ?_) (fun c_13 => ?_)))))))
   ·
    replace hx := cond_t c_13 hx
    refine JC.skip (JN.next (JC.seq (JC.block (JC.seq (JC.region ?_)))))
    obtain ⟨y_14, hN_15, hx⟩ := idx_some hx
    obtain ⟨b_16, o_17, cs_18, hE_19, hR_20, hl_21, hc_22⟩ := IsSlice.elem ha_2 hN_15
    obtain ⟨v_23, rfl, hs_24⟩ := hR_20
    obtain ⟨aov_23, capv_23, rfl⟩ := IsSlice.val hs_24
    refine JL.val rfl rfl (R.ix U22 S45 rfl rfl hE_19) (JL.val rfl rfl (R.ldH S45 rfl (hc_22 0 _ rfl)) (JL.val rfl rfl (R.assign rfl) (JL.nil (JN.next (JC.region (JL.val rfl rfl (R.move rfl) (JL.val rfl rfl (R.move rfl) (JL.val rfl rfl (R.lenL U45 rfl (IsSlice.long hs_24)) (JL.bslF (HF := (New H H)) (R := RInt) (ls := [(y_14.length : Int)]) (vs := [.int .i64 (y_14.length : Int)]) U75 I3 rfl rfl (⟨_, _, rfl, rfl, rfl, rfl⟩) RInt.one rfl rfl rfl (by simp [maxLen]) rfl (fun vr_25 Kr_25 hr_25 => ?_))))))))))
    obtain ⟨aor_25, capr_25, rfl⟩ := RowOf.val hr_25
    obtain ⟨q_26, hm_27, hl_28, hx⟩ := app_some hx
    refine JL.appF (HF := (New H H)) 3 U75 I3 rfl rfl hr_12 rfl (SrcF.row 0 U75 rfl hr_25) hm_27 hl_28 rfl (Nat.le_refl _) rfl (fun vr_29 Kr_29 hr_29 => ?_)
    obtain ⟨aor_29, capr_29, rfl⟩ := RowOf.val hr_29
    refine JL.val rfl rfl (R.assign rfl) (JL.nil (JN.blkN (JN.next (JC.region (JL.val rfl rfl (R.inc rfl rfl (of_decide_eq_true c_13) (IsSlice.lenI ha_2)) (JL.val rfl rfl (R.move rfl) (JL.nil ?_)))))))
    replace hx := run_next hd_13 hx
    refine JN.forget 0 (JN.front 2 rfl (JN.front 2 rfl (JN.front 2 rfl ?_)))
    exact JN.cut ⟨(q_26, s_9.2 + 1), aor_29, q_26.length, capr_29, Kr_29, rfl, rfl, rfl, hx, hr_29⟩ ⟨rfl, rfl, rfl, rfl, rfl, rfl, trivial⟩ rfl rfl
   ·
    replace hx := cond_f c_13 hx
    refine JC.exit (JN.passX ?_)
    obtain rfl := run_done hd_13 hx
    refine JN.passX (JN.exitSame (JN.front 2 rfl (JN.front 2 rfl (JN.front 2 rfl ?_))))
    exact JN.cut ⟨aor_12, nr_12, capr_12, Kr_12, rfl, rfl, rfl, hr_12⟩ ⟨rfl, rfl, rfl, trivial⟩ rfl rfl

set_option maxHeartbeats 8000000 in
theorem dev_Write_ok (p_1 : Disk) (p_4 : Int) (p_5 : List UInt8) (H : Heaplet) {aoa_2 : Option Addr} {na_2 : Nat} {capa_2 : Nat} {aoa_3 : Option Addr} {na_3 : Nat} {capa_3 : Nat} {aoa_6 : Option Addr} {na_6 : Nat} {capa_6 : Nat} (ha_2 : IsSlice H (RSl RU8 1) 1 (.slice aoa_2 na_2 capa_2) p_1.Blocks) (ha_3 : IsSlice H R_Write 2 (.slice aoa_3 na_3 capa_3) p_1.Waits) (ha_6 : IsSlice H RU8 1 (.slice aoa_6 na_6 capa_6) p_5) (r : Disk × Int) (hx : dev_Write p_1 p_4 p_5 = some r) :
  Does Try.prog 38 #[.agg #[.slice aoa_2 na_2 capa_2, .slice aoa_3 na_3 capa_3], .int .i64 p_4, .slice aoa_6 na_6 capa_6] [] H (fun u K' H' => ∃ ao0 : Option Addr, ∃ n0 : Nat, ∃ cap0 : Nat, ∃ ao1 : Option Addr, ∃ n1 : Nat, ∃ cap1 : Nat, ∃ K1 : Own, u = .tuple #[.agg #[.slice ao0 n0 cap0, .slice ao1 n1 cap1], .int .i64 r.2] ∧ K' = [K1] ∧ IsSlice (New H H') (RSl RU8 1) 1 (.slice ao0 n0 cap0) r.1.Blocks ∧ RowOf (New H H') R_Write 0 47 2 (.slice ao1 n1 cap1) r.1.Waits K1 ∧ (∀ p ∈ K1, p.1 ∉ ids (List.flatten [])) ∧ True) := by
 refine Does.enterL (vs := [.agg #[.slice aoa_2 na_2 capa_2, .slice aoa_3 na_3 capa_3], .int .i64 p_4, .slice aoa_6 na_6 capa_6]) (l := [(0, .agg #[.slice aoa_2 na_2 capa_2, .slice aoa_3 na_3 capa_3]), (1, .int .i64 p_4), (2, .slice aoa_6 na_6 capa_6)]) Try.func38 rfl rfl ⟨rfl, rfl, rfl, trivial⟩ (fun w hlt => ?_)
 unfold dev_Write at hx
 refine JC.seq (JC.region (JL.box rfl rfl (fun b_7 hb_7 => JL.alloc Z25 rfl (fun b_8 hb_8 => JL.val rfl rfl (R.assign rfl) (JL.nil (JN.next (JC.seq (JC.seq ?_))))))))
 obtain ⟨t_9, ht_11, hx⟩ := bnd_some hx
 refine JC.cut (fun l o g => ∃ aoz_37 : Option Addr, ∃ nz_37 : Nat, ∃ capz_37 : Nat, ∃ aoz_38 : Option Addr, ∃ nz_38 : Nat, ∃ capz_38 : Nat, l = [(1, .int .i64 p_4), (2, .slice aoa_6 na_6 capa_6), (3, .pointer (some ⟨b_7, 0, none⟩)), (6, .pointer (some ⟨b_8, 0, none⟩)), (9, .int .i64 t_9.2.2)] ∧ o = [[(b_7, .cells #[.slice aoz_37 nz_37 capz_37, .slice aoz_38 nz_38 capz_38] 25 (0, 0))], [(b_8, .cells #[.slice none 0 0, .slice none 0 0] 25 (0, 0))]] ∧ H = g ∧ IsSlice H (RSl RU8 1) 1 (.slice aoz_37 nz_37 capz_37) t_9.1 ∧ IsSlice H R_Write 2 (.slice aoz_38 nz_38 capz_38) t_9.2.1) ?_ ?_
 ·
  rintro _ _ _ ⟨aoz_37, nz_37, capz_37, aoz_38, nz_38, capz_38, rfl, rfl, rfl, hz_37, hz_38⟩
  refine JN.next (JC.seq (JC.region (JL.val rfl rfl (R.move rfl) (JL.val rfl rfl (R.neq_i rfl rfl) (JL.nil (JN.next (JC.condB rfl (fun c_39 => ?_) (fun c_39 => ?_))))))))
  ·
   replace hx := cond_t c_39 hx
   refine JC.seq (JC.region (JL.val rfl rfl (R.bldP (vs := []) (cs := [.slice none 0 0, .slice none 0 0]) Z25 B25 rfl rfl rfl) (JL.val rfl rfl (R.move rfl) (JL.store 1 S25 rfl rfl rfl rfl rfl (Nat.le_of_ble_eq_true rfl) (JL.val rfl rfl (R.assign rfl) (JL.nil (JN.next (JC.ret (JN.passR (JN.seg0 (JN.outP (vs := [.agg #[.slice none 0 0, .slice none 0 0], .int .i64 t_9.2.2]) (K := [_]) (rst := [_, _]) (.inl rfl) rfl rfl (Res.cellN 2 rfl rfl S25 (Res.tmp rfl rfl)) (picks 0 rfl picks0) ?_)))))))))))
   obtain rfl := Option.some.inj hx
   exact ⟨none, 0, 0, none, 0, 0, [], rfl, rfl, (IsSlice.nil _ _ _), (RowOf.nil _ _ _ _ _), (fun p hp => by cases hp), trivial⟩
  ·
   replace hx := cond_f c_39 hx
   refine JC.skip (JN.next (JC.seq (JC.block (JC.seq (JC.region (JL.val rfl rfl (R.move rfl) (JL.val rfl rfl (R.lenL U45 rfl (IsSlice.long ha_6)) (JL.val rfl rfl (R.neq_i rfl rfl) (JL.val rfl rfl (R.assign rfl) (JL.nil (JN.next ?_)))))))))))
   refine JC.condB rfl (fun c_40 => ?_) (fun c_40 => ?_)
   ·
    replace hx := cond_t c_40 hx
    refine JC.seq (JC.region (JL.val rfl rfl (R.bldP (vs := []) (cs := [.slice none 0 0, .slice none 0 0]) Z25 B25 rfl rfl rfl) (JL.store 1 S25 rfl rfl rfl rfl rfl (Nat.le_of_ble_eq_true rfl) (JL.val rfl rfl (R.assign rfl) (JL.nil (JN.next (JC.ret (JN.blkR (JN.passR (JN.seg0 (JN.outP (vs := [.agg #[.slice none 0 0, .slice none 0 0], .int .i64 3]) (K := [_]) (rst := [_, _]) (.inl rfl) rfl rfl (Res.cellN 2 rfl rfl S25 (Res.tmp rfl rfl)) (picks 0 rfl picks0) ?_)))))))))))
    obtain rfl := Option.some.inj hx
    exact ⟨none, 0, 0, none, 0, 0, [], rfl, rfl, (IsSlice.nil _ _ _), (RowOf.nil _ _ _ _ _), (fun p hp => by cases hp), trivial⟩
   ·
    replace hx := cond_f c_40 hx
    refine JC.seq (JC.region (JL.val rfl rfl (R.fa F25_1 rfl) (JL.val rfl rfl (R.ldo 0 S23 rfl rfl rfl) (JL.val rfl rfl (R.lenL U23 rfl (IsSlice.long hz_38)) (JL.val rfl rfl (R.eql_i rfl rfl) (JL.val rfl rfl (R.assign rfl) (JL.nil (JN.next (JC.condB rfl (fun c_41 => ?_) (fun c_41 => ?_))))))))))
    ·
     replace hx := cond_t c_41 hx
     refine JC.seq (JC.region (JL.val rfl rfl (R.bldP (vs := []) (cs := [.slice none 0 0, .slice none 0 0]) Z25 B25 rfl rfl rfl) (JL.store 1 S25 rfl rfl rfl rfl rfl (Nat.le_of_ble_eq_true rfl) (JL.val rfl rfl (R.assign rfl) (JL.nil (JN.next (JC.ret (JN.blkR (JN.passR (JN.seg0 (JN.outP (vs := [.agg #[.slice none 0 0, .slice none 0 0], .int .i64 9]) (K := [_]) (rst := [_, _]) (.inl rfl) rfl rfl (Res.cellN 2 rfl rfl S25 (Res.tmp rfl rfl)) (picks 0 rfl picks0) ?_)))))))))))
     obtain rfl := Option.some.inj hx
     exact ⟨none, 0, 0, none, 0, 0, [], rfl, rfl, (IsSlice.nil _ _ _), (RowOf.nil _ _ _ _ _), (fun p hp => by cases hp), trivial⟩
    ·
     replace hx := cond_f c_41 hx
     refine JC.skip (JN.blkN (JN.next (JC.seq ?_)))
     obtain ⟨t_42, ht_44, hx⟩ := bnd_some hx
     refine JC.cut (fun l o g => ∃ H_60 : Heaplet, ∃ aor_61 : Option Addr, ∃ nr_61 : Nat, ∃ capr_61 : Nat, ∃ Kr_61 : Own, ∃ aor_62 : Option Addr, ∃ nr_62 : Nat, ∃ capr_62 : Nat, ∃ Kr_62 : Own, l = [(6, .pointer (some ⟨b_8, 0, none⟩)), (7, .int .i64 0)] ∧ o = [[(b_8, .cells #[.slice aor_61 nr_61 capr_61, .slice aor_62 nr_62 capr_62] 25 (0, 0))], Kr_61, Kr_62] ∧ H_60 = g ∧ Hle H H_60 ∧ Pcs w.heap.size 5 45 (.slice aor_61 nr_61 capr_61) t_42.1 Kr_61 ∧ RowOf (New H H_60) R_Write w.heap.size 47 2 (.slice aor_62 nr_62 capr_62) t_42.2 Kr_62) ?_ ?_
     ·
      rintro _ _ _ ⟨H_60, aor_61, nr_61, capr_61, Kr_61, aor_62, nr_62, capr_62, Kr_62, rfl, rfl, rfl, hleH_60, hr_61, hr_62⟩
      refine JN.next (JC.ret (JN.pubPcs 1  rfl hr_61 (Nat.le_refl _) (fun H_63 hleH_63 hsH_63 => JN.forget 1 (JN.outP (vs := [.agg #[.slice aor_61 nr_61 capr_61, .slice aor_62 nr_62 capr_62], .int .i64 0]) (K := [_]) (rst := [_]) (.inl rfl) rfl rfl (Res.cellN 0 rfl rfl S25 (Res.tmp rfl rfl)) (picks 1 rfl picks0) ?_))))
      obtain rfl := Option.some.inj hx
      exact ⟨aor_61, nr_61, capr_61, aor_62, nr_62, capr_62, Kr_62, rfl, rfl, hsH_63, (RowOf.weak (Nat.zero_le _) (hr_62.mono R_Write.mono (New.mono hleH_63))), (new_ids (hr_62.mono R_Write.mono (New.mono hleH_63)) hlt), trivial⟩
     ·
      have hxo_43 := hx; clear hx; have hx := ht_44; clear ht_44
      refine JC.draw (so := [_]) 14 rfl Mixed ⟨⟨0, rfl⟩, trivial⟩ (JA.val ⟨by kernel_rfl, by kernel_rfl⟩ (calm_only _) (i := 0) rfl ⟨by kernel_rfl, by kernel_rfl, rfl⟩ trivial (stab_of (Hle.refl _) ⟨⟨0, rfl⟩, trivial⟩) (R.fa F25_0 rfl) rfl (JA.val ⟨by kernel_rfl, by kernel_rfl⟩ (calm_only _) (i := 1) rfl ⟨by kernel_rfl, by kernel_rfl, rfl⟩ trivial (stab_of (Hle.refl _) ⟨⟨0, rfl⟩, trivial⟩) (R.ldo 0 S22 rfl rfl rfl) rfl (JA.val ⟨by kernel_rfl, by kernel_rfl⟩ (calm_only _) (i := 2) rfl ⟨by kernel_rfl, by kernel_rfl, rfl⟩ trivial (stab_of (Hle.refl _) ⟨⟨0, rfl⟩, trivial⟩) (R.fa F25_1 rfl) rfl (JA.val ⟨by kernel_rfl, by kernel_rfl⟩ (calm_only _) (i := 3) rfl ⟨by kernel_rfl, by kernel_rfl, rfl⟩ trivial (stab_of (Hle.refl _) ⟨⟨0, rfl⟩, trivial⟩) (R.ldo 0 S23 rfl rfl rfl) rfl (JA.val ⟨by kernel_rfl, by kernel_rfl⟩ (calm_only _) (i := 5) rfl ⟨by kernel_rfl, by kernel_rfl, rfl⟩ trivial (stab_of (Hle.refl _) ⟨⟨0, rfl⟩, trivial⟩) (R.move rfl) rfl (JA.val ⟨by kernel_rfl, by kernel_rfl⟩ (calm_only _) (i := 6) rfl ⟨by kernel_rfl, by kernel_rfl, rfl⟩ trivial (stab_of (Hle.refl _) ⟨⟨0, rfl⟩, trivial⟩) (R.move rfl) rfl (JA.val ⟨by kernel_rfl, by kernel_rfl⟩ (calm_only _) (i := 7) rfl ⟨by kernel_rfl, by kernel_rfl, rfl⟩ trivial (stab_of (Hle.refl _) ⟨⟨0, rfl⟩, trivial⟩) (R.bldP (vs := [(0, .int .i64 p_4), (1, .slice aoa_6 na_6 capa_6)]) (cs := [.int .i64 p_4, .slice aoa_6 na_6 capa_6]) Z47 B47 rfl rfl rfl) rfl ?_)))))))
      obtain ⟨x_45, hr_46, hx⟩ := bnd_some hx
      obtain ⟨q_50, hm_51, hl_52, hx⟩ := app_some hx
      obtain ⟨x_55, hr_56, hx⟩ := bnd_some hx
      refine JA.two (i := 4) (j := 8) (by kernel_rfl) ?_ ?_
      ·
       refine JO.step rfl trivial rfl (fun K hK => JL.callC (vs := [_]) (args := [_]) (K := []) (rst := [_, _]) E71 rfl rfl rfl picks0 (slices_Clip_Write_ok t_9.2.1 _ hz_38 _ hr_46) rfl (fun u_47 Ku_47 Hu_47 hRu_47 hleu_47 hfu_47 => ?_))
       obtain ⟨aoz_48, nz_48, rfl, rfl, rfl, hz_48, -⟩ := hRu_47
       refine JL.nil (hK _ _ _ (stab_of (Hle.refl _) ⟨⟨0, rfl⟩, trivial⟩) (JA.one (i := 8) (by kernel_rfl) (JO.step rfl trivial rfl (fun K hK => JL.bslF (HF := H) (R := R_Write) (ls := [Write.mk p_4 p_5]) (vs := [.agg #[.int .i64 p_4, .slice aoa_6 na_6 capa_6]]) U23 I47 rfl rfl (⟨_, _, rfl, rfl, ⟨_, rfl, ha_6⟩, rfl⟩) R_Write.one rfl rfl rfl (by simp [maxLen]) rfl (fun vr_49 Kr_49 hr_49 => ?_)))))
       obtain ⟨aor_49, capr_49, rfl⟩ := RowOf.val hr_49
       refine JL.nil (hK _ _ _ (stab_of (Hle.refl _) ⟨⟨1, rfl⟩, trivial⟩) (JA.one (i := 9) (by kernel_rfl) (JO.step rfl trivial rfl (fun K hK => JL.appC (HF := H) U23 I47 rfl R_Write.one (Hle.refl _) hz_48 (fun _ _ h => h) rfl (SrcF.row 0 U23 rfl hr_49) (List.cons_ne_nil _ _) hm_51 hl_52 rfl rfl (fun vr_53 Kr_53 hr_53 => ?_)))))
       obtain ⟨aor_53, capr_53, rfl⟩ := RowOf.val hr_53
       refine JL.nil (hK _ _ _ (stab_of (Hle.refl _) ⟨⟨2, rfl⟩, trivial⟩) (JA.val ⟨by kernel_rfl, by kernel_rfl⟩ (calm_only _) (i := 10) rfl ⟨by kernel_rfl, by kernel_rfl, rfl⟩ trivial (stab_of (Hle.refl _) ⟨⟨2, rfl⟩, trivial⟩) (R.bldP (vs := [(0, .slice aoz_37 nz_37 capz_37), (1, .slice aor_53 q_50.length capr_53)]) (cs := [.slice aoz_37 nz_37 capz_37, .slice aor_53 q_50.length capr_53]) Z25 B25 rfl rfl rfl) rfl (JA.one (i := 11) (by kernel_rfl) (JO.step rfl trivial rfl (fun K hK => JL.pub 0 R_Write.mono rfl hr_53 (Nat.le_refl _) (fun H_54 hleH_54 hsH_54 => JL.forget 0 (JL.callC (vs := [_]) (args := [_]) (K := []) (rst := [_, _, _]) E70 rfl rfl rfl picks0 (dev_Twin_ok (Disk.mk t_9.1 q_50) _ (hz_37.mono (RSl.mono RU8.mono) hleH_54) hsH_54 _ hr_56) rfl (fun u_57 Ku_57 Hu_57 hRu_57 hleu_57 hfu_57 => ?_))))))))
       obtain ⟨aor_58, nr_58, capr_58, Kr_58, aor_59, nr_59, capr_59, Kr_59, rfl, rfl, hr_58, hnewr_58, hr_59, hnewr_59, -⟩ := hRu_57
       replace hr_58 := (Pcs.base hr_58 (fun p hp => (hfu_57 p (mem_seg 0 rfl hp)).resolve_left (hnewr_58 p hp)))
       replace hr_59 := (RowOf.base (RowOf.mono R_Write.mono (New.call hleH_54) hr_59) (fun p hp => (hfu_57 p (mem_seg 1 rfl hp)).resolve_left (hnewr_59 p hp)))
       refine JL.nil (hK _ _ _ (stab_of (hleH_54.trans hleu_57) ⟨⟨3, rfl⟩, trivial⟩) (JA.one (i := 12) (by kernel_rfl) (JO.step rfl trivial rfl (fun K hK => JL.store 4 S25 rfl rfl rfl rfl rfl (Nat.le_of_ble_eq_true rfl) (JL.nil (hK _ _ _ (stab_of (hleH_54.trans hleu_57) ⟨⟨3, rfl⟩, trivial⟩) (JA.val ⟨by kernel_rfl, by kernel_rfl⟩ (calm_only _) (i := 13) rfl ⟨by kernel_rfl, by kernel_rfl, rfl⟩ trivial (stab_of (hleH_54.trans hleu_57) ⟨⟨3, rfl⟩, trivial⟩) (R.assign rfl) rfl (JA.doneN (by kernel_rfl) ?_))))))))
       obtain rfl := Option.some.inj hx
       refine JN.forget 3 (JN.forget 2 (JN.front 1 rfl (JN.front 1 rfl (JN.front 2 rfl ?_))))
       exact JN.cut ⟨Hu_57, aor_58, nr_58, capr_58, Kr_58, aor_59, nr_59, capr_59, Kr_59, rfl, rfl, rfl, ((hleH_54.trans hleu_57)), hr_58, hr_59⟩ ⟨rfl, rfl, trivial⟩ rfl rfl
      ·
       refine JO.step rfl trivial rfl (fun K hK => JL.bslF (HF := H) (R := R_Write) (ls := [Write.mk p_4 p_5]) (vs := [.agg #[.int .i64 p_4, .slice aoa_6 na_6 capa_6]]) U23 I47 rfl rfl (⟨_, _, rfl, rfl, ⟨_, rfl, ha_6⟩, rfl⟩) R_Write.one rfl rfl rfl (by simp [maxLen]) rfl (fun vr_49 Kr_49 hr_49 => ?_))
       obtain ⟨aor_49, capr_49, rfl⟩ := RowOf.val hr_49
       refine JL.nil (hK _ _ _ (stab_of (Hle.refl _) ⟨⟨1, rfl⟩, trivial⟩) (JA.one (i := 4) (by kernel_rfl) (JO.step rfl trivial rfl (fun K hK => JL.callC (vs := [_]) (args := [_]) (K := []) (rst := [_, _, _]) E71 rfl rfl rfl picks0 (slices_Clip_Write_ok t_9.2.1 _ hz_38 _ hr_46) rfl (fun u_47 Ku_47 Hu_47 hRu_47 hleu_47 hfu_47 => ?_)))))
       obtain ⟨aoz_48, nz_48, rfl, rfl, rfl, hz_48, -⟩ := hRu_47
       refine JL.nil (hK _ _ _ (stab_of (Hle.refl _) ⟨⟨1, rfl⟩, trivial⟩) (JA.one (i := 9) (by kernel_rfl) (JO.step rfl trivial rfl (fun K hK => JL.appC (HF := H) U23 I47 rfl R_Write.one (Hle.refl _) hz_48 (fun _ _ h => h) rfl (SrcF.row 0 U23 rfl hr_49) (List.cons_ne_nil _ _) hm_51 hl_52 rfl rfl (fun vr_53 Kr_53 hr_53 => ?_)))))
       obtain ⟨aor_53, capr_53, rfl⟩ := RowOf.val hr_53
       refine JL.nil (hK _ _ _ (stab_of (Hle.refl _) ⟨⟨2, rfl⟩, trivial⟩) (JA.val ⟨by kernel_rfl, by kernel_rfl⟩ (calm_only _) (i := 10) rfl ⟨by kernel_rfl, by kernel_rfl, rfl⟩ trivial (stab_of (Hle.refl _) ⟨⟨2, rfl⟩, trivial⟩) (R.bldP (vs := [(0, .slice aoz_37 nz_37 capz_37), (1, .slice aor_53 q_50.length capr_53)]) (cs := [.slice aoz_37 nz_37 capz_37, .slice aor_53 q_50.length capr_53]) Z25 B25 rfl rfl rfl) rfl (JA.one (i := 11) (by kernel_rfl) (JO.step rfl trivial rfl (fun K hK => JL.pub 0 R_Write.mono rfl hr_53 (Nat.le_refl _) (fun H_54 hleH_54 hsH_54 => JL.forget 0 (JL.callC (vs := [_]) (args := [_]) (K := []) (rst := [_, _, _]) E70 rfl rfl rfl picks0 (dev_Twin_ok (Disk.mk t_9.1 q_50) _ (hz_37.mono (RSl.mono RU8.mono) hleH_54) hsH_54 _ hr_56) rfl (fun u_57 Ku_57 Hu_57 hRu_57 hleu_57 hfu_57 => ?_))))))))
       obtain ⟨aor_58, nr_58, capr_58, Kr_58, aor_59, nr_59, capr_59, Kr_59, rfl, rfl, hr_58, hnewr_58, hr_59, hnewr_59, -⟩ := hRu_57
       replace hr_58 := (Pcs.base hr_58 (fun p hp => (hfu_57 p (mem_seg 0 rfl hp)).resolve_left (hnewr_58 p hp)))
       replace hr_59 := (RowOf.base (RowOf.mono R_Write.mono (New.call hleH_54) hr_59) (fun p hp => (hfu_57 p (mem_seg 1 rfl hp)).resolve_left (hnewr_59 p hp)))
       refine JL.nil (hK _ _ _ (stab_of (hleH_54.trans hleu_57) ⟨⟨3, rfl⟩, trivial⟩) (JA.one (i := 12) (by kernel_rfl) (JO.step rfl trivial rfl (fun K hK => JL.store 4 S25 rfl rfl rfl rfl rfl (Nat.le_of_ble_eq_true rfl) (JL.nil (hK _ _ _ (stab_of (hleH_54.trans hleu_57) ⟨⟨3, rfl⟩, trivial⟩) (JA.val ⟨by kernel_rfl, by kernel_rfl⟩ (calm_only _) (i := 13) rfl ⟨by kernel_rfl, by kernel_rfl, rfl⟩ trivial (stab_of (hleH_54.trans hleu_57) ⟨⟨3, rfl⟩, trivial⟩) (R.assign rfl) rfl (JA.doneN (by kernel_rfl) ?_))))))))
       obtain rfl := Option.some.inj hx
       refine JN.forget 3 (JN.forget 2 (JN.front 1 rfl (JN.front 1 rfl (JN.front 2 rfl ?_))))
       exact JN.cut ⟨Hu_57, aor_58, nr_58, capr_58, Kr_58, aor_59, nr_59, capr_59, Kr_59, rfl, rfl, rfl, ((hleH_54.trans hleu_57)), hr_58, hr_59⟩ ⟨rfl, rfl, trivial⟩ rfl rfl
 ·
  have hxo_10 := hx; clear hx; have hx := ht_11; clear ht_11
  refine JC.draw (so := [_]) 11 rfl Mixed ⟨⟨0, rfl⟩, trivial⟩ (JA.val ⟨by kernel_rfl, by kernel_rfl⟩ (calm_only _) (i := 1) rfl ⟨by kernel_rfl, by kernel_rfl, rfl⟩ trivial (stab_of (Hle.refl _) ⟨⟨0, rfl⟩, trivial⟩) (R.move rfl) rfl (JA.val ⟨by kernel_rfl, by kernel_rfl⟩ (calm_only _) (i := 3) rfl ⟨by kernel_rfl, by kernel_rfl, rfl⟩ trivial (stab_of (Hle.refl _) ⟨⟨0, rfl⟩, trivial⟩) (R.func (vf := []) (vc := [_]) rfl rfl) rfl (JAA.start [⟨8, 8, 25, .agg #[.slice none 0 0, .slice none 0 0]⟩] rfl ?_)))
  obtain ⟨x_12, hr_13, hx⟩ := bnd_some hx
  obtain ⟨x_15, hr_16, hx⟩ := bnd_some hx
  refine JAA.two (i := 0) (j := 2) ⟨⟨_, _, _, rfl, Z25, rfl⟩, trivial⟩ (Hle.refl _) ⟨⟨0, rfl⟩, trivial⟩ rfl (by kernel_rfl) ?_ ?_
  ·
   refine JOA.step rfl trivial rfl (fun tl_23 to_24 K hK => JL.val rfl rfl (R.ldoN 1 (vs := [.slice aoa_2 na_2 capa_2, .slice aoa_3 na_3 capa_3]) S25 rfl rfl rfl rfl) (JL.nil (hK (by repeat constructor) (by repeat constructor) (stab_of (Hle.refl _) ⟨⟨0, rfl⟩, trivial⟩) (JAA.one (i := 2) ⟨⟨_, _, _, rfl, Z25, rfl⟩, trivial⟩ (Hle.refl _) ⟨⟨0, rfl⟩, trivial⟩ rfl (by kernel_rfl) (JOA.step rfl trivial rfl (fun tl_25 to_26 K hK => JL.callC (vs := [_]) (args := [_]) (K := []) (rst := _ :: _ :: to_26) E67 rfl rfl rfl picks0 (dev_place_ok p_4 _ _ hr_13) rfl (fun u_14 Ku_14 Hu_14 hRu_14 hleu_14 hfu_14 => ?_)))))))
   obtain ⟨rfl, rfl, rfl, -⟩ := hRu_14
   refine JL.nil (hK (by repeat constructor) (by repeat constructor) (stab_of (Hle.refl _) ⟨⟨0, rfl⟩, trivial⟩) (JAA.one (i := 4) ⟨⟨_, _, _, rfl, Z25, rfl⟩, trivial⟩ (Hle.refl _) ⟨⟨0, rfl⟩, trivial⟩ rfl (by kernel_rfl) (JOA.step rfl trivial rfl (fun tl_27 to_28 K hK => JL.callC (vs := [_, _, _]) (args := [_, _, _]) (K := [_]) (rst := _ :: to_28) E68 rfl rfl rfl (picks 1 rfl picks0) (dev_guarded_ok p_1 x_12 p_1 _ ha_2 ha_3 ha_2 ha_3 _ hr_16) rfl (fun u_17 Ku_17 Hu_17 hRu_17 hleu_17 hfu_17 => ?_)))))
   obtain ⟨aoz_18, nz_18, capz_18, aoz_19, nz_19, capz_19, aoz_20, nz_20, capz_20, aoz_21, nz_21, capz_21, rfl, rfl, rfl, hz_18, hz_19, hz_20, hz_21, -⟩ := hRu_17
   refine JL.nil (hK (by repeat constructor) (by repeat constructor) (stab_of (Hle.refl _) ⟨⟨1, rfl⟩, trivial⟩) (JAA.val ⟨by kernel_rfl, by kernel_rfl⟩ (calm_only _) (i := 5) rfl (by kernel_rfl) rfl trivial (Hle.refl _) ⟨⟨1, rfl⟩, trivial⟩ (R.move rfl) rfl (JAA.val ⟨by kernel_rfl, by kernel_rfl⟩ (calm_only _) (i := 6) rfl (by kernel_rfl) rfl trivial (Hle.refl _) ⟨⟨1, rfl⟩, trivial⟩ (R.extract rfl rfl) rfl (JAA.val ⟨by kernel_rfl, by kernel_rfl⟩ (calm_only _) (i := 7) rfl (by kernel_rfl) rfl trivial (Hle.refl _) ⟨⟨1, rfl⟩, trivial⟩ (R.extract rfl rfl) rfl (JAA.all ⟨⟨_, _, _, rfl, Z25, rfl⟩, trivial⟩ (Hle.refl _) ⟨⟨1, rfl⟩, trivial⟩ rfl (by kernel_rfl) (fun b_29 hb_29 => JA.one (i := 9) (by kernel_rfl) (JO.step rfl trivial rfl (fun K hK => JL.store 2 S25 rfl rfl rfl rfl rfl (Nat.le_of_ble_eq_true rfl) (JL.nil (hK _ _ _ (stab_of (Hle.refl _) ⟨⟨1, rfl⟩, trivial⟩) (JA.val ⟨by kernel_rfl, by kernel_rfl⟩ (calm_only _) (i := 10) rfl ⟨by kernel_rfl, by kernel_rfl, rfl⟩ trivial (stab_of (Hle.refl _) ⟨⟨1, rfl⟩, trivial⟩) (R.assign rfl) rfl ?_)))))))))))
   refine JA.doneN (by kernel_rfl) ?_
   obtain rfl := Option.some.inj hx
   refine JN.forget 2 (JN.front 1 rfl (JN.front 1 rfl ?_))
   exact JN.cut ⟨aoz_18, nz_18, capz_18, aoz_19, nz_19, capz_19, rfl, rfl, rfl, hz_18, hz_19⟩ ⟨rfl, rfl, rfl, rfl, rfl, trivial⟩ rfl rfl
  ·
   refine JOA.step rfl trivial rfl (fun tl_30 to_31 K hK => JL.callC (vs := [_]) (args := [_]) (K := []) (rst := _ :: _ :: to_31) E67 rfl rfl rfl picks0 (dev_place_ok p_4 _ _ hr_13) rfl (fun u_14 Ku_14 Hu_14 hRu_14 hleu_14 hfu_14 => ?_))
   obtain ⟨rfl, rfl, rfl, -⟩ := hRu_14
   refine JL.nil (hK (by repeat constructor) (by repeat constructor) (stab_of (Hle.refl _) ⟨⟨0, rfl⟩, trivial⟩) (JAA.one (i := 0) ⟨⟨_, _, _, rfl, Z25, rfl⟩, trivial⟩ (Hle.refl _) ⟨⟨0, rfl⟩, trivial⟩ rfl (by kernel_rfl) (JOA.step rfl trivial rfl (fun tl_32 to_33 K hK => JL.val rfl rfl (R.ldoN 1 (vs := [.slice aoa_2 na_2 capa_2, .slice aoa_3 na_3 capa_3]) S25 rfl rfl rfl rfl) (JL.nil (hK (by repeat constructor) (by repeat constructor) (stab_of (Hle.refl _) ⟨⟨0, rfl⟩, trivial⟩) (JAA.one (i := 4) ⟨⟨_, _, _, rfl, Z25, rfl⟩, trivial⟩ (Hle.refl _) ⟨⟨0, rfl⟩, trivial⟩ rfl (by kernel_rfl) (JOA.step rfl trivial rfl (fun tl_34 to_35 K hK => JL.callC (vs := [_, _, _]) (args := [_, _, _]) (K := [_]) (rst := _ :: to_35) E68 rfl rfl rfl (picks 1 rfl picks0) (dev_guarded_ok p_1 x_12 p_1 _ ha_2 ha_3 ha_2 ha_3 _ hr_16) rfl (fun u_17 Ku_17 Hu_17 hRu_17 hleu_17 hfu_17 => ?_))))))))))
   obtain ⟨aoz_18, nz_18, capz_18, aoz_19, nz_19, capz_19, aoz_20, nz_20, capz_20, aoz_21, nz_21, capz_21, rfl, rfl, rfl, hz_18, hz_19, hz_20, hz_21, -⟩ := hRu_17
   refine JL.nil (hK (by repeat constructor) (by repeat constructor) (stab_of (Hle.refl _) ⟨⟨1, rfl⟩, trivial⟩) (JAA.val ⟨by kernel_rfl, by kernel_rfl⟩ (calm_only _) (i := 5) rfl (by kernel_rfl) rfl trivial (Hle.refl _) ⟨⟨1, rfl⟩, trivial⟩ (R.move rfl) rfl (JAA.val ⟨by kernel_rfl, by kernel_rfl⟩ (calm_only _) (i := 6) rfl (by kernel_rfl) rfl trivial (Hle.refl _) ⟨⟨1, rfl⟩, trivial⟩ (R.extract rfl rfl) rfl (JAA.val ⟨by kernel_rfl, by kernel_rfl⟩ (calm_only _) (i := 7) rfl (by kernel_rfl) rfl trivial (Hle.refl _) ⟨⟨1, rfl⟩, trivial⟩ (R.extract rfl rfl) rfl (JAA.all ⟨⟨_, _, _, rfl, Z25, rfl⟩, trivial⟩ (Hle.refl _) ⟨⟨1, rfl⟩, trivial⟩ rfl (by kernel_rfl) (fun b_36 hb_36 => JA.one (i := 9) (by kernel_rfl) (JO.step rfl trivial rfl (fun K hK => JL.store 2 S25 rfl rfl rfl rfl rfl (Nat.le_of_ble_eq_true rfl) (JL.nil (hK _ _ _ (stab_of (Hle.refl _) ⟨⟨1, rfl⟩, trivial⟩) (JA.val ⟨by kernel_rfl, by kernel_rfl⟩ (calm_only _) (i := 10) rfl ⟨by kernel_rfl, by kernel_rfl, rfl⟩ trivial (stab_of (Hle.refl _) ⟨⟨1, rfl⟩, trivial⟩) (R.assign rfl) rfl ?_)))))))))))
   refine JA.doneN (by kernel_rfl) ?_
   obtain rfl := Option.some.inj hx
   refine JN.forget 2 (JN.front 1 rfl (JN.front 1 rfl ?_))
   exact JN.cut ⟨aoz_18, nz_18, capz_18, aoz_19, nz_19, capz_19, rfl, rfl, rfl, hz_18, hz_19⟩ ⟨rfl, rfl, rfl, rfl, rfl, trivial⟩ rfl rfl

theorem slices_Clone_byte_ok (p_1 : List UInt8) (H : Heaplet) {ao : Option Addr} {n cap : Nat} (hs : IsSlice H RU8 1 (.slice ao n cap) p_1) (r : List UInt8) (hx : slices_Clone_byte p_1 = some r) :
  Does Try.prog 147 #[.slice ao n cap] [] H (fun u K' H' => ∃ ao0 : Option Addr, ∃ n0 : Nat, ∃ cap0 : Nat, ∃ K0 : Own, u = .slice ao0 n0 cap0 ∧ K' = [K0] ∧ H = H' ∧ RowOf (New H H') RU8 0 5 1 (.slice ao0 n0 cap0) r K0 ∧ (∀ p ∈ K0, p.1 ∉ ids (List.flatten [])) ∧ True) := by
 rw [slices_Clone_byte.eq_1] at hx
 obtain ⟨q, hq, hl, hx⟩ := app_some hx
 obtain rfl := Option.some.inj hx
 refine Does.enter (vs := [.slice ao n cap]) (l := [(0, .slice ao n cap)]) Try.func147 rfl rfl ⟨rfl, trivial⟩ (fun w => JC.seq (JC.region (JL.val rfl rfl (R.assign rfl) (JL.nil (JN.next (JC.seq (JC.seq (JC.region (JL.val rfl rfl (R.move rfl) (JL.val rfl rfl (R.eqlNil U45 rfl rfl) (JL.nil ?_)))))))))))
 refine JN.next ?_
 cases ao with
 | none =>
  have hp := hs.none_nil
  subst hp
  simp only [List.append_nil] at hq
  subst hq
  refine JC.condT rfl (JC.seq (JC.region (JL.val rfl rfl (R.assign rfl) (JL.nil (JN.next (JC.ret (JN.passR (JN.seg0 (JN.outP (vs := [.slice none 0 0]) (K := [_]) (rst := []) (.inl rfl) rfl rfl (Res.tmp rfl rfl) (picks 0 rfl picks0) ?_)))))))))
  exact ⟨none, 0, 0, [], rfl, rfl, rfl, RowOf.nil _ _ _ _ _, (fun p hp => by cases hp), trivial⟩
 | some a =>
  refine JC.condF rfl (JC.skip (JN.next (JC.seq (JC.region (JL.bslF (HF := New H H) (R := RU8) (ls := []) (vs := []) U45 I5 rfl rfl rfl RU8.one rfl rfl rfl (by simp [maxLen]) rfl (fun v1 K1 h1 => ?_))))))
  obtain ⟨ao1, cap1, rfl⟩ := RowOf.val h1
  refine JL.val rfl rfl (R.move rfl) (JL.appF (HF := New H H) 0 U45 I5 rfl rfl h1 rfl (SrcF.sliceC RU8.const RU8.one U45 hs) hq hl rfl (Nat.le_refl _) rfl (fun v2 K2 h2 => ?_))
  obtain ⟨ao2, cap2, rfl⟩ := RowOf.val h2
  refine JL.val rfl rfl (R.assign rfl) (JL.nil (JN.next (JC.ret (JN.outP (vs := [.slice ao2 _ cap2]) (K := [_]) (rst := []) (.inl rfl) rfl rfl (Res.tmp rfl rfl) (picks 0 rfl picks0) ?_))))
  exact ⟨_, _, _, _, rfl, rfl, rfl, RowOf.weak (Nat.zero_le _) h2, (fun p hp hm => by cases hm), trivial⟩

set_option maxHeartbeats 8000000 in
theorem slices_Clip_byte_ok (p_1 : List UInt8) (H : Heaplet) {aoa_2 : Option Addr} {na_2 : Nat} {capa_2 : Nat} (ha_2 : IsSlice H RU8 1 (.slice aoa_2 na_2 capa_2) p_1) (r : List UInt8) (hx : slices_Clip_byte p_1 = some r) :
  Does Try.prog 146 #[.slice aoa_2 na_2 capa_2] [] H (fun u K' H' => ∃ ao0 : Option Addr, ∃ n0 : Nat, u = .slice ao0 n0 n0 ∧ K' = [] ∧ H = H' ∧ IsSlice H RU8 1 (.slice ao0 n0 n0) r ∧ True) := by
 refine Does.enterL (vs := [.slice aoa_2 na_2 capa_2]) (l := [(0, .slice aoa_2 na_2 capa_2)]) Try.func146 rfl rfl ⟨rfl, trivial⟩ (fun w hlt => ?_)
 unfold slices_Clip_byte at hx
 refine JC.seq (JC.region (JL.val rfl rfl (R.assign rfl) (JL.nil (JN.next (JC.seq (JC.region (JL.val rfl rfl (R.move rfl) (JL.val rfl rfl (R.move rfl) (JL.val rfl rfl (R.lenL U45 rfl (IsSlice.long ha_2)) (JL.val rfl rfl (R.move rfl) (JL.val rfl rfl (R.lenL U45 rfl (IsSlice.long ha_2)) ?_)))))))))))
 obtain ⟨m_3, hm_5, hb_4, hx⟩ := slc_some hx
 obtain ⟨vv_6, cv_6, aov_6, h1v_6, h2v_6, hsv_6⟩ := IsSlice.cutc ha_2 hm_5 hb_4
 refine JL.val rfl rfl (R.slc (cap := cv_6) (a := 0) (b := (p_1.length : Int)) (c := (p_1.length : Int)) (m := p_1) (R := RU8) U45 S5 rfl rfl ⟨_, rfl⟩ ⟨_, rfl⟩ ⟨hb_4.1, hb_4.2.1, Int.le_refl _⟩ h1v_6 (.inr (fun h => by cases h))) ?_
 subst h2v_6
 refine JL.val rfl rfl (R.assign rfl) (JL.nil (JN.next (JC.ret (JN.outP (vs := [.slice aov_6 m_3.length m_3.length]) (K := []) (rst := []) (.inl rfl) rfl rfl (Res.tmp rfl rfl) picks0 ?_))))
 obtain rfl := Option.some.inj hx
 exact ⟨aov_6, m_3.length, rfl, rfl, rfl, hsv_6, trivial⟩

theorem slices_Chunk_byte_ok (p_1 : List UInt8) (p_2 : Int) (H : Heaplet) {ao : Option Addr} {n cap : Nat} (hs : IsSlice H RU8 1 (.slice ao n cap) p_1) (r : Unit) (hx : slices_Chunk_byte p_1 p_2 = some r) :
  Does Try.prog 95 #[.slice ao n cap, .int .i64 p_2] [] H (fun u K' H' => ∃ b2 b3 : Nat, u = .func (.func 136) #[] #[.pointer (some ⟨b2, 0, none⟩), .pointer (some ⟨b3, 0, none⟩)] ∧ K' = [] ∧ H' b2 0 = some (.slice ao n cap) ∧ H' b3 0 = some (.int .i64 p_2) ∧ (1 ≤ p_2 ∧ p_2 ≤ 1099511627776 ∧ p_1.length ≤ LIM) ∧ True) := by
 unfold slices_Chunk_byte at hx
 split at hx
 case isFalse => cases hx
 rename_i hp
 refine Does.enter (vs := [.slice ao n cap, .int .i64 p_2]) (l := [(0, .slice ao n cap), (1, .int .i64 p_2)]) Try.func95 rfl rfl ⟨rfl, rfl, trivial⟩ (fun w => JC.seq (JC.region (JL.box rfl rfl (fun b2 hb2 => JL.box rfl rfl (fun b3 hb3 => JL.val rfl rfl (R.assign rfl) (JL.nil (JN.next (JC.seq (JC.seq (JC.region (JL.val rfl rfl (R.ldo 0 S3 rfl rfl rfl) ?_)))))))))))
 refine JL.val rfl rfl (R.lss_i rfl rfl) (JL.nil (JN.next (JC.condB rfl (fun c => ?_) (fun c => ?_))))
 ·
  exact absurd (of_decide_eq_true c) (by omega)
 refine JC.skip (JN.next (JC.seq (JC.region (JL.val rfl rfl (R.func (vf := []) (vc := [_, _]) rfl rfl) (JL.val rfl rfl (R.assign rfl) (JL.nil (JN.next (JC.ret (JN.pubBox 0 rfl hb3 (fun H1 hle1 hc1 => JN.forget 0 (JN.pubBox 0 rfl hb2 (fun H2 hle2 hc2 => ?_))))))))))))
 refine JN.forget 0 (JN.out1 (.inl rfl) rfl rfl rfl ?_)
 exact ⟨_, _, rfl, rfl, hc2 0 _ rfl, hle2 _ _ _ (hc1 0 _ rfl), hp, trivial⟩

set_option maxHeartbeats 8000000 in
theorem slices_Chunk_byte_it (m : List UInt8) (N : Int) (hN : 1 ≤ N ∧ N ≤ 1099511627776 ∧ m.length ≤ LIM) (H : Heaplet) {v : Value} {b2 b3 : Nat} (hs : IsSlice H RU8 1 v m) (hb2 : H b2 0 = some v) (hb3 : H b3 0 = some (.int .i64 N)) :
  IterL Try.prog 136 #[.pointer (some ⟨b2, 0, none⟩), .pointer (some ⟨b3, 0, none⟩)] H (fun H' args (y : List UInt8) => ∃ ao : Option Addr, args = #[.slice ao y.length y.length] ∧ IsSlice H' RU8 1 (.slice ao y.length y.length) y) (chunks N.toNat m.length m) := by
 intro lr I X o hY hI
 obtain ⟨hN1, hN2, hml⟩ := hN
 unfold LIM at hml
 obtain ⟨ao, cap, rfl⟩ := hs.val
 show Does Try.prog 136 #[.func (.yield lr) #[] #[], .pointer (some ⟨b2, 0, none⟩), .pointer (some ⟨b3, 0, none⟩)] o H _
 refine Does.enter (vs := [.func (.yield lr) #[] #[], .pointer (some ⟨b2, 0, none⟩), .pointer (some ⟨b3, 0, none⟩)]) (l := [(0, .func (.yield lr) #[] #[]), (1, .pointer (some ⟨b2, 0, none⟩)), (2, .pointer (some ⟨b3, 0, none⟩))]) Try.func136 rfl rfl ⟨rfl, rfl, rfl, trivial⟩ (fun w => JC.seq (JC.region (JL.val rfl rfl (R.assign rfl) (JL.nil (JN.next (JC.block ?_))))))
 refine JC.loop (ι := Nat × Nat × List (List UInt8) × List Own × Heaplet) (fun i => [(0, .func (.yield lr) #[] #[]), (1, .pointer (some ⟨b2, 0, none⟩)), (2, .pointer (some ⟨b3, 0, none⟩)), (4, .int .i64 ((i.1 : Nat) : Int))]) (fun i => i.2.2.2.1) (fun i => i.2.2.2.2)
  (fun i => i.1 ≤ 2199023255552 ∧ m.length ≤ i.1 + i.2.1 ∧ i.2.2.1 ++ chunks N.toNat i.2.1 (m.drop i.1) = chunks N.toNat m.length m ∧ I i.2.2.1 i.2.2.2.1 i.2.2.2.2 ∧ Hle H i.2.2.2.2) (fun i => m.length + 1 - i.1) (0, m.length, [], o, H) (⟨by omega, by simp, by simp, hI, Hle.refl _⟩) ⟨rfl, rfl, rfl, rfl, trivial⟩ rfl rfl ?_
 rintro ⟨i, f, pre, o2, H2⟩ hI0
 dsimp only at hI0 ⊢
 obtain ⟨hi2, hf, hpre, hI2, hle⟩ := hI0
 have hb2' := hle _ _ _ hb2
 have hb3' := hle _ _ _ hb3
 have hs2 := IsSlice.mono RU8.mono hle hs
 refine JC.seq (JC.seq (JC.region (JL.val rfl rfl (R.move rfl) (JL.val rfl rfl (R.ldH S45 rfl hb2') (JL.val rfl rfl (R.lenL U45 rfl (IsSlice.long hs2)) (JL.val rfl rfl (R.lss_i rfl rfl) (JL.nil (JN.next (JC.condB rfl (fun c => ?_) (fun c => ?_))))))))))
 ·
  have hlt : i < m.length := by have := of_decide_eq_true c; omega
  have hne : m.drop i ≠ [] := fun h => by have := List.drop_eq_nil_iff.1 h; omega
  obtain ⟨f', rfl⟩ : ∃ f', f = f' + 1 := ⟨f - 1, by omega⟩
  rw [chunks_step hne, List.drop_drop] at hpre
  obtain ⟨e, he⟩ : ∃ e : Int, e = min N ((m.length : Int) - i) := ⟨_, rfl⟩
  have hcut : (m.drop i).take N.toNat = cut m (i : Int) ((i : Int) + e) := by
   unfold cut
   rw [Int.toNat_natCast]
   by_cases h : N ≤ (m.length : Int) - i
   ·
    rw [show ((i : Int) + e).toNat - i = N.toNat by omega]
   ·
    rw [List.take_of_length_le (by rw [List.length_drop]; omega), List.take_of_length_le (by rw [List.length_drop]; omega)]
  refine JC.skip (JN.next (JC.seq (JC.block (JC.seq ?_))))
  obtain ⟨v1, c1, h1, h2, h3, hs1⟩ := IsSlice.cutv (m' := cut m (i : Int) (m.length : Int)) hs2 rfl ⟨by omega, by omega, Int.le_refl _⟩
  have hl1 : ((cut m (i : Int) (m.length : Int)).length : Int) = (m.length : Int) - i := cut_length (by omega) (by omega) (Int.le_refl _)
  refine JC.draw (so := []) 7 rfl Mixed trivial (JA.val ⟨by kernel_rfl, by kernel_rfl⟩ (calm_only _) (i := 0) rfl ⟨by kernel_rfl, by kernel_rfl, rfl⟩ trivial (stab_of (Hle.refl _) trivial) (R.ldH S3 rfl hb3') rfl (JA.val ⟨by kernel_rfl, by kernel_rfl⟩ (calm_only _) (i := 1) rfl ⟨by kernel_rfl, by kernel_rfl, rfl⟩ trivial (stab_of (Hle.refl _) trivial) (R.ldH S45 rfl hb2') rfl (JA.val ⟨by kernel_rfl, by kernel_rfl⟩ (calm_only _) (i := 2) rfl ⟨by kernel_rfl, by kernel_rfl, rfl⟩ trivial (stab_of (Hle.refl _) trivial) (R.move rfl) rfl (JA.val ⟨by kernel_rfl, by kernel_rfl⟩ (calm_only _) (i := 3) rfl ⟨by kernel_rfl, by kernel_rfl, rfl⟩ trivial (stab_of (Hle.refl _) trivial) (R.slc (cap := c1) (a := (i : Int)) (b := (m.length : Int)) (c := (c1 : Int)) (m := m) (R := RU8) U45 S5 rfl ⟨_, rfl⟩ rfl (by obtain ⟨ao, n, e, _⟩ := h1; exact ⟨ao, n, e, rfl⟩) ⟨by omega, by omega, h2⟩ h3 (.inl rfl)) rfl (JA.val ⟨by kernel_rfl, by kernel_rfl⟩ (calm_only _) (i := 4) rfl ⟨by kernel_rfl, by kernel_rfl, rfl⟩ trivial (stab_of (Hle.refl _) trivial) (R.lenE U45 rfl ⟨_, IsSlice.long hs1, hl1⟩) rfl (JA.val ⟨by kernel_rfl, by kernel_rfl⟩ (calm_only _) (i := 5) rfl ⟨by kernel_rfl, by kernel_rfl, rfl⟩ trivial (stab_of (Hle.refl _) trivial) (R.min2 rfl rfl) rfl ?_))))))
  rw [← he]
  refine JA.val ⟨by kernel_rfl, by kernel_rfl⟩ (calm_only _) (i := 6) rfl ⟨by kernel_rfl, by kernel_rfl, rfl⟩ trivial (stab_of (Hle.refl _) trivial) (R.assign rfl) rfl (JA.doneN (by kernel_rfl) (JN.next ?_))
  have hw : w64 ((i : Int) + e) = (i : Int) + e := w64_of (by omega) (by omega)
  obtain ⟨v2, c2, ao2, g1, g2, hs3⟩ := IsSlice.cutc (m' := (m.drop i).take N.toNat) hs2 hcut ⟨by omega, by omega, by omega⟩
  subst g2
  refine JC.seq (JC.region (JL.val rfl rfl (R.move rfl) (JL.val rfl rfl (R.ldH S45 rfl hb2') (JL.val rfl rfl (R.move rfl) (JL.val rfl rfl (R.move rfl) (JL.val rfl rfl (R.move rfl) (JL.val rfl rfl (R.add_i rfl rfl) ?_)))))))
  rw [hw]
  refine JL.val rfl rfl (R.move rfl) (JL.val rfl rfl (R.move rfl) (JL.val rfl rfl (R.add_i rfl rfl) ?_))
  rw [hw]
  refine JL.val rfl rfl (R.slc (cap := c2) (a := (i : Int)) (b := (i : Int) + e) (c := (i : Int) + e) (m := m) (R := RU8) U45 S5 rfl ⟨_, rfl⟩ ⟨_, rfl⟩ ⟨_, rfl⟩ ⟨by omega, by omega, Int.le_refl _⟩ g1 (.inr (fun h => by cases h))) (JL.yield (vs := [_]) (mine := []) ((m.drop i).take N.toNat) hY rfl rfl hI2 (⟨⟨ao2, rfl, hs3⟩, _, by rw [← hpre]⟩) rfl rfl (fun o17 H17 hle17 hI17 => ?_) (fun o17 H17 hle17 hX17 => ?_))
  ·
   refine JL.val rfl rfl (R.not rfl) (JL.nil (JN.next (JC.condF rfl (JC.skip (JN.blkN (JN.next (JC.region (JL.val rfl rfl (R.move rfl) (JL.val rfl rfl (R.ldH S3 rfl (hle17 _ _ _ hb3')) (JL.val rfl rfl (R.add_i rfl rfl) (JL.val rfl rfl (R.assign rfl) ?_)))))))))))
   refine JL.nil ?_
   have hw2 : w64 ((i : Int) + N) = ((i + N.toNat : Nat) : Int) := by rw [w64_of (by omega) (by omega)]; omega
   refine JN.again (i := (i, f' + 1, pre, o2, H2)) (i + N.toNat, f', pre ++ [(m.drop i).take N.toNat], o17, H17) (by
    refine ⟨?_, ?_, ?_, hI17, hle.trans hle17⟩
    ·
     simp only; omega
    ·
     simp only; omega
    ·
     simp only [List.append_assoc, List.singleton_append]; exact hpre) (by simp only; omega) (by exact ⟨rfl, rfl, rfl, by show some _ = some _; rw [hw2], trivial⟩) rfl rfl
  ·
   refine JL.val rfl rfl (R.not rfl) (JL.nil (JN.next (JC.condT rfl (JC.ret (JN.blkR (JN.passR (JN.passR (JN.blkR (JN.out0 (.inl rfl) rfl rfl ?_)))))))))
   exact ⟨hle.trans hle17, .inr ⟨_, ⟨chunks N.toNat f' (m.drop (i + N.toNat)), by rw [← hpre]; simp⟩, hX17⟩⟩
 ·
  have hge : m.length ≤ i := by have := of_decide_eq_false c; omega
  refine JC.exit (JN.passX (JN.passX (JN.exitSame (JN.out0 (.inr rfl) rfl rfl (⟨hle, .inl ⟨pre, ?_, hI2⟩⟩)))))
  rw [← hpre, List.drop_eq_nil_of_le hge, chunks_nil, List.append_nil]

set_option maxHeartbeats 8000000 in
theorem code_sized_ok (p_1 : Int) (H : Heaplet) (r : Bool) (hx : code_sized p_1 = some r) :
  Does Try.prog 111 #[.int .i64 p_1] [] H (fun u K' H' => u = .bool r ∧ K' = [] ∧ H = H' ∧ True) := by
 refine Does.enterL (vs := [.int .i64 p_1]) (l := [(0, .int .i64 p_1)]) Try.func111 rfl rfl ⟨rfl, trivial⟩ (fun w hlt => ?_)
 unfold code_sized at hx
 refine JC.seq (JC.region (JL.val rfl rfl (R.assign rfl) (JL.nil (JN.next (JC.seq ?_)))))
 obtain ⟨t_2, ht_4, hx⟩ := bnd_some hx
 refine JC.cut (fun l o g => l = [(2, .bool t_2)] ∧ o = [] ∧ H = g) ?_ ?_
 ·
  rintro _ _ _ ⟨rfl, rfl, rfl⟩
  refine JN.next (JC.ret (JN.outP (vs := [.bool t_2]) (K := []) (rst := []) (.inl rfl) rfl rfl (Res.tmp rfl rfl) picks0 ?_))
  obtain rfl := Option.some.inj hx
  exact ⟨rfl, rfl, rfl, trivial⟩
 ·
  have hxo_3 := hx; clear hx; have hx := ht_4; clear ht_4
  refine JC.region (JL.val rfl rfl (R.move rfl) (JL.val rfl rfl (R.gtr_i rfl rfl) (JL.val rfl rfl (R.move rfl) (JL.gSplit (t := 5) rfl (fun c_5 => ?_) (fun c_5 => ?_)))))
  ·
   replace hx := cond_t c_5 hx
   refine JL.gYes rfl rfl rfl (JL.val rfl rfl (R.move rfl) (JL.gYes rfl rfl rfl (JL.val rfl rfl (R.leq_i rfl rfl) (JL.val rfl rfl (R.pickT rfl rfl) (JL.val rfl rfl (R.assign rfl) (JL.nil ?_))))))
   obtain rfl := Option.some.inj hx
   exact JN.cut ⟨rfl, rfl, rfl⟩ ⟨rfl, trivial⟩ rfl rfl
  ·
   replace hx := cond_f c_5 hx
   refine JL.gNo rfl rfl rfl rfl rfl (JL.gNo rfl rfl rfl rfl rfl (JL.val rfl rfl (R.pickF rfl rfl) (JL.val rfl rfl (R.assign rfl) (JL.nil ?_))))
   obtain rfl := Option.some.inj hx
   exact JN.cut ⟨rfl, rfl, rfl⟩ ⟨rfl, trivial⟩ rfl rfl

theorem slices_Backward_byte_ok (p_1 : List UInt8) (H : Heaplet) {ao : Option Addr} {n cap : Nat} (hs : IsSlice H RU8 1 (.slice ao n cap) p_1) (r : Unit) (hx : slices_Backward_byte p_1 = some r) :
  Does Try.prog 119 #[.slice ao n cap] [] H (fun u K' H' => ∃ b : Nat, u = .func (.func 151) #[] #[.pointer (some ⟨b, 0, none⟩)] ∧ K' = [] ∧ H' b 0 = some (.slice ao n cap) ∧ True) := by
 refine Does.enter (vs := [.slice ao n cap]) (l := [(0, .slice ao n cap)]) Try.func119 rfl rfl ⟨rfl, trivial⟩ (fun w => JC.seq (JC.region (JL.box rfl rfl (fun b1 hb1 => JL.assign rfl rfl (JL.nil (JN.next (JC.seq (JC.region (JL.func (vf := #[]) (vc := #[_]) rfl rfl rfl (JL.assign rfl rfl (JL.nil ?_)))))))))))
 refine JN.next (JC.ret (JN.pubBox 0 rfl hb1 (fun H1 hle1 hc1 => JN.forget 0 ?_)))
 have hc := hc1 0 _ rfl
 refine JN.out1 (.inl rfl) rfl rfl rfl ?_
 exact ⟨_, rfl, rfl, hc, trivial⟩

theorem slices_Backward_byte_it (m : List UInt8) (H : Heaplet) {v : Value} {b : Nat} (hs : IsSlice H RU8 1 v m) (hb : H b 0 = some v) :
  IterL Try.prog 151 #[.pointer (some ⟨b, 0, none⟩)] H (fun _ args (y : Nat × UInt8) => args = #[.int .i64 ((y.1 : Nat) : Int), .int .u8 (y.2.toNat : Int)]) (bwd m m.length) := by
 intro lr I X o hY hI
 have hlen := hs.len_le
 obtain ⟨ao, cap, rfl⟩ := hs.val
 show Does Try.prog 151 #[.func (.yield lr) #[] #[], .pointer (some ⟨b, 0, none⟩)] o H _
 refine Does.enter (vs := [.func (.yield lr) #[] #[], .pointer (some ⟨b, 0, none⟩)]) (l := [(0, .func (.yield lr) #[] #[]), (1, .pointer (some ⟨b, 0, none⟩))]) Try.func151 rfl rfl ⟨rfl, rfl, trivial⟩ (fun w => JC.seq (JC.region (JL.ldH S45 rfl hb rfl (JL.lenS U45 rfl hs rfl (JL.subI rfl rfl (wi64 (by omega) (by omega)) rfl (JL.assign rfl rfl (JL.nil (JN.next (JC.block (JC.loop (ι := Nat × List (Nat × UInt8) × List Own × Heaplet) (fun i => [(0, .func (.yield lr) #[] #[]), (1, .pointer (some ⟨b, 0, none⟩)), (3, .int .i64 ((i.1 : Int) - 1))]) (fun i => i.2.2.1) (fun i => i.2.2.2) (fun i => i.1 ≤ m.length ∧ i.2.1 ++ bwd m i.1 = bwd m m.length ∧ I i.2.1 i.2.2.1 i.2.2.2 ∧ Hle H i.2.2.2) (fun i => i.1) (m.length, [], o, H) (⟨Nat.le_refl _, rfl, hI, Hle.refl _⟩) ⟨rfl, rfl, rfl, trivial⟩ rfl rfl ?_))))))))))
 rintro ⟨k, pre, o2, H2⟩ hI0
 dsimp only at hI0 ⊢
 obtain ⟨hk, hpre, hI2, hle⟩ := hI0
 have hb2 := hle _ _ _ hb
 have hs2 := IsB.mono hle hs
 refine JC.seq (JC.seq (JC.region (JL.move rfl rfl (JL.geq rfl rfl rfl (JL.nil (JN.next (JC.condP rfl (fun c8 => ?_) (fun c8 => ?_))))))))
 ·
  refine JC.skip (JN.next (JC.seq (JC.block (JC.seq (JC.region (JL.move rfl rfl (JL.move rfl rfl (JL.ldH S45 rfl hb2 rfl (JL.move rfl rfl (JL.ixB (k := k - 1) U45 S5 rfl hs2 rfl (by omega) (by omega) rfl (fun b15 o15 hc15 => JL.ldH S5 rfl hc15 rfl ?_)))))))))))
  have e1 : ((k - 1 : Nat) : Int) = (k : Int) - 1 := by omega
  have e2 : m.getD (k - 1) 0 = m[k - 1] := by rw [List.getD_eq_getElem?_getD, List.getElem?_eq_getElem (show k - 1 < m.length by omega), Option.getD_some]
  have e3 : bwd m k = (k - 1, m.getD (k - 1) 0) :: bwd m (k - 1) := by rw [show k = (k - 1) + 1 by omega]; rfl
  refine JL.yield (vs := [_, _]) (mine := []) ((k - 1, m.getD (k - 1) 0)) hY rfl rfl hI2 (⟨by simp only [e1, e2], bwd m (k - 1), by rw [← hpre, e3]⟩) rfl rfl (fun o17 H17 hle17 hI17 => ?_) (fun o17 H17 hle17 hX17 => ?_)
  ·
   refine JL.not rfl rfl (JL.nil (JN.next (JC.condF rfl (JC.skip (JN.blkN (JN.next (JC.region (JL.move rfl rfl (JL.subI rfl rfl (wi64 (by omega) (by omega)) rfl (JL.assign rfl rfl (JL.nil ?_)))))))))))
   refine JN.again (i := (k, pre, o2, H2)) (k - 1, pre ++ [(k - 1, m.getD (k - 1) 0)], o17, H17) (by exact ⟨by simp only; omega, by rw [← hpre, e3]; simp, hI17, hle.trans hle17⟩) (by simp only; omega) (by exact ⟨rfl, rfl, by show some _ = some _; simp only [e1], trivial⟩) rfl rfl
  ·
   refine JL.not rfl rfl (JL.nil (JN.next (JC.condT rfl (JC.ret (JN.blkR (JN.passR (JN.passR (JN.blkR (JN.out0 (.inl rfl) rfl rfl ?_)))))))))
   exact ⟨hle.trans hle17, .inr ⟨_, ⟨bwd m (k - 1), by rw [← hpre, e3]; simp⟩, hX17⟩⟩
 ·
  refine JC.exit (JN.passX (JN.passX (JN.exitSame (JN.out0 (.inr rfl) rfl rfl ?_))))
  exact ⟨hle, .inl ⟨pre, by rw [← hpre, show k = 0 by omega]; simp [bwd], hI2⟩⟩

set_option maxHeartbeats 8000000 in
theorem code_Get_ok (p_1 : List UInt8) (p_3 : Int) (p_4 : Int) (H : Heaplet) {aoa_2 : Option Addr} {na_2 : Nat} {capa_2 : Nat} (ha_2 : IsSlice H RU8 1 (.slice aoa_2 na_2 capa_2) p_1) (r : Int × Int) (hx : code_Get p_1 p_3 p_4 = some r) :
  Does Try.prog 83 #[.slice aoa_2 na_2 capa_2, .int .i64 p_3, .int .i64 p_4] [] H (fun u K' H' => u = .tuple #[.int .i64 r.1, .int .i64 r.2] ∧ K' = [] ∧ True) := by
 refine Does.enterML (vs := [.slice aoa_2 na_2 capa_2, .int .i64 p_3, .int .i64 p_4]) (l := [(0, .slice aoa_2 na_2 capa_2), (1, .int .i64 p_3), (2, .int .i64 p_4)]) Try.func83 rfl rfl ⟨rfl, rfl, rfl, trivial⟩ (fun w hlt => ?_)
 unfold code_Get at hx
 refine JC.seq (JC.region (JL.val rfl rfl (R.assign rfl) (JL.val rfl rfl (R.assign rfl) (JL.nil (JN.next (JC.seq (JC.block (JC.seq (JC.seq (JC.region (JL.val rfl rfl (R.move rfl) ?_)))))))))))
 obtain ⟨x_5, hr_6, hx⟩ := bnd_some hx
 refine JL.callC (vs := [_]) (args := [_]) (K := []) (rst := []) E111 rfl rfl rfl picks0 (code_sized_ok p_4 _ _ hr_6) rfl (fun u_7 Ku_7 Hu_7 hRu_7 hleu_7 hfu_7 => ?_)
 obtain ⟨rfl, rfl, rfl, -⟩ := hRu_7
 refine JL.val rfl rfl (R.not rfl) (JL.val rfl rfl (R.assign rfl) (JL.nil (JN.next ?_)))
 obtain ⟨t_8, ht_10, hx⟩ := bnd_some hx
 refine JC.cut (fun l o g => l = [(0, .slice aoa_2 na_2 capa_2), (1, .int .i64 p_3), (2, .int .i64 p_4), (11, .bool t_8)] ∧ o = [] ∧ H = g) ?_ ?_
 ·
  rintro _ _ _ ⟨rfl, rfl, rfl⟩
  refine JN.next (JC.condB rfl (fun c_13 => ?_) (fun c_13 => ?_))
  ·
   replace hx := cond_t c_13 hx
   refine JC.seq (JC.region (JL.val rfl rfl (R.assign rfl) (JL.val rfl rfl (R.assign rfl) (JL.nil (JN.next (JC.ret (JN.blkR (JN.passR (JN.outMP (vs := [.int .i64 0, .int .i64 2]) (K := []) (rst := []) (own2 := []) [] (.inl rfl) ⟨rfl, rfl, rfl, rfl⟩ rfl rfl picks0 (Res.tmp rfl (Res.tmp rfl rfl)) picks0 ?_)))))))))
   obtain rfl := Option.some.inj hx
   exact ⟨rfl, rfl, trivial⟩
  ·
   replace hx := cond_f c_13 hx
   refine JC.seq (JC.region (JL.val rfl rfl (R.move rfl) (JL.val rfl rfl (R.move rfl) (JL.val rfl rfl (R.add_i rfl rfl) (JL.val rfl rfl (R.move rfl) (JL.val rfl rfl (R.lenL U45 rfl (IsSlice.long ha_2)) (JL.val rfl rfl (R.gtr_i rfl rfl) (JL.val rfl rfl (R.assign rfl) (JL.nil (JN.next (JC.condB rfl (fun c_14 => ?_) (fun c_14 => ?_))))))))))))
   ·
    replace hx := cond_t c_14 hx
    refine JC.seq (JC.region (JL.val rfl rfl (R.assign rfl) (JL.val rfl rfl (R.assign rfl) (JL.nil (JN.next (JC.ret (JN.blkR (JN.passR (JN.outMP (vs := [.int .i64 0, .int .i64 8]) (K := []) (rst := []) (own2 := []) [] (.inl rfl) ⟨rfl, rfl, rfl, rfl⟩ rfl rfl picks0 (Res.tmp rfl (Res.tmp rfl rfl)) picks0 ?_)))))))))
    obtain rfl := Option.some.inj hx
    exact ⟨rfl, rfl, trivial⟩
   ·
    replace hx := cond_f c_14 hx
    refine JC.skip (JN.blkN (JN.next (JC.seq (JC.region (JL.alloc Z3 rfl (fun b_15 hb_15 => JL.store 0 S3 rfl rfl rfl rfl rfl (Nat.le_of_ble_eq_true rfl) (JL.nil (JN.next (JC.seq (JC.seq (JC.region ?_)))))))))))
    refine JL.val rfl rfl (R.move rfl) (JL.val rfl rfl (R.move rfl) (JL.val rfl rfl (R.move rfl) (JL.val rfl rfl (R.move rfl) (JL.val rfl rfl (R.add_i rfl rfl) ?_))))
    obtain ⟨m_16, hm_18, hb_17, hx⟩ := slc_some hx
    obtain ⟨vv_19, cv_19, h1v_19, h2v_19, h3v_19, hsv_19⟩ := IsSlice.cutv ha_2 hm_18 hb_17
    refine JL.val rfl rfl (R.slc (cap := cv_19) (a := p_3) (b := w64 (p_3 + p_4)) (c := (cv_19 : Int)) (m := p_1) (R := RU8) U45 S5 rfl ⟨_, rfl⟩ ⟨_, rfl⟩ (by obtain ⟨ao, n, e, _⟩ := h1v_19; exact ⟨ao, n, e, rfl⟩) ⟨hb_17.1, hb_17.2.1, h2v_19⟩ h3v_19 (.inl rfl)) ?_
    obtain ⟨aov_19, capv_19, rfl⟩ := IsSlice.val hsv_19
    obtain ⟨x_20, hr_21, hx⟩ := bnd_some hx
    refine JL.callC (vs := [_]) (args := [_]) (K := []) (rst := [_]) E119 rfl rfl rfl picks0 (slices_Backward_byte_ok m_16 _ hsv_19 _ hr_21) rfl (fun u_22 Ku_22 Hu_22 hRu_22 hleu_22 hfu_22 => ?_)
    obtain ⟨bit_23, rfl, rfl, hit_23, -⟩ := hRu_22
    refine JL.nil (JN.next (JC.block ?_))
    obtain ⟨t_24, ht_26, hx⟩ := bnd_some hx
    refine JC.rangeL (RA := fun _ args (y : Nat × UInt8) => args = #[.int .i64 ((y.1 : Nat) : Int), .int .u8 (y.2.toNat : Int)]) rfl code_Get_r1 0 t_24 ht_26 (fun s_27 o g => ∃ H_33 : Heaplet, o = [[(b_15, .cells #[.int .i64 s_27] 3 (0, 0))]] ∧ H_33 = g ∧ Hle Hu_22 H_33) (fun e c o g => False) rfl E151 (slices_Backward_byte_it m_16 _ (hsv_19.mono RU8.mono hleu_22) hit_23) (fun _ _ _ h => by rw [h]; rfl) rfl ⟨Hu_22, rfl, rfl, (Hle.refl _)⟩ ?_ ?_ ?_
    ·
     rintro lr_29 y_28 s_27 args o g out_31 ⟨H_33, rfl, rfl, hleH_33⟩ hA hx2
     clear hx; have hx := hx2; clear hx2; unfold code_Get_r1 at hx
     subst hA
     refine ⟨[(8, .pointer (some ⟨b_15, 0, none⟩)), (10, .int .u8 (y_28.2.toNat : Int))], fun wb_30 hwb_30 => ?_, fun wb_30 hwb_30 => ?_⟩
     ·
      refine JC.region (JL.val rfl rfl (R.assign rfl) (JL.nil ?_))
      exact JN.assigned ⟨rfl, rfl, trivial⟩
     ·
      refine JC.block (JC.region (JL.val rfl rfl (R.ldo 0 S3 rfl rfl rfl) (JL.val rfl rfl (R.mul_i rfl rfl) (JL.val rfl rfl (R.move rfl) (JL.val rfl rfl (R.cv_u8_i64 (a := y_28.2) U5 U3 rfl) (JL.val rfl rfl (R.add_i rfl rfl) (JL.store 0 S3 rfl rfl rfl rfl rfl (Nat.le_of_ble_eq_true rfl) (JL.nil (JN.blkN ?_)))))))))
      obtain rfl := Option.some.inj hx
      exact JN.rN ⟨H_33, rfl, rfl, (hleH_33)⟩
    ·
     rintro D_32 s_27 o g hD_32 htt ⟨H_33, rfl, rfl, hleH_33⟩ hle2
     subst htt; simp only [Sum.elim_inl] at hx
     refine JN.blkN (JN.next (JC.seq (JC.region (JL.val rfl rfl (R.ldo 1 S3 rfl rfl rfl) (JL.val rfl rfl (R.assign rfl) (JL.val rfl rfl (R.assign rfl) (JL.nil (JN.next (JC.ret (JN.outMP (vs := [.int .i64 s_27, .int .i64 0]) (K := []) (rst := [_]) (own2 := [_]) [D_32] (.inl rfl) ⟨rfl, rfl, rfl, rfl⟩ rfl rfl (picks 0 rfl picks0) (Res.tmp rfl (Res.tmp rfl rfl)) picks0 ?_))))))))))
     obtain rfl := Option.some.inj hx
     exact ⟨rfl, rfl, trivial⟩
    ·
     rintro D c e o g hD htt hX; exact hX.elim
 ·
  have hxo_9 := hx; clear hx; have hx := ht_10; clear ht_10
  refine JC.condB rfl (fun c_11 => ?_) (fun c_11 => ?_)
  ·
   replace hx := cond_t c_11 hx
   refine JC.skip ?_
   obtain rfl := Option.some.inj hx
   exact JN.cut ⟨rfl, rfl, rfl⟩ ⟨rfl, rfl, rfl, rfl, trivial⟩ rfl rfl
  ·
   replace hx := cond_f c_11 hx
   refine JC.seq (JC.region (JL.val rfl rfl (R.move rfl) (JL.val rfl rfl (R.lss_i rfl rfl) (JL.val rfl rfl (R.assign rfl) (JL.nil (JN.next (JC.condB rfl (fun c_12 => ?_) (fun c_12 => ?_))))))))
   ·
    replace hx := cond_t c_12 hx
    refine JC.skip ?_
    obtain rfl := Option.some.inj hx
    exact JN.cut ⟨rfl, rfl, rfl⟩ ⟨rfl, rfl, rfl, rfl, trivial⟩ rfl rfl
   ·
    replace hx := cond_f c_12 hx
    refine JC.region (JL.val rfl rfl (R.move rfl) (JL.val rfl rfl (R.move rfl) (JL.val rfl rfl (R.lenL U45 rfl (IsSlice.long ha_2)) (JL.val rfl rfl (R.gtr_i rfl rfl) (JL.val rfl rfl (R.assign rfl) (JL.nil ?_))))))
    obtain rfl := Option.some.inj hx
    exact JN.cut ⟨rfl, rfl, rfl⟩ ⟨rfl, rfl, rfl, rfl, trivial⟩ rfl rfl

set_option maxHeartbeats 8000000 in
theorem mix_number_ok (p_1 : List UInt8) (H : Heaplet) {aoa_2 : Option Addr} {na_2 : Nat} {capa_2 : Nat} (ha_2 : IsSlice H RU8 1 (.slice aoa_2 na_2 capa_2) p_1) (r : UInt32) (hx : mix_number p_1 = some r) :
  Does Try.prog 148 #[.slice aoa_2 na_2 capa_2] [] H (fun u K' H' => u = .int .u32 (r.toNat : Int) ∧ K' = [] ∧ True) := by
 refine Does.enterL (vs := [.slice aoa_2 na_2 capa_2]) (l := [(0, .slice aoa_2 na_2 capa_2)]) Try.func148 rfl rfl ⟨rfl, trivial⟩ (fun w hlt => ?_)
 unfold mix_number at hx
 refine JC.seq (JC.region (JL.val rfl rfl (R.assign rfl) (JL.nil (JN.next (JC.seq (JC.region (JL.val rfl rfl (R.move rfl) ?_)))))))
 obtain ⟨x_3, hr_4, hx⟩ := bnd_some hx
 refine JL.callC (vs := [_, _, _]) (args := [_, _, _]) (K := []) (rst := []) E83 rfl rfl rfl picks0 (code_Get_ok p_1 0 4 _ ha_2 _ hr_4) rfl (fun u_5 Ku_5 Hu_5 hRu_5 hleu_5 hfu_5 => ?_)
 obtain ⟨rfl, rfl, -⟩ := hRu_5
 refine JL.val rfl rfl (R.move rfl) (JL.val rfl rfl (R.extract rfl rfl) (JL.val rfl rfl (R.extract rfl rfl) (JL.val rfl rfl (R.assign rfl) (JL.val rfl rfl (R.assign rfl) (JL.nil (JN.next (JC.seq (JC.region (JL.val rfl rfl (R.move rfl) (JL.val rfl rfl (R.cv_i64_u32 U3 U26 rfl) (JL.val rfl rfl (R.assign rfl) ?_)))))))))))
 refine JL.nil (JN.next (JC.ret (JN.outP (vs := [.int .u32 ((u32i x_3.1).toNat : Int)]) (K := []) (rst := []) (.inl rfl) rfl rfl (Res.tmp rfl rfl) picks0 ?_)))
 obtain rfl := Option.some.inj hx
 exact ⟨rfl, rfl, trivial⟩

set_option maxHeartbeats 8000000 in
theorem math_bits_RotateLeft32_ok (p_1 : UInt32) (p_2 : Int) (H : Heaplet) (r : UInt32) (hx : math_bits_RotateLeft32 p_1 p_2 = some r) :
  Does Try.prog 186 #[.int .u32 (p_1.toNat : Int), .int .i64 p_2] [] H (fun u K' H' => u = .int .u32 (r.toNat : Int) ∧ K' = [] ∧ H = H' ∧ True) := by
 refine Does.enterL (vs := [.int .u32 (p_1.toNat : Int), .int .i64 p_2]) (l := [(0, .int .u32 (p_1.toNat : Int)), (1, .int .i64 p_2)]) Try.func186 rfl rfl ⟨rfl, rfl, trivial⟩ (fun w hlt => ?_)
 unfold math_bits_RotateLeft32 at hx
 refine JC.seq (JC.region (JL.val rfl rfl (R.assign rfl) (JL.nil (JN.next (JC.seq (JC.region (JL.val rfl rfl (R.move rfl) (JL.val rfl rfl (R.cv_i64_u64 U3 U133 rfl) (JL.val rfl rfl (R.and64 (a := u64i p_2) (b := (31 : UInt64)) rfl rfl) (JL.val rfl rfl (R.assign rfl) (JL.nil ?_)))))))))))
 refine JN.next (JC.seq (JC.region (JL.val rfl rfl (R.move rfl) (JL.val rfl rfl (R.move rfl) (JL.val rfl rfl (R.shl32 (n := (((u64i p_2) &&& (31 : UInt64)).toNat : Int)) (a := p_1) rfl rfl (Int.natCast_nonneg _)) (JL.val rfl rfl (R.move rfl) (JL.val rfl rfl (R.move rfl) (JL.val rfl rfl (R.sub64 (a := (32 : UInt64)) (b := (u64i p_2) &&& (31 : UInt64)) rfl rfl) (JL.val rfl rfl (R.shr32 (n := (((32 : UInt64) - ((u64i p_2) &&& (31 : UInt64))).toNat : Int)) (a := p_1) rfl rfl (Int.natCast_nonneg _)) (JL.val rfl rfl (R.or32 (a := sl32 p_1 ((((u64i p_2) &&& (31 : UInt64)).toNat : Int)).toNat) (b := sr32 p_1 ((((32 : UInt64) - ((u64i p_2) &&& (31 : UInt64))).toNat : Int)).toNat) rfl rfl) (JL.val rfl rfl (R.assign rfl) ?_)))))))))))
 refine JL.nil (JN.next (JC.ret (JN.outP (vs := [.int .u32 (((sl32 p_1 ((((u64i p_2) &&& (31 : UInt64)).toNat : Int)).toNat) ||| (sr32 p_1 ((((32 : UInt64) - ((u64i p_2) &&& (31 : UInt64))).toNat : Int)).toNat)).toNat : Int)]) (K := []) (rst := []) (.inl rfl) rfl rfl (Res.tmp rfl rfl) picks0 ?_)))
 obtain rfl := Option.some.inj hx
 exact ⟨rfl, rfl, rfl, trivial⟩

set_option maxHeartbeats 8000000 in
theorem mix_words_turned_1_ok (p_1 : Int) (p_2 : Int) (p_4 : A4 UInt32) (H : Heaplet) {b_3 : Nat} (r : A4 UInt32) (hx : mix_words_turned_1 p_1 p_2 p_4 = some r) :
  Does Try.prog 185 #[.int .i64 p_1, .int .i64 p_2, .pointer (some ⟨b_3, 0, none⟩)] [[(b_3, .cells #[.int .u32 (p_4.e0.toNat : Int), .int .u32 (p_4.e1.toNat : Int), .int .u32 (p_4.e2.toNat : Int), .int .u32 (p_4.e3.toNat : Int)] 161 (0, 0))]] H (fun u K' H' => u = .tuple #[] ∧ K' = [[(b_3, .cells #[.int .u32 (r.e0.toNat : Int), .int .u32 (r.e1.toNat : Int), .int .u32 (r.e2.toNat : Int), .int .u32 (r.e3.toNat : Int)] 161 (0, 0))]] ∧ H = H' ∧ True) := by
 refine Does.enterL (vs := [.int .i64 p_1, .int .i64 p_2, .pointer (some ⟨b_3, 0, none⟩)]) (l := [(0, .int .i64 p_1), (1, .int .i64 p_2), (2, .pointer (some ⟨b_3, 0, none⟩))]) Try.func185 rfl rfl ⟨rfl, rfl, rfl, trivial⟩ (fun w hlt => ?_)
 unfold mix_words_turned_1 at hx
 refine JC.seq (JC.region (JL.val rfl rfl (R.ixA 0 U161 S26 rfl rfl rfl) (JL.val rfl rfl (R.ldo 0 S26 rfl rfl rfl) (JL.val rfl rfl (R.ixA 1 U161 S26 rfl rfl rfl) (JL.val rfl rfl (R.ldo 0 S26 rfl rfl rfl) (JL.val rfl rfl (R.add32 (a := p_4.e0) (b := p_4.e1) rfl rfl) (JL.val rfl rfl (R.ixA 0 U161 S26 rfl rfl rfl) (JL.store 0 S26 rfl rfl rfl rfl rfl (Nat.le_of_ble_eq_true rfl) (JL.nil (JN.next (JC.seq ?_)))))))))))
 refine JC.region (JL.val rfl rfl (R.ixA 3 U161 S26 rfl rfl rfl) (JL.val rfl rfl (R.ldo 0 S26 rfl rfl rfl) (JL.val rfl rfl (R.ixA 0 U161 S26 rfl rfl rfl) (JL.val rfl rfl (R.ldo 0 S26 rfl rfl rfl) (JL.val rfl rfl (R.xor32 (a := p_4.e3) (b := p_4.e0 + p_4.e1) rfl rfl) (JL.val rfl rfl (R.move rfl) ?_))))))
 obtain ⟨x_5, hr_6, hx⟩ := bnd_some hx
 refine JL.callC (vs := [_, _]) (args := [_, _]) (K := []) (rst := [_]) E186 rfl rfl rfl picks0 (math_bits_RotateLeft32_ok (p_4.e3 ^^^ (p_4.e0 + p_4.e1)) p_1 _ _ hr_6) rfl (fun u_7 Ku_7 Hu_7 hRu_7 hleu_7 hfu_7 => ?_)
 obtain ⟨rfl, rfl, rfl, -⟩ := hRu_7
 refine JL.val rfl rfl (R.ixA 3 U161 S26 rfl rfl rfl) (JL.store 0 S26 rfl rfl rfl rfl rfl (Nat.le_of_ble_eq_true rfl) (JL.nil (JN.next (JC.seq (JC.region (JL.val rfl rfl (R.ixA 2 U161 S26 rfl rfl rfl) (JL.val rfl rfl (R.ldo 0 S26 rfl rfl rfl) (JL.val rfl rfl (R.ixA 3 U161 S26 rfl rfl rfl) (JL.val rfl rfl (R.ldo 0 S26 rfl rfl rfl) (JL.val rfl rfl (R.add32 (a := p_4.e2) (b := x_5) rfl rfl) (JL.val rfl rfl (R.ixA 2 U161 S26 rfl rfl rfl) ?_)))))))))))
 refine JL.store 0 S26 rfl rfl rfl rfl rfl (Nat.le_of_ble_eq_true rfl) (JL.nil (JN.next (JC.region (JL.val rfl rfl (R.ixA 1 U161 S26 rfl rfl rfl) (JL.val rfl rfl (R.ldo 0 S26 rfl rfl rfl) (JL.val rfl rfl (R.ixA 2 U161 S26 rfl rfl rfl) (JL.val rfl rfl (R.ldo 0 S26 rfl rfl rfl) (JL.val rfl rfl (R.xor32 (a := p_4.e1) (b := p_4.e2 + x_5) rfl rfl) (JL.val rfl rfl (R.move rfl) ?_)))))))))
 obtain ⟨x_8, hr_9, hx⟩ := bnd_some hx
 refine JL.callC (vs := [_, _]) (args := [_, _]) (K := []) (rst := [_]) E186 rfl rfl rfl picks0 (math_bits_RotateLeft32_ok (p_4.e1 ^^^ (p_4.e2 + x_5)) p_2 _ _ hr_9) rfl (fun u_10 Ku_10 Hu_10 hRu_10 hleu_10 hfu_10 => ?_)
 obtain ⟨rfl, rfl, rfl, -⟩ := hRu_10
 refine JL.val rfl rfl (R.ixA 1 U161 S26 rfl rfl rfl) (JL.store 0 S26 rfl rfl rfl rfl rfl (Nat.le_of_ble_eq_true rfl) (JL.nil (JN.outP (vs := []) (K := [_]) (rst := []) (.inr rfl) rfl rfl rfl (picks 0 rfl picks0) ?_)))
 obtain rfl := Option.some.inj hx
 exact ⟨rfl, rfl, rfl, trivial⟩
end Go.Proofs.Ytdoebbgjjlicjaa
