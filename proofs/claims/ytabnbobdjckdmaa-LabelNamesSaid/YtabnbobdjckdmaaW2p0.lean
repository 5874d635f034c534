/- walks: what the code computes, function by function. -/
import Derived.Test.YtabnbobdjckdmaaT2
import Derived.Test.YtabnbobdjckdmaaOwPlabel
import Derived.Test.YtabnbobdjckdmaaOwSo
import Derived.Test.YtabnbobdjckdmaaS4
import Derived.Test.YtabnbobdjckdmaaOwPlabelq
namespace Go.Proofs.Ytabnbobdjckdmaa
open Go.Ow Go.RowKit Go.Proofs
set_option linter.unusedVariables false
set_option linter.unusedSimpArgs false
set_option maxHeartbeats 1000000 in
theorem math_bits_Mul64_ok (p_1 : UInt64) (p_2 : UInt64) (H : Heaplet) (r : UInt64 × UInt64) (hx : math_bits_Mul64 p_1 p_2 = some r) :
    Does Try.prog 89 #[.int .u64 (p_1.toNat : Int), .int .u64 (p_2.toNat : Int)] [] H (fun u K' H' => u = .tuple #[.int .u64 (r.1.toNat : Int), .int .u64 (r.2.toNat : Int)] ∧ K' = [] ∧ H = H' ∧ True) := by
  refine Does.enterL (vs := [.int .u64 (p_1.toNat : Int), .int .u64 (p_2.toNat : Int)]) (l := [(0, .int .u64 (p_1.toNat : Int)), (1, .int .u64 (p_2.toNat : Int))]) Try.func89 rfl rfl ⟨rfl, rfl, trivial⟩ (fun w hlt => ?_)
  rw [math_bits_Mul64.eq_1] at hx
  refine JC.seq ?_
  refine JC.region ?_
  refine JL.val rfl rfl (R.assign rfl) ?_
  refine JL.val rfl rfl (R.assign rfl) ?_
  refine JL.nil ?_
  refine JN.next ?_
  refine JC.seq ?_
  refine JC.region ?_
  refine JL.val rfl rfl (R.move rfl) ?_
  refine JL.val rfl rfl (R.and64 (a := p_1) (b := (4294967295 : UInt64)) rfl rfl) ?_
  refine JL.val rfl rfl (R.assign rfl) ?_
  refine JL.nil ?_
  refine JN.next ?_
  refine JC.seq ?_
  refine JC.region ?_
  refine JL.val rfl rfl (R.move rfl) ?_
  refine JL.val rfl rfl (R.shr64 (n := ((32 : UInt64).toNat : Int)) (a := p_1) rfl rfl (by decide)) ?_
  refine JL.val rfl rfl (R.assign rfl) ?_
  refine JL.nil ?_
  refine JN.next ?_
  refine JC.seq ?_
  refine JC.region ?_
  refine JL.val rfl rfl (R.move rfl) ?_
  refine JL.val rfl rfl (R.and64 (a := p_2) (b := (4294967295 : UInt64)) rfl rfl) ?_
  refine JL.val rfl rfl (R.assign rfl) ?_
  refine JL.nil ?_
  refine JN.next ?_
  refine JC.seq ?_
  refine JC.region ?_
  refine JL.val rfl rfl (R.move rfl) ?_
  refine JL.val rfl rfl (R.shr64 (n := ((32 : UInt64).toNat : Int)) (a := p_2) rfl rfl (by decide)) ?_
  refine JL.val rfl rfl (R.assign rfl) ?_
  refine JL.nil ?_
  refine JN.next ?_
  refine JC.seq ?_
  refine JC.region ?_
  refine JL.val rfl rfl (R.move rfl) ?_
  refine JL.val rfl rfl (R.move rfl) ?_
  refine JL.val rfl rfl (R.mul64 (a := p_1 &&& (4294967295 : UInt64)) (b := p_2 &&& (4294967295 : UInt64)) rfl rfl) ?_
  refine JL.val rfl rfl (R.assign rfl) ?_
  refine JL.nil ?_
  refine JN.next ?_
  refine JC.seq ?_
  refine JC.region ?_
  refine JL.val rfl rfl (R.move rfl) ?_
  refine JL.val rfl rfl (R.move rfl) ?_
  refine JL.val rfl rfl (R.mul64 (a := sr64 p_1 (((32 : UInt64).toNat : Int)).toNat) (b := p_2 &&& (4294967295 : UInt64)) rfl rfl) ?_
  refine JL.val rfl rfl (R.move rfl) ?_
  refine JL.val rfl rfl (R.shr64 (n := ((32 : UInt64).toNat : Int)) (a := (p_1 &&& (4294967295 : UInt64)) * (p_2 &&& (4294967295 : UInt64))) rfl rfl (by decide)) ?_
  refine JL.val rfl rfl (R.add64 (a := (sr64 p_1 (((32 : UInt64).toNat : Int)).toNat) * (p_2 &&& (4294967295 : UInt64))) (b := sr64 ((p_1 &&& (4294967295 : UInt64)) * (p_2 &&& (4294967295 : UInt64))) (((32 : UInt64).toNat : Int)).toNat) rfl rfl) ?_
  refine JL.val rfl rfl (R.assign rfl) ?_
  refine JL.nil ?_
  refine JN.next ?_
  refine JC.seq ?_
  refine JC.region ?_
  refine JL.val rfl rfl (R.move rfl) ?_
  refine JL.val rfl rfl (R.and64 (a := ((sr64 p_1 (((32 : UInt64).toNat : Int)).toNat) * (p_2 &&& (4294967295 : UInt64))) + (sr64 ((p_1 &&& (4294967295 : UInt64)) * (p_2 &&& (4294967295 : UInt64))) (((32 : UInt64).toNat : Int)).toNat)) (b := (4294967295 : UInt64)) rfl rfl) ?_
  refine JL.val rfl rfl (R.assign rfl) ?_
  refine JL.nil ?_
  refine JN.next ?_
  refine JC.seq ?_
  refine JC.region ?_
  refine JL.val rfl rfl (R.move rfl) ?_
  refine JL.val rfl rfl (R.shr64 (n := ((32 : UInt64).toNat : Int)) (a := ((sr64 p_1 (((32 : UInt64).toNat : Int)).toNat) * (p_2 &&& (4294967295 : UInt64))) + (sr64 ((p_1 &&& (4294967295 : UInt64)) * (p_2 &&& (4294967295 : UInt64))) (((32 : UInt64).toNat : Int)).toNat)) rfl rfl (by decide)) ?_
  refine JL.val rfl rfl (R.assign rfl) ?_
  refine JL.nil ?_
  refine JN.next ?_
  refine JC.seq ?_
  refine JC.region ?_
  refine JL.val rfl rfl (R.move rfl) ?_
  refine JL.val rfl rfl (R.move rfl) ?_
  refine JL.val rfl rfl (R.move rfl) ?_
  refine JL.val rfl rfl (R.mul64 (a := p_1 &&& (4294967295 : UInt64)) (b := sr64 p_2 (((32 : UInt64).toNat : Int)).toNat) rfl rfl) ?_
  refine JL.val rfl rfl (R.add64 (a := (((sr64 p_1 (((32 : UInt64).toNat : Int)).toNat) * (p_2 &&& (4294967295 : UInt64))) + (sr64 ((p_1 &&& (4294967295 : UInt64)) * (p_2 &&& (4294967295 : UInt64))) (((32 : UInt64).toNat : Int)).toNat)) &&& (4294967295 : UInt64)) (b := (p_1 &&& (4294967295 : UInt64)) * (sr64 p_2 (((32 : UInt64).toNat : Int)).toNat)) rfl rfl) ?_
  refine JL.val rfl rfl (R.assign rfl) ?_
  refine JL.nil ?_
  refine JN.next ?_
  refine JC.seq ?_
  refine JC.region ?_
  refine JL.val rfl rfl (R.move rfl) ?_
  refine JL.val rfl rfl (R.move rfl) ?_
  refine JL.val rfl rfl (R.mul64 (a := sr64 p_1 (((32 : UInt64).toNat : Int)).toNat) (b := sr64 p_2 (((32 : UInt64).toNat : Int)).toNat) rfl rfl) ?_
  refine JL.val rfl rfl (R.move rfl) ?_
  refine JL.val rfl rfl (R.add64 (a := (sr64 p_1 (((32 : UInt64).toNat : Int)).toNat) * (sr64 p_2 (((32 : UInt64).toNat : Int)).toNat)) (b := sr64 (((sr64 p_1 (((32 : UInt64).toNat : Int)).toNat) * (p_2 &&& (4294967295 : UInt64))) + (sr64 ((p_1 &&& (4294967295 : UInt64)) * (p_2 &&& (4294967295 : UInt64))) (((32 : UInt64).toNat : Int)).toNat)) (((32 : UInt64).toNat : Int)).toNat) rfl rfl) ?_
  refine JL.val rfl rfl (R.move rfl) ?_
  refine JL.val rfl rfl (R.shr64 (n := ((32 : UInt64).toNat : Int)) (a := ((((sr64 p_1 (((32 : UInt64).toNat : Int)).toNat) * (p_2 &&& (4294967295 : UInt64))) + (sr64 ((p_1 &&& (4294967295 : UInt64)) * (p_2 &&& (4294967295 : UInt64))) (((32 : UInt64).toNat : Int)).toNat)) &&& (4294967295 : UInt64)) + ((p_1 &&& (4294967295 : UInt64)) * (sr64 p_2 (((32 : UInt64).toNat : Int)).toNat))) rfl rfl (by decide)) ?_
  refine JL.val rfl rfl (R.add64 (a := ((sr64 p_1 (((32 : UInt64).toNat : Int)).toNat) * (sr64 p_2 (((32 : UInt64).toNat : Int)).toNat)) + (sr64 (((sr64 p_1 (((32 : UInt64).toNat : Int)).toNat) * (p_2 &&& (4294967295 : UInt64))) + (sr64 ((p_1 &&& (4294967295 : UInt64)) * (p_2 &&& (4294967295 : UInt64))) (((32 : UInt64).toNat : Int)).toNat)) (((32 : UInt64).toNat : Int)).toNat)) (b := sr64 (((((sr64 p_1 (((32 : UInt64).toNat : Int)).toNat) * (p_2 &&& (4294967295 : UInt64))) + (sr64 ((p_1 &&& (4294967295 : UInt64)) * (p_2 &&& (4294967295 : UInt64))) (((32 : UInt64).toNat : Int)).toNat)) &&& (4294967295 : UInt64)) + ((p_1 &&& (4294967295 : UInt64)) * (sr64 p_2 (((32 : UInt64).toNat : Int)).toNat))) (((32 : UInt64).toNat : Int)).toNat) rfl rfl) ?_
  refine JL.val rfl rfl (R.assign rfl) ?_
  refine JL.nil ?_
  refine JN.next ?_
  refine JC.seq ?_
  refine JC.region ?_
  refine JL.val rfl rfl (R.move rfl) ?_
  refine JL.val rfl rfl (R.move rfl) ?_
  refine JL.val rfl rfl (R.mul64 (a := p_1) (b := p_2) rfl rfl) ?_
  refine JL.val rfl rfl (R.assign rfl) ?_
  refine JL.nil ?_
  refine JN.next ?_
  refine JC.ret ?_
  refine JN.outP (vs := [.int .u64 (((((sr64 p_1 (((32 : UInt64).toNat : Int)).toNat) * (sr64 p_2 (((32 : UInt64).toNat : Int)).toNat)) + (sr64 (((sr64 p_1 (((32 : UInt64).toNat : Int)).toNat) * (p_2 &&& (4294967295 : UInt64))) + (sr64 ((p_1 &&& (4294967295 : UInt64)) * (p_2 &&& (4294967295 : UInt64))) (((32 : UInt64).toNat : Int)).toNat)) (((32 : UInt64).toNat : Int)).toNat)) + (sr64 (((((sr64 p_1 (((32 : UInt64).toNat : Int)).toNat) * (p_2 &&& (4294967295 : UInt64))) + (sr64 ((p_1 &&& (4294967295 : UInt64)) * (p_2 &&& (4294967295 : UInt64))) (((32 : UInt64).toNat : Int)).toNat)) &&& (4294967295 : UInt64)) + ((p_1 &&& (4294967295 : UInt64)) * (sr64 p_2 (((32 : UInt64).toNat : Int)).toNat))) (((32 : UInt64).toNat : Int)).toNat)).toNat : Int), .int .u64 ((p_1 * p_2).toNat : Int)]) (K := []) (rst := []) (.inl rfl) rfl rfl (Res.tmp rfl (Res.tmp rfl rfl)) picks0 ?_
  obtain rfl := Option.some.inj hx
  exact ⟨rfl, rfl, rfl, trivial⟩

set_option maxHeartbeats 1000000 in
theorem math_bits_Mul_ok (p_1 : UInt64) (p_2 : UInt64) (H : Heaplet) (r : UInt64 × UInt64) (hx : math_bits_Mul p_1 p_2 = some r) :
    Does Try.prog 64 #[.int .u64 (p_1.toNat : Int), .int .u64 (p_2.toNat : Int)] [] H (fun u K' H' => u = .tuple #[.int .u64 (r.1.toNat : Int), .int .u64 (r.2.toNat : Int)] ∧ K' = [] ∧ H = H' ∧ True) := by
  refine Does.enterL (vs := [.int .u64 (p_1.toNat : Int), .int .u64 (p_2.toNat : Int)]) (l := [(0, .int .u64 (p_1.toNat : Int)), (1, .int .u64 (p_2.toNat : Int))]) Try.func64 rfl rfl ⟨rfl, rfl, trivial⟩ (fun w hlt => ?_)
  rw [math_bits_Mul.eq_1] at hx
  refine JC.seq ?_
  refine JC.region ?_
  refine JL.val rfl rfl (R.assign rfl) ?_
  refine JL.val rfl rfl (R.assign rfl) ?_
  refine JL.nil ?_
  refine JN.next ?_
  refine JC.seq ?_
  refine JC.condF rfl ?_
  refine JC.skip ?_
  refine JN.next ?_
  refine JC.seq ?_
  refine JC.region ?_
  refine JL.val rfl rfl (R.move rfl) ?_
  refine JL.val rfl rfl (R.move rfl) ?_
  obtain ⟨x_3, hr_4, hx⟩ := bnd_some hx
  refine JL.callC (vs := [_, _]) (args := [_, _]) (K := []) (rst := []) E89 rfl rfl rfl picks0 (math_bits_Mul64_ok p_1 p_2 _ _ hr_4) rfl (fun u_5 Ku_5 Hu_5 hRu_5 hleu_5 hfu_5 => ?_)
  obtain ⟨rfl, rfl, rfl, -⟩ := hRu_5
  refine JL.val rfl rfl (R.move rfl) ?_
  refine JL.val rfl rfl (R.extract rfl rfl) ?_
  refine JL.val rfl rfl (R.extract rfl rfl) ?_
  refine JL.val rfl rfl (R.assign rfl) ?_
  refine JL.val rfl rfl (R.assign rfl) ?_
  refine JL.nil ?_
  refine JN.next ?_
  refine JC.seq ?_
  refine JC.region ?_
  refine JL.val rfl rfl (R.move rfl) ?_
  refine JL.val rfl rfl (R.move rfl) ?_
  refine JL.val rfl rfl (R.assign rfl) ?_
  refine JL.val rfl rfl (R.assign rfl) ?_
  refine JL.nil ?_
  refine JN.next ?_
  refine JC.ret ?_
  refine JN.outP (vs := [.int .u64 (x_3.1.toNat : Int), .int .u64 (x_3.2.toNat : Int)]) (K := []) (rst := []) (.inl rfl) rfl rfl (Res.tmp rfl (Res.tmp rfl rfl)) picks0 ?_
  obtain rfl := Option.some.inj hx
  exact ⟨rfl, rfl, rfl, trivial⟩

set_option maxHeartbeats 1000000 in
theorem slices_Repeat_int_ok (p_1 : List Int) (p_3 : Int) (H : Heaplet) {aoa_2 : Option Addr} {na_2 : Nat} {capa_2 : Nat} (ha_2 : IsSlice H RInt 1 (.slice aoa_2 na_2 capa_2) p_1) (r : List Int) (hx : slices_Repeat_int p_1 p_3 = some r) :
    Does Try.prog 37 #[.slice aoa_2 na_2 capa_2, .int .i64 p_3] [] H (fun u K' H' => ∃ ao0 : Option Addr, ∃ n0 : Nat, ∃ cap0 : Nat, ∃ K0 : Own, u = .slice ao0 n0 cap0 ∧ K' = [K0] ∧ H = H' ∧ RowOf (New H H) RInt 0 3 1 (.slice ao0 n0 cap0) r K0 ∧ (∀ p ∈ K0, p.1 ∉ ids (List.flatten [])) ∧ True) := by
  refine Does.enterL (vs := [.slice aoa_2 na_2 capa_2, .int .i64 p_3]) (l := [(0, .slice aoa_2 na_2 capa_2), (1, .int .i64 p_3)]) Try.func37 rfl rfl ⟨rfl, rfl, trivial⟩ (fun w hlt => ?_)
  rw [slices_Repeat_int.eq_1] at hx
  refine JC.seq ?_
  refine JC.region ?_
  refine JL.val rfl rfl (R.assign rfl) ?_
  refine JL.nil ?_
  refine JN.next ?_
  refine JC.seq ?_
  refine JC.seq ?_
  refine JC.region ?_
  refine JL.val rfl rfl (R.move rfl) ?_
  refine JL.val rfl rfl (R.lss_i rfl rfl) ?_
  refine JL.nil ?_
  refine JN.next ?_
  refine JC.condB rfl (fun c_4 => ?_) (fun c_4 => ?_)
  · replace hx := cond_t c_4 hx
    refine JC.region ?_
    cases hx
  · replace hx := cond_f c_4 hx
    refine JC.skip ?_
    refine JN.next ?_
    refine JC.seq ?_
    refine JC.region ?_
    refine JL.val rfl rfl (R.move rfl) ?_
    refine JL.val rfl rfl (R.lenL U72 rfl (IsSlice.long ha_2)) ?_
    refine JL.val rfl rfl (R.cv_i64_u64 U3 U90 rfl) ?_
    refine JL.val rfl rfl (R.move rfl) ?_
    refine JL.val rfl rfl (R.cv_i64_u64 U3 U90 rfl) ?_
    obtain ⟨x_5, hr_6, hx⟩ := bnd_some hx
    refine JL.callC (vs := [_, _]) (args := [_, _]) (K := []) (rst := []) E64 rfl rfl rfl picks0 (math_bits_Mul_ok (u64i (p_1.length : Int)) (u64i p_3) _ _ hr_6) rfl (fun u_7 Ku_7 Hu_7 hRu_7 hleu_7 hfu_7 => ?_)
    obtain ⟨rfl, rfl, rfl, -⟩ := hRu_7
    refine JL.val rfl rfl (R.move rfl) ?_
    refine JL.val rfl rfl (R.extract rfl rfl) ?_
    refine JL.val rfl rfl (R.extract rfl rfl) ?_
    refine JL.val rfl rfl (R.assign rfl) ?_
    refine JL.val rfl rfl (R.assign rfl) ?_
    refine JL.nil ?_
    refine JN.next ?_
    refine JC.seq ?_
    refine JC.seq ?_
    refine JC.region ?_
    refine JL.val rfl rfl (R.move rfl) ?_
    refine JL.val rfl rfl (R.gtr64 (a := x_5.1) (b := (0 : UInt64)) rfl rfl) ?_
    refine JL.val rfl rfl (R.move rfl) ?_
    refine JL.gSplit (t := 23) rfl (fun c_8 => ?_) (fun c_8 => ?_)
    · replace hx := cond_t c_8 hx
      refine JL.gNo rfl rfl rfl rfl rfl ?_
      refine JL.gNo rfl rfl rfl rfl rfl ?_
      refine JL.val rfl rfl (R.pickT rfl rfl) ?_
      refine JL.nil ?_
      refine JN.next ?_
      refine JC.condT rfl ?_
      refine JC.region ?_
      cases hx
    · replace hx := cond_f c_8 hx
      refine JL.gYes rfl rfl rfl ?_
      refine JL.val rfl rfl (R.move rfl) ?_
      refine JL.gYes rfl rfl rfl ?_
      refine JL.val rfl rfl (R.gtr64 (a := x_5.2) (b := (9223372036854775807 : UInt64)) rfl rfl) ?_
      refine JL.val rfl rfl (R.pickF rfl rfl) ?_
      refine JL.nil ?_
      refine JN.next ?_
      refine JC.condB rfl (fun c_9 => ?_) (fun c_9 => ?_)
      · replace hx := cond_t c_9 hx
        refine JC.region ?_
        cases hx
      · replace hx := cond_f c_9 hx
        refine JC.skip ?_
        refine JN.next ?_
        refine JC.seq ?_
        refine JC.region ?_
        refine JL.val rfl rfl (R.move rfl) ?_
        refine JL.val rfl rfl (R.cv_u64_i64 (a := x_5.2) U90 U3 rfl) ?_
        obtain ⟨x_12, hm_11, hc_10, hx⟩ := mks_some hx
        refine JL.mkF (HF := New H H) (R := RInt) (y := 0) (n := w64 (x_5.2.toNat : Int)) U72 I3 rfl rfl (fun _ => rfl) RInt.one hm_11 hc_10 rfl rfl (fun vr_13 Kr_13 hr_13 => ?_)
        obtain ⟨aor_13, capr_13, rfl⟩ := RowOf.val hr_13
        refine JL.val rfl rfl (R.assign rfl) ?_
        refine JL.nil ?_
        refine JN.next ?_
        refine JC.seq ?_
        refine JC.region ?_
        refine JL.val rfl rfl (R.move rfl) ?_
        refine JL.val rfl rfl (R.move rfl) ?_
        obtain ⟨m_14, hm_15, hb_16, hx⟩ := cpyO_some hx
        refine JL.copyR (HF := (New H H)) (lo := 0) (hi := (x_12.length : Int)) 0 U72 S3 rfl hr_13 rfl (RowOf.whole hr_13) rfl (CSrc.slice RInt.one (Hle.refl _) ha_2 (fun _ _ h => RInt.const _ _ _ _ h)) hb_16 hm_15 rfl (fun Kr_17 hr_17 => ?_)
        refine JL.val rfl rfl (R.assign rfl) ?_
        refine JL.nil ?_
        refine JN.next ?_
        refine JC.seq ?_
        obtain ⟨t_18, ht_20, hx⟩ := bnd_some hx
        refine JC.cut (fun l o g => ∃ Kr_25 : Own, l = [(7, .slice aor_13 x_12.length capr_13)] ∧ o = [Kr_25] ∧ H = g ∧ RowOf (New H H) RInt w.heap.size 3 1 (.slice aor_13 x_12.length capr_13) t_18 Kr_25) ?_ ?_
        · rintro _ _ _ ⟨Kr_25, rfl, rfl, rfl, hr_25⟩
          refine JN.next ?_
          refine JC.seq ?_
          refine JC.region ?_
          refine JL.val rfl rfl (R.move rfl) ?_
          refine JL.val rfl rfl (R.assign rfl) ?_
          refine JL.nil ?_
          refine JN.next ?_
          refine JC.ret ?_
          refine JN.outP (vs := [.slice aor_13 x_12.length capr_13]) (K := [_]) (rst := []) (.inl rfl) rfl rfl (Res.tmp rfl rfl) (picks 0 rfl picks0) ?_
          obtain rfl := Option.some.inj hx
          exact ⟨aor_13, x_12.length, capr_13, Kr_25, rfl, rfl, rfl, (RowOf.weak (Nat.zero_le _) hr_25), (new_ids hr_25 hlt), trivial⟩
        · have hxo_19 := hx; clear hx; have hx := ht_20; clear ht_20
          refine JC.block ?_
          refine JC.loopI (fun n l o g => ∃ s_21 : List Int × Int, ∃ Kr_24 : Own, l = [(7, .slice aor_13 x_12.length capr_13), (8, .int .i64 s_21.2)] ∧ o = [Kr_24] ∧ H = g ∧ run slices_Repeat_int_l1 n s_21 = some t_18 ∧ RowOf (New H H) RInt w.heap.size 3 1 (.slice aor_13 x_12.length capr_13) s_21.1 Kr_24) FUEL ?_ ⟨(m_14, min (p_1.length : Int) ((x_12.length : Int) - 0)), Kr_17, rfl, rfl, rfl, hx, hr_17⟩ ⟨rfl, rfl, trivial⟩ ?_
          · rintro _ _ _ ⟨s_21, Kr_24, rfl, rfl, rfl, hn_22, hr_24⟩
            exact run_zero hn_22
          · rintro n_23 _ _ _ ⟨s_21, Kr_24, rfl, rfl, rfl, hn_22, hr_24⟩
            clear hx; obtain ⟨oo_26, hx, hd_25⟩ := run_some hn_22
            rw [slices_Repeat_int_l1.eq_1] at hx
            refine JC.seq ?_
            refine JC.seq ?_
            refine JC.region ?_
            refine JL.val rfl rfl (R.move rfl) ?_
            refine JL.val rfl rfl (R.move rfl) ?_
            refine JL.val rfl rfl (R.lenL U72 rfl (RowOf.long hr_24)) ?_
            refine JL.val rfl rfl (R.lss_i rfl rfl) ?_
            refine JL.nil ?_
            refine JN.next ?_
            refine JC.condB rfl (fun c_25 => ?_) (fun c_25 => ?_)
            · replace hx := cond_t c_25 hx
              refine JC.skip ?_
              refine JN.next ?_
              refine JC.block ?_
              refine JC.draw (so := []) 10 rfl Mixed trivial ?_
              refine JA.val ⟨by kernel_rfl, by kernel_rfl⟩ (calm_only _) (i := 0) rfl ⟨by kernel_rfl, by kernel_rfl, rfl⟩ trivial (stab_of (Hle.refl _) trivial) (R.move rfl) rfl ?_
              refine JA.val ⟨by kernel_rfl, by kernel_rfl⟩ (calm_only _) (i := 1) rfl ⟨by kernel_rfl, by kernel_rfl, rfl⟩ trivial (stab_of (Hle.refl _) trivial) (R.move rfl) rfl ?_
              refine JA.val ⟨by kernel_rfl, by kernel_rfl⟩ (calm_only _) (i := 2) rfl ⟨by kernel_rfl, by kernel_rfl, rfl⟩ trivial (stab_of (Hle.refl _) trivial) (R.move rfl) rfl ?_
              refine JA.val ⟨by kernel_rfl, by kernel_rfl⟩ (calm_only _) (i := 4) rfl ⟨by kernel_rfl, by kernel_rfl, rfl⟩ trivial (stab_of (Hle.refl _) trivial) (R.move rfl) rfl ?_
              refine JA.val ⟨by kernel_rfl, by kernel_rfl⟩ (calm_only _) (i := 5) rfl ⟨by kernel_rfl, by kernel_rfl, rfl⟩ trivial (stab_of (Hle.refl _) trivial) (R.move rfl) rfl ?_
              obtain ⟨hb_27, hx⟩ := chk_some hx
              obtain ⟨hb_29, hx⟩ := chk_some hx
              obtain ⟨m_30, hm_31, hb_32, hx⟩ := cpyO_some hx
              refine JA.two (i := 3) (j := 6) (by kernel_rfl) ?_ ?_
              · refine JO.step rfl trivial rfl (fun K hK => ?_)
                obtain ⟨vv_26, cv_26, h1v_26, h2v_26, h3v_26, hsv_26, hlv_26⟩ := RowOf.cutv hr_24 hb_27
                refine JL.val rfl rfl (R.slc (cap := cv_26) (a := s_21.2) (b := (s_21.1.length : Int)) (c := (cv_26 : Int)) (m := s_21.1) (R := RInt) U72 S3 rfl ⟨_, rfl⟩ rfl (by obtain ⟨ao, n, e, _⟩ := h1v_26; exact ⟨ao, n, e, rfl⟩) ⟨hb_27.1, hb_27.2.1, h2v_26⟩ h3v_26 (.inl rfl)) ?_
                refine JL.nil ?_
                refine hK _ _ _ (stab_of (Hle.refl _) trivial) ?_
                refine JA.one (i := 6) (by kernel_rfl) ?_
                refine JO.step rfl trivial rfl (fun K hK => ?_)
                obtain ⟨vv_28, cv_28, h1v_28, h2v_28, h3v_28, hsv_28, hlv_28⟩ := RowOf.cutv hr_24 hb_29
                refine JL.val rfl rfl (R.slc (cap := cv_28) (a := (0 : Int)) (b := s_21.2) (c := (cv_28 : Int)) (m := s_21.1) (R := RInt) U72 S3 rfl rfl ⟨_, rfl⟩ (by obtain ⟨ao, n, e, _⟩ := h1v_28; exact ⟨ao, n, e, rfl⟩) ⟨hb_29.1, hb_29.2.1, h2v_28⟩ h3v_28 (.inl rfl)) ?_
                refine JL.nil ?_
                refine hK _ _ _ (stab_of (Hle.refl _) trivial) ?_
                refine JA.one (i := 7) (by kernel_rfl) ?_
                refine JO.step rfl trivial rfl (fun K hK => ?_)
                refine JL.copyR (HF := (New H H)) (lo := s_21.2) (hi := (s_21.1.length : Int)) 0 U72 S3 rfl hr_24 rfl hsv_26 rfl (CSrc.part 0 rfl hr_24 hsv_28 hb_29 rfl) hb_32 hm_31 rfl (fun Kr_33 hr_33 => ?_)
                refine JL.nil ?_
                refine hK _ _ _ (stab_of (Hle.refl _) trivial) ?_
                refine JA.val ⟨by kernel_rfl, by kernel_rfl⟩ (calm_only _) (i := 8) rfl ⟨by kernel_rfl, by kernel_rfl, rfl⟩ trivial (stab_of (Hle.refl _) trivial) (R.add_i rfl rfl) rfl ?_
                refine JA.val ⟨by kernel_rfl, by kernel_rfl⟩ (calm_only _) (i := 9) rfl ⟨by kernel_rfl, by kernel_rfl, rfl⟩ trivial (stab_of (Hle.refl _) trivial) (R.assign rfl) rfl ?_
                refine JA.doneN (by kernel_rfl) ?_
                refine JN.blkN ?_
                replace hx := run_next hd_25 hx
                exact JN.cut ⟨(m_30, w64 (s_21.2 + (min ((cut s_21.1 (0 : Int) s_21.2).length : Int) ((s_21.1.length : Int) - s_21.2)))), Kr_33, rfl, rfl, rfl, hx, hr_33⟩ ⟨rfl, rfl, trivial⟩ rfl rfl
              · refine JO.step rfl trivial rfl (fun K hK => ?_)
                obtain ⟨vv_28, cv_28, h1v_28, h2v_28, h3v_28, hsv_28, hlv_28⟩ := RowOf.cutv hr_24 hb_29
                refine JL.val rfl rfl (R.slc (cap := cv_28) (a := (0 : Int)) (b := s_21.2) (c := (cv_28 : Int)) (m := s_21.1) (R := RInt) U72 S3 rfl rfl ⟨_, rfl⟩ (by obtain ⟨ao, n, e, _⟩ := h1v_28; exact ⟨ao, n, e, rfl⟩) ⟨hb_29.1, hb_29.2.1, h2v_28⟩ h3v_28 (.inl rfl)) ?_
                refine JL.nil ?_
                refine hK _ _ _ (stab_of (Hle.refl _) trivial) ?_
                refine JA.one (i := 3) (by kernel_rfl) ?_
                refine JO.step rfl trivial rfl (fun K hK => ?_)
                obtain ⟨vv_26, cv_26, h1v_26, h2v_26, h3v_26, hsv_26, hlv_26⟩ := RowOf.cutv hr_24 hb_27
                refine JL.val rfl rfl (R.slc (cap := cv_26) (a := s_21.2) (b := (s_21.1.length : Int)) (c := (cv_26 : Int)) (m := s_21.1) (R := RInt) U72 S3 rfl ⟨_, rfl⟩ rfl (by obtain ⟨ao, n, e, _⟩ := h1v_26; exact ⟨ao, n, e, rfl⟩) ⟨hb_27.1, hb_27.2.1, h2v_26⟩ h3v_26 (.inl rfl)) ?_
                refine JL.nil ?_
                refine hK _ _ _ (stab_of (Hle.refl _) trivial) ?_
                refine JA.one (i := 7) (by kernel_rfl) ?_
                refine JO.step rfl trivial rfl (fun K hK => ?_)
                refine JL.copyR (HF := (New H H)) (lo := s_21.2) (hi := (s_21.1.length : Int)) 0 U72 S3 rfl hr_24 rfl hsv_26 rfl (CSrc.part 0 rfl hr_24 hsv_28 hb_29 rfl) hb_32 hm_31 rfl (fun Kr_33 hr_33 => ?_)
                refine JL.nil ?_
                refine hK _ _ _ (stab_of (Hle.refl _) trivial) ?_
                refine JA.val ⟨by kernel_rfl, by kernel_rfl⟩ (calm_only _) (i := 8) rfl ⟨by kernel_rfl, by kernel_rfl, rfl⟩ trivial (stab_of (Hle.refl _) trivial) (R.add_i rfl rfl) rfl ?_
                refine JA.val ⟨by kernel_rfl, by kernel_rfl⟩ (calm_only _) (i := 9) rfl ⟨by kernel_rfl, by kernel_rfl, rfl⟩ trivial (stab_of (Hle.refl _) trivial) (R.assign rfl) rfl ?_
                refine JA.doneN (by kernel_rfl) ?_
                refine JN.blkN ?_
                replace hx := run_next hd_25 hx
                exact JN.cut ⟨(m_30, w64 (s_21.2 + (min ((cut s_21.1 (0 : Int) s_21.2).length : Int) ((s_21.1.length : Int) - s_21.2)))), Kr_33, rfl, rfl, rfl, hx, hr_33⟩ ⟨rfl, rfl, trivial⟩ rfl rfl
            · replace hx := cond_f c_25 hx
              refine JC.exit ?_
              refine JN.passX ?_
              obtain rfl := run_done hd_25 hx
              refine JN.passX ?_
              refine JN.exitSame ?_
              exact JN.cut ⟨Kr_24, rfl, rfl, rfl, hr_24⟩ ⟨rfl, trivial⟩ rfl rfl

set_option maxHeartbeats 1000000 in
theorem dev_cut_ok (p_1 : List Int) (H : Heaplet) {ao : Option Addr} {n cap : Nat} (hs : IsSlice H RInt 1 (.slice ao n cap) p_1) (r : List (List UInt8)) (hx : dev_cut p_1 = some r) :
    Does Try.prog 36 #[.slice ao n cap] [] H (fun u K' H' => ∃ ao0 : Option Addr, ∃ n0 : Nat, ∃ cap0 : Nat, ∃ K0 : Own, u = .slice ao0 n0 cap0 ∧ K' = [K0] ∧ H = H' ∧ Pcs 0 5 45 (.slice ao0 n0 cap0) r K0 ∧ (∀ p ∈ K0, p.1 ∉ ids (List.flatten [])) ∧ True) := by
  unfold dev_cut at hx
  split at hx
  case isFalse => cases hx
  rename_i hp
  obtain rfl := Option.some.inj hx
  obtain ⟨ns, hns⟩ : ∃ ns, ns = p_1.map Int.toNat := ⟨_, rfl⟩
  have hpn : p_1 = ns.map (fun n : Nat => (n : Int)) := by
    rw [hns, List.map_map]
    have : ∀ (q : List Int), (∀ n ∈ q, 0 ≤ n) → q = q.map ((fun n : Nat => (n : Int)) ∘ Int.toNat) := by
      intro q
      induction q with
      | nil => intro _; rfl
      | cons y q ih => intro h; rw [List.map_cons, ← ih (fun n hn => h n (by simp [hn]))]; congr 1; have := h y (by simp); simp only [Function.comp]; omega
    exact this _ hp.1
  have hsum : ns.sum ≤ LIM := by rw [hns]; exact hp.2.1
  have hlen : ns.length ≤ LIM := by rw [hns, List.length_map]; exact hp.2.2
  have hpl : p_1.length = ns.length := by rw [hns, List.length_map]
  have hat : ∀ i, i < ns.length → ∃ y : Nat, ns[i]? = some y ∧ Nth p_1 (i : Int) (y : Int) := fun i hi => by
    refine ⟨ns[i], List.getElem?_eq_getElem hi, Int.natCast_nonneg i, ?_⟩
    rw [hpn]; simp [hi]
  have htk : ∀ i, (ns.take i).sum ≤ ns.sum := fun i => by
    have := congrArg List.sum (List.take_append_drop i ns)
    rw [List.sum_append] at this; omega
  have hstep : ∀ i y, ns[i]? = some y → ns.take (i + 1) = ns.take i ++ [y] := fun i y h => by rw [List.take_add_one, h]; rfl
  have hL : LIM = 1099511627776 := rfl
  have hr : (p_1.map fun n => List.replicate n.toNat (0 : UInt8)) = ns.map fun n => List.replicate n 0 := by rw [hpn, List.map_map]; rfl
  rw [hr]
  clear hr
  obtain ⟨ao, cap, e0⟩ := hs.val
  rw [e0] at hs
  simp only [e0]
  rw [hpl] at hs ⊢
  refine Does.enterL (vs := [.slice ao ns.length cap]) (l := [(0, .slice ao ns.length cap)]) Try.func36 rfl rfl ⟨rfl, trivial⟩ (fun w hlt => ?_)
  refine JC.seq ?_
  refine JC.region ?_
  refine JL.val rfl rfl (R.assign rfl) ?_
  refine JL.nil ?_
  refine JN.next ?_
  refine JC.seq ?_
  refine JC.region ?_
  refine JL.val rfl rfl (R.assign rfl) ?_
  refine JL.nil ?_
  refine JN.next ?_
  refine JC.seq ?_
  -- how many in all
  refine JC.cut (fun l o g => l = [(0, .slice ao ns.length cap), (2, .slice none 0 0), (3, .int .i64 ((ns.sum : Nat) : Int))] ∧ o = [] ∧ H = g) ?_ ?_
  rotate_left
  · refine JC.seq ?_
    refine JC.region ?_
    refine JL.val rfl rfl (R.move rfl) ?_
    refine JL.val rfl rfl (R.lenL U72 rfl ⟨_, _, rfl⟩) ?_
    refine JL.val rfl rfl (R.move rfl) ?_
    refine JL.nil ?_
    refine JN.next ?_
    refine JC.block ?_
    refine JC.loop (ι := Nat) (fun i => [(0, .slice ao ns.length cap), (2, .slice none 0 0), (9, .slice ao ns.length cap), (10, .int .i64 (ns.length : Int)), (3, .int .i64 (((ns.take i).sum : Nat) : Int)), (11, .int .i64 ((i : Nat) : Int))]) (fun _ => []) (fun _ => H) (fun i => i ≤ ns.length) (fun i => ns.length - i) 0 (Nat.zero_le _) ⟨rfl, rfl, rfl, rfl, rfl, rfl, trivial⟩ rfl rfl ?_
    intro i hi
    refine JC.seq ?_
    refine JC.region ?_
    refine JL.val rfl rfl (R.lss_i rfl rfl) ?_
    refine JL.nil ?_
    refine JN.next ?_
    refine JC.seq ?_
    refine JC.condB rfl (fun c => ?_) (fun c => ?_)
    · have hlt' : i < ns.length := by have := of_decide_eq_true c; omega
      obtain ⟨y, hy, hN⟩ := hat i hlt'
      obtain ⟨b1, q1, cs1, hE1, hR1, hl1, hc1⟩ := IsSlice.elem hs hN
      obtain rfl : cs1 = [.int .i64 (y : Int)] := hR1
      have hsy := hstep i y hy
      have hw : w64 ((((ns.take i).sum : Nat) : Int) + (y : Int)) = (((ns.take (i + 1)).sum : Nat) : Int) := by
        have h1 := htk (i + 1)
        rw [hsy, List.sum_append] at h1 ⊢
        simp only [List.sum_cons, List.sum_nil, Nat.add_zero] at h1 ⊢
        rw [w64_of (by omega) (by omega)]; omega
      refine JC.skip ?_
      refine JN.next ?_
      refine JC.seq ?_
      refine JC.block ?_
      refine JC.seq ?_
      refine JC.region ?_
      refine JL.val rfl rfl (R.ix U72 S3 rfl rfl hE1) ?_
      refine JL.val rfl rfl (R.ldH S3 rfl (hc1 0 _ rfl)) ?_
      refine JL.val rfl rfl (R.assign rfl) ?_
      refine JL.nil ?_
      refine JN.next ?_
      refine JC.region ?_
      refine JL.val rfl rfl (R.move rfl) ?_
      refine JL.val rfl rfl (R.move rfl) ?_
      refine JL.val rfl rfl (R.add_i rfl rfl) ?_
      rw [hw]
      refine JL.val rfl rfl (R.assign rfl) ?_
      refine JL.nil ?_
      refine JN.blkN ?_
      refine JN.next ?_
      refine JC.region ?_
      refine JL.val rfl rfl (R.inc rfl rfl (of_decide_eq_true c) (by omega)) ?_
      refine JL.val rfl rfl (R.move rfl) ?_
      refine JL.nil ?_
      refine JN.again (i := i) (i + 1) hlt' (by omega) ⟨rfl, rfl, rfl, rfl, rfl, rfl, trivial⟩ rfl rfl
    · have hge : i = ns.length := by have := of_decide_eq_false c; omega
      subst hge
      refine JC.exit ?_
      refine JN.passX ?_
      refine JN.passX ?_
      refine JN.exitSame ?_
      rw [List.take_length]
      exact JN.cut ⟨rfl, rfl, rfl⟩ ⟨rfl, rfl, rfl, trivial⟩ rfl rfl
  rintro _ _ _ ⟨rfl, rfl, rfl⟩
  refine JN.next ?_
  refine JC.seq ?_
  refine JC.region ?_
  refine JL.val rfl rfl (R.move rfl) ?_
  refine JL.mkB U45 I5 rfl rfl hsum rfl rfl (fun hb hhb => ?_)
  refine JL.val rfl rfl (R.assign rfl) ?_
  refine JL.nil ?_
  refine JN.next ?_
  refine JC.seq ?_
  refine JC.cut (fun l o g => ∃ (ao2 : Option Addr) (n2 cap2 : Nat) (Ko : Own), l = [(2, .slice ao2 n2 cap2)] ∧ o = [Ko, [(hb, .cells (bvs (List.replicate ns.sum 0)).toArray 5 (0, 0))]] ∧ H = g ∧ RowOf (fun _ _ => none) (RPc hb) w.heap.size 45 1 (.slice ao2 n2 cap2) (offs 0 ns) Ko) ?_ ?_
  rotate_left
  · refine JC.seq ?_
    refine JC.region ?_
    refine JL.val rfl rfl (R.move rfl) ?_
    refine JL.val rfl rfl (R.lenL U72 rfl ⟨_, _, rfl⟩) ?_
    refine JL.val rfl rfl (R.move rfl) ?_
    refine JL.seg0 ?_
    refine JL.nil ?_
    refine JN.next ?_
    refine JC.block ?_
    refine JC.loop (ι := Nat × Nat × Option Addr × Nat × Nat × Own) (fun i => [(21, .slice ao ns.length cap), (22, .int .i64 (ns.length : Int)), (2, .slice i.2.2.1 i.2.2.2.1 i.2.2.2.2.1), (6, .slice (some ⟨hb, i.2.1, none⟩) (ns.sum - (ns.take i.1).sum) (ns.sum - (ns.take i.1).sum)), (23, .int .i64 ((i.1 : Nat) : Int))])
      (fun i => [i.2.2.2.2.2, [(hb, .cells (bvs (List.replicate ns.sum 0)).toArray 5 (0, 0))]]) (fun _ => H)
      (fun i => i.1 ≤ ns.length ∧ (ns.sum - (ns.take i.1).sum = 0 ∨ i.2.1 = (ns.take i.1).sum) ∧ RowOf (fun _ _ => none) (RPc hb) w.heap.size 45 1 (.slice i.2.2.1 i.2.2.2.1 i.2.2.2.2.1) (offs 0 (ns.take i.1)) i.2.2.2.2.2) (fun i => ns.length - i.1) (0, 0, none, 0, 0, [])
      ⟨Nat.zero_le _, .inr rfl, RowOf.nil _ _ _ _ _⟩ ⟨rfl, rfl, rfl, rfl, rfl, trivial⟩ rfl rfl ?_
    rintro ⟨i, s, ao2, n2, cap2, Ko⟩ ⟨hi, hsi, hout⟩
    dsimp only at hi hsi hout ⊢
    refine JC.seq ?_
    refine JC.region ?_
    refine JL.val rfl rfl (R.lss_i rfl rfl) ?_
    refine JL.nil ?_
    refine JN.next ?_
    refine JC.seq ?_
    refine JC.condB rfl (fun c => ?_) (fun c => ?_)
    · have hlt' : i < ns.length := by have := of_decide_eq_true c; omega
      obtain ⟨y, hy, hN⟩ := hat i hlt'
      obtain ⟨b1, q1, cs1, hE1, hR1, hl1, hc1⟩ := IsSlice.elem hs hN
      obtain rfl : cs1 = [.int .i64 (y : Int)] := hR1
      have hsy := hstep i y hy
      have htot := htk (i + 1)
      have hsm : (ns.take (i + 1)).sum = (ns.take i).sum + y := by rw [hsy, List.sum_append]; simp
      obtain ⟨rem, hrem⟩ : ∃ rem, rem = ns.sum - (ns.take i).sum := ⟨_, rfl⟩
      rw [← hrem] at hsi ⊢
      have hyr : y ≤ rem := by omega
      have hcy : y = 0 ∨ s = (ns.take i).sum := by
        rcases hsi with h | h
        · left; omega
        · exact .inr h
      have hrem2 : ns.sum - (ns.take (i + 1)).sum = rem - y := by omega
      have e31 : Value.slice (some ⟨hb, s, none⟩) y y = sliced (some ⟨hb, s, none⟩) (0 : Int).toNat (y : Int).toNat (y : Int).toNat 1 := by
        unfold sliced
        simp only [Int.toNat_natCast, Int.toNat_zero, Nat.sub_zero, Option.map_some, Nat.zero_mul, add_lit, Nat.add_zero]
        split <;> rfl
      obtain ⟨s2, hs2, e36⟩ : ∃ s2, (rem - y = 0 ∨ s2 = (ns.take (i + 1)).sum) ∧ Value.slice (some ⟨hb, s2, none⟩) (rem - y) (rem - y) = sliced (some ⟨hb, s, none⟩) (y : Int).toNat (rem : Int).toNat (rem : Int).toNat 1 := by
        unfold sliced
        simp only [Int.toNat_natCast, Option.map_some, add_lit, Nat.mul_one]
        by_cases h : rem = y
        · exact ⟨s, .inl (by omega), by rw [if_pos h]⟩
        · refine ⟨s + y, .inr ?_, by rw [if_neg h]⟩
          rcases hsi with h' | h' <;> omega
      have hq : offs 0 (ns.take (i + 1)) = offs 0 (ns.take i) ++ [((ns.take i).sum, y)] := by rw [hsy, offs_append]; simp [offs]
      have hll : (offs 0 (ns.take i)).length + [((ns.take i).sum, y)].length ≤ LIM := by rw [offs_length, List.length_take]; simp only [List.length_cons, List.length_nil]; omega
      refine JC.skip ?_
      refine JN.next ?_
      refine JC.seq ?_
      refine JC.block ?_
      refine JC.seq ?_
      refine JC.region ?_
      refine JL.val rfl rfl (R.ix U72 S3 rfl rfl hE1) ?_
      refine JL.val rfl rfl (R.ldH S3 rfl (hc1 0 _ rfl)) ?_
      refine JL.val rfl rfl (R.assign rfl) ?_
      refine JL.nil ?_
      refine JN.next ?_
      refine JC.seq ?_
      refine JC.region ?_
      refine JL.val rfl rfl (R.move rfl) ?_
      refine JL.val rfl rfl (R.move rfl) ?_
      refine JL.val rfl rfl (R.move rfl) ?_
      refine JL.val rfl rfl (R.move rfl) ?_
      refine JL.val rfl rfl (R.slc (cap := rem) (a := 0) (b := (y : Int)) (c := (y : Int)) (m := List.replicate rem (0 : UInt8)) (R := RU8) (v' := .slice (some ⟨hb, s, none⟩) y y) U45 S5 rfl rfl ⟨_, rfl⟩ ⟨_, rfl⟩ ⟨Int.le_refl _, by omega, Int.le_refl _⟩ ⟨some ⟨hb, s, none⟩, by rw [List.length_replicate], by omega, e31⟩ (.inr (fun h => by cases h))) ?_
      refine JL.bslF (HF := fun _ _ => none) (R := RPc hb) (ls := [((ns.take i).sum, y)]) (vs := [.slice (some ⟨hb, s, none⟩) y y]) U22 I45 rfl rfl (⟨_, _, rfl, rfl, ⟨s, rfl, hcy⟩, rfl⟩) (RPc.one hb) rfl rfl rfl (by simp [maxLen]) rfl (fun v3 K3 h3 => ?_)
      obtain ⟨ao3, cap3, rfl⟩ := RowOf.val h3
      refine JL.appF (HF := fun _ _ => none) 1 U22 I45 rfl rfl hout rfl (SrcF.row 0 U22 rfl h3) hq hll rfl (Nat.le_refl _) rfl (fun v4 K4 h4 => ?_)
      obtain ⟨ao4, cap4, rfl⟩ := RowOf.val h4
      refine JL.val rfl rfl (R.assign rfl) ?_
      refine JL.nil ?_
      refine JN.next ?_
      refine JC.region ?_
      refine JL.val rfl rfl (R.move rfl) ?_
      refine JL.val rfl rfl (R.move rfl) ?_
      refine JL.val rfl rfl (R.slc (cap := rem) (a := (y : Int)) (b := (rem : Int)) (c := (rem : Int)) (m := List.replicate rem (0 : UInt8)) (R := RU8) (v' := .slice (some ⟨hb, s2, none⟩) (rem - y) (rem - y)) U45 S5 rfl ⟨_, rfl⟩ (by simp) ⟨some ⟨hb, s, none⟩, rem, rfl, rfl⟩ ⟨by omega, by omega, Int.le_refl _⟩ ⟨some ⟨hb, s, none⟩, by rw [List.length_replicate], by omega, e36⟩ (.inl rfl)) ?_
      refine JL.val rfl rfl (R.assign rfl) ?_
      refine JL.nil ?_
      refine JN.blkN ?_
      refine JN.next ?_
      refine JC.region ?_
      refine JL.val rfl rfl (R.inc rfl rfl (of_decide_eq_true c) (by omega)) ?_
      refine JL.val rfl rfl (R.move rfl) ?_
      refine JL.nil ?_
      refine JN.forget 0 ?_
      refine JN.again (i := (i, s, ao2, n2, cap2, Ko)) (i + 1, s2, ao4, _, cap4, K4) ⟨hlt', by dsimp only; rw [hrem2]; exact hs2, h4⟩ (by dsimp only; omega) ⟨rfl, rfl, rfl, by dsimp only; rw [hrem2]; rfl, rfl, trivial⟩ rfl rfl
    · have hge : i = ns.length := by have := of_decide_eq_false c; omega
      subst hge
      refine JC.exit ?_
      refine JN.passX ?_
      refine JN.passX ?_
      refine JN.exitSame ?_
      rw [List.take_length] at hout
      exact JN.cut ⟨_, _, _, _, rfl, rfl, rfl, hout⟩ ⟨rfl, trivial⟩ rfl rfl
  rintro _ _ _ ⟨ao2, n2, cap2, Ko, rfl, rfl, rfl, hout⟩
  refine JN.next ?_
  refine JC.ret ?_
  refine JN.outP (vs := [.slice ao2 n2 cap2]) (K := [Ko ++ [(hb, .cells (bvs (List.replicate ns.sum 0)).toArray 5 (0, 0))]]) (rst := []) (.inl rfl) rfl rfl (Res.tmp rfl rfl) (by simp) ?_
  have hflat : (ns.map fun n => List.replicate n (0 : UInt8)).flatten = List.replicate ns.sum 0 := by
    clear hat hstep htk hs hout hpn hns hpl hsum hlen
    induction ns with
    | nil => rfl
    | cons y r ih => rw [List.map_cons, List.flatten_cons, ih, List.sum_cons, List.replicate_append_replicate]
  have hlens : lens (ns.map fun n => List.replicate n (0 : UInt8)) = ns := by unfold lens; rw [List.map_map]; simp [Function.comp_def]
  refine ⟨ao2, n2, cap2, _, rfl, rfl, rfl, ⟨hb, Ko, ?_, Nat.zero_le _, ?_, ?_⟩, (fun p hp hm => by cases hm), trivial⟩
  · rw [hflat]
  · rw [hflat, List.length_replicate]; exact lim_max hsum
  · rw [hlens]; exact RowOf.weak (Nat.zero_le _) hout

set_option maxHeartbeats 1000000 in
theorem dev_New_ok (H : Heaplet) (r : Disk) (hx : dev_New = some r) :
    Does Try.prog 18 #[] [] H (fun u K' H' => ∃ ao0 : Option Addr, ∃ n0 : Nat, ∃ cap0 : Nat, ∃ K0 : Own, ∃ ao1 : Option Addr, ∃ n1 : Nat, u = .agg #[.slice ao0 n0 cap0, .slice ao1 n1 n1] ∧ K' = [K0] ∧ Pcs 0 5 45 (.slice ao0 n0 cap0) r.Blocks K0 ∧ (∀ p ∈ K0, p.1 ∉ ids (List.flatten [])) ∧ IsSlice (New H H') R_Write 2 (.slice ao1 n1 n1) r.Waits ∧ True) := by
  refine Does.enterL (vs := []) (l := []) Try.func18 rfl rfl trivial (fun w hlt => ?_)
  rw [dev_New.eq_1] at hx
  refine JC.seq ?_
  refine JC.region ?_
  refine JL.alloc Z25 rfl (fun b_1 hb_1 => ?_)
  refine JL.nil ?_
  refine JN.next ?_
  refine JC.seq ?_
  refine JC.region ?_
  refine JL.bslF (HF := (New H H)) (R := RInt) (ls := [256]) (vs := [.int .i64 256]) U72 I3 rfl rfl (⟨_, _, rfl, rfl, rfl, rfl⟩) RInt.one rfl rfl rfl (by simp [maxLen]) rfl (fun vr_2 Kr_2 hr_2 => ?_)
  obtain ⟨aor_2, capr_2, rfl⟩ := RowOf.val hr_2
  obtain ⟨x_6, hr_7, hx⟩ := bnd_some hx
  refine JL.callL3 (vs := [_, _]) E37 rfl rfl (fun H_5 hle_4 hl_3 => slices_Repeat_int_ok ([256]) 256 _ (Lent.row' 0 hl_3 RInt.mono hle_4 rfl (hr_2.old RInt.mono)) _ hr_7) rfl (fun _ _ _ _ hR_9 hf_10 => ?_)
  obtain ⟨aor_8, nr_8, capr_8, Kr_8, rfl, rfl, rfl, hr_8, -, -⟩ := hR_9
  replace hr_8 := RowOf.base (RowOf.const (H2 := New H H) RInt.const hr_8) (fun p hp => hf_10 p (mem_seg 0 rfl hp))
  refine JL.pubN 0 RInt.mono rfl hr_8 (Nat.le_refl _) (fun H_11 hleH_11 hsH_11 => ?_)
  refine JL.forget 0 ?_
  obtain ⟨x_12, hr_13, hx⟩ := bnd_some hx
  refine JL.callC (vs := [_]) (args := [_]) (K := []) (rst := [_, _]) E36 rfl rfl rfl picks0 (dev_cut_ok x_6 _ (hsH_11.old RInt.mono) _ hr_13) rfl (fun u_14 Ku_14 Hu_14 hRu_14 hleu_14 hfu_14 => ?_)
  obtain ⟨aor_15, nr_15, capr_15, Kr_15, rfl, rfl, rfl, hr_15, hnewr_15, -⟩ := hRu_14
  replace hr_15 := (Pcs.base hr_15 (fun p hp => (hfu_14 p (mem_seg 0 rfl hp)).resolve_left (hnewr_15 p hp)))
  refine JL.val rfl rfl (R.bldP (vs := [(0, .slice aor_15 nr_15 capr_15)]) (cs := [.slice aor_15 nr_15 capr_15, .slice none 0 0]) Z25 B25 rfl rfl rfl) ?_
  refine JL.store 2 S25 rfl rfl rfl rfl rfl (Nat.le_of_ble_eq_true rfl) ?_
  refine JL.nil ?_
  refine JN.next ?_
  refine JC.ret ?_
  refine JN.outP (vs := [.agg #[.slice aor_15 nr_15 capr_15, .slice none 0 0]]) (K := [_]) (rst := [_, _]) (.inl rfl) rfl rfl (Res.cellN 2 rfl rfl S25 rfl) (picks 0 rfl picks0) ?_
  obtain rfl := Option.some.inj hx
  exact ⟨aor_15, nr_15, capr_15, Kr_15, none, 0, rfl, rfl, (Pcs.weak (Nat.zero_le _) hr_15), (newP_ids hr_15 hlt), (IsSlice.nil _ _ _), trivial⟩

set_option maxHeartbeats 1000000 in
theorem law11_one_ok (p_1 : UInt32) (H : Heaplet) (r : Label) (hx : law11_one p_1 = some r) :
    Does Try.prog 19 #[.int .u32 (p_1.toNat : Int)] [] H (fun u K' H' => u = .agg #[.int .u32 (r.Gen.toNat : Int), .int .u32 (r.Epoch.toNat : Int), .int .i64 r.Root.At, .int .u32 (r.Root.Birth.toNat : Int), .int .u32 (r.Root.Iv.toNat : Int), .int .u32 (r.Root.Tag.toNat : Int), .int .u32 (r.Root.Sum.toNat : Int)] ∧ K' = [] ∧ H = H' ∧ True) := by
  refine Does.enterL (vs := [.int .u32 (p_1.toNat : Int)]) (l := [(0, .int .u32 (p_1.toNat : Int))]) Try.func19 rfl rfl ⟨rfl, trivial⟩ (fun w hlt => ?_)
  rw [law11_one.eq_1] at hx
  refine JC.seq ?_
  refine JC.region ?_
  refine JL.alloc Z30 rfl (fun b_2 hb_2 => ?_)
  refine JL.nil ?_
  refine JN.next ?_
  refine JC.seq ?_
  refine JC.region ?_
  refine JL.val rfl rfl (R.move rfl) ?_
  refine JL.val rfl rfl (R.bldP (vs := [(0, .int .i64 20), (1, .int .u32 ((1 : UInt32).toNat : Int))]) (cs := [.int .i64 20, .int .u32 ((1 : UInt32).toNat : Int), .int .u32 ((0 : UInt32).toNat : Int), .int .u32 ((0 : UInt32).toNat : Int), .int .u32 ((0 : UInt32).toNat : Int)]) Z28 B28 rfl rfl rfl) ?_
  refine JL.val rfl rfl (R.bldP (vs := [(0, .int .u32 (p_1.toNat : Int)), (1, .int .u32 ((1 : UInt32).toNat : Int)), (2, .agg #[.int .i64 20, .int .u32 ((1 : UInt32).toNat : Int), .int .u32 ((0 : UInt32).toNat : Int), .int .u32 ((0 : UInt32).toNat : Int), .int .u32 ((0 : UInt32).toNat : Int)])]) (cs := [.int .u32 (p_1.toNat : Int), .int .u32 ((1 : UInt32).toNat : Int), .int .i64 20, .int .u32 ((1 : UInt32).toNat : Int), .int .u32 ((0 : UInt32).toNat : Int), .int .u32 ((0 : UInt32).toNat : Int), .int .u32 ((0 : UInt32).toNat : Int)]) Z30 B30 rfl rfl rfl) ?_
  refine JL.store 0 S30 rfl rfl rfl rfl rfl (Nat.le_of_ble_eq_true rfl) ?_
  refine JL.nil ?_
  refine JN.next ?_
  refine JC.ret ?_
  refine JN.outP (vs := [.agg #[.int .u32 (p_1.toNat : Int), .int .u32 ((1 : UInt32).toNat : Int), .int .i64 20, .int .u32 ((1 : UInt32).toNat : Int), .int .u32 ((0 : UInt32).toNat : Int), .int .u32 ((0 : UInt32).toNat : Int), .int .u32 ((0 : UInt32).toNat : Int)]]) (K := []) (rst := [_]) (.inl rfl) rfl rfl (Res.cellN 0 rfl rfl S30 rfl) picks0 ?_
  obtain rfl := Option.some.inj hx
  exact ⟨rfl, rfl, rfl, trivial⟩

set_option maxHeartbeats 1000000 in
theorem dev_place_ok (p_1 : Int) (H : Heaplet) (r : Bool) (hx : dev_place p_1 = some r) :
    Does Try.prog 39 #[.int .i64 p_1] [] H (fun u K' H' => u = .bool r ∧ K' = [] ∧ H = H' ∧ True) := by
  refine Does.enterL (vs := [.int .i64 p_1]) (l := [(0, .int .i64 p_1)]) Try.func39 rfl rfl ⟨rfl, trivial⟩ (fun w hlt => ?_)
  rw [dev_place.eq_1] at hx
  refine JC.seq ?_
  refine JC.region ?_
  refine JL.val rfl rfl (R.assign rfl) ?_
  refine JL.nil ?_
  refine JN.next ?_
  refine JC.seq ?_
  refine JC.region ?_
  refine JL.val rfl rfl (R.move rfl) ?_
  refine JL.val rfl rfl (R.cv_i64_u64 U3 U90 rfl) ?_
  refine JL.val rfl rfl (R.lss64 (a := u64i p_1) (b := (256 : UInt64)) rfl rfl) ?_
  refine JL.val rfl rfl (R.assign rfl) ?_
  refine JL.nil ?_
  refine JN.next ?_
  refine JC.ret ?_
  refine JN.outP (vs := [.bool (decide ((u64i p_1) < (256 : UInt64)))]) (K := []) (rst := []) (.inl rfl) rfl rfl (Res.tmp rfl rfl) picks0 ?_
  obtain rfl := Option.some.inj hx
  exact ⟨rfl, rfl, rfl, trivial⟩

set_option maxHeartbeats 1000000 in
theorem dev_Check_ok (p_1 : Disk) (H : Heaplet) {aoa_2 : Option Addr} {na_2 : Nat} {capa_2 : Nat} {aoa_3 : Option Addr} {na_3 : Nat} {capa_3 : Nat} (ha_2 : IsSlice H (RSl RU8 1) 1 (.slice aoa_2 na_2 capa_2) p_1.Blocks) (ha_3 : IsSlice H R_Write 2 (.slice aoa_3 na_3 capa_3) p_1.Waits) (r : Int) (hx : dev_Check p_1 = some r) :
    Does Try.prog 24 #[.agg #[.slice aoa_2 na_2 capa_2, .slice aoa_3 na_3 capa_3]] [] H (fun u K' H' => u = .int .i64 r ∧ K' = [] ∧ H = H' ∧ True) := by
  refine Does.enterL (vs := [.agg #[.slice aoa_2 na_2 capa_2, .slice aoa_3 na_3 capa_3]]) (l := [(0, .agg #[.slice aoa_2 na_2 capa_2, .slice aoa_3 na_3 capa_3])]) Try.func24 rfl rfl ⟨rfl, trivial⟩ (fun w hlt => ?_)
  rw [dev_Check.eq_1] at hx
  refine JC.seq ?_
  refine JC.region ?_
  refine JL.box rfl rfl (fun b_4 hb_4 => ?_)
  refine JL.val rfl rfl (R.assign rfl) ?_
  refine JL.nil ?_
  refine JN.next ?_
  refine JC.seq ?_
  obtain ⟨t_5, ht_7, hx⟩ := bnd_some hx
  refine JC.cut (fun l o g => l = [(1, .pointer (some ⟨b_4, 0, none⟩)), (3, .bool t_5)] ∧ o = [[(b_4, .cells #[.slice aoa_2 na_2 capa_2, .slice aoa_3 na_3 capa_3] 25 (0, 0))]] ∧ H = g) ?_ ?_
  · rintro _ _ _ ⟨rfl, rfl, rfl⟩
    refine JN.next ?_
    refine JC.seq ?_
    refine JC.seq ?_
    refine JC.region ?_
    refine JL.val rfl rfl (R.fa F25_0 rfl) ?_
    refine JL.val rfl rfl (R.ldo 0 S22 rfl rfl rfl) ?_
    refine JL.val rfl rfl (R.lenL U22 rfl (IsSlice.long ha_2)) ?_
    refine JL.val rfl rfl (R.move rfl) ?_
    refine JL.nil ?_
    refine JN.next ?_
    obtain ⟨t_9, ht_11, hx⟩ := bnd_some hx
    refine JC.cut (fun l o g => l = [(1, .pointer (some ⟨b_4, 0, none⟩)), (3, .bool t_9)] ∧ o = [[(b_4, .cells #[.slice aoa_2 na_2 capa_2, .slice aoa_3 na_3 capa_3] 25 (0, 0))]] ∧ H = g) ?_ ?_
    · rintro _ _ _ ⟨rfl, rfl, rfl⟩
      refine JN.next ?_
      refine JC.seq ?_
      refine JC.seq ?_
      refine JC.region ?_
      refine JL.val rfl rfl (R.fa F25_1 rfl) ?_
      refine JL.val rfl rfl (R.ldo 0 S23 rfl rfl rfl) ?_
      refine JL.val rfl rfl (R.lenL U23 rfl (IsSlice.long ha_3)) ?_
      refine JL.val rfl rfl (R.move rfl) ?_
      refine JL.nil ?_
      refine JN.next ?_
      obtain ⟨t_15, ht_17, hx⟩ := bnd_some hx
      refine JC.cut (fun l o g => l = [(3, .bool t_15)] ∧ o = [] ∧ H = g) ?_ ?_
      · rintro _ _ _ ⟨rfl, rfl, rfl⟩
        refine JN.next ?_
        refine JC.seq ?_
        refine JC.seq ?_
        refine JC.region ?_
        refine JL.val rfl rfl (R.move rfl) ?_
        refine JL.nil ?_
        refine JN.next ?_
        refine JC.condB rfl (fun c_21 => ?_) (fun c_21 => ?_)
        · replace hx := cond_t c_21 hx
          refine JC.seq ?_
          refine JC.region ?_
          refine JL.val rfl rfl (R.assign rfl) ?_
          refine JL.nil ?_
          refine JN.next ?_
          refine JC.ret ?_
          refine JN.passR ?_
          refine JN.outP (vs := [.int .i64 0]) (K := []) (rst := []) (.inl rfl) rfl rfl (Res.tmp rfl rfl) picks0 ?_
          obtain rfl := Option.some.inj hx
          exact ⟨rfl, rfl, rfl, trivial⟩
        · replace hx := cond_f c_21 hx
          refine JC.skip ?_
          refine JN.next ?_
          refine JC.seq ?_
          refine JC.region ?_
          refine JL.val rfl rfl (R.assign rfl) ?_
          refine JL.nil ?_
          refine JN.next ?_
          refine JC.ret ?_
          refine JN.outP (vs := [.int .i64 8]) (K := []) (rst := []) (.inl rfl) rfl rfl (Res.tmp rfl rfl) picks0 ?_
          obtain rfl := Option.some.inj hx
          exact ⟨rfl, rfl, rfl, trivial⟩
      · have hxo_16 := hx; clear hx; have hx := ht_17; clear ht_17
        refine JC.block ?_
        refine JC.forget 0 ?_
        refine JC.loopI (fun n l o g => ∃ s_18 : Bool × Nat, l = [(3, .bool s_18.1), (33, .slice aoa_3 na_3 capa_3), (34, .int .i64 (p_1.Waits.length : Int)), (35, .int .i64 ((s_18.2 : Nat) : Int))] ∧ o = [] ∧ H = g ∧ run (dev_Check_l2 p_1) n s_18 = some t_15) FUEL ?_ ⟨(t_9, 0), rfl, rfl, rfl, hx⟩ ⟨rfl, rfl, rfl, rfl, trivial⟩ ?_
        · rintro _ _ _ ⟨s_18, rfl, rfl, rfl, hn_19⟩
          exact run_zero hn_19
        · rintro n_20 _ _ _ ⟨s_18, rfl, rfl, rfl, hn_19⟩
          clear hx; obtain ⟨oo_22, hx, hd_21⟩ := run_some hn_19
          rw [dev_Check_l2.eq_1] at hx
          refine JC.seq ?_
          refine JC.region ?_
          refine JL.val rfl rfl (R.lss_i rfl rfl) ?_
          refine JL.nil ?_
          refine JN.next ?_
          refine JC.seq ?_
          refine JC.condB rfl (fun c_21 => ?_) (fun c_21 => ?_)
          · replace hx := cond_t c_21 hx
            refine JC.skip ?_
            refine JN.next ?_
            refine JC.seq ?_
            refine JC.block ?_
            refine JC.seq ?_
            refine JC.region ?_
            obtain ⟨y_22, hN_23, hx⟩ := idx_some hx
            obtain ⟨b_24, o_25, cs_26, hE_27, hR_28, hl_29, hc_30⟩ := IsSlice.elem ha_3 hN_23
            obtain ⟨v_31, rfl, hs_32⟩ := hR_28
            obtain ⟨aov_31, capv_31, rfl⟩ := IsSlice.val hs_32
            refine JL.val rfl rfl (R.ix U23 S47 rfl rfl hE_27) ?_
            refine JL.val rfl rfl (R.ldHE (cs := [.int .i64 y_22.At, .slice aov_31 y_22.Data.length capv_31]) (k := 0) (vs := [.int .i64 y_22.At, .slice aov_31 y_22.Data.length capv_31]) S47 rfl hc_30 rfl rfl) ?_
            refine JL.alloc Z47 rfl (fun b_33 hb_33 => ?_)
            refine JL.store 0 S47 rfl rfl rfl rfl rfl (Nat.le_of_ble_eq_true rfl) ?_
            refine JL.nil ?_
            refine JN.next ?_
            refine JC.region ?_
            refine JL.val rfl rfl (R.move rfl) ?_
            refine JL.val rfl rfl (R.move rfl) ?_
            refine JL.gSplit (t := 40) rfl (fun c_34 => ?_) (fun c_34 => ?_)
            · replace hx := cond_t c_34 hx
              refine JL.gYes rfl rfl rfl ?_
              refine JL.val rfl rfl (R.fa F47_0 rfl) ?_
              refine JL.gYes rfl rfl rfl ?_
              refine JL.val rfl rfl (R.ldo 0 S3 rfl rfl rfl) ?_
              refine JL.gYes rfl rfl rfl ?_
              obtain ⟨x_35, hr_36, hx⟩ := bnd_some hx
              refine JL.callC (vs := [_]) (args := [_]) (K := []) (rst := [_]) E39 rfl rfl rfl picks0 (dev_place_ok y_22.At _ _ hr_36) rfl (fun u_37 Ku_37 Hu_37 hRu_37 hleu_37 hfu_37 => ?_)
              obtain ⟨rfl, rfl, rfl, -⟩ := hRu_37
              refine JL.val rfl rfl (R.pickT rfl rfl) ?_
              refine JL.val rfl rfl (R.move rfl) ?_
              refine JL.gSplit (t := 45) rfl (fun c_38 => ?_) (fun c_38 => ?_)
              · replace hx := cond_t c_38 hx
                refine JL.gYes rfl rfl rfl ?_
                refine JL.val rfl rfl (R.fa F47_1 rfl) ?_
                refine JL.gYes rfl rfl rfl ?_
                refine JL.val rfl rfl (R.ldo 0 S45 rfl rfl rfl) ?_
                refine JL.gYes rfl rfl rfl ?_
                refine JL.val rfl rfl (R.lenL U45 rfl (IsSlice.long hs_32)) ?_
                refine JL.gYes rfl rfl rfl ?_
                refine JL.val rfl rfl (R.eql_i rfl rfl) ?_
                refine JL.val rfl rfl (R.pickT rfl rfl) ?_
                refine JL.val rfl rfl (R.assign rfl) ?_
                refine JL.nil ?_
                refine JN.blkN ?_
                refine JN.next ?_
                refine JC.region ?_
                refine JL.val rfl rfl (R.inc rfl rfl (of_decide_eq_true c_21) (IsSlice.lenI ha_3)) ?_
                refine JL.val rfl rfl (R.move rfl) ?_
                refine JL.nil ?_
                replace hx := run_next hd_21 hx
                refine JN.forget 0 ?_
                exact JN.cut ⟨(decide ((y_22.Data.length : Int) = 256), s_18.2 + 1), rfl, rfl, rfl, hx⟩ ⟨rfl, rfl, rfl, rfl, trivial⟩ rfl rfl
              · replace hx := cond_f c_38 hx
                refine JL.gNo rfl rfl rfl rfl rfl ?_
                refine JL.gNo rfl rfl rfl rfl rfl ?_
                refine JL.gNo rfl rfl rfl rfl rfl ?_
                refine JL.gNo rfl rfl rfl rfl rfl ?_
                refine JL.val rfl rfl (R.pickF rfl rfl) ?_
                refine JL.val rfl rfl (R.assign rfl) ?_
                refine JL.nil ?_
                refine JN.blkN ?_
                refine JN.next ?_
                refine JC.region ?_
                refine JL.val rfl rfl (R.inc rfl rfl (of_decide_eq_true c_21) (IsSlice.lenI ha_3)) ?_
                refine JL.val rfl rfl (R.move rfl) ?_
                refine JL.nil ?_
                replace hx := run_next hd_21 hx
                refine JN.forget 0 ?_
                exact JN.cut ⟨(false, s_18.2 + 1), rfl, rfl, rfl, hx⟩ ⟨rfl, rfl, rfl, rfl, trivial⟩ rfl rfl
            · replace hx := cond_f c_34 hx
              refine JL.gNo rfl rfl rfl rfl rfl ?_
              refine JL.gNo rfl rfl rfl rfl rfl ?_
              refine JL.gNo rfl rfl rfl rfl rfl ?_
              refine JL.val rfl rfl (R.pickF rfl rfl) ?_
              refine JL.val rfl rfl (R.move rfl) ?_
              refine JL.gNo rfl rfl rfl rfl rfl ?_
              refine JL.gNo rfl rfl rfl rfl rfl ?_
              refine JL.gNo rfl rfl rfl rfl rfl ?_
              refine JL.gNo rfl rfl rfl rfl rfl ?_
              refine JL.val rfl rfl (R.pickF rfl rfl) ?_
              refine JL.val rfl rfl (R.assign rfl) ?_
              refine JL.nil ?_
              refine JN.blkN ?_
              refine JN.next ?_
              refine JC.region ?_
              refine JL.val rfl rfl (R.inc rfl rfl (of_decide_eq_true c_21) (IsSlice.lenI ha_3)) ?_
              refine JL.val rfl rfl (R.move rfl) ?_
              refine JL.nil ?_
              replace hx := run_next hd_21 hx
              refine JN.forget 0 ?_
              exact JN.cut ⟨(false, s_18.2 + 1), rfl, rfl, rfl, hx⟩ ⟨rfl, rfl, rfl, rfl, trivial⟩ rfl rfl
          · replace hx := cond_f c_21 hx
            refine JC.exit ?_
            refine JN.passX ?_
            obtain rfl := run_done hd_21 hx
            refine JN.passX ?_
            refine JN.exitSame ?_
            exact JN.cut ⟨rfl, rfl, rfl⟩ ⟨rfl, trivial⟩ rfl rfl
    · have hxo_10 := hx; clear hx; have hx := ht_11; clear ht_11
      refine JC.block ?_
      refine JC.loopI (fun n l o g => ∃ s_12 : Bool × Nat, l = [(1, .pointer (some ⟨b_4, 0, none⟩)), (3, .bool s_12.1), (19, .slice aoa_2 na_2 capa_2), (20, .int .i64 (p_1.Blocks.length : Int)), (21, .int .i64 ((s_12.2 : Nat) : Int))] ∧ o = [[(b_4, .cells #[.slice aoa_2 na_2 capa_2, .slice aoa_3 na_3 capa_3] 25 (0, 0))]] ∧ H = g ∧ run (dev_Check_l1 p_1) n s_12 = some t_9) FUEL ?_ ⟨(t_5, 0), rfl, rfl, rfl, hx⟩ ⟨rfl, rfl, rfl, rfl, rfl, trivial⟩ ?_
      · rintro _ _ _ ⟨s_12, rfl, rfl, rfl, hn_13⟩
        exact run_zero hn_13
      · rintro n_14 _ _ _ ⟨s_12, rfl, rfl, rfl, hn_13⟩
        clear hx; obtain ⟨oo_16, hx, hd_15⟩ := run_some hn_13
        rw [dev_Check_l1.eq_1] at hx
        refine JC.seq ?_
        refine JC.region ?_
        refine JL.val rfl rfl (R.lss_i rfl rfl) ?_
        refine JL.nil ?_
        refine JN.next ?_
        refine JC.seq ?_
        refine JC.condB rfl (fun c_15 => ?_) (fun c_15 => ?_)
        · replace hx := cond_t c_15 hx
          refine JC.skip ?_
          refine JN.next ?_
          refine JC.seq ?_
          refine JC.block ?_
          refine JC.seq ?_
          refine JC.region ?_
          obtain ⟨y_16, hN_17, hx⟩ := idx_some hx
          obtain ⟨b_18, o_19, cs_20, hE_21, hR_22, hl_23, hc_24⟩ := IsSlice.elem ha_2 hN_17
          obtain ⟨v_25, rfl, hs_26⟩ := hR_22
          obtain ⟨aov_25, capv_25, rfl⟩ := IsSlice.val hs_26
          refine JL.val rfl rfl (R.ix U22 S45 rfl rfl hE_21) ?_
          refine JL.val rfl rfl (R.ldH S45 rfl (hc_24 0 _ rfl)) ?_
          refine JL.val rfl rfl (R.assign rfl) ?_
          refine JL.nil ?_
          refine JN.next ?_
          refine JC.region ?_
          refine JL.val rfl rfl (R.move rfl) ?_
          refine JL.val rfl rfl (R.move rfl) ?_
          refine JL.gSplit (t := 26) rfl (fun c_27 => ?_) (fun c_27 => ?_)
          · replace hx := cond_t c_27 hx
            refine JL.gYes rfl rfl rfl ?_
            refine JL.val rfl rfl (R.move rfl) ?_
            refine JL.gYes rfl rfl rfl ?_
            refine JL.val rfl rfl (R.lenL U45 rfl (IsSlice.long hs_26)) ?_
            refine JL.gYes rfl rfl rfl ?_
            refine JL.val rfl rfl (R.eql_i rfl rfl) ?_
            refine JL.val rfl rfl (R.pickT rfl rfl) ?_
            refine JL.val rfl rfl (R.assign rfl) ?_
            refine JL.nil ?_
            refine JN.blkN ?_
            refine JN.next ?_
            refine JC.region ?_
            refine JL.val rfl rfl (R.inc rfl rfl (of_decide_eq_true c_15) (IsSlice.lenI ha_2)) ?_
            refine JL.val rfl rfl (R.move rfl) ?_
            refine JL.nil ?_
            replace hx := run_next hd_15 hx
            exact JN.cut ⟨(decide ((y_16.length : Int) = 256), s_12.2 + 1), rfl, rfl, rfl, hx⟩ ⟨rfl, rfl, rfl, rfl, rfl, trivial⟩ rfl rfl
          · replace hx := cond_f c_27 hx
            refine JL.gNo rfl rfl rfl rfl rfl ?_
            refine JL.gNo rfl rfl rfl rfl rfl ?_
            refine JL.gNo rfl rfl rfl rfl rfl ?_
            refine JL.val rfl rfl (R.pickF rfl rfl) ?_
            refine JL.val rfl rfl (R.assign rfl) ?_
            refine JL.nil ?_
            refine JN.blkN ?_
            refine JN.next ?_
            refine JC.region ?_
            refine JL.val rfl rfl (R.inc rfl rfl (of_decide_eq_true c_15) (IsSlice.lenI ha_2)) ?_
            refine JL.val rfl rfl (R.move rfl) ?_
            refine JL.nil ?_
            replace hx := run_next hd_15 hx
            exact JN.cut ⟨(false, s_12.2 + 1), rfl, rfl, rfl, hx⟩ ⟨rfl, rfl, rfl, rfl, rfl, trivial⟩ rfl rfl
        · replace hx := cond_f c_15 hx
          refine JC.exit ?_
          refine JN.passX ?_
          obtain rfl := run_done hd_15 hx
          refine JN.passX ?_
          refine JN.exitSame ?_
          exact JN.cut ⟨rfl, rfl, rfl⟩ ⟨rfl, rfl, trivial⟩ rfl rfl
  · have hxo_6 := hx; clear hx; have hx := ht_7; clear ht_7
    refine JC.region ?_
    refine JL.val rfl rfl (R.fa F25_0 rfl) ?_
    refine JL.val rfl rfl (R.ldo 0 S22 rfl rfl rfl) ?_
    refine JL.val rfl rfl (R.lenL U22 rfl (IsSlice.long ha_2)) ?_
    refine JL.val rfl rfl (R.eql_i rfl rfl) ?_
    refine JL.val rfl rfl (R.move rfl) ?_
    refine JL.gSplit (t := 12) rfl (fun c_8 => ?_) (fun c_8 => ?_)
    · replace hx := cond_t c_8 hx
      refine JL.gYes rfl rfl rfl ?_
      refine JL.val rfl rfl (R.fa F25_1 rfl) ?_
      refine JL.gYes rfl rfl rfl ?_
      refine JL.val rfl rfl (R.ldo 0 S23 rfl rfl rfl) ?_
      refine JL.gYes rfl rfl rfl ?_
      refine JL.val rfl rfl (R.lenL U23 rfl (IsSlice.long ha_3)) ?_
      refine JL.gYes rfl rfl rfl ?_
      refine JL.val rfl rfl (R.leq_i rfl rfl) ?_
      refine JL.val rfl rfl (R.pickT rfl rfl) ?_
      refine JL.val rfl rfl (R.assign rfl) ?_
      refine JL.nil ?_
      obtain rfl := Option.some.inj hx
      exact JN.cut ⟨rfl, rfl, rfl⟩ ⟨rfl, rfl, trivial⟩ rfl rfl
    · replace hx := cond_f c_8 hx
      refine JL.gNo rfl rfl rfl rfl rfl ?_
      refine JL.gNo rfl rfl rfl rfl rfl ?_
      refine JL.gNo rfl rfl rfl rfl rfl ?_
      refine JL.gNo rfl rfl rfl rfl rfl ?_
      refine JL.val rfl rfl (R.pickF rfl rfl) ?_
      refine JL.val rfl rfl (R.assign rfl) ?_
      refine JL.nil ?_
      obtain rfl := Option.some.inj hx
      exact JN.cut ⟨rfl, rfl, rfl⟩ ⟨rfl, rfl, trivial⟩ rfl rfl

set_option maxHeartbeats 1000000 in
theorem ptr_Check_ok (p_1 : Ptr) (H : Heaplet) (r : Int) (hx : ptr_Check p_1 = some r) :
    Does Try.prog 20 #[.agg #[.int .i64 p_1.At, .int .u32 (p_1.Birth.toNat : Int), .int .u32 (p_1.Iv.toNat : Int), .int .u32 (p_1.Tag.toNat : Int), .int .u32 (p_1.Sum.toNat : Int)]] [] H (fun u K' H' => u = .int .i64 r ∧ K' = [] ∧ H = H' ∧ True) := by
  refine Does.enterL (vs := [.agg #[.int .i64 p_1.At, .int .u32 (p_1.Birth.toNat : Int), .int .u32 (p_1.Iv.toNat : Int), .int .u32 (p_1.Tag.toNat : Int), .int .u32 (p_1.Sum.toNat : Int)]]) (l := [(0, .agg #[.int .i64 p_1.At, .int .u32 (p_1.Birth.toNat : Int), .int .u32 (p_1.Iv.toNat : Int), .int .u32 (p_1.Tag.toNat : Int), .int .u32 (p_1.Sum.toNat : Int)])]) Try.func20 rfl rfl ⟨rfl, trivial⟩ (fun w hlt => ?_)
  rw [ptr_Check.eq_1] at hx
  refine JC.seq ?_
  refine JC.region ?_
  refine JL.box rfl rfl (fun b_2 hb_2 => ?_)
  refine JL.val rfl rfl (R.assign rfl) ?_
  refine JL.nil ?_
  refine JN.next ?_
  refine JC.seq ?_
  refine JC.seq ?_
  refine JC.region ?_
  refine JL.val rfl rfl (R.ldoN 0 (vs := [.int .i64 p_1.At, .int .u32 (p_1.Birth.toNat : Int), .int .u32 (p_1.Iv.toNat : Int), .int .u32 (p_1.Tag.toNat : Int), .int .u32 (p_1.Sum.toNat : Int)]) S28 rfl rfl rfl rfl) ?_
  refine JL.val rfl rfl (R.bldP (vs := []) (cs := [.int .i64 0, .int .u32 ((0 : UInt32).toNat : Int), .int .u32 ((0 : UInt32).toNat : Int), .int .u32 ((0 : UInt32).toNat : Int), .int .u32 ((0 : UInt32).toNat : Int)]) Z28 B28 rfl rfl rfl) ?_
  refine JL.val rfl rfl (R.eqlAgg QU28 QP28 QG28 QF28 rfl rfl (EqF.i (by decide) S3 U3 rfl rfl (EqF.u32 (a := p_1.Birth) (b := (0 : UInt32)) (by decide) S26 U26 rfl rfl (EqF.u32 (a := p_1.Iv) (b := (0 : UInt32)) (by decide) S26 U26 rfl rfl (EqF.u32 (a := p_1.Tag) (b := (0 : UInt32)) (by decide) S26 U26 rfl rfl (EqF.u32 (a := p_1.Sum) (b := (0 : UInt32)) (by decide) S26 U26 rfl rfl EqF.nil)))))) ?_
  refine JL.nil ?_
  refine JN.next ?_
  refine JC.condB rfl (fun c_3 => ?_) (fun c_3 => ?_)
  · replace hx := cond_t c_3 hx
    refine JC.seq ?_
    refine JC.region ?_
    refine JL.val rfl rfl (R.assign rfl) ?_
    refine JL.nil ?_
    refine JN.next ?_
    refine JC.ret ?_
    refine JN.passR ?_
    refine JN.outP (vs := [.int .i64 0]) (K := []) (rst := [_]) (.inl rfl) rfl rfl (Res.tmp rfl rfl) picks0 ?_
    obtain rfl := Option.some.inj hx
    exact ⟨rfl, rfl, rfl, trivial⟩
  · replace hx := cond_f c_3 hx
    refine JC.skip ?_
    refine JN.next ?_
    refine JC.seq ?_
    refine JC.seq ?_
    refine JC.region ?_
    refine JL.val rfl rfl (R.fa F28_0 rfl) ?_
    refine JL.val rfl rfl (R.ldo 0 S3 rfl rfl rfl) ?_
    refine JL.val rfl rfl (R.lss_i rfl rfl) ?_
    refine JL.val rfl rfl (R.move rfl) ?_
    refine JL.gSplit (t := 9) rfl (fun c_4 => ?_) (fun c_4 => ?_)
    · replace hx := cond_t c_4 hx
      refine JL.gNo rfl rfl rfl rfl rfl ?_
      refine JL.gNo rfl rfl rfl rfl rfl ?_
      refine JL.gNo rfl rfl rfl rfl rfl ?_
      refine JL.val rfl rfl (R.pickT rfl rfl) ?_
      refine JL.val rfl rfl (R.move rfl) ?_
      refine JL.gNo rfl rfl rfl rfl rfl ?_
      refine JL.gNo rfl rfl rfl rfl rfl ?_
      refine JL.gNo rfl rfl rfl rfl rfl ?_
      refine JL.val rfl rfl (R.pickT rfl rfl) ?_
      refine JL.val rfl rfl (R.move rfl) ?_
      refine JL.gNo rfl rfl rfl rfl rfl ?_
      refine JL.gNo rfl rfl rfl rfl rfl ?_
      refine JL.gNo rfl rfl rfl rfl rfl ?_
      refine JL.val rfl rfl (R.pickT rfl rfl) ?_
      refine JL.nil ?_
      refine JN.next ?_
      refine JC.condT rfl ?_
      refine JC.seq ?_
      refine JC.region ?_
      refine JL.val rfl rfl (R.assign rfl) ?_
      refine JL.nil ?_
      refine JN.next ?_
      refine JC.ret ?_
      refine JN.passR ?_
      refine JN.outP (vs := [.int .i64 8]) (K := []) (rst := [_]) (.inl rfl) rfl rfl (Res.tmp rfl rfl) picks0 ?_
      obtain rfl := Option.some.inj hx
      exact ⟨rfl, rfl, rfl, trivial⟩
    · replace hx := cond_f c_4 hx
      refine JL.gYes rfl rfl rfl ?_
      refine JL.val rfl rfl (R.fa F28_0 rfl) ?_
      refine JL.gYes rfl rfl rfl ?_
      refine JL.val rfl rfl (R.ldo 0 S3 rfl rfl rfl) ?_
      refine JL.gYes rfl rfl rfl ?_
      refine JL.val rfl rfl (R.geq_i rfl rfl) ?_
      refine JL.val rfl rfl (R.pickF rfl rfl) ?_
      refine JL.val rfl rfl (R.move rfl) ?_
      refine JL.gSplit (t := 14) rfl (fun c_5 => ?_) (fun c_5 => ?_)
      · replace hx := cond_t c_5 hx
        refine JL.gNo rfl rfl rfl rfl rfl ?_
        refine JL.gNo rfl rfl rfl rfl rfl ?_
        refine JL.gNo rfl rfl rfl rfl rfl ?_
        refine JL.val rfl rfl (R.pickT rfl rfl) ?_
        refine JL.val rfl rfl (R.move rfl) ?_
        refine JL.gNo rfl rfl rfl rfl rfl ?_
        refine JL.gNo rfl rfl rfl rfl rfl ?_
        refine JL.gNo rfl rfl rfl rfl rfl ?_
        refine JL.val rfl rfl (R.pickT rfl rfl) ?_
        refine JL.nil ?_
        refine JN.next ?_
        refine JC.condT rfl ?_
        refine JC.seq ?_
        refine JC.region ?_
        refine JL.val rfl rfl (R.assign rfl) ?_
        refine JL.nil ?_
        refine JN.next ?_
        refine JC.ret ?_
        refine JN.passR ?_
        refine JN.outP (vs := [.int .i64 8]) (K := []) (rst := [_]) (.inl rfl) rfl rfl (Res.tmp rfl rfl) picks0 ?_
        obtain rfl := Option.some.inj hx
        exact ⟨rfl, rfl, rfl, trivial⟩
      · replace hx := cond_f c_5 hx
        refine JL.gYes rfl rfl rfl ?_
        refine JL.val rfl rfl (R.fa F28_1 rfl) ?_
        refine JL.gYes rfl rfl rfl ?_
        refine JL.val rfl rfl (R.ldo 0 S26 rfl rfl rfl) ?_
        refine JL.gYes rfl rfl rfl ?_
        refine JL.val rfl rfl (R.lss32 (a := p_1.Birth) (b := (1 : UInt32)) rfl rfl) ?_
        refine JL.val rfl rfl (R.pickF rfl rfl) ?_
        refine JL.val rfl rfl (R.move rfl) ?_
        refine JL.gSplit (t := 19) rfl (fun c_6 => ?_) (fun c_6 => ?_)
        · replace hx := cond_t c_6 hx
          refine JL.gNo rfl rfl rfl rfl rfl ?_
          refine JL.gNo rfl rfl rfl rfl rfl ?_
          refine JL.gNo rfl rfl rfl rfl rfl ?_
          refine JL.val rfl rfl (R.pickT rfl rfl) ?_
          refine JL.nil ?_
          refine JN.next ?_
          refine JC.condT rfl ?_
          refine JC.seq ?_
          refine JC.region ?_
          refine JL.val rfl rfl (R.assign rfl) ?_
          refine JL.nil ?_
          refine JN.next ?_
          refine JC.ret ?_
          refine JN.passR ?_
          refine JN.outP (vs := [.int .i64 8]) (K := []) (rst := [_]) (.inl rfl) rfl rfl (Res.tmp rfl rfl) picks0 ?_
          obtain rfl := Option.some.inj hx
          exact ⟨rfl, rfl, rfl, trivial⟩
        · replace hx := cond_f c_6 hx
          refine JL.gYes rfl rfl rfl ?_
          refine JL.val rfl rfl (R.fa F28_1 rfl) ?_
          refine JL.gYes rfl rfl rfl ?_
          refine JL.val rfl rfl (R.ldo 0 S26 rfl rfl rfl) ?_
          refine JL.gYes rfl rfl rfl ?_
          refine JL.val rfl rfl (R.gtr32 (a := p_1.Birth) (b := (16777215 : UInt32)) rfl rfl) ?_
          refine JL.val rfl rfl (R.pickF rfl rfl) ?_
          refine JL.nil ?_
          refine JN.next ?_
          refine JC.condB rfl (fun c_7 => ?_) (fun c_7 => ?_)
          · replace hx := cond_t c_7 hx
            refine JC.seq ?_
            refine JC.region ?_
            refine JL.val rfl rfl (R.assign rfl) ?_
            refine JL.nil ?_
            refine JN.next ?_
            refine JC.ret ?_
            refine JN.passR ?_
            refine JN.outP (vs := [.int .i64 8]) (K := []) (rst := [_]) (.inl rfl) rfl rfl (Res.tmp rfl rfl) picks0 ?_
            obtain rfl := Option.some.inj hx
            exact ⟨rfl, rfl, rfl, trivial⟩
          · replace hx := cond_f c_7 hx
            refine JC.skip ?_
            refine JN.next ?_
            refine JC.seq ?_
            refine JC.region ?_
            refine JL.val rfl rfl (R.assign rfl) ?_
            refine JL.nil ?_
            refine JN.next ?_
            refine JC.ret ?_
            refine JN.outP (vs := [.int .i64 0]) (K := []) (rst := [_]) (.inl rfl) rfl rfl (Res.tmp rfl rfl) picks0 ?_
            obtain rfl := Option.some.inj hx
            exact ⟨rfl, rfl, rfl, trivial⟩

set_option maxHeartbeats 1000000 in
theorem label_may_ok (p_1 : Label) (H : Heaplet) (r : Bool) (hx : label_may p_1 = some r) :
    Does Try.prog 25 #[.agg #[.int .u32 (p_1.Gen.toNat : Int), .int .u32 (p_1.Epoch.toNat : Int), .int .i64 p_1.Root.At, .int .u32 (p_1.Root.Birth.toNat : Int), .int .u32 (p_1.Root.Iv.toNat : Int), .int .u32 (p_1.Root.Tag.toNat : Int), .int .u32 (p_1.Root.Sum.toNat : Int)]] [] H (fun u K' H' => u = .bool r ∧ K' = [] ∧ H = H' ∧ True) := by
  refine Does.enterL (vs := [.agg #[.int .u32 (p_1.Gen.toNat : Int), .int .u32 (p_1.Epoch.toNat : Int), .int .i64 p_1.Root.At, .int .u32 (p_1.Root.Birth.toNat : Int), .int .u32 (p_1.Root.Iv.toNat : Int), .int .u32 (p_1.Root.Tag.toNat : Int), .int .u32 (p_1.Root.Sum.toNat : Int)]]) (l := [(0, .agg #[.int .u32 (p_1.Gen.toNat : Int), .int .u32 (p_1.Epoch.toNat : Int), .int .i64 p_1.Root.At, .int .u32 (p_1.Root.Birth.toNat : Int), .int .u32 (p_1.Root.Iv.toNat : Int), .int .u32 (p_1.Root.Tag.toNat : Int), .int .u32 (p_1.Root.Sum.toNat : Int)])]) Try.func25 rfl rfl ⟨rfl, trivial⟩ (fun w hlt => ?_)
  rw [label_may.eq_1] at hx
  refine JC.seq ?_
  refine JC.region ?_
  refine JL.box rfl rfl (fun b_2 hb_2 => ?_)
  refine JL.val rfl rfl (R.assign rfl) ?_
  refine JL.nil ?_
  refine JN.next ?_
  refine JC.seq ?_
  obtain ⟨t_3, ht_5, hx⟩ := bnd_some hx
  refine JC.cut (fun l o g => l = [(2, .bool t_3)] ∧ o = [] ∧ H = g) ?_ ?_
  · rintro _ _ _ ⟨rfl, rfl, rfl⟩
    refine JN.next ?_
    refine JC.ret ?_
    refine JN.outP (vs := [.bool t_3]) (K := []) (rst := []) (.inl rfl) rfl rfl (Res.tmp rfl rfl) picks0 ?_
    obtain rfl := Option.some.inj hx
    exact ⟨rfl, rfl, rfl, trivial⟩
  · have hxo_4 := hx; clear hx; have hx := ht_5; clear ht_5
    refine JC.region ?_
    refine JL.val rfl rfl (R.fa F30_0 rfl) ?_
    refine JL.val rfl rfl (R.ldo 0 S26 rfl rfl rfl) ?_
    refine JL.val rfl rfl (R.geq32 (a := p_1.Gen) (b := (1 : UInt32)) rfl rfl) ?_
    refine JL.val rfl rfl (R.move rfl) ?_
    refine JL.gSplit (t := 6) rfl (fun c_6 => ?_) (fun c_6 => ?_)
    · replace hx := cond_t c_6 hx
      refine JL.gYes rfl rfl rfl ?_
      refine JL.val rfl rfl (R.fa F30_0 rfl) ?_
      refine JL.gYes rfl rfl rfl ?_
      refine JL.val rfl rfl (R.ldo 0 S26 rfl rfl rfl) ?_
      refine JL.gYes rfl rfl rfl ?_
      refine JL.val rfl rfl (R.leq32 (a := p_1.Gen) (b := (16777215 : UInt32)) rfl rfl) ?_
      refine JL.val rfl rfl (R.pickT rfl rfl) ?_
      refine JL.val rfl rfl (R.move rfl) ?_
      refine JL.gSplit (t := 11) rfl (fun c_7 => ?_) (fun c_7 => ?_)
      · replace hx := cond_t c_7 hx
        refine JL.gYes rfl rfl rfl ?_
        refine JL.val rfl rfl (R.fa F30_1 rfl) ?_
        refine JL.gYes rfl rfl rfl ?_
        refine JL.val rfl rfl (R.ldo 0 S26 rfl rfl rfl) ?_
        refine JL.gYes rfl rfl rfl ?_
        refine JL.val rfl rfl (R.geq32 (a := p_1.Epoch) (b := (1 : UInt32)) rfl rfl) ?_
        refine JL.val rfl rfl (R.pickT rfl rfl) ?_
        refine JL.val rfl rfl (R.move rfl) ?_
        refine JL.gSplit (t := 16) rfl (fun c_8 => ?_) (fun c_8 => ?_)
        · replace hx := cond_t c_8 hx
          refine JL.gYes rfl rfl rfl ?_
          refine JL.val rfl rfl (R.fa F30_1 rfl) ?_
          refine JL.gYes rfl rfl rfl ?_
          refine JL.val rfl rfl (R.ldo 0 S26 rfl rfl rfl) ?_
          refine JL.gYes rfl rfl rfl ?_
          refine JL.val rfl rfl (R.leq32 (a := p_1.Epoch) (b := (65535 : UInt32)) rfl rfl) ?_
          refine JL.val rfl rfl (R.pickT rfl rfl) ?_
          refine JL.val rfl rfl (R.move rfl) ?_
          refine JL.gSplit (t := 21) rfl (fun c_9 => ?_) (fun c_9 => ?_)
          · replace hx := cond_t c_9 hx
            refine JL.gYes rfl rfl rfl ?_
            refine JL.val rfl rfl (R.fa F30_2 rfl) ?_
            refine JL.gYes rfl rfl rfl ?_
            refine JL.val rfl rfl (R.ldoN 0 (vs := [.int .i64 p_1.Root.At, .int .u32 (p_1.Root.Birth.toNat : Int), .int .u32 (p_1.Root.Iv.toNat : Int), .int .u32 (p_1.Root.Tag.toNat : Int), .int .u32 (p_1.Root.Sum.toNat : Int)]) S28 rfl rfl rfl rfl) ?_
            refine JL.gYes rfl rfl rfl ?_
            refine JL.val rfl rfl (R.bldP (vs := []) (cs := [.int .i64 0, .int .u32 ((0 : UInt32).toNat : Int), .int .u32 ((0 : UInt32).toNat : Int), .int .u32 ((0 : UInt32).toNat : Int), .int .u32 ((0 : UInt32).toNat : Int)]) Z28 B28 rfl rfl rfl) ?_
            refine JL.gYes rfl rfl rfl ?_
            refine JL.val rfl rfl (R.neqAgg QU28 QP28 QG28 QF28 rfl rfl (EqF.i (by decide) S3 U3 rfl rfl (EqF.u32 (a := p_1.Root.Birth) (b := (0 : UInt32)) (by decide) S26 U26 rfl rfl (EqF.u32 (a := p_1.Root.Iv) (b := (0 : UInt32)) (by decide) S26 U26 rfl rfl (EqF.u32 (a := p_1.Root.Tag) (b := (0 : UInt32)) (by decide) S26 U26 rfl rfl (EqF.u32 (a := p_1.Root.Sum) (b := (0 : UInt32)) (by decide) S26 U26 rfl rfl EqF.nil)))))) ?_
            refine JL.val rfl rfl (R.pickT rfl rfl) ?_
            refine JL.val rfl rfl (R.move rfl) ?_
            refine JL.gSplit (t := 27) rfl (fun c_10 => ?_) (fun c_10 => ?_)
            · replace hx := cond_t c_10 hx
              refine JL.gYes rfl rfl rfl ?_
              refine JL.val rfl rfl (R.fa F30_2 rfl) ?_
              refine JL.gYes rfl rfl rfl ?_
              refine JL.val rfl rfl (R.ldoN 0 (vs := [.int .i64 p_1.Root.At, .int .u32 (p_1.Root.Birth.toNat : Int), .int .u32 (p_1.Root.Iv.toNat : Int), .int .u32 (p_1.Root.Tag.toNat : Int), .int .u32 (p_1.Root.Sum.toNat : Int)]) S28 rfl rfl rfl rfl) ?_
              refine JL.gYes rfl rfl rfl ?_
              obtain ⟨x_11, hr_12, hx⟩ := bnd_some hx
              refine JL.callC (vs := [_]) (args := [_]) (K := []) (rst := [_]) E20 rfl rfl rfl picks0 (ptr_Check_ok (Ptr.mk p_1.Root.At p_1.Root.Birth p_1.Root.Iv p_1.Root.Tag p_1.Root.Sum) _ _ hr_12) rfl (fun u_13 Ku_13 Hu_13 hRu_13 hleu_13 hfu_13 => ?_)
              obtain ⟨rfl, rfl, rfl, -⟩ := hRu_13
              refine JL.gYes rfl rfl rfl ?_
              refine JL.val rfl rfl (R.eql_i rfl rfl) ?_
              refine JL.val rfl rfl (R.pickT rfl rfl) ?_
              refine JL.val rfl rfl (R.assign rfl) ?_
              refine JL.nil ?_
              obtain rfl := Option.some.inj hx
              refine JN.forget 0 ?_
              exact JN.cut ⟨rfl, rfl, rfl⟩ ⟨rfl, trivial⟩ rfl rfl
            · replace hx := cond_f c_10 hx
              refine JL.gNo rfl rfl rfl rfl rfl ?_
              refine JL.gNo rfl rfl rfl rfl rfl ?_
              refine JL.gNo rfl rfl rfl rfl rfl ?_
              refine JL.gNo rfl rfl rfl rfl rfl ?_
              refine JL.val rfl rfl (R.pickF rfl rfl) ?_
              refine JL.val rfl rfl (R.assign rfl) ?_
              refine JL.nil ?_
              obtain rfl := Option.some.inj hx
              refine JN.forget 0 ?_
              exact JN.cut ⟨rfl, rfl, rfl⟩ ⟨rfl, trivial⟩ rfl rfl
          · replace hx := cond_f c_9 hx
            refine JL.gNo rfl rfl rfl rfl rfl ?_
            refine JL.gNo rfl rfl rfl rfl rfl ?_
            refine JL.gNo rfl rfl rfl rfl rfl ?_
            refine JL.gNo rfl rfl rfl rfl rfl ?_
            refine JL.val rfl rfl (R.pickF rfl rfl) ?_
            refine JL.val rfl rfl (R.move rfl) ?_
            refine JL.gNo rfl rfl rfl rfl rfl ?_
            refine JL.gNo rfl rfl rfl rfl rfl ?_
            refine JL.gNo rfl rfl rfl rfl rfl ?_
            refine JL.gNo rfl rfl rfl rfl rfl ?_
            refine JL.val rfl rfl (R.pickF rfl rfl) ?_
            refine JL.val rfl rfl (R.assign rfl) ?_
            refine JL.nil ?_
            obtain rfl := Option.some.inj hx
            refine JN.forget 0 ?_
            exact JN.cut ⟨rfl, rfl, rfl⟩ ⟨rfl, trivial⟩ rfl rfl
        · replace hx := cond_f c_8 hx
          refine JL.gNo rfl rfl rfl rfl rfl ?_
          refine JL.gNo rfl rfl rfl rfl rfl ?_
          refine JL.gNo rfl rfl rfl rfl rfl ?_
          refine JL.val rfl rfl (R.pickF rfl rfl) ?_
          refine JL.val rfl rfl (R.move rfl) ?_
          refine JL.gNo rfl rfl rfl rfl rfl ?_
          refine JL.gNo rfl rfl rfl rfl rfl ?_
          refine JL.gNo rfl rfl rfl rfl rfl ?_
          refine JL.gNo rfl rfl rfl rfl rfl ?_
          refine JL.val rfl rfl (R.pickF rfl rfl) ?_
          refine JL.val rfl rfl (R.move rfl) ?_
          refine JL.gNo rfl rfl rfl rfl rfl ?_
          refine JL.gNo rfl rfl rfl rfl rfl ?_
          refine JL.gNo rfl rfl rfl rfl rfl ?_
          refine JL.gNo rfl rfl rfl rfl rfl ?_
          refine JL.val rfl rfl (R.pickF rfl rfl) ?_
          refine JL.val rfl rfl (R.assign rfl) ?_
          refine JL.nil ?_
          obtain rfl := Option.some.inj hx
          refine JN.forget 0 ?_
          exact JN.cut ⟨rfl, rfl, rfl⟩ ⟨rfl, trivial⟩ rfl rfl
      · replace hx := cond_f c_7 hx
        refine JL.gNo rfl rfl rfl rfl rfl ?_
        refine JL.gNo rfl rfl rfl rfl rfl ?_
        refine JL.gNo rfl rfl rfl rfl rfl ?_
        refine JL.val rfl rfl (R.pickF rfl rfl) ?_
        refine JL.val rfl rfl (R.move rfl) ?_
        refine JL.gNo rfl rfl rfl rfl rfl ?_
        refine JL.gNo rfl rfl rfl rfl rfl ?_
        refine JL.gNo rfl rfl rfl rfl rfl ?_
        refine JL.val rfl rfl (R.pickF rfl rfl) ?_
        refine JL.val rfl rfl (R.move rfl) ?_
        refine JL.gNo rfl rfl rfl rfl rfl ?_
        refine JL.gNo rfl rfl rfl rfl rfl ?_
        refine JL.gNo rfl rfl rfl rfl rfl ?_
        refine JL.gNo rfl rfl rfl rfl rfl ?_
        refine JL.val rfl rfl (R.pickF rfl rfl) ?_
        refine JL.val rfl rfl (R.move rfl) ?_
        refine JL.gNo rfl rfl rfl rfl rfl ?_
        refine JL.gNo rfl rfl rfl rfl rfl ?_
        refine JL.gNo rfl rfl rfl rfl rfl ?_
        refine JL.gNo rfl rfl rfl rfl rfl ?_
        refine JL.val rfl rfl (R.pickF rfl rfl) ?_
        refine JL.val rfl rfl (R.assign rfl) ?_
        refine JL.nil ?_
        obtain rfl := Option.some.inj hx
        refine JN.forget 0 ?_
        exact JN.cut ⟨rfl, rfl, rfl⟩ ⟨rfl, trivial⟩ rfl rfl
    · replace hx := cond_f c_6 hx
      refine JL.gNo rfl rfl rfl rfl rfl ?_
      refine JL.gNo rfl rfl rfl rfl rfl ?_
      refine JL.gNo rfl rfl rfl rfl rfl ?_
      refine JL.val rfl rfl (R.pickF rfl rfl) ?_
      refine JL.val rfl rfl (R.move rfl) ?_
      refine JL.gNo rfl rfl rfl rfl rfl ?_
      refine JL.gNo rfl rfl rfl rfl rfl ?_
      refine JL.gNo rfl rfl rfl rfl rfl ?_
      refine JL.val rfl rfl (R.pickF rfl rfl) ?_
      refine JL.val rfl rfl (R.move rfl) ?_
      refine JL.gNo rfl rfl rfl rfl rfl ?_
      refine JL.gNo rfl rfl rfl rfl rfl ?_
      refine JL.gNo rfl rfl rfl rfl rfl ?_
      refine JL.val rfl rfl (R.pickF rfl rfl) ?_
      refine JL.val rfl rfl (R.move rfl) ?_
      refine JL.gNo rfl rfl rfl rfl rfl ?_
      refine JL.gNo rfl rfl rfl rfl rfl ?_
      refine JL.gNo rfl rfl rfl rfl rfl ?_
      refine JL.gNo rfl rfl rfl rfl rfl ?_
      refine JL.val rfl rfl (R.pickF rfl rfl) ?_
      refine JL.val rfl rfl (R.move rfl) ?_
      refine JL.gNo rfl rfl rfl rfl rfl ?_
      refine JL.gNo rfl rfl rfl rfl rfl ?_
      refine JL.gNo rfl rfl rfl rfl rfl ?_
      refine JL.gNo rfl rfl rfl rfl rfl ?_
      refine JL.val rfl rfl (R.pickF rfl rfl) ?_
      refine JL.val rfl rfl (R.assign rfl) ?_
      refine JL.nil ?_
      obtain rfl := Option.some.inj hx
      refine JN.forget 0 ?_
      exact JN.cut ⟨rfl, rfl, rfl⟩ ⟨rfl, trivial⟩ rfl rfl

set_option maxHeartbeats 1000000 in
theorem label_Slot_ok (p_1 : UInt32) (H : Heaplet) (r : Int) (hx : label_Slot p_1 = some r) :
    Does Try.prog 15 #[.int .u32 (p_1.toNat : Int)] [] H (fun u K' H' => u = .int .i64 r ∧ K' = [] ∧ H = H' ∧ True) := by
  refine Does.enterL (vs := [.int .u32 (p_1.toNat : Int)]) (l := [(0, .int .u32 (p_1.toNat : Int))]) Try.func15 rfl rfl ⟨rfl, trivial⟩ (fun w hlt => ?_)
  rw [label_Slot.eq_1] at hx
  refine JC.seq ?_
  refine JC.region ?_
  refine JL.val rfl rfl (R.assign rfl) ?_
  refine JL.nil ?_
  refine JN.next ?_
  refine JC.seq ?_
  refine JC.region ?_
  refine JL.val rfl rfl (R.move rfl) ?_
  refine JL.val rfl rfl (R.rem32 (a := p_1) (b := (4 : UInt32)) rfl rfl (by decide)) ?_
  refine JL.val rfl rfl (R.cv_u32_i64 (a := p_1 % (4 : UInt32)) U26 U3 rfl) ?_
  refine JL.val rfl rfl (R.assign rfl) ?_
  refine JL.nil ?_
  refine JN.next ?_
  refine JC.ret ?_
  refine JN.outP (vs := [.int .i64 ((p_1 % (4 : UInt32)).toNat : Int)]) (K := []) (rst := []) (.inl rfl) rfl rfl (Res.tmp rfl rfl) picks0 ?_
  obtain rfl := Option.some.inj hx
  exact ⟨rfl, rfl, rfl, trivial⟩

set_option maxHeartbeats 1000000 in
theorem code_sized_ok (p_1 : Int) (H : Heaplet) (r : Bool) (hx : code_sized p_1 = some r) :
    Does Try.prog 68 #[.int .i64 p_1] [] H (fun u K' H' => u = .bool r ∧ K' = [] ∧ H = H' ∧ True) := by
  refine Does.enterL (vs := [.int .i64 p_1]) (l := [(0, .int .i64 p_1)]) Try.func68 rfl rfl ⟨rfl, trivial⟩ (fun w hlt => ?_)
  rw [code_sized.eq_1] at hx
  refine JC.seq ?_
  refine JC.region ?_
  refine JL.val rfl rfl (R.assign rfl) ?_
  refine JL.nil ?_
  refine JN.next ?_
  refine JC.seq ?_
  obtain ⟨t_2, ht_4, hx⟩ := bnd_some hx
  refine JC.cut (fun l o g => l = [(2, .bool t_2)] ∧ o = [] ∧ H = g) ?_ ?_
  · rintro _ _ _ ⟨rfl, rfl, rfl⟩
    refine JN.next ?_
    refine JC.ret ?_
    refine JN.outP (vs := [.bool t_2]) (K := []) (rst := []) (.inl rfl) rfl rfl (Res.tmp rfl rfl) picks0 ?_
    obtain rfl := Option.some.inj hx
    exact ⟨rfl, rfl, rfl, trivial⟩
  · have hxo_3 := hx; clear hx; have hx := ht_4; clear ht_4
    refine JC.region ?_
    refine JL.val rfl rfl (R.move rfl) ?_
    refine JL.val rfl rfl (R.gtr_i rfl rfl) ?_
    refine JL.val rfl rfl (R.move rfl) ?_
    refine JL.gSplit (t := 5) rfl (fun c_5 => ?_) (fun c_5 => ?_)
    · replace hx := cond_t c_5 hx
      refine JL.gYes rfl rfl rfl ?_
      refine JL.val rfl rfl (R.move rfl) ?_
      refine JL.gYes rfl rfl rfl ?_
      refine JL.val rfl rfl (R.leq_i rfl rfl) ?_
      refine JL.val rfl rfl (R.pickT rfl rfl) ?_
      refine JL.val rfl rfl (R.assign rfl) ?_
      refine JL.nil ?_
      obtain rfl := Option.some.inj hx
      exact JN.cut ⟨rfl, rfl, rfl⟩ ⟨rfl, trivial⟩ rfl rfl
    · replace hx := cond_f c_5 hx
      refine JL.gNo rfl rfl rfl rfl rfl ?_
      refine JL.gNo rfl rfl rfl rfl rfl ?_
      refine JL.val rfl rfl (R.pickF rfl rfl) ?_
      refine JL.val rfl rfl (R.assign rfl) ?_
      refine JL.nil ?_
      obtain rfl := Option.some.inj hx
      exact JN.cut ⟨rfl, rfl, rfl⟩ ⟨rfl, trivial⟩ rfl rfl

set_option maxHeartbeats 1000000 in
theorem code_Put_ok (p_1 : Int) (p_2 : Int) (H : Heaplet) (r : List UInt8 × Int) (hx : code_Put p_1 p_2 = some r) :
    Does Try.prog 46 #[.int .i64 p_1, .int .i64 p_2] [] H (fun u K' H' => ∃ ao0 : Option Addr, ∃ n0 : Nat, ∃ cap0 : Nat, ∃ K0 : Own, u = .tuple #[.slice ao0 n0 cap0, .int .i64 r.2] ∧ K' = [K0] ∧ H = H' ∧ RowOf (New H H) RU8 0 5 1 (.slice ao0 n0 cap0) r.1 K0 ∧ (∀ p ∈ K0, p.1 ∉ ids (List.flatten [])) ∧ True) := by
  refine Does.enterL (vs := [.int .i64 p_1, .int .i64 p_2]) (l := [(0, .int .i64 p_1), (1, .int .i64 p_2)]) Try.func46 rfl rfl ⟨rfl, rfl, trivial⟩ (fun w hlt => ?_)
  rw [code_Put.eq_1] at hx
  refine JC.seq ?_
  refine JC.region ?_
  refine JL.val rfl rfl (R.assign rfl) ?_
  refine JL.val rfl rfl (R.assign rfl) ?_
  refine JL.nil ?_
  refine JN.next ?_
  refine JC.seq ?_
  refine JC.seq ?_
  refine JC.region ?_
  refine JL.val rfl rfl (R.move rfl) ?_
  obtain ⟨x_3, hr_4, hx⟩ := bnd_some hx
  refine JL.callC (vs := [_]) (args := [_]) (K := []) (rst := []) E68 rfl rfl rfl picks0 (code_sized_ok p_2 _ _ hr_4) rfl (fun u_5 Ku_5 Hu_5 hRu_5 hleu_5 hfu_5 => ?_)
  obtain ⟨rfl, rfl, rfl, -⟩ := hRu_5
  refine JL.val rfl rfl (R.not rfl) ?_
  refine JL.val rfl rfl (R.move rfl) ?_
  refine JL.gSplit (t := 10) rfl (fun c_6 => ?_) (fun c_6 => ?_)
  · replace hx := cond_t c_6 hx
    refine JL.gNo rfl rfl rfl rfl rfl ?_
    refine JL.gNo rfl rfl rfl rfl rfl ?_
    refine JL.val rfl rfl (R.pickT rfl rfl) ?_
    refine JL.val rfl rfl (R.move rfl) ?_
    refine JL.gNo rfl rfl rfl rfl rfl ?_
    refine JL.gNo rfl rfl rfl rfl rfl ?_
    refine JL.gNo rfl rfl rfl rfl rfl ?_
    refine JL.gNo rfl rfl rfl rfl rfl ?_
    refine JL.gNo rfl rfl rfl rfl rfl ?_
    refine JL.val rfl rfl (R.pickT rfl rfl) ?_
    refine JL.nil ?_
    refine JN.next ?_
    refine JC.condT rfl ?_
    refine JC.seq ?_
    refine JC.region ?_
    refine JL.val rfl rfl (R.assign rfl) ?_
    refine JL.val rfl rfl (R.assign rfl) ?_
    refine JL.nil ?_
    refine JN.next ?_
    refine JC.ret ?_
    refine JN.passR ?_
    refine JN.seg0 ?_
    refine JN.outP (vs := [.slice none 0 0, .int .i64 2]) (K := [_]) (rst := []) (.inl rfl) rfl rfl (Res.tmp rfl (Res.tmp rfl rfl)) (picks 0 rfl picks0) ?_
    obtain rfl := Option.some.inj hx
    exact ⟨none, 0, 0, [], rfl, rfl, rfl, (RowOf.nil _ _ _ _ _), (fun p hp => by cases hp), trivial⟩
  · replace hx := cond_f c_6 hx
    refine JL.gYes rfl rfl rfl ?_
    refine JL.val rfl rfl (R.move rfl) ?_
    refine JL.gYes rfl rfl rfl ?_
    refine JL.val rfl rfl (R.lss_i rfl rfl) ?_
    refine JL.val rfl rfl (R.pickF rfl rfl) ?_
    refine JL.val rfl rfl (R.move rfl) ?_
    refine JL.gSplit (t := 14) rfl (fun c_7 => ?_) (fun c_7 => ?_)
    · replace hx := cond_t c_7 hx
      refine JL.gNo rfl rfl rfl rfl rfl ?_
      refine JL.gNo rfl rfl rfl rfl rfl ?_
      refine JL.gNo rfl rfl rfl rfl rfl ?_
      refine JL.gNo rfl rfl rfl rfl rfl ?_
      refine JL.gNo rfl rfl rfl rfl rfl ?_
      refine JL.val rfl rfl (R.pickT rfl rfl) ?_
      refine JL.nil ?_
      refine JN.next ?_
      refine JC.condT rfl ?_
      refine JC.seq ?_
      refine JC.region ?_
      refine JL.val rfl rfl (R.assign rfl) ?_
      refine JL.val rfl rfl (R.assign rfl) ?_
      refine JL.nil ?_
      refine JN.next ?_
      refine JC.ret ?_
      refine JN.passR ?_
      refine JN.seg0 ?_
      refine JN.outP (vs := [.slice none 0 0, .int .i64 2]) (K := [_]) (rst := []) (.inl rfl) rfl rfl (Res.tmp rfl (Res.tmp rfl rfl)) (picks 0 rfl picks0) ?_
      obtain rfl := Option.some.inj hx
      exact ⟨none, 0, 0, [], rfl, rfl, rfl, (RowOf.nil _ _ _ _ _), (fun p hp => by cases hp), trivial⟩
    · replace hx := cond_f c_7 hx
      refine JL.gYes rfl rfl rfl ?_
      refine JL.val rfl rfl (R.move rfl) ?_
      refine JL.gYes rfl rfl rfl ?_
      refine JL.val rfl rfl (R.move rfl) ?_
      refine JL.gYes rfl rfl rfl ?_
      refine JL.val rfl rfl (R.mul_i rfl rfl) ?_
      refine JL.gYes rfl rfl rfl ?_
      obtain ⟨hz_8, hx⟩ := chk_some hx
      refine JL.val rfl rfl (R.shl_i (n := (w64 (8 * p_2))) rfl rfl hz_8) ?_
      refine JL.gYes rfl rfl rfl ?_
      refine JL.val rfl rfl (R.geq_i rfl rfl) ?_
      refine JL.val rfl rfl (R.pickF rfl rfl) ?_
      refine JL.nil ?_
      refine JN.next ?_
      refine JC.condB rfl (fun c_9 => ?_) (fun c_9 => ?_)
      · replace hx := cond_t c_9 hx
        refine JC.seq ?_
        refine JC.region ?_
        refine JL.val rfl rfl (R.assign rfl) ?_
        refine JL.val rfl rfl (R.assign rfl) ?_
        refine JL.nil ?_
        refine JN.next ?_
        refine JC.ret ?_
        refine JN.passR ?_
        refine JN.seg0 ?_
        refine JN.outP (vs := [.slice none 0 0, .int .i64 2]) (K := [_]) (rst := []) (.inl rfl) rfl rfl (Res.tmp rfl (Res.tmp rfl rfl)) (picks 0 rfl picks0) ?_
        obtain rfl := Option.some.inj hx
        exact ⟨none, 0, 0, [], rfl, rfl, rfl, (RowOf.nil _ _ _ _ _), (fun p hp => by cases hp), trivial⟩
      · replace hx := cond_f c_9 hx
        refine JC.skip ?_
        refine JN.next ?_
        refine JC.seq ?_
        refine JC.region ?_
        refine JL.val rfl rfl (R.assign rfl) ?_
        refine JL.nil ?_
        refine JN.next ?_
        refine JC.seq ?_
        obtain ⟨t_10, ht_12, hx⟩ := bnd_some hx
        refine JC.cut (fun l o g => ∃ aor_17 : Option Addr, ∃ nr_17 : Nat, ∃ capr_17 : Nat, ∃ Kr_17 : Own, l = [(6, .slice aor_17 nr_17 capr_17)] ∧ o = [Kr_17] ∧ H = g ∧ RowOf (New H H) RU8 w.heap.size 5 1 (.slice aor_17 nr_17 capr_17) t_10 Kr_17) ?_ ?_
        · rintro _ _ _ ⟨aor_17, nr_17, capr_17, Kr_17, rfl, rfl, rfl, hr_17⟩
          refine JN.next ?_
          refine JC.seq ?_
          refine JC.region ?_
          refine JL.val rfl rfl (R.move rfl) ?_
          refine JL.val rfl rfl (R.assign rfl) ?_
          refine JL.val rfl rfl (R.assign rfl) ?_
          refine JL.nil ?_
          refine JN.next ?_
          refine JC.ret ?_
          refine JN.outP (vs := [.slice aor_17 nr_17 capr_17, .int .i64 0]) (K := [_]) (rst := []) (.inl rfl) rfl rfl (Res.tmp rfl (Res.tmp rfl rfl)) (picks 0 rfl picks0) ?_
          obtain rfl := Option.some.inj hx
          exact ⟨aor_17, nr_17, capr_17, Kr_17, rfl, rfl, rfl, (RowOf.weak (Nat.zero_le _) hr_17), (new_ids hr_17 hlt), trivial⟩
        · have hxo_11 := hx; clear hx; have hx := ht_12; clear ht_12
          refine JC.block ?_
          refine JC.seg0 ?_
          refine JC.loopI (fun n l o g => ∃ s_13 : Int × List UInt8, ∃ aor_16 : Option Addr, ∃ nr_16 : Nat, ∃ capr_16 : Nat, ∃ Kr_16 : Own, l = [(0, .int .i64 s_13.1), (1, .int .i64 p_2), (6, .slice aor_16 nr_16 capr_16)] ∧ o = [Kr_16] ∧ H = g ∧ run (code_Put_l1 p_2) n s_13 = some t_10 ∧ RowOf (New H H) RU8 w.heap.size 5 1 (.slice aor_16 nr_16 capr_16) s_13.2 Kr_16) FUEL ?_ ⟨(p_1, ([] : List UInt8)), none, 0, 0, [], rfl, rfl, rfl, hx, (RowOf.nil _ _ _ _ _)⟩ ⟨rfl, rfl, rfl, trivial⟩ ?_
          · rintro _ _ _ ⟨s_13, aor_16, nr_16, capr_16, Kr_16, rfl, rfl, rfl, hn_14, hr_16⟩
            exact run_zero hn_14
          · rintro n_15 _ _ _ ⟨s_13, aor_16, nr_16, capr_16, Kr_16, rfl, rfl, rfl, hn_14, hr_16⟩
            clear hx; obtain ⟨oo_18, hx, hd_17⟩ := run_some hn_14
            rw [code_Put_l1.eq_1] at hx
            refine JC.seq ?_
            refine JC.seq ?_
            refine JC.region ?_
            refine JL.val rfl rfl (R.move rfl) ?_
            refine JL.val rfl rfl (R.lenL U45 rfl (RowOf.long hr_16)) ?_
            refine JL.val rfl rfl (R.move rfl) ?_
            refine JL.val rfl rfl (R.lss_i rfl rfl) ?_
            refine JL.nil ?_
            refine JN.next ?_
            refine JC.condB rfl (fun c_17 => ?_) (fun c_17 => ?_)
            · replace hx := cond_t c_17 hx
              refine JC.skip ?_
              refine JN.next ?_
              refine JC.seq ?_
              refine JC.block ?_
              refine JC.region ?_
              refine JL.val rfl rfl (R.move rfl) ?_
              refine JL.val rfl rfl (R.move rfl) ?_
              refine JL.val rfl rfl (R.cv_i64_u8 U3 U5 rfl) ?_
              refine JL.bslF (HF := (New H H)) (R := RU8) (ls := [u8i s_13.1]) (vs := [.int .u8 ((u8i s_13.1).toNat : Int)]) U45 I5 rfl rfl (⟨_, _, rfl, rfl, rfl, rfl⟩) RU8.one rfl rfl rfl (by simp [maxLen]) rfl (fun vr_18 Kr_18 hr_18 => ?_)
              obtain ⟨aor_18, capr_18, rfl⟩ := RowOf.val hr_18
              obtain ⟨q_19, hm_20, hl_21, hx⟩ := app_some hx
              refine JL.appF (HF := (New H H)) 1 U45 I5 rfl rfl hr_16 rfl (SrcF.row 0 U45 rfl hr_18) hm_20 hl_21 rfl (Nat.le_refl _) rfl (fun vr_22 Kr_22 hr_22 => ?_)
              obtain ⟨aor_22, capr_22, rfl⟩ := RowOf.val hr_22
              refine JL.val rfl rfl (R.assign rfl) ?_
              refine JL.nil ?_
              refine JN.blkN ?_
              refine JN.next ?_
              refine JC.region ?_
              refine JL.val rfl rfl (R.move rfl) ?_
              refine JL.val rfl rfl (R.quo_i rfl rfl (by decide)) ?_
              refine JL.val rfl rfl (R.assign rfl) ?_
              refine JL.nil ?_
              replace hx := run_next hd_17 hx
              refine JN.forget 0 ?_
              exact JN.cut ⟨(w64 (s_13.1.tdiv 256), q_19), aor_22, q_19.length, capr_22, Kr_22, rfl, rfl, rfl, hx, hr_22⟩ ⟨rfl, rfl, rfl, trivial⟩ rfl rfl
            · replace hx := cond_f c_17 hx
              refine JC.exit ?_
              refine JN.passX ?_
              obtain rfl := run_done hd_17 hx
              refine JN.passX ?_
              refine JN.exitSame ?_
              exact JN.cut ⟨aor_16, nr_16, capr_16, Kr_16, rfl, rfl, rfl, hr_16⟩ ⟨rfl, trivial⟩ rfl rfl

set_option maxHeartbeats 1000000 in
theorem ptr_sizes_ok (H : Heaplet) (r : A5 Int) (hx : ptr_sizes = some r) :
    Does Try.prog 69 #[] [] H (fun u K' H' => u = .agg #[.int .i64 r.e0, .int .i64 r.e1, .int .i64 r.e2, .int .i64 r.e3, .int .i64 r.e4] ∧ K' = [] ∧ H = H' ∧ True) := by
  refine Does.enterL (vs := []) (l := []) Try.func69 rfl rfl trivial (fun w hlt => ?_)
  rw [ptr_sizes.eq_1] at hx
  refine JC.seq ?_
  refine JC.region ?_
  refine JL.alloc Z99 rfl (fun b_1 hb_1 => ?_)
  refine JL.nil ?_
  refine JN.next ?_
  refine JC.seq ?_
  refine JC.region ?_
  refine JL.val rfl rfl (R.bldA (vs := [(0, .int .i64 1), (1, .int .i64 3), (2, .int .i64 4), (3, .int .i64 4), (4, .int .i64 4)]) (cells := #[.int .i64 1, .int .i64 3, .int .i64 4, .int .i64 4, .int .i64 4]) Z99 B99 rfl rfl rfl rfl) ?_
  refine JL.store 0 S99 rfl rfl rfl rfl rfl (Nat.le_of_ble_eq_true rfl) ?_
  refine JL.nil ?_
  refine JN.next ?_
  refine JC.ret ?_
  refine JN.outP (vs := [.agg #[.int .i64 1, .int .i64 3, .int .i64 4, .int .i64 4, .int .i64 4]]) (K := []) (rst := [_]) (.inl rfl) rfl rfl (Res.cellN 0 rfl rfl S99 rfl) picks0 ?_
  obtain rfl := Option.some.inj hx
  exact ⟨rfl, rfl, rfl, trivial⟩

set_option maxHeartbeats 1000000 in
theorem ptr_Write_ok (p_1 : Ptr) (H : Heaplet) (r : List UInt8 × Int) (hx : ptr_Write p_1 = some r) :
    Does Try.prog 47 #[.agg #[.int .i64 p_1.At, .int .u32 (p_1.Birth.toNat : Int), .int .u32 (p_1.Iv.toNat : Int), .int .u32 (p_1.Tag.toNat : Int), .int .u32 (p_1.Sum.toNat : Int)]] [] H (fun u K' H' => ∃ ao0 : Option Addr, ∃ n0 : Nat, ∃ cap0 : Nat, ∃ K0 : Own, u = .tuple #[.slice ao0 n0 cap0, .int .i64 r.2] ∧ K' = [K0] ∧ H = H' ∧ RowOf (New H H) RU8 0 5 1 (.slice ao0 n0 cap0) r.1 K0 ∧ (∀ p ∈ K0, p.1 ∉ ids (List.flatten [])) ∧ True) := by
  refine Does.enterL (vs := [.agg #[.int .i64 p_1.At, .int .u32 (p_1.Birth.toNat : Int), .int .u32 (p_1.Iv.toNat : Int), .int .u32 (p_1.Tag.toNat : Int), .int .u32 (p_1.Sum.toNat : Int)]]) (l := [(0, .agg #[.int .i64 p_1.At, .int .u32 (p_1.Birth.toNat : Int), .int .u32 (p_1.Iv.toNat : Int), .int .u32 (p_1.Tag.toNat : Int), .int .u32 (p_1.Sum.toNat : Int)])]) Try.func47 rfl rfl ⟨rfl, trivial⟩ (fun w hlt => ?_)
  rw [ptr_Write.eq_1] at hx
  refine JC.seq ?_
  refine JC.region ?_
  refine JL.box rfl rfl (fun b_2 hb_2 => ?_)
  refine JL.val rfl rfl (R.assign rfl) ?_
  refine JL.val rfl rfl (R.assign rfl) ?_
  refine JL.nil ?_
  refine JN.next ?_
  refine JC.seq ?_
  refine JC.seq ?_
  refine JC.region ?_
  refine JL.val rfl rfl (R.ldoN 0 (vs := [.int .i64 p_1.At, .int .u32 (p_1.Birth.toNat : Int), .int .u32 (p_1.Iv.toNat : Int), .int .u32 (p_1.Tag.toNat : Int), .int .u32 (p_1.Sum.toNat : Int)]) S28 rfl rfl rfl rfl) ?_
  obtain ⟨x_3, hr_4, hx⟩ := bnd_some hx
  refine JL.callC (vs := [_]) (args := [_]) (K := []) (rst := [_]) E20 rfl rfl rfl picks0 (ptr_Check_ok p_1 _ _ hr_4) rfl (fun u_5 Ku_5 Hu_5 hRu_5 hleu_5 hfu_5 => ?_)
  obtain ⟨rfl, rfl, rfl, -⟩ := hRu_5
  refine JL.val rfl rfl (R.assign rfl) ?_
  refine JL.nil ?_
  refine JN.next ?_
  refine JC.seq ?_
  refine JC.region ?_
  refine JL.val rfl rfl (R.move rfl) ?_
  refine JL.val rfl rfl (R.neq_i rfl rfl) ?_
  refine JL.nil ?_
  refine JN.next ?_
  refine JC.condB rfl (fun c_6 => ?_) (fun c_6 => ?_)
  · replace hx := cond_t c_6 hx
    refine JC.seq ?_
    refine JC.region ?_
    refine JL.val rfl rfl (R.move rfl) ?_
    refine JL.val rfl rfl (R.assign rfl) ?_
    refine JL.val rfl rfl (R.assign rfl) ?_
    refine JL.nil ?_
    refine JN.next ?_
    refine JC.ret ?_
    refine JN.passR ?_
    refine JN.seg0 ?_
    refine JN.outP (vs := [.slice none 0 0, .int .i64 x_3]) (K := [_]) (rst := [_]) (.inl rfl) rfl rfl (Res.tmp rfl (Res.tmp rfl rfl)) (picks 0 rfl picks0) ?_
    obtain rfl := Option.some.inj hx
    exact ⟨none, 0, 0, [], rfl, rfl, rfl, (RowOf.nil _ _ _ _ _), (fun p hp => by cases hp), trivial⟩
  · replace hx := cond_f c_6 hx
    refine JC.skip ?_
    refine JN.next ?_
    refine JC.seq ?_
    refine JC.region ?_
    refine JL.val rfl rfl (R.fa F28_0 rfl) ?_
    refine JL.val rfl rfl (R.ldo 0 S3 rfl rfl rfl) ?_
    refine JL.val rfl rfl (R.fa F28_1 rfl) ?_
    refine JL.val rfl rfl (R.ldo 0 S26 rfl rfl rfl) ?_
    refine JL.val rfl rfl (R.cv_u32_i64 (a := p_1.Birth) U26 U3 rfl) ?_
    refine JL.val rfl rfl (R.fa F28_2 rfl) ?_
    refine JL.val rfl rfl (R.ldo 0 S26 rfl rfl rfl) ?_
    refine JL.val rfl rfl (R.cv_u32_i64 (a := p_1.Iv) U26 U3 rfl) ?_
    refine JL.val rfl rfl (R.fa F28_3 rfl) ?_
    refine JL.val rfl rfl (R.ldo 0 S26 rfl rfl rfl) ?_
    refine JL.val rfl rfl (R.cv_u32_i64 (a := p_1.Tag) U26 U3 rfl) ?_
    refine JL.val rfl rfl (R.fa F28_4 rfl) ?_
    refine JL.val rfl rfl (R.ldo 0 S26 rfl rfl rfl) ?_
    refine JL.val rfl rfl (R.cv_u32_i64 (a := p_1.Sum) U26 U3 rfl) ?_
    refine JL.val rfl rfl (R.bldA (vs := [(0, .int .i64 p_1.At), (1, .int .i64 (p_1.Birth.toNat : Int)), (2, .int .i64 (p_1.Iv.toNat : Int)), (3, .int .i64 (p_1.Tag.toNat : Int)), (4, .int .i64 (p_1.Sum.toNat : Int))]) (cells := #[.int .i64 p_1.At, .int .i64 (p_1.Birth.toNat : Int), .int .i64 (p_1.Iv.toNat : Int), .int .i64 (p_1.Tag.toNat : Int), .int .i64 (p_1.Sum.toNat : Int)]) Z99 B99 rfl rfl rfl rfl) ?_
    refine JL.alloc Z99 rfl (fun b_7 hb_7 => ?_)
    refine JL.store 0 S99 rfl rfl rfl rfl rfl (Nat.le_of_ble_eq_true rfl) ?_
    refine JL.nil ?_
    refine JN.next ?_
    refine JC.seq ?_
    refine JC.seq ?_
    refine JC.region ?_
    obtain ⟨x_8, hr_9, hx⟩ := bnd_some hx
    refine JL.callC (vs := []) (args := []) (K := []) (rst := [_, _]) E69 rfl rfl rfl picks0 (ptr_sizes_ok _ _ hr_9) rfl (fun u_10 Ku_10 Hu_10 hRu_10 hleu_10 hfu_10 => ?_)
    obtain ⟨rfl, rfl, rfl, -⟩ := hRu_10
    refine JL.val rfl rfl (R.move rfl) ?_
    refine JL.nil ?_
    refine JN.next ?_
    obtain ⟨t_11, ht_13, hx⟩ := bnd_some hx
    refine JC.cut (fun l o g => ∃ aor_18 : Option Addr, ∃ nr_18 : Nat, ∃ capr_18 : Nat, ∃ Kr_18 : Own, l = [(2, .slice aor_18 nr_18 capr_18)] ∧ o = [Kr_18] ∧ H = g ∧ RowOf (New H H) RU8 w.heap.size 5 1 (.slice aor_18 nr_18 capr_18) t_11 Kr_18) ?_ ?_
    · rintro _ _ _ ⟨aor_18, nr_18, capr_18, Kr_18, rfl, rfl, rfl, hr_18⟩
      refine JN.next ?_
      refine JC.seq ?_
      refine JC.region ?_
      refine JL.val rfl rfl (R.move rfl) ?_
      refine JL.val rfl rfl (R.assign rfl) ?_
      refine JL.val rfl rfl (R.assign rfl) ?_
      refine JL.nil ?_
      refine JN.next ?_
      refine JC.ret ?_
      refine JN.outP (vs := [.slice aor_18 nr_18 capr_18, .int .i64 0]) (K := [_]) (rst := []) (.inl rfl) rfl rfl (Res.tmp rfl (Res.tmp rfl rfl)) (picks 0 rfl picks0) ?_
      obtain rfl := Option.some.inj hx
      exact ⟨aor_18, nr_18, capr_18, Kr_18, rfl, rfl, rfl, (RowOf.weak (Nat.zero_le _) hr_18), (new_ids hr_18 hlt), trivial⟩
    · have hxo_12 := hx; clear hx; have hx := ht_13; clear ht_13
      refine JC.block ?_
      refine JC.seg0 ?_
      refine JC.forget 2 ?_
      refine JC.front 1 rfl ?_
      refine JC.front 1 rfl ?_
      refine JC.loopI (fun n l o g => ∃ s_14 : List UInt8 × Nat, ∃ aor_17 : Option Addr, ∃ nr_17 : Nat, ∃ capr_17 : Nat, ∃ Kr_17 : Own, l = [(2, .slice aor_17 nr_17 capr_17), (5, .pointer (some ⟨b_7, 0, none⟩)), (30, .agg #[.int .i64 x_8.e0, .int .i64 x_8.e1, .int .i64 x_8.e2, .int .i64 x_8.e3, .int .i64 x_8.e4]), (31, .int .i64 ((s_14.2 : Nat) : Int))] ∧ o = [Kr_17, [(b_7, .cells #[.int .i64 p_1.At, .int .i64 (p_1.Birth.toNat : Int), .int .i64 (p_1.Iv.toNat : Int), .int .i64 (p_1.Tag.toNat : Int), .int .i64 (p_1.Sum.toNat : Int)] 99 (0, 0))]] ∧ H = g ∧ run (ptr_Write_l1 p_1 x_8) n s_14 = some t_11 ∧ RowOf (New H H) RU8 w.heap.size 5 1 (.slice aor_17 nr_17 capr_17) s_14.1 Kr_17) FUEL ?_ ⟨(([] : List UInt8), 0), none, 0, 0, [], rfl, rfl, rfl, hx, (RowOf.nil _ _ _ _ _)⟩ ⟨rfl, rfl, rfl, rfl, trivial⟩ ?_
      · rintro _ _ _ ⟨s_14, aor_17, nr_17, capr_17, Kr_17, rfl, rfl, rfl, hn_15, hr_17⟩
        exact run_zero hn_15
      · rintro n_16 _ _ _ ⟨s_14, aor_17, nr_17, capr_17, Kr_17, rfl, rfl, rfl, hn_15, hr_17⟩
        clear hx; obtain ⟨oo_19, hx, hd_18⟩ := run_some hn_15
        rw [ptr_Write_l1.eq_1] at hx
        refine JC.seq ?_
        refine JC.region ?_
        refine JL.val rfl rfl (R.lss_i rfl rfl) ?_
        refine JL.nil ?_
        refine JN.next ?_
        refine JC.seq ?_
        refine JC.condB rfl (fun c_18 => ?_) (fun c_18 => ?_)
        · replace hx := cond_t c_18 hx
          refine JC.skip ?_
          refine JN.next ?_
          refine JC.seq ?_
          refine JC.block ?_
          refine JC.seq ?_
          refine JC.region ?_
          refine JL.val rfl rfl (R.move rfl) ?_
          obtain ⟨y_19, hN_20, hx⟩ := idx_some hx
          refine JL.val rfl rfl (R.idxA (enc := (fun a : Int => Value.int .i64 a)) (L := x_8.l) U99 S3 rfl rfl rfl rfl rfl hN_20) ?_
          refine JL.val rfl rfl (R.assign rfl) ?_
          refine JL.val rfl rfl (R.assign rfl) ?_
          refine JL.nil ?_
          refine JN.next ?_
          refine JC.seq ?_
          refine JC.region ?_
          refine JL.val rfl rfl (R.move rfl) ?_
          obtain ⟨y_21, hN_22, hx⟩ := idx_some hx
          refine JL.val rfl rfl (R.ixAd (L := (A5.mk p_1.At (p_1.Birth.toNat : Int) (p_1.Iv.toNat : Int) (p_1.Tag.toNat : Int) (p_1.Sum.toNat : Int)).l) U99 S3 rfl rfl rfl hN_22) ?_
          refine JL.val rfl rfl (R.ldoA (enc := (fun a : Int => Value.int .i64 a)) (L := (A5.mk p_1.At (p_1.Birth.toNat : Int) (p_1.Iv.toNat : Int) (p_1.Tag.toNat : Int) (p_1.Sum.toNat : Int)).l) 1 S3 rfl rfl rfl hN_22) ?_
          refine JL.val rfl rfl (R.move rfl) ?_
          obtain ⟨x_23, hr_24, hx⟩ := bnd_some hx
          refine JL.callC (vs := [_, _]) (args := [_, _]) (K := []) (rst := [_, _]) E46 rfl rfl rfl picks0 (code_Put_ok y_21 y_19 _ _ hr_24) rfl (fun u_25 Ku_25 Hu_25 hRu_25 hleu_25 hfu_25 => ?_)
          obtain ⟨aor_26, nr_26, capr_26, Kr_26, rfl, rfl, rfl, hr_26, hnewr_26, -⟩ := hRu_25
          replace hr_26 := (RowOf.base (RowOf.const (H2 := New H H) RU8.const hr_26) (fun p hp => (hfu_25 p (mem_seg 0 rfl hp)).resolve_left (hnewr_26 p hp)))
          refine JL.val rfl rfl (R.move rfl) ?_
          refine JL.val rfl rfl (R.extract rfl rfl) ?_
          refine JL.val rfl rfl (R.extract rfl rfl) ?_
          refine JL.val rfl rfl (R.assign rfl) ?_
          refine JL.val rfl rfl (R.assign rfl) ?_
          refine JL.nil ?_
          refine JN.next ?_
          refine JC.region ?_
          refine JL.val rfl rfl (R.move rfl) ?_
          refine JL.val rfl rfl (R.move rfl) ?_
          obtain ⟨q_27, hm_28, hl_29, hx⟩ := app_some hx
          refine JL.appF (HF := (New H H)) 1 U45 I5 rfl rfl hr_17 rfl (SrcF.row 0 U45 rfl hr_26) hm_28 hl_29 rfl (Nat.le_refl _) rfl (fun vr_30 Kr_30 hr_30 => ?_)
          obtain ⟨aor_30, capr_30, rfl⟩ := RowOf.val hr_30
          refine JL.val rfl rfl (R.assign rfl) ?_
          refine JL.nil ?_
          refine JN.blkN ?_
          refine JN.next ?_
          refine JC.region ?_
          refine JL.val rfl rfl (R.inc rfl rfl (of_decide_eq_true c_18) (by decide)) ?_
          refine JL.val rfl rfl (R.move rfl) ?_
          refine JL.nil ?_
          replace hx := run_next hd_18 hx
          refine JN.forget 0 ?_
          refine JN.front 1 rfl ?_
          refine JN.front 1 rfl ?_
          exact JN.cut ⟨(q_27, s_14.2 + 1), aor_30, q_27.length, capr_30, Kr_30, rfl, rfl, rfl, hx, hr_30⟩ ⟨rfl, rfl, rfl, rfl, trivial⟩ rfl rfl
        · replace hx := cond_f c_18 hx
          refine JC.exit ?_
          refine JN.passX ?_
          obtain rfl := run_done hd_18 hx
          refine JN.passX ?_
          refine JN.exitSame ?_
          refine JN.forget 1 ?_
          exact JN.cut ⟨aor_17, nr_17, capr_17, Kr_17, rfl, rfl, rfl, hr_17⟩ ⟨rfl, trivial⟩ rfl rfl

theorem slices_Clone_byte_ok (p_1 : List UInt8) (H : Heaplet) {ao : Option Addr} {n cap : Nat} (hs : IsSlice H RU8 1 (.slice ao n cap) p_1) (r : List UInt8) (hx : slices_Clone_byte p_1 = some r) :
    Does Try.prog 91 #[.slice ao n cap] [] H (fun u K' H' => ∃ ao0 : Option Addr, ∃ n0 : Nat, ∃ cap0 : Nat, ∃ K0 : Own, u = .slice ao0 n0 cap0 ∧ K' = [K0] ∧ H = H' ∧ RowOf (New H H') RU8 0 5 1 (.slice ao0 n0 cap0) r K0 ∧ (∀ p ∈ K0, p.1 ∉ ids (List.flatten [])) ∧ True) := by
  rw [slices_Clone_byte.eq_1] at hx
  obtain ⟨q, hq, hl, hx⟩ := app_some hx
  obtain rfl := Option.some.inj hx
  refine Does.enter (vs := [.slice ao n cap]) (l := [(0, .slice ao n cap)]) Try.func91 rfl rfl ⟨rfl, trivial⟩ (fun w => ?_)
  refine JC.seq ?_
  refine JC.region ?_
  refine JL.val rfl rfl (R.assign rfl) ?_
  refine JL.nil ?_
  refine JN.next ?_
  refine JC.seq ?_
  refine JC.seq ?_
  refine JC.region ?_
  refine JL.val rfl rfl (R.move rfl) ?_
  refine JL.val rfl rfl (R.eqlNil U45 rfl rfl) ?_
  refine JL.nil ?_
  refine JN.next ?_
  cases ao with
  | none =>
    have hp := hs.none_nil
    subst hp
    simp only [List.append_nil] at hq
    subst hq
    refine JC.condT rfl ?_
    refine JC.seq ?_
    refine JC.region ?_
    refine JL.val rfl rfl (R.assign rfl) ?_
    refine JL.nil ?_
    refine JN.next ?_
    refine JC.ret ?_
    refine JN.passR ?_
    refine JN.seg0 ?_
    refine JN.outP (vs := [.slice none 0 0]) (K := [_]) (rst := []) (.inl rfl) rfl rfl (Res.tmp rfl rfl) (picks 0 rfl picks0) ?_
    exact ⟨none, 0, 0, [], rfl, rfl, rfl, RowOf.nil _ _ _ _ _, (fun p hp => by cases hp), trivial⟩
  | some a =>
    refine JC.condF rfl ?_
    refine JC.skip ?_
    refine JN.next ?_
    refine JC.seq ?_
    refine JC.region ?_
    refine JL.bslF (HF := New H H) (R := RU8) (ls := []) (vs := []) U45 I5 rfl rfl rfl RU8.one rfl rfl rfl (by simp [maxLen]) rfl (fun v1 K1 h1 => ?_)
    obtain ⟨ao1, cap1, rfl⟩ := RowOf.val h1
    refine JL.val rfl rfl (R.move rfl) ?_
    refine JL.appF (HF := New H H) 0 U45 I5 rfl rfl h1 rfl (SrcF.sliceC RU8.const RU8.one U45 hs) hq hl rfl (Nat.le_refl _) rfl (fun v2 K2 h2 => ?_)
    obtain ⟨ao2, cap2, rfl⟩ := RowOf.val h2
    refine JL.val rfl rfl (R.assign rfl) ?_
    refine JL.nil ?_
    refine JN.next ?_
    refine JC.ret ?_
    refine JN.outP (vs := [.slice ao2 _ cap2]) (K := [_]) (rst := []) (.inl rfl) rfl rfl (Res.tmp rfl rfl) (picks 0 rfl picks0) ?_
    exact ⟨_, _, _, _, rfl, rfl, rfl, RowOf.weak (Nat.zero_le _) h2, (fun p hp hm => by cases hm), trivial⟩

set_option maxHeartbeats 1000000 in
theorem slices_Clip_byte_ok (p_1 : List UInt8) (H : Heaplet) {aoa_2 : Option Addr} {na_2 : Nat} {capa_2 : Nat} (ha_2 : IsSlice H RU8 1 (.slice aoa_2 na_2 capa_2) p_1) (r : List UInt8) (hx : slices_Clip_byte p_1 = some r) :
    Does Try.prog 90 #[.slice aoa_2 na_2 capa_2] [] H (fun u K' H' => ∃ ao0 : Option Addr, ∃ n0 : Nat, u = .slice ao0 n0 n0 ∧ K' = [] ∧ H = H' ∧ IsSlice H RU8 1 (.slice ao0 n0 n0) r ∧ True) := by
  refine Does.enterL (vs := [.slice aoa_2 na_2 capa_2]) (l := [(0, .slice aoa_2 na_2 capa_2)]) Try.func90 rfl rfl ⟨rfl, trivial⟩ (fun w hlt => ?_)
  rw [slices_Clip_byte.eq_1] at hx
  refine JC.seq ?_
  refine JC.region ?_
  refine JL.val rfl rfl (R.assign rfl) ?_
  refine JL.nil ?_
  refine JN.next ?_
  refine JC.seq ?_
  refine JC.region ?_
  refine JL.val rfl rfl (R.move rfl) ?_
  refine JL.val rfl rfl (R.move rfl) ?_
  refine JL.val rfl rfl (R.lenL U45 rfl (IsSlice.long ha_2)) ?_
  refine JL.val rfl rfl (R.move rfl) ?_
  refine JL.val rfl rfl (R.lenL U45 rfl (IsSlice.long ha_2)) ?_
  obtain ⟨m_3, hm_5, hb_4, hx⟩ := slc_some hx
  obtain ⟨vv_6, cv_6, aov_6, h1v_6, h2v_6, hsv_6⟩ := IsSlice.cutc ha_2 hm_5 hb_4
  refine JL.val rfl rfl (R.slc (cap := cv_6) (a := 0) (b := (p_1.length : Int)) (c := (p_1.length : Int)) (m := p_1) (R := RU8) U45 S5 rfl rfl ⟨_, rfl⟩ ⟨_, rfl⟩ ⟨hb_4.1, hb_4.2.1, Int.le_refl _⟩ h1v_6 (.inr (fun h => by cases h))) ?_
  subst h2v_6
  refine JL.val rfl rfl (R.assign rfl) ?_
  refine JL.nil ?_
  refine JN.next ?_
  refine JC.ret ?_
  refine JN.outP (vs := [.slice aov_6 m_3.length m_3.length]) (K := []) (rst := []) (.inl rfl) rfl rfl (Res.tmp rfl rfl) picks0 ?_
  obtain rfl := Option.some.inj hx
  exact ⟨aov_6, m_3.length, rfl, rfl, rfl, hsv_6, trivial⟩

theorem slices_Chunk_byte_ok (p_1 : List UInt8) (p_2 : Int) (H : Heaplet) {ao : Option Addr} {n cap : Nat} (hs : IsSlice H RU8 1 (.slice ao n cap) p_1) (r : Unit) (hx : slices_Chunk_byte p_1 p_2 = some r) :
    Does Try.prog 92 #[.slice ao n cap, .int .i64 p_2] [] H (fun u K' H' => ∃ b2 b3 : Nat, u = .func (.func 103) #[] #[.pointer (some ⟨b2, 0, none⟩), .pointer (some ⟨b3, 0, none⟩)] ∧ K' = [] ∧ H' b2 0 = some (.slice ao n cap) ∧ H' b3 0 = some (.int .i64 p_2) ∧ (1 ≤ p_2 ∧ p_2 ≤ 1099511627776 ∧ p_1.length ≤ LIM) ∧ True) := by
  unfold slices_Chunk_byte at hx
  split at hx
  case isFalse => cases hx
  rename_i hp
  refine Does.enter (vs := [.slice ao n cap, .int .i64 p_2]) (l := [(0, .slice ao n cap), (1, .int .i64 p_2)]) Try.func92 rfl rfl ⟨rfl, rfl, trivial⟩ (fun w => ?_)
  refine JC.seq ?_
  refine JC.region ?_
  refine JL.box rfl rfl (fun b2 hb2 => ?_)
  refine JL.box rfl rfl (fun b3 hb3 => ?_)
  refine JL.val rfl rfl (R.assign rfl) ?_
  refine JL.nil ?_
  refine JN.next ?_
  refine JC.seq ?_
  refine JC.seq ?_
  refine JC.region ?_
  refine JL.val rfl rfl (R.ldo 0 S3 rfl rfl rfl) ?_
  refine JL.val rfl rfl (R.lss_i rfl rfl) ?_
  refine JL.nil ?_
  refine JN.next ?_
  refine JC.condB rfl (fun c => ?_) (fun c => ?_)
  · exact absurd (of_decide_eq_true c) (by omega)
  refine JC.skip ?_
  refine JN.next ?_
  refine JC.seq ?_
  refine JC.region ?_
  refine JL.val rfl rfl (R.func (vf := []) (vc := [_, _]) rfl rfl) ?_
  refine JL.val rfl rfl (R.assign rfl) ?_
  refine JL.nil ?_
  refine JN.next ?_
  refine JC.ret ?_
  refine JN.pubBox 0 rfl hb3 (fun H1 hle1 hc1 => ?_)
  refine JN.forget 0 ?_
  refine JN.pubBox 0 rfl hb2 (fun H2 hle2 hc2 => ?_)
  refine JN.forget 0 ?_
  refine JN.out1 (.inl rfl) rfl rfl rfl ?_
  exact ⟨_, _, rfl, rfl, hc2 0 _ rfl, hle2 _ _ _ (hc1 0 _ rfl), hp, trivial⟩

set_option maxHeartbeats 1000000 in
theorem slices_Chunk_byte_it (m : List UInt8) (N : Int) (hN : 1 ≤ N ∧ N ≤ 1099511627776 ∧ m.length ≤ LIM) (H : Heaplet) {v : Value} {b2 b3 : Nat} (hs : IsSlice H RU8 1 v m) (hb2 : H b2 0 = some v) (hb3 : H b3 0 = some (.int .i64 N)) :
    IterL Try.prog 103 #[.pointer (some ⟨b2, 0, none⟩), .pointer (some ⟨b3, 0, none⟩)] H (fun H' args (y : List UInt8) => ∃ ao : Option Addr, args = #[.slice ao y.length y.length] ∧ IsSlice H' RU8 1 (.slice ao y.length y.length) y) (chunks N.toNat m.length m) := by
  intro lr I X o hY hI
  obtain ⟨hN1, hN2, hml⟩ := hN
  unfold LIM at hml
  obtain ⟨ao, cap, rfl⟩ := hs.val
  show Does Try.prog 103 #[.func (.yield lr) #[] #[], .pointer (some ⟨b2, 0, none⟩), .pointer (some ⟨b3, 0, none⟩)] o H _
  refine Does.enter (vs := [.func (.yield lr) #[] #[], .pointer (some ⟨b2, 0, none⟩), .pointer (some ⟨b3, 0, none⟩)]) (l := [(0, .func (.yield lr) #[] #[]), (1, .pointer (some ⟨b2, 0, none⟩)), (2, .pointer (some ⟨b3, 0, none⟩))]) Try.func103 rfl rfl ⟨rfl, rfl, rfl, trivial⟩ (fun w => ?_)
  refine JC.seq ?_
  refine JC.region ?_
  refine JL.val rfl rfl (R.assign rfl) ?_
  refine JL.nil ?_
  refine JN.next ?_
  refine JC.block ?_
  refine JC.loop (ι := Nat × Nat × List (List UInt8) × List Own × Heaplet) (fun i => [(0, .func (.yield lr) #[] #[]), (1, .pointer (some ⟨b2, 0, none⟩)), (2, .pointer (some ⟨b3, 0, none⟩)), (4, .int .i64 ((i.1 : Nat) : Int))]) (fun i => i.2.2.2.1) (fun i => i.2.2.2.2)
    (fun i => i.1 ≤ 2199023255552 ∧ m.length ≤ i.1 + i.2.1 ∧ i.2.2.1 ++ chunks N.toNat i.2.1 (m.drop i.1) = chunks N.toNat m.length m ∧ I i.2.2.1 i.2.2.2.1 i.2.2.2.2 ∧ Hle H i.2.2.2.2) (fun i => m.length + 1 - i.1) (0, m.length, [], o, H) (⟨by omega, by simp, by simp, hI, Hle.refl _⟩) ⟨rfl, rfl, rfl, rfl, trivial⟩ rfl rfl ?_
  rintro ⟨i, f, pre, o2, H2⟩ hI0
  dsimp only at hI0 ⊢
  obtain ⟨hi2, hf, hpre, hI2, hle⟩ := hI0
  have hb2' := hle _ _ _ hb2
  have hb3' := hle _ _ _ hb3
  have hs2 := IsSlice.mono RU8.mono hle hs
  refine JC.seq ?_
  refine JC.seq ?_
  refine JC.region ?_
  refine JL.val rfl rfl (R.move rfl) ?_
  refine JL.val rfl rfl (R.ldH S45 rfl hb2') ?_
  refine JL.val rfl rfl (R.lenL U45 rfl (IsSlice.long hs2)) ?_
  refine JL.val rfl rfl (R.lss_i rfl rfl) ?_
  refine JL.nil ?_
  refine JN.next ?_
  refine JC.condB rfl (fun c => ?_) (fun c => ?_)
  · have hlt : i < m.length := by have := of_decide_eq_true c; omega
    have hne : m.drop i ≠ [] := fun h => by have := List.drop_eq_nil_iff.1 h; omega
    obtain ⟨f', rfl⟩ : ∃ f', f = f' + 1 := ⟨f - 1, by omega⟩
    rw [chunks_step hne, List.drop_drop] at hpre
    obtain ⟨e, he⟩ : ∃ e : Int, e = min N ((m.length : Int) - i) := ⟨_, rfl⟩
    have hcut : (m.drop i).take N.toNat = cut m (i : Int) ((i : Int) + e) := by
      unfold cut
      rw [Int.toNat_natCast]
      by_cases h : N ≤ (m.length : Int) - i
      · rw [show ((i : Int) + e).toNat - i = N.toNat by omega]
      · rw [List.take_of_length_le (by rw [List.length_drop]; omega), List.take_of_length_le (by rw [List.length_drop]; omega)]
    refine JC.skip ?_
    refine JN.next ?_
    refine JC.seq ?_
    refine JC.block ?_
    refine JC.seq ?_
    obtain ⟨v1, c1, h1, h2, h3, hs1⟩ := IsSlice.cutv (m' := cut m (i : Int) (m.length : Int)) hs2 rfl ⟨by omega, by omega, Int.le_refl _⟩
    have hl1 : ((cut m (i : Int) (m.length : Int)).length : Int) = (m.length : Int) - i := cut_length (by omega) (by omega) (Int.le_refl _)
    refine JC.draw (so := []) 7 rfl Mixed trivial ?_
    refine JA.val ⟨by kernel_rfl, by kernel_rfl⟩ (calm_only _) (i := 0) rfl ⟨by kernel_rfl, by kernel_rfl, rfl⟩ trivial (stab_of (Hle.refl _) trivial) (R.ldH S3 rfl hb3') rfl ?_
    refine JA.val ⟨by kernel_rfl, by kernel_rfl⟩ (calm_only _) (i := 1) rfl ⟨by kernel_rfl, by kernel_rfl, rfl⟩ trivial (stab_of (Hle.refl _) trivial) (R.ldH S45 rfl hb2') rfl ?_
    refine JA.val ⟨by kernel_rfl, by kernel_rfl⟩ (calm_only _) (i := 2) rfl ⟨by kernel_rfl, by kernel_rfl, rfl⟩ trivial (stab_of (Hle.refl _) trivial) (R.move rfl) rfl ?_
    refine JA.val ⟨by kernel_rfl, by kernel_rfl⟩ (calm_only _) (i := 3) rfl ⟨by kernel_rfl, by kernel_rfl, rfl⟩ trivial (stab_of (Hle.refl _) trivial) (R.slc (cap := c1) (a := (i : Int)) (b := (m.length : Int)) (c := (c1 : Int)) (m := m) (R := RU8) U45 S5 rfl ⟨_, rfl⟩ rfl (by obtain ⟨ao, n, e, _⟩ := h1; exact ⟨ao, n, e, rfl⟩) ⟨by omega, by omega, h2⟩ h3 (.inl rfl)) rfl ?_
    refine JA.val ⟨by kernel_rfl, by kernel_rfl⟩ (calm_only _) (i := 4) rfl ⟨by kernel_rfl, by kernel_rfl, rfl⟩ trivial (stab_of (Hle.refl _) trivial) (R.lenE U45 rfl ⟨_, IsSlice.long hs1, hl1⟩) rfl ?_
    refine JA.val ⟨by kernel_rfl, by kernel_rfl⟩ (calm_only _) (i := 5) rfl ⟨by kernel_rfl, by kernel_rfl, rfl⟩ trivial (stab_of (Hle.refl _) trivial) (R.min2 rfl rfl) rfl ?_
    rw [← he]
    refine JA.val ⟨by kernel_rfl, by kernel_rfl⟩ (calm_only _) (i := 6) rfl ⟨by kernel_rfl, by kernel_rfl, rfl⟩ trivial (stab_of (Hle.refl _) trivial) (R.assign rfl) rfl ?_
    refine JA.doneN (by kernel_rfl) ?_
    refine JN.next ?_
    have hw : w64 ((i : Int) + e) = (i : Int) + e := w64_of (by omega) (by omega)
    obtain ⟨v2, c2, ao2, g1, g2, hs3⟩ := IsSlice.cutc (m' := (m.drop i).take N.toNat) hs2 hcut ⟨by omega, by omega, by omega⟩
    subst g2
    refine JC.seq ?_
    refine JC.region ?_
    refine JL.val rfl rfl (R.move rfl) ?_
    refine JL.val rfl rfl (R.ldH S45 rfl hb2') ?_
    refine JL.val rfl rfl (R.move rfl) ?_
    refine JL.val rfl rfl (R.move rfl) ?_
    refine JL.val rfl rfl (R.move rfl) ?_
    refine JL.val rfl rfl (R.add_i rfl rfl) ?_
    rw [hw]
    refine JL.val rfl rfl (R.move rfl) ?_
    refine JL.val rfl rfl (R.move rfl) ?_
    refine JL.val rfl rfl (R.add_i rfl rfl) ?_
    rw [hw]
    refine JL.val rfl rfl (R.slc (cap := c2) (a := (i : Int)) (b := (i : Int) + e) (c := (i : Int) + e) (m := m) (R := RU8) U45 S5 rfl ⟨_, rfl⟩ ⟨_, rfl⟩ ⟨_, rfl⟩ ⟨by omega, by omega, Int.le_refl _⟩ g1 (.inr (fun h => by cases h))) ?_
    refine JL.yield (vs := [_]) (mine := []) ((m.drop i).take N.toNat) hY rfl rfl hI2 (⟨⟨ao2, rfl, hs3⟩, _, by rw [← hpre]⟩) rfl rfl (fun o17 H17 hle17 hI17 => ?_) (fun o17 H17 hle17 hX17 => ?_)
    · refine JL.val rfl rfl (R.not rfl) ?_
      refine JL.nil ?_
      refine JN.next ?_
      refine JC.condF rfl ?_
      refine JC.skip ?_
      refine JN.blkN ?_
      refine JN.next ?_
      refine JC.region ?_
      refine JL.val rfl rfl (R.move rfl) ?_
      refine JL.val rfl rfl (R.ldH S3 rfl (hle17 _ _ _ hb3')) ?_
      refine JL.val rfl rfl (R.add_i rfl rfl) ?_
      refine JL.val rfl rfl (R.assign rfl) ?_
      refine JL.nil ?_
      have hw2 : w64 ((i : Int) + N) = ((i + N.toNat : Nat) : Int) := by rw [w64_of (by omega) (by omega)]; omega
      refine JN.again (i := (i, f' + 1, pre, o2, H2)) (i + N.toNat, f', pre ++ [(m.drop i).take N.toNat], o17, H17) (by
        refine ⟨?_, ?_, ?_, hI17, hle.trans hle17⟩
        · simp only; omega
        · simp only; omega
        · simp only [List.append_assoc, List.singleton_append]; exact hpre) (by simp only; omega) (by exact ⟨rfl, rfl, rfl, by show some _ = some _; rw [hw2], trivial⟩) rfl rfl
    · refine JL.val rfl rfl (R.not rfl) ?_
      refine JL.nil ?_
      refine JN.next ?_
      refine JC.condT rfl ?_
      refine JC.ret ?_
      refine JN.blkR ?_
      refine JN.passR ?_
      refine JN.passR ?_
      refine JN.blkR ?_
      refine JN.out0 (.inl rfl) rfl rfl ?_
      exact ⟨hle.trans hle17, .inr ⟨_, ⟨chunks N.toNat f' (m.drop (i + N.toNat)), by rw [← hpre]; simp⟩, hX17⟩⟩
  · have hge : m.length ≤ i := by have := of_decide_eq_false c; omega
    refine JC.exit ?_
    refine JN.passX ?_
    refine JN.passX ?_
    refine JN.exitSame ?_
    refine JN.out0 (.inr rfl) rfl rfl ?_
    refine ⟨hle, .inl ⟨pre, ?_, hI2⟩⟩
    rw [← hpre, List.drop_eq_nil_of_le hge, chunks_nil, List.append_nil]

theorem slices_Backward_byte_ok (p_1 : List UInt8) (H : Heaplet) {ao : Option Addr} {n cap : Nat} (hs : IsSlice H RU8 1 (.slice ao n cap) p_1) (r : Unit) (hx : slices_Backward_byte p_1 = some r) :
    Does Try.prog 74 #[.slice ao n cap] [] H (fun u K' H' => ∃ b : Nat, u = .func (.func 96) #[] #[.pointer (some ⟨b, 0, none⟩)] ∧ K' = [] ∧ H' b 0 = some (.slice ao n cap) ∧ True) := by
  refine Does.enter (vs := [.slice ao n cap]) (l := [(0, .slice ao n cap)]) Try.func74 rfl rfl ⟨rfl, trivial⟩ (fun w => ?_)
  refine JC.seq ?_
  refine JC.region ?_
  refine JL.box rfl rfl (fun b1 hb1 => ?_)
  refine JL.assign rfl rfl ?_
  refine JL.nil ?_
  refine JN.next ?_
  refine JC.seq ?_
  refine JC.region ?_
  refine JL.func (vf := #[]) (vc := #[_]) rfl rfl rfl ?_
  refine JL.assign rfl rfl ?_
  refine JL.nil ?_
  refine JN.next ?_
  refine JC.ret ?_
  refine JN.pubBox 0 rfl hb1 (fun H1 hle1 hc1 => ?_)
  refine JN.forget 0 ?_
  have hc := hc1 0 _ rfl
  refine JN.out1 (.inl rfl) rfl rfl rfl ?_
  exact ⟨_, rfl, rfl, hc, trivial⟩

theorem slices_Backward_byte_it (m : List UInt8) (H : Heaplet) {v : Value} {b : Nat} (hs : IsSlice H RU8 1 v m) (hb : H b 0 = some v) :
    IterL Try.prog 96 #[.pointer (some ⟨b, 0, none⟩)] H (fun _ args (y : Nat × UInt8) => args = #[.int .i64 ((y.1 : Nat) : Int), .int .u8 (y.2.toNat : Int)]) (bwd m m.length) := by
  intro lr I X o hY hI
  have hlen := hs.len_le
  obtain ⟨ao, cap, rfl⟩ := hs.val
  show Does Try.prog 96 #[.func (.yield lr) #[] #[], .pointer (some ⟨b, 0, none⟩)] o H _
  refine Does.enter (vs := [.func (.yield lr) #[] #[], .pointer (some ⟨b, 0, none⟩)]) (l := [(0, .func (.yield lr) #[] #[]), (1, .pointer (some ⟨b, 0, none⟩))]) Try.func96 rfl rfl ⟨rfl, rfl, trivial⟩ (fun w => ?_)
  refine JC.seq ?_
  refine JC.region ?_
  refine JL.ldH S45 rfl hb rfl ?_
  refine JL.lenS U45 rfl hs rfl ?_
  refine JL.subI rfl rfl (wi64 (by omega) (by omega)) rfl ?_
  refine JL.assign rfl rfl ?_
  refine JL.nil ?_
  refine JN.next ?_
  refine JC.block ?_
  refine JC.loop (ι := Nat × List (Nat × UInt8) × List Own × Heaplet) (fun i => [(0, .func (.yield lr) #[] #[]), (1, .pointer (some ⟨b, 0, none⟩)), (3, .int .i64 ((i.1 : Int) - 1))]) (fun i => i.2.2.1) (fun i => i.2.2.2) (fun i => i.1 ≤ m.length ∧ i.2.1 ++ bwd m i.1 = bwd m m.length ∧ I i.2.1 i.2.2.1 i.2.2.2 ∧ Hle H i.2.2.2) (fun i => i.1) (m.length, [], o, H) (⟨Nat.le_refl _, rfl, hI, Hle.refl _⟩) ⟨rfl, rfl, rfl, trivial⟩ rfl rfl ?_
  rintro ⟨k, pre, o2, H2⟩ hI0
  dsimp only at hI0 ⊢
  obtain ⟨hk, hpre, hI2, hle⟩ := hI0
  have hb2 := hle _ _ _ hb
  have hs2 := IsB.mono hle hs
  refine JC.seq ?_
  refine JC.seq ?_
  refine JC.region ?_
  refine JL.move rfl rfl ?_
  refine JL.geq rfl rfl rfl ?_
  refine JL.nil ?_
  refine JN.next ?_
  refine JC.condP rfl (fun c8 => ?_) (fun c8 => ?_)
  · refine JC.skip ?_
    refine JN.next ?_
    refine JC.seq ?_
    refine JC.block ?_
    refine JC.seq ?_
    refine JC.region ?_
    refine JL.move rfl rfl ?_
    refine JL.move rfl rfl ?_
    refine JL.ldH S45 rfl hb2 rfl ?_
    refine JL.move rfl rfl ?_
    refine JL.ixB (k := k - 1) U45 S5 rfl hs2 rfl (by omega) (by omega) rfl (fun b15 o15 hc15 => ?_)
    refine JL.ldH S5 rfl hc15 rfl ?_
    have e1 : ((k - 1 : Nat) : Int) = (k : Int) - 1 := by omega
    have e2 : m.getD (k - 1) 0 = m[k - 1] := by rw [List.getD_eq_getElem?_getD, List.getElem?_eq_getElem (show k - 1 < m.length by omega), Option.getD_some]
    have e3 : bwd m k = (k - 1, m.getD (k - 1) 0) :: bwd m (k - 1) := by rw [show k = (k - 1) + 1 by omega]; rfl
    refine JL.yield (vs := [_, _]) (mine := []) ((k - 1, m.getD (k - 1) 0)) hY rfl rfl hI2 (⟨by simp only [e1, e2], bwd m (k - 1), by rw [← hpre, e3]⟩) rfl rfl (fun o17 H17 hle17 hI17 => ?_) (fun o17 H17 hle17 hX17 => ?_)
    · refine JL.not rfl rfl ?_
      refine JL.nil ?_
      refine JN.next ?_
      refine JC.condF rfl ?_
      refine JC.skip ?_
      refine JN.blkN ?_
      refine JN.next ?_
      refine JC.region ?_
      refine JL.move rfl rfl ?_
      refine JL.subI rfl rfl (wi64 (by omega) (by omega)) rfl ?_
      refine JL.assign rfl rfl ?_
      refine JL.nil ?_
      refine JN.again (i := (k, pre, o2, H2)) (k - 1, pre ++ [(k - 1, m.getD (k - 1) 0)], o17, H17) (by exact ⟨by simp only; omega, by rw [← hpre, e3]; simp, hI17, hle.trans hle17⟩) (by simp only; omega) (by exact ⟨rfl, rfl, by show some _ = some _; simp only [e1], trivial⟩) rfl rfl
    · refine JL.not rfl rfl ?_
      refine JL.nil ?_
      refine JN.next ?_
      refine JC.condT rfl ?_
      refine JC.ret ?_
      refine JN.blkR ?_
      refine JN.passR ?_
      refine JN.passR ?_
      refine JN.blkR ?_
      refine JN.out0 (.inl rfl) rfl rfl ?_
      exact ⟨hle.trans hle17, .inr ⟨_, ⟨bwd m (k - 1), by rw [← hpre, e3]; simp⟩, hX17⟩⟩
  · refine JC.exit ?_
    refine JN.passX ?_
    refine JN.passX ?_
    refine JN.exitSame ?_
    refine JN.out0 (.inr rfl) rfl rfl ?_
    exact ⟨hle, .inl ⟨pre, by rw [← hpre, show k = 0 by omega]; simp [bwd], hI2⟩⟩

set_option maxHeartbeats 1000000 in
theorem code_Get_ok (p_1 : List UInt8) (p_3 : Int) (p_4 : Int) (H : Heaplet) {aoa_2 : Option Addr} {na_2 : Nat} {capa_2 : Nat} (ha_2 : IsSlice H RU8 1 (.slice aoa_2 na_2 capa_2) p_1) (r : Int × Int) (hx : code_Get p_1 p_3 p_4 = some r) :
    Does Try.prog 56 #[.slice aoa_2 na_2 capa_2, .int .i64 p_3, .int .i64 p_4] [] H (fun u K' H' => u = .tuple #[.int .i64 r.1, .int .i64 r.2] ∧ K' = [] ∧ True) := by
  refine Does.enterML (vs := [.slice aoa_2 na_2 capa_2, .int .i64 p_3, .int .i64 p_4]) (l := [(0, .slice aoa_2 na_2 capa_2), (1, .int .i64 p_3), (2, .int .i64 p_4)]) Try.func56 rfl rfl ⟨rfl, rfl, rfl, trivial⟩ (fun w hlt => ?_)
  rw [code_Get.eq_1] at hx
  refine JC.seq ?_
  refine JC.region ?_
  refine JL.val rfl rfl (R.assign rfl) ?_
  refine JL.val rfl rfl (R.assign rfl) ?_
  refine JL.nil ?_
  refine JN.next ?_
  refine JC.seq ?_
  refine JC.block ?_
  refine JC.seq ?_
  refine JC.seq ?_
  refine JC.region ?_
  refine JL.val rfl rfl (R.move rfl) ?_
  obtain ⟨x_5, hr_6, hx⟩ := bnd_some hx
  refine JL.callC (vs := [_]) (args := [_]) (K := []) (rst := []) E68 rfl rfl rfl picks0 (code_sized_ok p_4 _ _ hr_6) rfl (fun u_7 Ku_7 Hu_7 hRu_7 hleu_7 hfu_7 => ?_)
  obtain ⟨rfl, rfl, rfl, -⟩ := hRu_7
  refine JL.val rfl rfl (R.not rfl) ?_
  refine JL.val rfl rfl (R.assign rfl) ?_
  refine JL.nil ?_
  refine JN.next ?_
  obtain ⟨t_8, ht_10, hx⟩ := bnd_some hx
  refine JC.cut (fun l o g => l = [(0, .slice aoa_2 na_2 capa_2), (1, .int .i64 p_3), (2, .int .i64 p_4), (11, .bool t_8)] ∧ o = [] ∧ H = g) ?_ ?_
  · rintro _ _ _ ⟨rfl, rfl, rfl⟩
    refine JN.next ?_
    refine JC.condB rfl (fun c_13 => ?_) (fun c_13 => ?_)
    · replace hx := cond_t c_13 hx
      refine JC.seq ?_
      refine JC.region ?_
      refine JL.val rfl rfl (R.assign rfl) ?_
      refine JL.val rfl rfl (R.assign rfl) ?_
      refine JL.nil ?_
      refine JN.next ?_
      refine JC.ret ?_
      refine JN.blkR ?_
      refine JN.passR ?_
      refine JN.outMP (vs := [.int .i64 0, .int .i64 2]) (K := []) (rst := []) (own2 := []) [] (.inl rfl) ⟨rfl, rfl, rfl, rfl⟩ rfl rfl picks0 (Res.tmp rfl (Res.tmp rfl rfl)) picks0 ?_
      obtain rfl := Option.some.inj hx
      exact ⟨rfl, rfl, trivial⟩
    · replace hx := cond_f c_13 hx
      refine JC.seq ?_
      refine JC.region ?_
      refine JL.val rfl rfl (R.move rfl) ?_
      refine JL.val rfl rfl (R.move rfl) ?_
      refine JL.val rfl rfl (R.add_i rfl rfl) ?_
      refine JL.val rfl rfl (R.move rfl) ?_
      refine JL.val rfl rfl (R.lenL U45 rfl (IsSlice.long ha_2)) ?_
      refine JL.val rfl rfl (R.gtr_i rfl rfl) ?_
      refine JL.val rfl rfl (R.assign rfl) ?_
      refine JL.nil ?_
      refine JN.next ?_
      refine JC.condB rfl (fun c_14 => ?_) (fun c_14 => ?_)
      · replace hx := cond_t c_14 hx
        refine JC.seq ?_
        refine JC.region ?_
        refine JL.val rfl rfl (R.assign rfl) ?_
        refine JL.val rfl rfl (R.assign rfl) ?_
        refine JL.nil ?_
        refine JN.next ?_
        refine JC.ret ?_
        refine JN.blkR ?_
        refine JN.passR ?_
        refine JN.outMP (vs := [.int .i64 0, .int .i64 8]) (K := []) (rst := []) (own2 := []) [] (.inl rfl) ⟨rfl, rfl, rfl, rfl⟩ rfl rfl picks0 (Res.tmp rfl (Res.tmp rfl rfl)) picks0 ?_
        obtain rfl := Option.some.inj hx
        exact ⟨rfl, rfl, trivial⟩
      · replace hx := cond_f c_14 hx
        refine JC.skip ?_
        refine JN.blkN ?_
        refine JN.next ?_
        refine JC.seq ?_
        refine JC.region ?_
        refine JL.alloc Z3 rfl (fun b_15 hb_15 => ?_)
        refine JL.store 0 S3 rfl rfl rfl rfl rfl (Nat.le_of_ble_eq_true rfl) ?_
        refine JL.nil ?_
        refine JN.next ?_
        refine JC.seq ?_
        refine JC.seq ?_
        refine JC.region ?_
        refine JL.val rfl rfl (R.move rfl) ?_
        refine JL.val rfl rfl (R.move rfl) ?_
        refine JL.val rfl rfl (R.move rfl) ?_
        refine JL.val rfl rfl (R.move rfl) ?_
        refine JL.val rfl rfl (R.add_i rfl rfl) ?_
        obtain ⟨m_16, hm_18, hb_17, hx⟩ := slc_some hx
        obtain ⟨vv_19, cv_19, h1v_19, h2v_19, h3v_19, hsv_19⟩ := IsSlice.cutv ha_2 hm_18 hb_17
        refine JL.val rfl rfl (R.slc (cap := cv_19) (a := p_3) (b := w64 (p_3 + p_4)) (c := (cv_19 : Int)) (m := p_1) (R := RU8) U45 S5 rfl ⟨_, rfl⟩ ⟨_, rfl⟩ (by obtain ⟨ao, n, e, _⟩ := h1v_19; exact ⟨ao, n, e, rfl⟩) ⟨hb_17.1, hb_17.2.1, h2v_19⟩ h3v_19 (.inl rfl)) ?_
        obtain ⟨aov_19, capv_19, rfl⟩ := IsSlice.val hsv_19
        obtain ⟨x_20, hr_21, hx⟩ := bnd_some hx
        refine JL.callC (vs := [_]) (args := [_]) (K := []) (rst := [_]) E74 rfl rfl rfl picks0 (slices_Backward_byte_ok m_16 _ hsv_19 _ hr_21) rfl (fun u_22 Ku_22 Hu_22 hRu_22 hleu_22 hfu_22 => ?_)
        obtain ⟨bit_23, rfl, rfl, hit_23, -⟩ := hRu_22
        refine JL.nil ?_
        refine JN.next ?_
        refine JC.block ?_
        obtain ⟨t_24, ht_26, hx⟩ := bnd_some hx
        refine JC.rangeL (RA := fun _ args (y : Nat × UInt8) => args = #[.int .i64 ((y.1 : Nat) : Int), .int .u8 (y.2.toNat : Int)]) rfl code_Get_r1 0 t_24 ht_26 (fun s_27 o g => ∃ H_33 : Heaplet, o = [[(b_15, .cells #[.int .i64 s_27] 3 (0, 0))]] ∧ H_33 = g ∧ Hle Hu_22 H_33) (fun e c o g => False) rfl E96 (slices_Backward_byte_it m_16 _ (hsv_19.mono RU8.mono hleu_22) hit_23) (fun _ _ _ h => by rw [h]; rfl) rfl ⟨Hu_22, rfl, rfl, (Hle.refl _)⟩ ?_ ?_ ?_
        · rintro lr_29 y_28 s_27 args o g out_31 ⟨H_33, rfl, rfl, hleH_33⟩ hA hx2
          clear hx; have hx := hx2; clear hx2; rw [code_Get_r1.eq_1] at hx
          subst hA
          refine ⟨[(8, .pointer (some ⟨b_15, 0, none⟩)), (10, .int .u8 (y_28.2.toNat : Int))], fun wb_30 hwb_30 => ?_, fun wb_30 hwb_30 => ?_⟩
          · refine JC.region ?_
            refine JL.val rfl rfl (R.assign rfl) ?_
            refine JL.nil ?_
            exact JN.assigned ⟨rfl, rfl, trivial⟩
          · refine JC.block ?_
            refine JC.region ?_
            refine JL.val rfl rfl (R.ldo 0 S3 rfl rfl rfl) ?_
            refine JL.val rfl rfl (R.mul_i rfl rfl) ?_
            refine JL.val rfl rfl (R.move rfl) ?_
            refine JL.val rfl rfl (R.cv_u8_i64 (a := y_28.2) U5 U3 rfl) ?_
            refine JL.val rfl rfl (R.add_i rfl rfl) ?_
            refine JL.store 0 S3 rfl rfl rfl rfl rfl (Nat.le_of_ble_eq_true rfl) ?_
            refine JL.nil ?_
            refine JN.blkN ?_
            obtain rfl := Option.some.inj hx
            exact JN.rN ⟨H_33, rfl, rfl, (hleH_33)⟩
        · rintro D_32 s_27 o g hD_32 htt ⟨H_33, rfl, rfl, hleH_33⟩ hle2
          subst htt; simp only [Sum.elim_inl] at hx
          refine JN.blkN ?_
          refine JN.next ?_
          refine JC.seq ?_
          refine JC.region ?_
          refine JL.val rfl rfl (R.ldo 1 S3 rfl rfl rfl) ?_
          refine JL.val rfl rfl (R.assign rfl) ?_
          refine JL.val rfl rfl (R.assign rfl) ?_
          refine JL.nil ?_
          refine JN.next ?_
          refine JC.ret ?_
          refine JN.outMP (vs := [.int .i64 s_27, .int .i64 0]) (K := []) (rst := [_]) (own2 := [_]) [D_32] (.inl rfl) ⟨rfl, rfl, rfl, rfl⟩ rfl rfl (picks 0 rfl picks0) (Res.tmp rfl (Res.tmp rfl rfl)) picks0 ?_
          obtain rfl := Option.some.inj hx
          exact ⟨rfl, rfl, trivial⟩
        · rintro D c e o g hD htt hX; exact hX.elim
  · have hxo_9 := hx; clear hx; have hx := ht_10; clear ht_10
    refine JC.condB rfl (fun c_11 => ?_) (fun c_11 => ?_)
    · replace hx := cond_t c_11 hx
      refine JC.skip ?_
      obtain rfl := Option.some.inj hx
      exact JN.cut ⟨rfl, rfl, rfl⟩ ⟨rfl, rfl, rfl, rfl, trivial⟩ rfl rfl
    · replace hx := cond_f c_11 hx
      refine JC.seq ?_
      refine JC.region ?_
      refine JL.val rfl rfl (R.move rfl) ?_
      refine JL.val rfl rfl (R.lss_i rfl rfl) ?_
      refine JL.val rfl rfl (R.assign rfl) ?_
      refine JL.nil ?_
      refine JN.next ?_
      refine JC.condB rfl (fun c_12 => ?_) (fun c_12 => ?_)
      · replace hx := cond_t c_12 hx
        refine JC.skip ?_
        obtain rfl := Option.some.inj hx
        exact JN.cut ⟨rfl, rfl, rfl⟩ ⟨rfl, rfl, rfl, rfl, trivial⟩ rfl rfl
      · replace hx := cond_f c_12 hx
        refine JC.region ?_
        refine JL.val rfl rfl (R.move rfl) ?_
        refine JL.val rfl rfl (R.move rfl) ?_
        refine JL.val rfl rfl (R.lenL U45 rfl (IsSlice.long ha_2)) ?_
        refine JL.val rfl rfl (R.gtr_i rfl rfl) ?_
        refine JL.val rfl rfl (R.assign rfl) ?_
        refine JL.nil ?_
        obtain rfl := Option.some.inj hx
        exact JN.cut ⟨rfl, rfl, rfl⟩ ⟨rfl, rfl, rfl, rfl, trivial⟩ rfl rfl

set_option maxHeartbeats 1000000 in
theorem mix_number_ok (p_1 : List UInt8) (H : Heaplet) {aoa_2 : Option Addr} {na_2 : Nat} {capa_2 : Nat} (ha_2 : IsSlice H RU8 1 (.slice aoa_2 na_2 capa_2) p_1) (r : UInt32) (hx : mix_number p_1 = some r) :
    Does Try.prog 93 #[.slice aoa_2 na_2 capa_2] [] H (fun u K' H' => u = .int .u32 (r.toNat : Int) ∧ K' = [] ∧ True) := by
  refine Does.enterL (vs := [.slice aoa_2 na_2 capa_2]) (l := [(0, .slice aoa_2 na_2 capa_2)]) Try.func93 rfl rfl ⟨rfl, trivial⟩ (fun w hlt => ?_)
  rw [mix_number.eq_1] at hx
  refine JC.seq ?_
  refine JC.region ?_
  refine JL.val rfl rfl (R.assign rfl) ?_
  refine JL.nil ?_
  refine JN.next ?_
  refine JC.seq ?_
  refine JC.region ?_
  refine JL.val rfl rfl (R.move rfl) ?_
  obtain ⟨x_3, hr_4, hx⟩ := bnd_some hx
  refine JL.callC (vs := [_, _, _]) (args := [_, _, _]) (K := []) (rst := []) E56 rfl rfl rfl picks0 (code_Get_ok p_1 0 4 _ ha_2 _ hr_4) rfl (fun u_5 Ku_5 Hu_5 hRu_5 hleu_5 hfu_5 => ?_)
  obtain ⟨rfl, rfl, -⟩ := hRu_5
  refine JL.val rfl rfl (R.move rfl) ?_
  refine JL.val rfl rfl (R.extract rfl rfl) ?_
  refine JL.val rfl rfl (R.extract rfl rfl) ?_
  refine JL.val rfl rfl (R.assign rfl) ?_
  refine JL.val rfl rfl (R.assign rfl) ?_
  refine JL.nil ?_
  refine JN.next ?_
  refine JC.seq ?_
  refine JC.region ?_
  refine JL.val rfl rfl (R.move rfl) ?_
  refine JL.val rfl rfl (R.cv_i64_u32 U3 U26 rfl) ?_
  refine JL.val rfl rfl (R.assign rfl) ?_
  refine JL.nil ?_
  refine JN.next ?_
  refine JC.ret ?_
  refine JN.outP (vs := [.int .u32 ((u32i x_3.1).toNat : Int)]) (K := []) (rst := []) (.inl rfl) rfl rfl (Res.tmp rfl rfl) picks0 ?_
  obtain rfl := Option.some.inj hx
  exact ⟨rfl, rfl, trivial⟩

set_option maxHeartbeats 1000000 in
theorem math_bits_RotateLeft32_ok (p_1 : UInt32) (p_2 : Int) (H : Heaplet) (r : UInt32) (hx : math_bits_RotateLeft32 p_1 p_2 = some r) :
    Does Try.prog 109 #[.int .u32 (p_1.toNat : Int), .int .i64 p_2] [] H (fun u K' H' => u = .int .u32 (r.toNat : Int) ∧ K' = [] ∧ H = H' ∧ True) := by
  refine Does.enterL (vs := [.int .u32 (p_1.toNat : Int), .int .i64 p_2]) (l := [(0, .int .u32 (p_1.toNat : Int)), (1, .int .i64 p_2)]) Try.func109 rfl rfl ⟨rfl, rfl, trivial⟩ (fun w hlt => ?_)
  rw [math_bits_RotateLeft32.eq_1] at hx
  refine JC.seq ?_
  refine JC.region ?_
  refine JL.val rfl rfl (R.assign rfl) ?_
  refine JL.nil ?_
  refine JN.next ?_
  refine JC.seq ?_
  refine JC.region ?_
  refine JL.val rfl rfl (R.move rfl) ?_
  refine JL.val rfl rfl (R.cv_i64_u64 U3 U90 rfl) ?_
  refine JL.val rfl rfl (R.and64 (a := u64i p_2) (b := (31 : UInt64)) rfl rfl) ?_
  refine JL.val rfl rfl (R.assign rfl) ?_
  refine JL.nil ?_
  refine JN.next ?_
  refine JC.seq ?_
  refine JC.region ?_
  refine JL.val rfl rfl (R.move rfl) ?_
  refine JL.val rfl rfl (R.move rfl) ?_
  refine JL.val rfl rfl (R.shl32 (n := (((u64i p_2) &&& (31 : UInt64)).toNat : Int)) (a := p_1) rfl rfl (Int.natCast_nonneg _)) ?_
  refine JL.val rfl rfl (R.move rfl) ?_
  refine JL.val rfl rfl (R.move rfl) ?_
  refine JL.val rfl rfl (R.sub64 (a := (32 : UInt64)) (b := (u64i p_2) &&& (31 : UInt64)) rfl rfl) ?_
  refine JL.val rfl rfl (R.shr32 (n := (((32 : UInt64) - ((u64i p_2) &&& (31 : UInt64))).toNat : Int)) (a := p_1) rfl rfl (Int.natCast_nonneg _)) ?_
  refine JL.val rfl rfl (R.or32 (a := sl32 p_1 ((((u64i p_2) &&& (31 : UInt64)).toNat : Int)).toNat) (b := sr32 p_1 ((((32 : UInt64) - ((u64i p_2) &&& (31 : UInt64))).toNat : Int)).toNat) rfl rfl) ?_
  refine JL.val rfl rfl (R.assign rfl) ?_
  refine JL.nil ?_
  refine JN.next ?_
  refine JC.ret ?_
  refine JN.outP (vs := [.int .u32 (((sl32 p_1 ((((u64i p_2) &&& (31 : UInt64)).toNat : Int)).toNat) ||| (sr32 p_1 ((((32 : UInt64) - ((u64i p_2) &&& (31 : UInt64))).toNat : Int)).toNat)).toNat : Int)]) (K := []) (rst := []) (.inl rfl) rfl rfl (Res.tmp rfl rfl) picks0 ?_
  obtain rfl := Option.some.inj hx
  exact ⟨rfl, rfl, rfl, trivial⟩

set_option maxHeartbeats 1000000 in
theorem mix_words_turned_1_ok (p_1 : Int) (p_2 : Int) (p_4 : A4 UInt32) (H : Heaplet) {b_3 : Nat} (r : A4 UInt32) (hx : mix_words_turned_1 p_1 p_2 p_4 = some r) :
    Does Try.prog 108 #[.int .i64 p_1, .int .i64 p_2, .pointer (some ⟨b_3, 0, none⟩)] [[(b_3, .cells #[.int .u32 (p_4.e0.toNat : Int), .int .u32 (p_4.e1.toNat : Int), .int .u32 (p_4.e2.toNat : Int), .int .u32 (p_4.e3.toNat : Int)] 102 (0, 0))]] H (fun u K' H' => u = .tuple #[] ∧ K' = [[(b_3, .cells #[.int .u32 (r.e0.toNat : Int), .int .u32 (r.e1.toNat : Int), .int .u32 (r.e2.toNat : Int), .int .u32 (r.e3.toNat : Int)] 102 (0, 0))]] ∧ H = H' ∧ True) := by
  refine Does.enterL (vs := [.int .i64 p_1, .int .i64 p_2, .pointer (some ⟨b_3, 0, none⟩)]) (l := [(0, .int .i64 p_1), (1, .int .i64 p_2), (2, .pointer (some ⟨b_3, 0, none⟩))]) Try.func108 rfl rfl ⟨rfl, rfl, rfl, trivial⟩ (fun w hlt => ?_)
  rw [mix_words_turned_1.eq_1] at hx
  refine JC.seq ?_
  refine JC.region ?_
  refine JL.val rfl rfl (R.ixA 0 U102 S26 rfl rfl rfl) ?_
  refine JL.val rfl rfl (R.ldo 0 S26 rfl rfl rfl) ?_
  refine JL.val rfl rfl (R.ixA 1 U102 S26 rfl rfl rfl) ?_
  refine JL.val rfl rfl (R.ldo 0 S26 rfl rfl rfl) ?_
  refine JL.val rfl rfl (R.add32 (a := p_4.e0) (b := p_4.e1) rfl rfl) ?_
  refine JL.val rfl rfl (R.ixA 0 U102 S26 rfl rfl rfl) ?_
  refine JL.store 0 S26 rfl rfl rfl rfl rfl (Nat.le_of_ble_eq_true rfl) ?_
  refine JL.nil ?_
  refine JN.next ?_
  refine JC.seq ?_
  refine JC.region ?_
  refine JL.val rfl rfl (R.ixA 3 U102 S26 rfl rfl rfl) ?_
  refine JL.val rfl rfl (R.ldo 0 S26 rfl rfl rfl) ?_
  refine JL.val rfl rfl (R.ixA 0 U102 S26 rfl rfl rfl) ?_
  refine JL.val rfl rfl (R.ldo 0 S26 rfl rfl rfl) ?_
  refine JL.val rfl rfl (R.xor32 (a := p_4.e3) (b := p_4.e0 + p_4.e1) rfl rfl) ?_
  refine JL.val rfl rfl (R.move rfl) ?_
  obtain ⟨x_5, hr_6, hx⟩ := bnd_some hx
  refine JL.callC (vs := [_, _]) (args := [_, _]) (K := []) (rst := [_]) E109 rfl rfl rfl picks0 (math_bits_RotateLeft32_ok (p_4.e3 ^^^ (p_4.e0 + p_4.e1)) p_1 _ _ hr_6) rfl (fun u_7 Ku_7 Hu_7 hRu_7 hleu_7 hfu_7 => ?_)
  obtain ⟨rfl, rfl, rfl, -⟩ := hRu_7
  refine JL.val rfl rfl (R.ixA 3 U102 S26 rfl rfl rfl) ?_
  refine JL.store 0 S26 rfl rfl rfl rfl rfl (Nat.le_of_ble_eq_true rfl) ?_
  refine JL.nil ?_
  refine JN.next ?_
  refine JC.seq ?_
  refine JC.region ?_
  refine JL.val rfl rfl (R.ixA 2 U102 S26 rfl rfl rfl) ?_
  refine JL.val rfl rfl (R.ldo 0 S26 rfl rfl rfl) ?_
  refine JL.val rfl rfl (R.ixA 3 U102 S26 rfl rfl rfl) ?_
  refine JL.val rfl rfl (R.ldo 0 S26 rfl rfl rfl) ?_
  refine JL.val rfl rfl (R.add32 (a := p_4.e2) (b := x_5) rfl rfl) ?_
  refine JL.val rfl rfl (R.ixA 2 U102 S26 rfl rfl rfl) ?_
  refine JL.store 0 S26 rfl rfl rfl rfl rfl (Nat.le_of_ble_eq_true rfl) ?_
  refine JL.nil ?_
  refine JN.next ?_
  refine JC.region ?_
  refine JL.val rfl rfl (R.ixA 1 U102 S26 rfl rfl rfl) ?_
  refine JL.val rfl rfl (R.ldo 0 S26 rfl rfl rfl) ?_
  refine JL.val rfl rfl (R.ixA 2 U102 S26 rfl rfl rfl) ?_
  refine JL.val rfl rfl (R.ldo 0 S26 rfl rfl rfl) ?_
  refine JL.val rfl rfl (R.xor32 (a := p_4.e1) (b := p_4.e2 + x_5) rfl rfl) ?_
  refine JL.val rfl rfl (R.move rfl) ?_
  obtain ⟨x_8, hr_9, hx⟩ := bnd_some hx
  refine JL.callC (vs := [_, _]) (args := [_, _]) (K := []) (rst := [_]) E109 rfl rfl rfl picks0 (math_bits_RotateLeft32_ok (p_4.e1 ^^^ (p_4.e2 + x_5)) p_2 _ _ hr_9) rfl (fun u_10 Ku_10 Hu_10 hRu_10 hleu_10 hfu_10 => ?_)
  obtain ⟨rfl, rfl, rfl, -⟩ := hRu_10
  refine JL.val rfl rfl (R.ixA 1 U102 S26 rfl rfl rfl) ?_
  refine JL.store 0 S26 rfl rfl rfl rfl rfl (Nat.le_of_ble_eq_true rfl) ?_
  refine JL.nil ?_
  refine JN.outP (vs := []) (K := [_]) (rst := []) (.inr rfl) rfl rfl rfl (picks 0 rfl picks0) ?_
  obtain rfl := Option.some.inj hx
  exact ⟨rfl, rfl, rfl, trivial⟩

set_option maxHeartbeats 1000000 in
theorem mix_words_turned_ok (p_1 : A4 UInt32) (H : Heaplet) (r : A4 UInt32) (hx : mix_words_turned p_1 = some r) :
    Does Try.prog 104 #[.agg #[.int .u32 (p_1.e0.toNat : Int), .int .u32 (p_1.e1.toNat : Int), .int .u32 (p_1.e2.toNat : Int), .int .u32 (p_1.e3.toNat : Int)]] [] H (fun u K' H' => u = .agg #[.int .u32 (r.e0.toNat : Int), .int .u32 (r.e1.toNat : Int), .int .u32 (r.e2.toNat : Int), .int .u32 (r.e3.toNat : Int)] ∧ K' = [] ∧ H = H' ∧ True) := by
  refine Does.enterL (vs := [.agg #[.int .u32 (p_1.e0.toNat : Int), .int .u32 (p_1.e1.toNat : Int), .int .u32 (p_1.e2.toNat : Int), .int .u32 (p_1.e3.toNat : Int)]]) (l := [(0, .agg #[.int .u32 (p_1.e0.toNat : Int), .int .u32 (p_1.e1.toNat : Int), .int .u32 (p_1.e2.toNat : Int), .int .u32 (p_1.e3.toNat : Int)])]) Try.func104 rfl rfl ⟨rfl, trivial⟩ (fun w hlt => ?_)
  rw [mix_words_turned.eq_1] at hx
  refine JC.seq ?_
  refine JC.region ?_
  refine JL.box rfl rfl (fun b_2 hb_2 => ?_)
  refine JL.alloc Z102 rfl (fun b_3 hb_3 => ?_)
  refine JL.nil ?_
  refine JN.next ?_
  refine JC.seq ?_
  refine JC.region ?_
  refine JL.val rfl rfl (R.func (vf := []) (vc := [_]) rfl rfl) ?_
  refine JL.val rfl rfl (R.assign rfl) ?_
  refine JL.nil ?_
  refine JN.next ?_
  refine JC.seq ?_
  refine JC.region ?_
  refine JL.val rfl rfl (R.move rfl) ?_
  obtain ⟨x_4, hr_5, hx⟩ := bnd_some hx
  refine JL.callC (vs := [_, _]) (args := [_, _, _]) (K := [_]) (rst := [_]) E108 rfl rfl rfl (picks 1 rfl picks0) (mix_words_turned_1_ok 15 11 p_1 _ _ hr_5) rfl (fun u_6 Ku_6 Hu_6 hRu_6 hleu_6 hfu_6 => ?_)
  obtain ⟨rfl, rfl, rfl, -⟩ := hRu_6
  refine JL.nil ?_
  refine JN.next ?_
  refine JC.seq ?_
  refine JC.region ?_
  refine JL.val rfl rfl (R.move rfl) ?_
  obtain ⟨x_7, hr_8, hx⟩ := bnd_some hx
  refine JL.callC (vs := [_, _]) (args := [_, _, _]) (K := [_]) (rst := [_]) E108 rfl rfl rfl (picks 0 rfl picks0) (mix_words_turned_1_ok 9 6 x_4 _ _ hr_8) rfl (fun u_9 Ku_9 Hu_9 hRu_9 hleu_9 hfu_9 => ?_)
  obtain ⟨rfl, rfl, rfl, -⟩ := hRu_9
  refine JL.nil ?_
  refine JN.next ?_
  refine JC.seq ?_
  refine JC.region ?_
  refine JL.val rfl rfl (R.ldoN 0 (vs := [.int .u32 (x_7.e0.toNat : Int), .int .u32 (x_7.e1.toNat : Int), .int .u32 (x_7.e2.toNat : Int), .int .u32 (x_7.e3.toNat : Int)]) S102 rfl rfl rfl rfl) ?_
  refine JL.store 1 S102 rfl rfl rfl rfl rfl (Nat.le_of_ble_eq_true rfl) ?_
  refine JL.nil ?_
  refine JN.next ?_
  refine JC.ret ?_
  refine JN.outP (vs := [.agg #[.int .u32 (x_7.e0.toNat : Int), .int .u32 (x_7.e1.toNat : Int), .int .u32 (x_7.e2.toNat : Int), .int .u32 (x_7.e3.toNat : Int)]]) (K := []) (rst := [_, _]) (.inl rfl) rfl rfl (Res.cellN 1 rfl rfl S102 rfl) picks0 ?_
  obtain rfl := Option.some.inj hx
  exact ⟨rfl, rfl, rfl, trivial⟩

set_option maxHeartbeats 1000000 in
theorem mix_words_often_ok (p_1 : A4 UInt32) (p_2 : Int) (H : Heaplet) (r : A4 UInt32) (hx : mix_words_often p_1 p_2 = some r) :
    Does Try.prog 94 #[.agg #[.int .u32 (p_1.e0.toNat : Int), .int .u32 (p_1.e1.toNat : Int), .int .u32 (p_1.e2.toNat : Int), .int .u32 (p_1.e3.toNat : Int)], .int .i64 p_2] [] H (fun u K' H' => u = .agg #[.int .u32 (r.e0.toNat : Int), .int .u32 (r.e1.toNat : Int), .int .u32 (r.e2.toNat : Int), .int .u32 (r.e3.toNat : Int)] ∧ K' = [] ∧ H = H' ∧ True) := by
  refine Does.enterL (vs := [.agg #[.int .u32 (p_1.e0.toNat : Int), .int .u32 (p_1.e1.toNat : Int), .int .u32 (p_1.e2.toNat : Int), .int .u32 (p_1.e3.toNat : Int)], .int .i64 p_2]) (l := [(0, .agg #[.int .u32 (p_1.e0.toNat : Int), .int .u32 (p_1.e1.toNat : Int), .int .u32 (p_1.e2.toNat : Int), .int .u32 (p_1.e3.toNat : Int)]), (1, .int .i64 p_2)]) Try.func94 rfl rfl ⟨rfl, rfl, trivial⟩ (fun w hlt => ?_)
  rw [mix_words_often.eq_1] at hx
  refine JC.seq ?_
  refine JC.region ?_
  refine JL.box rfl rfl (fun b_3 hb_3 => ?_)
  refine JL.alloc Z102 rfl (fun b_4 hb_4 => ?_)
  refine JL.nil ?_
  refine JN.next ?_
  refine JC.seq ?_
  refine JC.seq ?_
  refine JC.region ?_
  refine JL.val rfl rfl (R.move rfl) ?_
  refine JL.val rfl rfl (R.move rfl) ?_
  refine JL.nil ?_
  refine JN.next ?_
  obtain ⟨t_5, ht_7, hx⟩ := bnd_some hx
  refine JC.cut (fun l o g => l = [(2, .pointer (some ⟨b_3, 0, none⟩)), (4, .pointer (some ⟨b_4, 0, none⟩))] ∧ o = [[(b_3, .cells #[.int .u32 (t_5.1.toNat : Int), .int .u32 (t_5.2.1.toNat : Int), .int .u32 (t_5.2.2.1.toNat : Int), .int .u32 (t_5.2.2.2.toNat : Int)] 102 (0, 0))], [(b_4, .cells #[.int .u32 ((0 : UInt32).toNat : Int), .int .u32 ((0 : UInt32).toNat : Int), .int .u32 ((0 : UInt32).toNat : Int), .int .u32 ((0 : UInt32).toNat : Int)] 102 (0, 0))]] ∧ H = g) ?_ ?_
  · rintro _ _ _ ⟨rfl, rfl, rfl⟩
    refine JN.next ?_
    refine JC.seq ?_
    refine JC.region ?_
    refine JL.val rfl rfl (R.ldoN 0 (vs := [.int .u32 (t_5.1.toNat : Int), .int .u32 (t_5.2.1.toNat : Int), .int .u32 (t_5.2.2.1.toNat : Int), .int .u32 (t_5.2.2.2.toNat : Int)]) S102 rfl rfl rfl rfl) ?_
    refine JL.store 1 S102 rfl rfl rfl rfl rfl (Nat.le_of_ble_eq_true rfl) ?_
    refine JL.nil ?_
    refine JN.next ?_
    refine JC.ret ?_
    refine JN.outP (vs := [.agg #[.int .u32 (t_5.1.toNat : Int), .int .u32 (t_5.2.1.toNat : Int), .int .u32 (t_5.2.2.1.toNat : Int), .int .u32 (t_5.2.2.2.toNat : Int)]]) (K := []) (rst := [_, _]) (.inl rfl) rfl rfl (Res.cellN 1 rfl rfl S102 rfl) picks0 ?_
    obtain rfl := Option.some.inj hx
    exact ⟨rfl, rfl, rfl, trivial⟩
  · have hxo_6 := hx; clear hx; have hx := ht_7; clear ht_7
    refine JC.block ?_
    refine JC.front 1 rfl ?_
    refine JC.loopI (fun n l o g => ∃ s_8 : UInt32 × UInt32 × UInt32 × UInt32 × Int, l = [(2, .pointer (some ⟨b_3, 0, none⟩)), (4, .pointer (some ⟨b_4, 0, none⟩)), (5, .int .i64 p_2), (6, .int .i64 s_8.2.2.2.2)] ∧ o = [[(b_3, .cells #[.int .u32 (s_8.1.toNat : Int), .int .u32 (s_8.2.1.toNat : Int), .int .u32 (s_8.2.2.1.toNat : Int), .int .u32 (s_8.2.2.2.1.toNat : Int)] 102 (0, 0))], [(b_4, .cells #[.int .u32 ((0 : UInt32).toNat : Int), .int .u32 ((0 : UInt32).toNat : Int), .int .u32 ((0 : UInt32).toNat : Int), .int .u32 ((0 : UInt32).toNat : Int)] 102 (0, 0))]] ∧ H = g ∧ run (mix_words_often_l1 p_2) n s_8 = some t_5) FUEL ?_ ⟨(p_1.e0, p_1.e1, p_1.e2, p_1.e3, 0), rfl, rfl, rfl, hx⟩ ⟨rfl, rfl, rfl, rfl, trivial⟩ ?_
    · rintro _ _ _ ⟨s_8, rfl, rfl, rfl, hn_9⟩
      exact run_zero hn_9
    · rintro n_10 _ _ _ ⟨s_8, rfl, rfl, rfl, hn_9⟩
      clear hx; obtain ⟨oo_12, hx, hd_11⟩ := run_some hn_9
      rw [mix_words_often_l1.eq_1] at hx
      refine JC.seq ?_
      refine JC.region ?_
      refine JL.val rfl rfl (R.lss_i rfl rfl) ?_
      refine JL.nil ?_
      refine JN.next ?_
      refine JC.seq ?_
      refine JC.condB rfl (fun c_11 => ?_) (fun c_11 => ?_)
      · replace hx := cond_t c_11 hx
        refine JC.skip ?_
        refine JN.next ?_
        refine JC.seq ?_
        refine JC.block ?_
        refine JC.region ?_
        refine JL.val rfl rfl (R.ldoN 0 (vs := [.int .u32 (s_8.1.toNat : Int), .int .u32 (s_8.2.1.toNat : Int), .int .u32 (s_8.2.2.1.toNat : Int), .int .u32 (s_8.2.2.2.1.toNat : Int)]) S102 rfl rfl rfl rfl) ?_
        obtain ⟨x_12, hr_13, hx⟩ := bnd_some hx
        refine JL.callC (vs := [_]) (args := [_]) (K := []) (rst := [_, _]) E104 rfl rfl rfl picks0 (mix_words_turned_ok (A4.mk s_8.1 s_8.2.1 s_8.2.2.1 s_8.2.2.2.1) _ _ hr_13) rfl (fun u_14 Ku_14 Hu_14 hRu_14 hleu_14 hfu_14 => ?_)
        obtain ⟨rfl, rfl, rfl, -⟩ := hRu_14
        refine JL.store 0 S102 rfl rfl rfl rfl rfl (Nat.le_of_ble_eq_true rfl) ?_
        refine JL.nil ?_
        refine JN.blkN ?_
        refine JN.next ?_
        refine JC.region ?_
        refine JL.val rfl rfl (R.add_i rfl rfl) ?_
        refine JL.val rfl rfl (R.move rfl) ?_
        refine JL.nil ?_
        replace hx := run_next hd_11 hx
        refine JN.front 1 rfl ?_
        refine JN.front 1 rfl ?_
        exact JN.cut ⟨(x_12.e0, x_12.e1, x_12.e2, x_12.e3, w64 (s_8.2.2.2.2 + 1)), rfl, rfl, rfl, hx⟩ ⟨rfl, rfl, rfl, rfl, trivial⟩ rfl rfl
      · replace hx := cond_f c_11 hx
        refine JC.exit ?_
        refine JN.passX ?_
        obtain rfl := run_done hd_11 hx
        refine JN.passX ?_
        refine JN.exitSame ?_
        refine JN.front 1 rfl ?_
        refine JN.front 1 rfl ?_
        exact JN.cut ⟨rfl, rfl, rfl⟩ ⟨rfl, rfl, trivial⟩ rfl rfl

set_option maxHeartbeats 1000000 in
theorem mix_four_ok (p_1 : List UInt8) (H : Heaplet) {aoa_2 : Option Addr} {na_2 : Nat} {capa_2 : Nat} (ha_2 : IsSlice H RU8 1 (.slice aoa_2 na_2 capa_2) p_1) (r : A4 UInt32) (hx : mix_four p_1 = some r) :
    Does Try.prog 70 #[.slice aoa_2 na_2 capa_2] [] H (fun u K' H' => u = .agg #[.int .u32 (r.e0.toNat : Int), .int .u32 (r.e1.toNat : Int), .int .u32 (r.e2.toNat : Int), .int .u32 (r.e3.toNat : Int)] ∧ K' = [] ∧ True) := by
  refine Does.enterML (vs := [.slice aoa_2 na_2 capa_2]) (l := [(0, .slice aoa_2 na_2 capa_2)]) Try.func70 rfl rfl ⟨rfl, trivial⟩ (fun w hlt => ?_)
  rw [mix_four.eq_1] at hx
  refine JC.seq ?_
  refine JC.region ?_
  refine JL.alloc Z102 rfl (fun b_3 hb_3 => ?_)
  refine JL.nil ?_
  refine JN.next ?_
  refine JC.seq ?_
  refine JC.region ?_
  refine JL.val rfl rfl (R.bldA (vs := [(0, .int .u32 ((1 : UInt32).toNat : Int)), (1, .int .u32 ((2 : UInt32).toNat : Int)), (2, .int .u32 ((3 : UInt32).toNat : Int)), (3, .int .u32 ((4 : UInt32).toNat : Int))]) (cells := #[.int .u32 ((1 : UInt32).toNat : Int), .int .u32 ((2 : UInt32).toNat : Int), .int .u32 ((3 : UInt32).toNat : Int), .int .u32 ((4 : UInt32).toNat : Int)]) Z102 B102 rfl rfl rfl rfl) ?_
  refine JL.alloc Z102 rfl (fun b_4 hb_4 => ?_)
  refine JL.store 0 S102 rfl rfl rfl rfl rfl (Nat.le_of_ble_eq_true rfl) ?_
  refine JL.nil ?_
  refine JN.next ?_
  refine JC.seq ?_
  refine JC.region ?_
  refine JL.val rfl rfl (R.move rfl) ?_
  obtain ⟨x_5, hr_6, hx⟩ := bnd_some hx
  refine JL.callC (vs := [_]) (args := [_]) (K := []) (rst := [_, _]) E91 rfl rfl rfl picks0 (slices_Clone_byte_ok p_1 _ ha_2 _ hr_6) rfl (fun u_7 Ku_7 Hu_7 hRu_7 hleu_7 hfu_7 => ?_)
  obtain ⟨aor_8, nr_8, capr_8, Kr_8, rfl, rfl, rfl, hr_8, hnewr_8, -⟩ := hRu_7
  replace hr_8 := (RowOf.base (RowOf.const (H2 := New H H) RU8.const hr_8) (fun p hp => (hfu_7 p (mem_seg 0 rfl hp)).resolve_left (hnewr_8 p hp)))
  refine JL.pubN 0 RU8.mono rfl hr_8 (Nat.le_refl _) (fun H_9 hleH_9 hsH_9 => ?_)
  refine JL.forget 0 ?_
  obtain ⟨x_10, hr_11, hx⟩ := bnd_some hx
  refine JL.callC (vs := [_]) (args := [_]) (K := []) (rst := [_, _]) E90 rfl rfl rfl picks0 (slices_Clip_byte_ok x_5 _ (hsH_9.old RU8.mono) _ hr_11) rfl (fun u_12 Ku_12 Hu_12 hRu_12 hleu_12 hfu_12 => ?_)
  obtain ⟨aoz_13, nz_13, rfl, rfl, rfl, hz_13, -⟩ := hRu_12
  refine JL.bslF (HF := (New H H_9)) (R := RU8) (ls := [(1 : UInt8)]) (vs := [.int .u8 ((1 : UInt8).toNat : Int)]) U45 I5 rfl rfl (⟨_, _, rfl, rfl, rfl, rfl⟩) RU8.one rfl rfl rfl (by simp [maxLen]) rfl (fun vr_14 Kr_14 hr_14 => ?_)
  obtain ⟨aor_14, capr_14, rfl⟩ := RowOf.val hr_14
  obtain ⟨q_15, hm_16, hl_17, hx⟩ := app_some hx
  refine JL.appC (HF := (New H H_9)) U45 I5 rfl RU8.one (Hle.refl _) hz_13 (fun _ _ h => RU8.const _ _ _ _ h) rfl (SrcF.row 0 U45 rfl (RowOf.const RU8.const hr_14)) (List.cons_ne_nil _ _) hm_16 hl_17 rfl rfl (fun vr_18 Kr_18 hr_18 => ?_)
  obtain ⟨aor_18, capr_18, rfl⟩ := RowOf.val hr_18
  refine JL.val rfl rfl (R.assign rfl) ?_
  refine JL.nil ?_
  refine JN.next ?_
  refine JC.seq ?_
  obtain ⟨t_19, ht_21, hx⟩ := bnd_some hx
  refine JC.cut (fun l o g => ∃ aor_26 : Option Addr, ∃ nr_26 : Nat, ∃ capr_26 : Nat, ∃ Kr_26 : Own, l = [(0, .slice aoa_2 na_2 capa_2), (2, .pointer (some ⟨b_3, 0, none⟩)), (3, .pointer (some ⟨b_4, 0, none⟩)), (4, .slice aor_26 nr_26 capr_26)] ∧ o = [[(b_3, .cells #[.int .u32 ((0 : UInt32).toNat : Int), .int .u32 ((0 : UInt32).toNat : Int), .int .u32 ((0 : UInt32).toNat : Int), .int .u32 ((0 : UInt32).toNat : Int)] 102 (0, 0))], [(b_4, .cells #[.int .u32 ((1 : UInt32).toNat : Int), .int .u32 ((2 : UInt32).toNat : Int), .int .u32 ((3 : UInt32).toNat : Int), .int .u32 ((4 : UInt32).toNat : Int)] 102 (0, 0))], Kr_26] ∧ H_9 = g ∧ RowOf (New H H_9) RU8 w.heap.size 5 1 (.slice aor_26 nr_26 capr_26) t_19 Kr_26) ?_ ?_
  · rintro _ _ _ ⟨aor_26, nr_26, capr_26, Kr_26, rfl, rfl, rfl, hr_26⟩
    refine JN.next ?_
    refine JC.seq ?_
    refine JC.seq ?_
    refine JC.region ?_
    refine JL.val rfl rfl (R.move rfl) ?_
    refine JL.pubN 2 RU8.mono rfl hr_26 (Nat.le_refl _) (fun H_27 hleH_27 hsH_27 => ?_)
    refine JL.forget 2 ?_
    obtain ⟨x_28, hr_29, hx⟩ := bnd_some hx
    refine JL.callC (vs := [_, _]) (args := [_, _]) (K := []) (rst := [_, _]) E92 rfl rfl rfl picks0 (slices_Chunk_byte_ok t_19 8 _ (hsH_27.old RU8.mono) _ hr_29) rfl (fun u_30 Ku_30 Hu_30 hRu_30 hleu_30 hfu_30 => ?_)
    obtain ⟨bit_31, cit_31, rfl, rfl, hit_31, kit_31, pit_31, -⟩ := hRu_30
    refine JL.nil ?_
    refine JN.next ?_
    refine JC.block ?_
    obtain ⟨t_32, ht_34, hx⟩ := bnd_some hx
    refine JC.front 1 rfl ?_
    refine JC.front 1 rfl ?_
    refine JC.rangeL (RA := fun H' args (y : List UInt8) => ∃ ao : Option Addr, args = #[.slice ao y.length y.length] ∧ IsSlice H' RU8 1 (.slice ao y.length y.length) y) rfl mix_four_r2 ((1 : UInt32), (2 : UInt32), (3 : UInt32), (4 : UInt32)) t_32 ht_34 (fun s_35 o g => ∃ H_41 : Heaplet, o = [[(b_3, .cells #[.int .u32 ((0 : UInt32).toNat : Int), .int .u32 ((0 : UInt32).toNat : Int), .int .u32 ((0 : UInt32).toNat : Int), .int .u32 ((0 : UInt32).toNat : Int)] 102 (0, 0))], [(b_4, .cells #[.int .u32 (s_35.1.toNat : Int), .int .u32 (s_35.2.1.toNat : Int), .int .u32 (s_35.2.2.1.toNat : Int), .int .u32 (s_35.2.2.2.toNat : Int)] 102 (0, 0))]] ∧ H_41 = g ∧ Hle Hu_30 H_41) (fun e c o g => False) rfl E103 (slices_Chunk_byte_it t_19 8 pit_31 _ ((hsH_27.mono RU8.mono (New.mono hleu_30)).old RU8.mono) hit_31 kit_31) (fun _ _ _ h => by obtain ⟨_, h, _⟩ := h; rw [h]; rfl) rfl ⟨Hu_30, rfl, rfl, (Hle.refl _)⟩ ?_ ?_ ?_
    · rintro lr_37 y_36 s_35 args o g out_39 ⟨H_41, rfl, rfl, hleH_41⟩ hA hx2
      clear hx; have hx := hx2; clear hx2; rw [mix_four_r2.eq_1] at hx
      obtain ⟨aoit_31, rfl, hyit_31⟩ := hA
      refine ⟨[(0, .slice aoa_2 na_2 capa_2), (2, .pointer (some ⟨b_3, 0, none⟩)), (3, .pointer (some ⟨b_4, 0, none⟩)), (5, .slice aoit_31 y_36.length y_36.length)], fun wb_38 hwb_38 => ?_, fun wb_38 hwb_38 => ?_⟩
      · refine JC.region ?_
        refine JL.val rfl rfl (R.assign rfl) ?_
        refine JL.nil ?_
        exact JN.assigned ⟨rfl, rfl, rfl, rfl, trivial⟩
      · refine JC.block ?_
        refine JC.seq ?_
        obtain ⟨t_42, ht_44, hx⟩ := bnd_some hx
        refine JC.cut (fun l o g => ∃ H_55 : Heaplet, l = [(0, .slice aoa_2 na_2 capa_2), (2, .pointer (some ⟨b_3, 0, none⟩)), (3, .pointer (some ⟨b_4, 0, none⟩)), (5, .slice aoit_31 y_36.length y_36.length)] ∧ o = [[(b_3, .cells #[.int .u32 ((0 : UInt32).toNat : Int), .int .u32 ((0 : UInt32).toNat : Int), .int .u32 ((0 : UInt32).toNat : Int), .int .u32 ((0 : UInt32).toNat : Int)] 102 (0, 0))], [(b_4, .cells #[.int .u32 (t_42.toNat : Int), .int .u32 (s_35.2.1.toNat : Int), .int .u32 (s_35.2.2.1.toNat : Int), .int .u32 (s_35.2.2.2.toNat : Int)] 102 (0, 0))]] ∧ H_55 = g ∧ Hle H_41 H_55) ?_ ?_
        · rintro _ _ _ ⟨H_55, rfl, rfl, rfl, hleH_55⟩
          refine JN.next ?_
          refine JC.seq ?_
          refine JC.draw (so := [_]) 8 rfl Mixed ⟨⟨0, rfl⟩, trivial⟩ ?_
          refine JA.val ⟨by kernel_rfl, by kernel_rfl⟩ (calm_only _) (i := 0) rfl ⟨by kernel_rfl, by kernel_rfl, rfl⟩ trivial (stab_of (Hle.refl _) ⟨⟨0, rfl⟩, trivial⟩) (R.ixA 2 U102 S26 rfl rfl rfl) rfl ?_
          refine JA.val ⟨by kernel_rfl, by kernel_rfl⟩ (calm_only _) (i := 2) rfl ⟨by kernel_rfl, by kernel_rfl, rfl⟩ trivial (stab_of (Hle.refl _) ⟨⟨0, rfl⟩, trivial⟩) (R.move rfl) rfl ?_
          obtain ⟨m_56, hm_58, hb_57, hx⟩ := slc_some hx
          obtain ⟨vv_59, cv_59, h1v_59, h2v_59, h3v_59, hsv_59⟩ := IsSlice.cutv (hyit_31.mono RU8.mono hleH_55) hm_58 hb_57
          refine JA.val ⟨by kernel_rfl, by kernel_rfl⟩ (calm_only _) (i := 3) rfl ⟨by kernel_rfl, by kernel_rfl, rfl⟩ trivial (stab_of (Hle.refl _) ⟨⟨0, rfl⟩, trivial⟩) (R.slc (cap := cv_59) (a := 4) (b := (y_36.length : Int)) (c := (cv_59 : Int)) (m := y_36) (R := RU8) U45 S5 rfl ⟨_, rfl⟩ rfl (by obtain ⟨ao, n, e, _⟩ := h1v_59; exact ⟨ao, n, e, rfl⟩) ⟨hb_57.1, hb_57.2.1, h2v_59⟩ h3v_59 (.inl rfl)) rfl ?_
          obtain ⟨aov_59, capv_59, rfl⟩ := IsSlice.val hsv_59
          refine JA.two (i := 1) (j := 4) (by kernel_rfl) ?_ ?_
          · refine JO.step rfl trivial rfl (fun K hK => ?_)
            refine JL.val rfl rfl (R.ldo 1 S26 rfl rfl rfl) ?_
            refine JL.nil ?_
            refine hK _ _ _ (stab_of (Hle.refl _) ⟨⟨0, rfl⟩, trivial⟩) ?_
            refine JA.one (i := 4) (by kernel_rfl) ?_
            refine JO.step rfl trivial rfl (fun K hK => ?_)
            obtain ⟨x_60, hr_61, hx⟩ := bnd_some hx
            refine JL.callC (vs := [_]) (args := [_]) (K := []) (rst := [_, _]) E93 rfl rfl rfl picks0 (mix_number_ok m_56 _ hsv_59 _ hr_61) rfl (fun u_62 Ku_62 Hu_62 hRu_62 hleu_62 hfu_62 => ?_)
            obtain ⟨rfl, rfl, -⟩ := hRu_62
            refine JL.nil ?_
            refine hK _ _ _ (stab_of hleu_62 ⟨⟨0, rfl⟩, trivial⟩) ?_
            refine JA.val ⟨by kernel_rfl, by kernel_rfl⟩ (calm_only _) (i := 5) rfl ⟨by kernel_rfl, by kernel_rfl, rfl⟩ trivial (stab_of hleu_62 ⟨⟨0, rfl⟩, trivial⟩) (R.xor32 (a := s_35.2.2.1) (b := x_60) rfl rfl) rfl ?_
            refine JA.val ⟨by kernel_rfl, by kernel_rfl⟩ (calm_only _) (i := 6) rfl ⟨by kernel_rfl, by kernel_rfl, rfl⟩ trivial (stab_of hleu_62 ⟨⟨0, rfl⟩, trivial⟩) (R.ixA 2 U102 S26 rfl rfl rfl) rfl ?_
            refine JA.one (i := 7) (by kernel_rfl) ?_
            refine JO.step rfl trivial rfl (fun K hK => ?_)
            refine JL.store 1 S26 rfl rfl rfl rfl rfl (Nat.le_of_ble_eq_true rfl) ?_
            refine JL.nil ?_
            refine hK _ _ _ (stab_of hleu_62 ⟨⟨0, rfl⟩, trivial⟩) ?_
            refine JA.doneN (by kernel_rfl) ?_
            refine JN.next ?_
            refine JC.region ?_
            refine JL.val rfl rfl (R.ldoN 1 (vs := [.int .u32 (t_42.toNat : Int), .int .u32 (s_35.2.1.toNat : Int), .int .u32 ((s_35.2.2.1 ^^^ x_60).toNat : Int), .int .u32 (s_35.2.2.2.toNat : Int)]) S102 rfl rfl rfl rfl) ?_
            obtain ⟨x_63, hr_64, hx⟩ := bnd_some hx
            refine JL.callC (vs := [_, _]) (args := [_, _]) (K := []) (rst := [_, _]) E94 rfl rfl rfl picks0 (mix_words_often_ok (A4.mk t_42 s_35.2.1 (s_35.2.2.1 ^^^ x_60) s_35.2.2.2) 4 _ _ hr_64) rfl (fun u_65 Ku_65 Hu_65 hRu_65 hleu_65 hfu_65 => ?_)
            obtain ⟨rfl, rfl, rfl, -⟩ := hRu_65
            refine JL.store 1 S102 rfl rfl rfl rfl rfl (Nat.le_of_ble_eq_true rfl) ?_
            refine JL.nil ?_
            refine JN.blkN ?_
            obtain rfl := Option.some.inj hx
            refine JN.front 1 rfl ?_
            refine JN.front 1 rfl ?_
            exact JN.rN ⟨Hu_62, rfl, rfl, ((hleH_41.trans (hleH_55.trans hleu_62)))⟩
          · refine JO.step rfl trivial rfl (fun K hK => ?_)
            obtain ⟨x_66, hr_67, hx⟩ := bnd_some hx
            refine JL.callC (vs := [_]) (args := [_]) (K := []) (rst := [_, _]) E93 rfl rfl rfl picks0 (mix_number_ok m_56 _ hsv_59 _ hr_67) rfl (fun u_68 Ku_68 Hu_68 hRu_68 hleu_68 hfu_68 => ?_)
            obtain ⟨rfl, rfl, -⟩ := hRu_68
            refine JL.nil ?_
            refine hK _ _ _ (stab_of hleu_68 ⟨⟨0, rfl⟩, trivial⟩) ?_
            refine JA.one (i := 1) (by kernel_rfl) ?_
            refine JO.step rfl trivial rfl (fun K hK => ?_)
            refine JL.val rfl rfl (R.ldo 1 S26 rfl rfl rfl) ?_
            refine JL.nil ?_
            refine hK _ _ _ (stab_of hleu_68 ⟨⟨0, rfl⟩, trivial⟩) ?_
            refine JA.val ⟨by kernel_rfl, by kernel_rfl⟩ (calm_only _) (i := 5) rfl ⟨by kernel_rfl, by kernel_rfl, rfl⟩ trivial (stab_of hleu_68 ⟨⟨0, rfl⟩, trivial⟩) (R.xor32 (a := s_35.2.2.1) (b := x_66) rfl rfl) rfl ?_
            refine JA.val ⟨by kernel_rfl, by kernel_rfl⟩ (calm_only _) (i := 6) rfl ⟨by kernel_rfl, by kernel_rfl, rfl⟩ trivial (stab_of hleu_68 ⟨⟨0, rfl⟩, trivial⟩) (R.ixA 2 U102 S26 rfl rfl rfl) rfl ?_
            refine JA.one (i := 7) (by kernel_rfl) ?_
            refine JO.step rfl trivial rfl (fun K hK => ?_)
            refine JL.store 1 S26 rfl rfl rfl rfl rfl (Nat.le_of_ble_eq_true rfl) ?_
            refine JL.nil ?_
            refine hK _ _ _ (stab_of hleu_68 ⟨⟨0, rfl⟩, trivial⟩) ?_
            refine JA.doneN (by kernel_rfl) ?_
            refine JN.next ?_
            refine JC.region ?_
            refine JL.val rfl rfl (R.ldoN 1 (vs := [.int .u32 (t_42.toNat : Int), .int .u32 (s_35.2.1.toNat : Int), .int .u32 ((s_35.2.2.1 ^^^ x_66).toNat : Int), .int .u32 (s_35.2.2.2.toNat : Int)]) S102 rfl rfl rfl rfl) ?_
            obtain ⟨x_69, hr_70, hx⟩ := bnd_some hx
            refine JL.callC (vs := [_, _]) (args := [_, _]) (K := []) (rst := [_, _]) E94 rfl rfl rfl picks0 (mix_words_often_ok (A4.mk t_42 s_35.2.1 (s_35.2.2.1 ^^^ x_66) s_35.2.2.2) 4 _ _ hr_70) rfl (fun u_71 Ku_71 Hu_71 hRu_71 hleu_71 hfu_71 => ?_)
            obtain ⟨rfl, rfl, rfl, -⟩ := hRu_71
            refine JL.store 1 S102 rfl rfl rfl rfl rfl (Nat.le_of_ble_eq_true rfl) ?_
            refine JL.nil ?_
            refine JN.blkN ?_
            obtain rfl := Option.some.inj hx
            refine JN.front 1 rfl ?_
            refine JN.front 1 rfl ?_
            exact JN.rN ⟨Hu_68, rfl, rfl, ((hleH_41.trans (hleH_55.trans hleu_68)))⟩
        · have hxo_43 := hx; clear hx; have hx := ht_44; clear ht_44
          refine JC.draw (so := [_]) 8 rfl Mixed ⟨⟨0, rfl⟩, trivial⟩ ?_
          refine JA.val ⟨by kernel_rfl, by kernel_rfl⟩ (calm_only _) (i := 0) rfl ⟨by kernel_rfl, by kernel_rfl, rfl⟩ trivial (stab_of (Hle.refl _) ⟨⟨0, rfl⟩, trivial⟩) (R.ixA 0 U102 S26 rfl rfl rfl) rfl ?_
          refine JA.val ⟨by kernel_rfl, by kernel_rfl⟩ (calm_only _) (i := 2) rfl ⟨by kernel_rfl, by kernel_rfl, rfl⟩ trivial (stab_of (Hle.refl _) ⟨⟨0, rfl⟩, trivial⟩) (R.move rfl) rfl ?_
          obtain ⟨m_45, hm_47, hb_46, hx⟩ := slc_some hx
          obtain ⟨vv_48, cv_48, h1v_48, h2v_48, h3v_48, hsv_48⟩ := IsSlice.cutv hyit_31 hm_47 hb_46
          refine JA.val ⟨by kernel_rfl, by kernel_rfl⟩ (calm_only _) (i := 3) rfl ⟨by kernel_rfl, by kernel_rfl, rfl⟩ trivial (stab_of (Hle.refl _) ⟨⟨0, rfl⟩, trivial⟩) (R.slc (cap := cv_48) (a := 0) (b := 4) (c := (cv_48 : Int)) (m := y_36) (R := RU8) U45 S5 rfl rfl ⟨_, rfl⟩ (by obtain ⟨ao, n, e, _⟩ := h1v_48; exact ⟨ao, n, e, rfl⟩) ⟨hb_46.1, hb_46.2.1, h2v_48⟩ h3v_48 (.inl rfl)) rfl ?_
          obtain ⟨aov_48, capv_48, rfl⟩ := IsSlice.val hsv_48
          refine JA.two (i := 1) (j := 4) (by kernel_rfl) ?_ ?_
          · refine JO.step rfl trivial rfl (fun K hK => ?_)
            refine JL.val rfl rfl (R.ldo 1 S26 rfl rfl rfl) ?_
            refine JL.nil ?_
            refine hK _ _ _ (stab_of (Hle.refl _) ⟨⟨0, rfl⟩, trivial⟩) ?_
            refine JA.one (i := 4) (by kernel_rfl) ?_
            refine JO.step rfl trivial rfl (fun K hK => ?_)
            obtain ⟨x_49, hr_50, hx⟩ := bnd_some hx
            refine JL.callC (vs := [_]) (args := [_]) (K := []) (rst := [_, _]) E93 rfl rfl rfl picks0 (mix_number_ok m_45 _ hsv_48 _ hr_50) rfl (fun u_51 Ku_51 Hu_51 hRu_51 hleu_51 hfu_51 => ?_)
            obtain ⟨rfl, rfl, -⟩ := hRu_51
            refine JL.nil ?_
            refine hK _ _ _ (stab_of hleu_51 ⟨⟨0, rfl⟩, trivial⟩) ?_
            refine JA.val ⟨by kernel_rfl, by kernel_rfl⟩ (calm_only _) (i := 5) rfl ⟨by kernel_rfl, by kernel_rfl, rfl⟩ trivial (stab_of hleu_51 ⟨⟨0, rfl⟩, trivial⟩) (R.xor32 (a := s_35.1) (b := x_49) rfl rfl) rfl ?_
            refine JA.val ⟨by kernel_rfl, by kernel_rfl⟩ (calm_only _) (i := 6) rfl ⟨by kernel_rfl, by kernel_rfl, rfl⟩ trivial (stab_of hleu_51 ⟨⟨0, rfl⟩, trivial⟩) (R.ixA 0 U102 S26 rfl rfl rfl) rfl ?_
            refine JA.one (i := 7) (by kernel_rfl) ?_
            refine JO.step rfl trivial rfl (fun K hK => ?_)
            refine JL.store 1 S26 rfl rfl rfl rfl rfl (Nat.le_of_ble_eq_true rfl) ?_
            refine JL.nil ?_
            refine hK _ _ _ (stab_of hleu_51 ⟨⟨0, rfl⟩, trivial⟩) ?_
            refine JA.doneN (by kernel_rfl) ?_
            obtain rfl := Option.some.inj hx
            refine JN.front 1 rfl ?_
            refine JN.front 1 rfl ?_
            exact JN.cut ⟨Hu_51, rfl, rfl, rfl, (hleu_51)⟩ ⟨rfl, rfl, rfl, rfl, trivial⟩ rfl rfl
          · refine JO.step rfl trivial rfl (fun K hK => ?_)
            obtain ⟨x_52, hr_53, hx⟩ := bnd_some hx
            refine JL.callC (vs := [_]) (args := [_]) (K := []) (rst := [_, _]) E93 rfl rfl rfl picks0 (mix_number_ok m_45 _ hsv_48 _ hr_53) rfl (fun u_54 Ku_54 Hu_54 hRu_54 hleu_54 hfu_54 => ?_)
            obtain ⟨rfl, rfl, -⟩ := hRu_54
            refine JL.nil ?_
            refine hK _ _ _ (stab_of hleu_54 ⟨⟨0, rfl⟩, trivial⟩) ?_
            refine JA.one (i := 1) (by kernel_rfl) ?_
            refine JO.step rfl trivial rfl (fun K hK => ?_)
            refine JL.val rfl rfl (R.ldo 1 S26 rfl rfl rfl) ?_
            refine JL.nil ?_
            refine hK _ _ _ (stab_of hleu_54 ⟨⟨0, rfl⟩, trivial⟩) ?_
            refine JA.val ⟨by kernel_rfl, by kernel_rfl⟩ (calm_only _) (i := 5) rfl ⟨by kernel_rfl, by kernel_rfl, rfl⟩ trivial (stab_of hleu_54 ⟨⟨0, rfl⟩, trivial⟩) (R.xor32 (a := s_35.1) (b := x_52) rfl rfl) rfl ?_
            refine JA.val ⟨by kernel_rfl, by kernel_rfl⟩ (calm_only _) (i := 6) rfl ⟨by kernel_rfl, by kernel_rfl, rfl⟩ trivial (stab_of hleu_54 ⟨⟨0, rfl⟩, trivial⟩) (R.ixA 0 U102 S26 rfl rfl rfl) rfl ?_
            refine JA.one (i := 7) (by kernel_rfl) ?_
            refine JO.step rfl trivial rfl (fun K hK => ?_)
            refine JL.store 1 S26 rfl rfl rfl rfl rfl (Nat.le_of_ble_eq_true rfl) ?_
            refine JL.nil ?_
            refine hK _ _ _ (stab_of hleu_54 ⟨⟨0, rfl⟩, trivial⟩) ?_
            refine JA.doneN (by kernel_rfl) ?_
            obtain rfl := Option.some.inj hx
            refine JN.front 1 rfl ?_
            refine JN.front 1 rfl ?_
            exact JN.cut ⟨Hu_54, rfl, rfl, rfl, (hleu_54)⟩ ⟨rfl, rfl, rfl, rfl, trivial⟩ rfl rfl
    · rintro D_40 s_35 o g hD_40 htt ⟨H_41, rfl, rfl, hleH_41⟩ hle2
      subst htt; simp only [Sum.elim_inl] at hx
      refine JN.blkN ?_
      refine JN.next ?_
      refine JC.seq ?_
      refine JC.region ?_
      refine JL.val rfl rfl (R.ixA 1 U102 S26 rfl rfl rfl) ?_
      refine JL.val rfl rfl (R.ldo 2 S26 rfl rfl rfl) ?_
      refine JL.val rfl rfl (R.move rfl) ?_
      refine JL.val rfl rfl (R.lenL U45 rfl (IsSlice.long ha_2)) ?_
      refine JL.val rfl rfl (R.cv_i64_u32 U3 U26 rfl) ?_
      refine JL.val rfl rfl (R.xor32 (a := s_35.2.1) (b := u32i (p_1.length : Int)) rfl rfl) ?_
      refine JL.val rfl rfl (R.ixA 1 U102 S26 rfl rfl rfl) ?_
      refine JL.store 2 S26 rfl rfl rfl rfl rfl (Nat.le_of_ble_eq_true rfl) ?_
      refine JL.nil ?_
      refine JN.next ?_
      refine JC.seq ?_
      refine JC.region ?_
      refine JL.val rfl rfl (R.ldoN 2 (vs := [.int .u32 (s_35.1.toNat : Int), .int .u32 ((s_35.2.1 ^^^ (u32i (p_1.length : Int))).toNat : Int), .int .u32 (s_35.2.2.1.toNat : Int), .int .u32 (s_35.2.2.2.toNat : Int)]) S102 rfl rfl rfl rfl) ?_
      obtain ⟨x_42, hr_43, hx⟩ := bnd_some hx
      refine JL.callC (vs := [_, _]) (args := [_, _]) (K := []) (rst := [_, _, _]) E94 rfl rfl rfl picks0 (mix_words_often_ok (A4.mk s_35.1 (s_35.2.1 ^^^ (u32i (p_1.length : Int))) s_35.2.2.1 s_35.2.2.2) 8 _ _ hr_43) rfl (fun u_44 Ku_44 Hu_44 hRu_44 hleu_44 hfu_44 => ?_)
      obtain ⟨rfl, rfl, rfl, -⟩ := hRu_44
      refine JL.store 1 S102 rfl rfl rfl rfl rfl (Nat.le_of_ble_eq_true rfl) ?_
      refine JL.nil ?_
      refine JN.next ?_
      refine JC.ret ?_
      refine JN.outMP (vs := [.agg #[.int .u32 (x_42.e0.toNat : Int), .int .u32 (x_42.e1.toNat : Int), .int .u32 (x_42.e2.toNat : Int), .int .u32 (x_42.e3.toNat : Int)]]) (K := []) (rst := [_, _]) (own2 := [_, _]) [D_40] (.inl rfl) ⟨rfl, rfl, rfl, rfl⟩ rfl rfl (picks 0 rfl picks0) (Res.cellN 0 rfl rfl S102 rfl) picks0 ?_
      obtain rfl := Option.some.inj hx
      exact ⟨rfl, rfl, trivial⟩
    · rintro D c e o g hD htt hX; exact hX.elim
  · have hxo_20 := hx; clear hx; have hx := ht_21; clear ht_21
    refine JC.block ?_
    refine JC.forget 1 ?_
    refine JC.front 1 rfl ?_
    refine JC.front 2 rfl ?_
    refine JC.loopI (fun n l o g => ∃ s_22 : List UInt8, ∃ aor_25 : Option Addr, ∃ nr_25 : Nat, ∃ capr_25 : Nat, ∃ Kr_25 : Own, l = [(0, .slice aoa_2 na_2 capa_2), (2, .pointer (some ⟨b_3, 0, none⟩)), (3, .pointer (some ⟨b_4, 0, none⟩)), (4, .slice aor_25 nr_25 capr_25)] ∧ o = [[(b_3, .cells #[.int .u32 ((0 : UInt32).toNat : Int), .int .u32 ((0 : UInt32).toNat : Int), .int .u32 ((0 : UInt32).toNat : Int), .int .u32 ((0 : UInt32).toNat : Int)] 102 (0, 0))], [(b_4, .cells #[.int .u32 ((1 : UInt32).toNat : Int), .int .u32 ((2 : UInt32).toNat : Int), .int .u32 ((3 : UInt32).toNat : Int), .int .u32 ((4 : UInt32).toNat : Int)] 102 (0, 0))], Kr_25] ∧ H_9 = g ∧ run mix_four_l1 n s_22 = some t_19 ∧ RowOf (New H H_9) RU8 w.heap.size 5 1 (.slice aor_25 nr_25 capr_25) s_22 Kr_25) FUEL ?_ ⟨q_15, aor_18, q_15.length, capr_18, Kr_18, rfl, rfl, rfl, hx, hr_18⟩ ⟨rfl, rfl, rfl, rfl, trivial⟩ ?_
    · rintro _ _ _ ⟨s_22, aor_25, nr_25, capr_25, Kr_25, rfl, rfl, rfl, hn_23, hr_25⟩
      exact run_zero hn_23
    · rintro n_24 _ _ _ ⟨s_22, aor_25, nr_25, capr_25, Kr_25, rfl, rfl, rfl, hn_23, hr_25⟩
      clear hx; obtain ⟨oo_27, hx, hd_26⟩ := run_some hn_23
      rw [mix_four_l1.eq_1] at hx
      refine JC.seq ?_
      refine JC.seq ?_
      refine JC.region ?_
      refine JL.val rfl rfl (R.move rfl) ?_
      refine JL.val rfl rfl (R.lenL U45 rfl (RowOf.long hr_25)) ?_
      refine JL.val rfl rfl (R.rem_i rfl rfl (by decide)) ?_
      refine JL.val rfl rfl (R.neq_i rfl rfl) ?_
      refine JL.nil ?_
      refine JN.next ?_
      refine JC.condB rfl (fun c_26 => ?_) (fun c_26 => ?_)
      · replace hx := cond_t c_26 hx
        refine JC.skip ?_
        refine JN.next ?_
        refine JC.block ?_
        refine JC.region ?_
        refine JL.val rfl rfl (R.move rfl) ?_
        refine JL.bslF (HF := (New H H_9)) (R := RU8) (ls := [(0 : UInt8)]) (vs := [.int .u8 ((0 : UInt8).toNat : Int)]) U45 I5 rfl rfl (⟨_, _, rfl, rfl, rfl, rfl⟩) RU8.one rfl rfl rfl (by simp [maxLen]) rfl (fun vr_27 Kr_27 hr_27 => ?_)
        obtain ⟨aor_27, capr_27, rfl⟩ := RowOf.val hr_27
        obtain ⟨q_28, hm_29, hl_30, hx⟩ := app_some hx
        refine JL.appF (HF := (New H H_9)) 3 U45 I5 rfl rfl hr_25 rfl (SrcF.row 0 U45 rfl hr_27) hm_29 hl_30 rfl (Nat.le_refl _) rfl (fun vr_31 Kr_31 hr_31 => ?_)
        obtain ⟨aor_31, capr_31, rfl⟩ := RowOf.val hr_31
        refine JL.val rfl rfl (R.assign rfl) ?_
        refine JL.nil ?_
        refine JN.blkN ?_
        replace hx := run_next hd_26 hx
        refine JN.forget 0 ?_
        refine JN.front 2 rfl ?_
        refine JN.front 2 rfl ?_
        refine JN.front 2 rfl ?_
        exact JN.cut ⟨q_28, aor_31, q_28.length, capr_31, Kr_31, rfl, rfl, rfl, hx, hr_31⟩ ⟨rfl, rfl, rfl, rfl, trivial⟩ rfl rfl
      · replace hx := cond_f c_26 hx
        refine JC.exit ?_
        refine JN.passX ?_
        obtain rfl := run_done hd_26 hx
        refine JN.passX ?_
        refine JN.exitSame ?_
        refine JN.front 2 rfl ?_
        refine JN.front 2 rfl ?_
        refine JN.front 2 rfl ?_
        exact JN.cut ⟨aor_25, nr_25, capr_25, Kr_25, rfl, rfl, rfl, hr_25⟩ ⟨rfl, rfl, rfl, rfl, trivial⟩ rfl rfl

set_option maxHeartbeats 1000000 in
theorem mix_Sum_ok (p_1 : List UInt8) (H : Heaplet) {aoa_2 : Option Addr} {na_2 : Nat} {capa_2 : Nat} (ha_2 : IsSlice H RU8 1 (.slice aoa_2 na_2 capa_2) p_1) (r : UInt32) (hx : mix_Sum p_1 = some r) :
    Does Try.prog 48 #[.slice aoa_2 na_2 capa_2] [] H (fun u K' H' => u = .int .u32 (r.toNat : Int) ∧ K' = [] ∧ True) := by
  refine Does.enterL (vs := [.slice aoa_2 na_2 capa_2]) (l := [(0, .slice aoa_2 na_2 capa_2)]) Try.func48 rfl rfl ⟨rfl, trivial⟩ (fun w hlt => ?_)
  rw [mix_Sum.eq_1] at hx
  refine JC.seq ?_
  refine JC.region ?_
  refine JL.val rfl rfl (R.assign rfl) ?_
  refine JL.nil ?_
  refine JN.next ?_
  refine JC.seq ?_
  refine JC.region ?_
  refine JL.val rfl rfl (R.move rfl) ?_
  obtain ⟨x_3, hr_4, hx⟩ := bnd_some hx
  refine JL.callC (vs := [_]) (args := [_]) (K := []) (rst := []) E70 rfl rfl rfl picks0 (mix_four_ok p_1 _ ha_2 _ hr_4) rfl (fun u_5 Ku_5 Hu_5 hRu_5 hleu_5 hfu_5 => ?_)
  obtain ⟨rfl, rfl, -⟩ := hRu_5
  refine JL.val rfl rfl (R.idxAk 0 U102 S26 rfl rfl rfl rfl rfl) ?_
  refine JL.val rfl rfl (R.assign rfl) ?_
  refine JL.nil ?_
  refine JN.next ?_
  refine JC.ret ?_
  refine JN.outP (vs := [.int .u32 (x_3.e0.toNat : Int)]) (K := []) (rst := []) (.inl rfl) rfl rfl (Res.tmp rfl rfl) picks0 ?_
  obtain rfl := Option.some.inj hx
  exact ⟨rfl, rfl, trivial⟩

set_option maxHeartbeats 1000000 in
theorem label_block_ok (p_1 : Label) (H : Heaplet) (r : List UInt8) (hx : label_block p_1 = some r) :
    Does Try.prog 26 #[.agg #[.int .u32 (p_1.Gen.toNat : Int), .int .u32 (p_1.Epoch.toNat : Int), .int .i64 p_1.Root.At, .int .u32 (p_1.Root.Birth.toNat : Int), .int .u32 (p_1.Root.Iv.toNat : Int), .int .u32 (p_1.Root.Tag.toNat : Int), .int .u32 (p_1.Root.Sum.toNat : Int)]] [] H (fun u K' H' => ∃ ao0 : Option Addr, ∃ n0 : Nat, ∃ cap0 : Nat, ∃ K0 : Own, u = .slice ao0 n0 cap0 ∧ K' = [K0] ∧ H = H' ∧ RowOf (New H H) RU8 0 5 1 (.slice ao0 n0 cap0) r K0 ∧ (∀ p ∈ K0, p.1 ∉ ids (List.flatten [])) ∧ True) := by
  refine Does.enterL (vs := [.agg #[.int .u32 (p_1.Gen.toNat : Int), .int .u32 (p_1.Epoch.toNat : Int), .int .i64 p_1.Root.At, .int .u32 (p_1.Root.Birth.toNat : Int), .int .u32 (p_1.Root.Iv.toNat : Int), .int .u32 (p_1.Root.Tag.toNat : Int), .int .u32 (p_1.Root.Sum.toNat : Int)]]) (l := [(0, .agg #[.int .u32 (p_1.Gen.toNat : Int), .int .u32 (p_1.Epoch.toNat : Int), .int .i64 p_1.Root.At, .int .u32 (p_1.Root.Birth.toNat : Int), .int .u32 (p_1.Root.Iv.toNat : Int), .int .u32 (p_1.Root.Tag.toNat : Int), .int .u32 (p_1.Root.Sum.toNat : Int)])]) Try.func26 rfl rfl ⟨rfl, trivial⟩ (fun w hlt => ?_)
  rw [label_block.eq_1] at hx
  refine JC.seq ?_
  refine JC.region ?_
  refine JL.box rfl rfl (fun b_2 hb_2 => ?_)
  refine JL.val rfl rfl (R.assign rfl) ?_
  refine JL.nil ?_
  refine JN.next ?_
  refine JC.seq ?_
  refine JC.region ?_
  refine JL.val rfl rfl (R.fa F30_0 rfl) ?_
  refine JL.val rfl rfl (R.ldo 0 S26 rfl rfl rfl) ?_
  refine JL.val rfl rfl (R.cv_u32_i64 (a := p_1.Gen) U26 U3 rfl) ?_
  obtain ⟨x_3, hr_4, hx⟩ := bnd_some hx
  refine JL.callC (vs := [_, _]) (args := [_, _]) (K := []) (rst := [_]) E46 rfl rfl rfl picks0 (code_Put_ok (p_1.Gen.toNat : Int) 4 _ _ hr_4) rfl (fun u_5 Ku_5 Hu_5 hRu_5 hleu_5 hfu_5 => ?_)
  obtain ⟨aor_6, nr_6, capr_6, Kr_6, rfl, rfl, rfl, hr_6, hnewr_6, -⟩ := hRu_5
  replace hr_6 := (RowOf.base (RowOf.const (H2 := New H H) RU8.const hr_6) (fun p hp => (hfu_5 p (mem_seg 0 rfl hp)).resolve_left (hnewr_6 p hp)))
  refine JL.val rfl rfl (R.move rfl) ?_
  refine JL.val rfl rfl (R.extract rfl rfl) ?_
  refine JL.val rfl rfl (R.extract rfl rfl) ?_
  refine JL.val rfl rfl (R.assign rfl) ?_
  refine JL.val rfl rfl (R.assign rfl) ?_
  refine JL.nil ?_
  refine JN.next ?_
  refine JC.seq ?_
  refine JC.region ?_
  refine JL.val rfl rfl (R.fa F30_1 rfl) ?_
  refine JL.val rfl rfl (R.ldo 1 S26 rfl rfl rfl) ?_
  refine JL.val rfl rfl (R.cv_u32_i64 (a := p_1.Epoch) U26 U3 rfl) ?_
  obtain ⟨x_7, hr_8, hx⟩ := bnd_some hx
  refine JL.callC (vs := [_, _]) (args := [_, _]) (K := []) (rst := [_, _]) E46 rfl rfl rfl picks0 (code_Put_ok (p_1.Epoch.toNat : Int) 4 _ _ hr_8) rfl (fun u_9 Ku_9 Hu_9 hRu_9 hleu_9 hfu_9 => ?_)
  obtain ⟨aor_10, nr_10, capr_10, Kr_10, rfl, rfl, rfl, hr_10, hnewr_10, -⟩ := hRu_9
  replace hr_10 := (RowOf.base (RowOf.const (H2 := New H H) RU8.const hr_10) (fun p hp => (hfu_9 p (mem_seg 0 rfl hp)).resolve_left (hnewr_10 p hp)))
  refine JL.val rfl rfl (R.move rfl) ?_
  refine JL.val rfl rfl (R.extract rfl rfl) ?_
  refine JL.val rfl rfl (R.extract rfl rfl) ?_
  refine JL.val rfl rfl (R.assign rfl) ?_
  refine JL.val rfl rfl (R.assign rfl) ?_
  refine JL.nil ?_
  refine JN.next ?_
  refine JC.seq ?_
  refine JC.region ?_
  refine JL.val rfl rfl (R.fa F30_2 rfl) ?_
  refine JL.val rfl rfl (R.ldoN 2 (vs := [.int .i64 p_1.Root.At, .int .u32 (p_1.Root.Birth.toNat : Int), .int .u32 (p_1.Root.Iv.toNat : Int), .int .u32 (p_1.Root.Tag.toNat : Int), .int .u32 (p_1.Root.Sum.toNat : Int)]) S28 rfl rfl rfl rfl) ?_
  obtain ⟨x_11, hr_12, hx⟩ := bnd_some hx
  refine JL.callC (vs := [_]) (args := [_]) (K := []) (rst := [_, _, _]) E47 rfl rfl rfl picks0 (ptr_Write_ok (Ptr.mk p_1.Root.At p_1.Root.Birth p_1.Root.Iv p_1.Root.Tag p_1.Root.Sum) _ _ hr_12) rfl (fun u_13 Ku_13 Hu_13 hRu_13 hleu_13 hfu_13 => ?_)
  obtain ⟨aor_14, nr_14, capr_14, Kr_14, rfl, rfl, rfl, hr_14, hnewr_14, -⟩ := hRu_13
  replace hr_14 := (RowOf.base (RowOf.const (H2 := New H H) RU8.const hr_14) (fun p hp => (hfu_13 p (mem_seg 0 rfl hp)).resolve_left (hnewr_14 p hp)))
  refine JL.val rfl rfl (R.move rfl) ?_
  refine JL.val rfl rfl (R.extract rfl rfl) ?_
  refine JL.val rfl rfl (R.extract rfl rfl) ?_
  refine JL.val rfl rfl (R.assign rfl) ?_
  refine JL.val rfl rfl (R.assign rfl) ?_
  refine JL.nil ?_
  refine JN.next ?_
  refine JC.seq ?_
  refine JC.region ?_
  refine JL.bslF (HF := (New H H)) (R := RU8) (ls := [(67 : UInt8)]) (vs := [.int .u8 ((67 : UInt8).toNat : Int)]) U45 I5 rfl rfl (⟨_, _, rfl, rfl, rfl, rfl⟩) RU8.one rfl rfl rfl (by simp [maxLen]) rfl (fun vr_15 Kr_15 hr_15 => ?_)
  obtain ⟨aor_15, capr_15, rfl⟩ := RowOf.val hr_15
  refine JL.val rfl rfl (R.move rfl) ?_
  obtain ⟨q_16, hm_17, hl_18, hx⟩ := app_some hx
  refine JL.appF (HF := (New H H)) 0 U45 I5 rfl rfl hr_15 rfl (SrcF.row 3 U45 rfl hr_6) hm_17 hl_18 rfl (Nat.le_refl _) rfl (fun vr_19 Kr_19 hr_19 => ?_)
  obtain ⟨aor_19, capr_19, rfl⟩ := RowOf.val hr_19
  refine JL.val rfl rfl (R.move rfl) ?_
  obtain ⟨q_20, hm_21, hl_22, hx⟩ := app_some hx
  refine JL.appF (HF := (New H H)) 0 U45 I5 rfl rfl hr_19 rfl (SrcF.row 2 U45 rfl hr_10) hm_21 hl_22 rfl (Nat.le_refl _) rfl (fun vr_23 Kr_23 hr_23 => ?_)
  obtain ⟨aor_23, capr_23, rfl⟩ := RowOf.val hr_23
  refine JL.val rfl rfl (R.move rfl) ?_
  obtain ⟨q_24, hm_25, hl_26, hx⟩ := app_some hx
  refine JL.appF (HF := (New H H)) 0 U45 I5 rfl rfl hr_23 rfl (SrcF.row 1 U45 rfl hr_14) hm_25 hl_26 rfl (Nat.le_refl _) rfl (fun vr_27 Kr_27 hr_27 => ?_)
  obtain ⟨aor_27, capr_27, rfl⟩ := RowOf.val hr_27
  refine JL.val rfl rfl (R.assign rfl) ?_
  refine JL.nil ?_
  refine JN.next ?_
  refine JC.seq ?_
  refine JC.region ?_
  refine JL.val rfl rfl (R.move rfl) ?_
  obtain ⟨x_31, hr_32, hx⟩ := bnd_some hx
  refine JL.callL2 (vs := [_]) (v := .int .u32 (x_31.toNat : Int)) E48 rfl rfl (fun H_30 hle_29 hl_28 => Does.mono (mix_Sum_ok q_24 _ (Lent.row' 0 hl_28 RU8.mono hle_29 rfl (hr_27.old RU8.mono)) _ hr_32) (fun _ _ _ h => h.1)) rfl ?_
  refine JL.val rfl rfl (R.cv_u32_i64 (a := x_31) U26 U3 rfl) ?_
  obtain ⟨x_33, hr_34, hx⟩ := bnd_some hx
  refine JL.callC (vs := [_, _]) (args := [_, _]) (K := []) (rst := [_, _, _, _, _]) E46 rfl rfl rfl picks0 (code_Put_ok (x_31.toNat : Int) 4 _ _ hr_34) rfl (fun u_35 Ku_35 Hu_35 hRu_35 hleu_35 hfu_35 => ?_)
  obtain ⟨aor_36, nr_36, capr_36, Kr_36, rfl, rfl, rfl, hr_36, hnewr_36, -⟩ := hRu_35
  replace hr_36 := (RowOf.base (RowOf.const (H2 := New H H) RU8.const hr_36) (fun p hp => (hfu_35 p (mem_seg 0 rfl hp)).resolve_left (hnewr_36 p hp)))
  refine JL.val rfl rfl (R.move rfl) ?_
  refine JL.val rfl rfl (R.extract rfl rfl) ?_
  refine JL.val rfl rfl (R.extract rfl rfl) ?_
  refine JL.val rfl rfl (R.assign rfl) ?_
  refine JL.val rfl rfl (R.assign rfl) ?_
  refine JL.nil ?_
  refine JN.next ?_
  refine JC.seq ?_
  refine JC.region ?_
  refine JL.val rfl rfl (R.move rfl) ?_
  refine JL.val rfl rfl (R.move rfl) ?_
  obtain ⟨q_37, hm_38, hl_39, hx⟩ := app_some hx
  refine JL.appF (HF := (New H H)) 1 U45 I5 rfl rfl hr_27 rfl (SrcF.row 0 U45 rfl hr_36) hm_38 hl_39 rfl (Nat.le_refl _) rfl (fun vr_40 Kr_40 hr_40 => ?_)
  obtain ⟨aor_40, capr_40, rfl⟩ := RowOf.val hr_40
  obtain ⟨z_43, hz_42, hc_41, hx⟩ := mks_some hx
  obtain ⟨q_44, hm_45, hl_46, hx⟩ := app_some hx
  refine JL.appZR (HF := (New H H)) (y := (0 : UInt8)) 1 U45 U3 I5 rfl rfl hr_40 rfl (fun _ => rfl) RU8.one hz_42 hc_41 hm_45 hl_46 rfl (Nat.le_refl _) rfl (fun vr_47 Kr_47 hr_47 => ?_)
  obtain ⟨aor_47, capr_47, rfl⟩ := RowOf.val hr_47
  refine JL.val rfl rfl (R.assign rfl) ?_
  refine JL.nil ?_
  refine JN.next ?_
  refine JC.ret ?_
  refine JN.outP (vs := [.slice aor_47 q_44.length capr_47]) (K := [_]) (rst := [_, _, _, _, _]) (.inl rfl) rfl rfl (Res.tmp rfl rfl) (picks 1 rfl picks0) ?_
  obtain rfl := Option.some.inj hx
  exact ⟨aor_47, q_44.length, capr_47, Kr_47, rfl, rfl, rfl, (RowOf.weak (Nat.zero_le _) hr_47), (new_ids hr_47 hlt), trivial⟩

set_option maxHeartbeats 1000000 in
theorem dev_Write_1_ok (p_2 : Disk) (H : Heaplet) {b_1 : Nat} {aoa_3 : Option Addr} {na_3 : Nat} {capa_3 : Nat} {aoa_4 : Option Addr} {na_4 : Nat} {capa_4 : Nat} (ha_3 : IsSlice H (RSl RU8 1) 1 (.slice aoa_3 na_3 capa_3) p_2.Blocks) (ha_4 : IsSlice H R_Write 2 (.slice aoa_4 na_4 capa_4) p_2.Waits) (r : Disk × Disk) (hx : dev_Write_1 p_2 = some r) :
    Does Try.prog 40 #[.pointer (some ⟨b_1, 0, none⟩)] [[(b_1, .cells #[.slice aoa_3 na_3 capa_3, .slice aoa_4 na_4 capa_4] 25 (0, 0))]] H (fun u K' H' => ∃ ao0 : Option Addr, ∃ n0 : Nat, ∃ cap0 : Nat, ∃ ao1 : Option Addr, ∃ n1 : Nat, ∃ cap1 : Nat, ∃ ao2 : Option Addr, ∃ n2 : Nat, ∃ cap2 : Nat, ∃ ao3 : Option Addr, ∃ n3 : Nat, ∃ cap3 : Nat, u = .agg #[.slice ao2 n2 cap2, .slice ao3 n3 cap3] ∧ K' = [[(b_1, .cells #[.slice ao0 n0 cap0, .slice ao1 n1 cap1] 25 (0, 0))]] ∧ H = H' ∧ IsSlice H (RSl RU8 1) 1 (.slice ao0 n0 cap0) r.2.Blocks ∧ IsSlice H R_Write 2 (.slice ao1 n1 cap1) r.2.Waits ∧ IsSlice H (RSl RU8 1) 1 (.slice ao2 n2 cap2) r.1.Blocks ∧ IsSlice H R_Write 2 (.slice ao3 n3 cap3) r.1.Waits ∧ True) := by
  refine Does.enterL (vs := [.pointer (some ⟨b_1, 0, none⟩)]) (l := [(0, .pointer (some ⟨b_1, 0, none⟩))]) Try.func40 rfl rfl ⟨rfl, trivial⟩ (fun w hlt => ?_)
  rw [dev_Write_1.eq_1] at hx
  refine JC.seq ?_
  refine JC.region ?_
  refine JL.alloc Z25 rfl (fun b_5 hb_5 => ?_)
  refine JL.nil ?_
  refine JN.next ?_
  refine JC.seq ?_
  refine JC.region ?_
  refine JL.val rfl rfl (R.ldoN 1 (vs := [.slice aoa_3 na_3 capa_3, .slice aoa_4 na_4 capa_4]) S25 rfl rfl rfl rfl) ?_
  refine JL.store 0 S25 rfl rfl rfl rfl rfl (Nat.le_of_ble_eq_true rfl) ?_
  refine JL.nil ?_
  refine JN.next ?_
  refine JC.ret ?_
  refine JN.outP (vs := [.agg #[.slice aoa_3 na_3 capa_3, .slice aoa_4 na_4 capa_4]]) (K := [_]) (rst := [_]) (.inl rfl) rfl rfl (Res.cellN 0 rfl rfl S25 rfl) (picks 1 rfl picks0) ?_
  obtain rfl := Option.some.inj hx
  exact ⟨aoa_3, na_3, capa_3, aoa_4, na_4, capa_4, aoa_3, na_3, capa_3, aoa_4, na_4, capa_4, rfl, rfl, rfl, ha_3, ha_4, ha_3, ha_4, trivial⟩

set_option maxHeartbeats 1000000 in
theorem dev_guarded_ok (p_1 : Disk) (p_4 : Bool) (p_6 : Disk) (H : Heaplet) {aoa_2 : Option Addr} {na_2 : Nat} {capa_2 : Nat} {aoa_3 : Option Addr} {na_3 : Nat} {capa_3 : Nat} {b_5 : Nat} {aoa_7 : Option Addr} {na_7 : Nat} {capa_7 : Nat} {aoa_8 : Option Addr} {na_8 : Nat} {capa_8 : Nat} (ha_2 : IsSlice H (RSl RU8 1) 1 (.slice aoa_2 na_2 capa_2) p_1.Blocks) (ha_3 : IsSlice H R_Write 2 (.slice aoa_3 na_3 capa_3) p_1.Waits) (ha_7 : IsSlice H (RSl RU8 1) 1 (.slice aoa_7 na_7 capa_7) p_6.Blocks) (ha_8 : IsSlice H R_Write 2 (.slice aoa_8 na_8 capa_8) p_6.Waits) (r : Disk × Int × Disk) (hx : dev_guarded p_1 p_4 p_6 = some r) :
    Does Try.prog 38 #[.agg #[.slice aoa_2 na_2 capa_2, .slice aoa_3 na_3 capa_3], .bool p_4, .func (.func 40) #[] #[.pointer (some ⟨b_5, 0, none⟩)]] [[(b_5, .cells #[.slice aoa_7 na_7 capa_7, .slice aoa_8 na_8 capa_8] 25 (0, 0))]] H (fun u K' H' => ∃ ao0 : Option Addr, ∃ n0 : Nat, ∃ cap0 : Nat, ∃ ao1 : Option Addr, ∃ n1 : Nat, ∃ cap1 : Nat, ∃ ao2 : Option Addr, ∃ n2 : Nat, ∃ cap2 : Nat, ∃ ao3 : Option Addr, ∃ n3 : Nat, ∃ cap3 : Nat, u = .tuple #[.agg #[.slice ao2 n2 cap2, .slice ao3 n3 cap3], .int .i64 r.2.1] ∧ K' = [[(b_5, .cells #[.slice ao0 n0 cap0, .slice ao1 n1 cap1] 25 (0, 0))]] ∧ H = H' ∧ IsSlice H (RSl RU8 1) 1 (.slice ao0 n0 cap0) r.2.2.Blocks ∧ IsSlice H R_Write 2 (.slice ao1 n1 cap1) r.2.2.Waits ∧ IsSlice H (RSl RU8 1) 1 (.slice ao2 n2 cap2) r.1.Blocks ∧ IsSlice H R_Write 2 (.slice ao3 n3 cap3) r.1.Waits ∧ True) := by
  refine Does.enterL (vs := [.agg #[.slice aoa_2 na_2 capa_2, .slice aoa_3 na_3 capa_3], .bool p_4, .func (.func 40) #[] #[.pointer (some ⟨b_5, 0, none⟩)]]) (l := [(0, .agg #[.slice aoa_2 na_2 capa_2, .slice aoa_3 na_3 capa_3]), (1, .bool p_4), (2, .func (.func 40) #[] #[.pointer (some ⟨b_5, 0, none⟩)])]) Try.func38 rfl rfl ⟨rfl, rfl, rfl, trivial⟩ (fun w hlt => ?_)
  rw [dev_guarded.eq_1] at hx
  refine JC.seq ?_
  refine JC.region ?_
  refine JL.box rfl rfl (fun b_9 hb_9 => ?_)
  refine JL.alloc Z25 rfl (fun b_10 hb_10 => ?_)
  refine JL.val rfl rfl (R.assign rfl) ?_
  refine JL.nil ?_
  refine JN.next ?_
  refine JC.seq ?_
  refine JC.region ?_
  refine JL.val rfl rfl (R.ldoN 1 (vs := [.slice aoa_2 na_2 capa_2, .slice aoa_3 na_3 capa_3]) S25 rfl rfl rfl rfl) ?_
  obtain ⟨x_11, hr_12, hx⟩ := bnd_some hx
  refine JL.callC (vs := [_]) (args := [_]) (K := []) (rst := [_, _, _]) E24 rfl rfl rfl picks0 (dev_Check_ok p_1 _ ha_2 ha_3 _ hr_12) rfl (fun u_13 Ku_13 Hu_13 hRu_13 hleu_13 hfu_13 => ?_)
  obtain ⟨rfl, rfl, rfl, -⟩ := hRu_13
  refine JL.val rfl rfl (R.assign rfl) ?_
  refine JL.nil ?_
  refine JN.next ?_
  refine JC.seq ?_
  refine JC.block ?_
  refine JC.seq ?_
  refine JC.region ?_
  refine JL.val rfl rfl (R.move rfl) ?_
  refine JL.val rfl rfl (R.neq_i rfl rfl) ?_
  refine JL.val rfl rfl (R.assign rfl) ?_
  refine JL.nil ?_
  refine JN.next ?_
  refine JC.condB rfl (fun c_14 => ?_) (fun c_14 => ?_)
  · replace hx := cond_t c_14 hx
    refine JC.seq ?_
    refine JC.region ?_
    refine JL.val rfl rfl (R.bldP (vs := []) (cs := [.slice none 0 0, .slice none 0 0]) Z25 B25 rfl rfl rfl) ?_
    refine JL.val rfl rfl (R.move rfl) ?_
    refine JL.store 0 S25 rfl rfl rfl rfl rfl (Nat.le_of_ble_eq_true rfl) ?_
    refine JL.val rfl rfl (R.assign rfl) ?_
    refine JL.nil ?_
    refine JN.next ?_
    refine JC.ret ?_
    refine JN.blkR ?_
    refine JN.passR ?_
    refine JN.outP (vs := [.agg #[.slice none 0 0, .slice none 0 0], .int .i64 x_11]) (K := [_]) (rst := [_, _]) (.inl rfl) rfl rfl (Res.cellN 0 rfl rfl S25 (Res.tmp rfl rfl)) (picks 2 rfl picks0) ?_
    obtain rfl := Option.some.inj hx
    exact ⟨aoa_7, na_7, capa_7, aoa_8, na_8, capa_8, none, 0, 0, none, 0, 0, rfl, rfl, rfl, ha_7, ha_8, (IsSlice.nil _ _ _), (IsSlice.nil _ _ _), trivial⟩
  · replace hx := cond_f c_14 hx
    refine JC.seq ?_
    refine JC.region ?_
    refine JL.val rfl rfl (R.move rfl) ?_
    refine JL.val rfl rfl (R.not rfl) ?_
    refine JL.val rfl rfl (R.assign rfl) ?_
    refine JL.nil ?_
    refine JN.next ?_
    refine JC.condB rfl (fun c_15 => ?_) (fun c_15 => ?_)
    · replace hx := cond_t c_15 hx
      refine JC.seq ?_
      refine JC.region ?_
      refine JL.val rfl rfl (R.bldP (vs := []) (cs := [.slice none 0 0, .slice none 0 0]) Z25 B25 rfl rfl rfl) ?_
      refine JL.store 0 S25 rfl rfl rfl rfl rfl (Nat.le_of_ble_eq_true rfl) ?_
      refine JL.val rfl rfl (R.assign rfl) ?_
      refine JL.nil ?_
      refine JN.next ?_
      refine JC.ret ?_
      refine JN.blkR ?_
      refine JN.passR ?_
      refine JN.outP (vs := [.agg #[.slice none 0 0, .slice none 0 0], .int .i64 2]) (K := [_]) (rst := [_, _]) (.inl rfl) rfl rfl (Res.cellN 0 rfl rfl S25 (Res.tmp rfl rfl)) (picks 2 rfl picks0) ?_
      obtain rfl := Option.some.inj hx
      exact ⟨aoa_7, na_7, capa_7, aoa_8, na_8, capa_8, none, 0, 0, none, 0, 0, rfl, rfl, rfl, ha_7, ha_8, (IsSlice.nil _ _ _), (IsSlice.nil _ _ _), trivial⟩
    · replace hx := cond_f c_15 hx
      refine JC.skip ?_
      refine JN.blkN ?_
      refine JN.next ?_
      refine JC.seq ?_
      refine JC.region ?_
      refine JL.val rfl rfl (R.move rfl) ?_
      obtain ⟨x_16, hr_17, hx⟩ := bnd_some hx
      refine JL.callC (vs := []) (args := [_]) (K := [_]) (rst := [_, _]) E40 rfl rfl rfl (picks 2 rfl picks0) (dev_Write_1_ok p_6 _ ha_7 ha_8 _ hr_17) rfl (fun u_18 Ku_18 Hu_18 hRu_18 hleu_18 hfu_18 => ?_)
      obtain ⟨aoz_19, nz_19, capz_19, aoz_20, nz_20, capz_20, aoz_21, nz_21, capz_21, aoz_22, nz_22, capz_22, rfl, rfl, rfl, hz_19, hz_20, hz_21, hz_22, -⟩ := hRu_18
      refine JL.store 1 S25 rfl rfl rfl rfl rfl (Nat.le_of_ble_eq_true rfl) ?_
      refine JL.val rfl rfl (R.assign rfl) ?_
      refine JL.nil ?_
      refine JN.next ?_
      refine JC.ret ?_
      refine JN.outP (vs := [.agg #[.slice aoz_21 nz_21 capz_21, .slice aoz_22 nz_22 capz_22], .int .i64 0]) (K := [_]) (rst := [_, _]) (.inl rfl) rfl rfl (Res.cellN 1 rfl rfl S25 (Res.tmp rfl rfl)) (picks 0 rfl picks0) ?_
      obtain rfl := Option.some.inj hx
      exact ⟨aoz_19, nz_19, capz_19, aoz_20, nz_20, capz_20, aoz_21, nz_21, capz_21, aoz_22, nz_22, capz_22, rfl, rfl, rfl, hz_19, hz_20, hz_21, hz_22, trivial⟩

set_option maxHeartbeats 1000000 in
theorem slices_Clip_Write_ok (p_1 : List Write) (H : Heaplet) {aoa_2 : Option Addr} {na_2 : Nat} {capa_2 : Nat} (ha_2 : IsSlice H R_Write 2 (.slice aoa_2 na_2 capa_2) p_1) (r : List Write) (hx : slices_Clip_Write p_1 = some r) :
    Does Try.prog 42 #[.slice aoa_2 na_2 capa_2] [] H (fun u K' H' => ∃ ao0 : Option Addr, ∃ n0 : Nat, u = .slice ao0 n0 n0 ∧ K' = [] ∧ H = H' ∧ IsSlice H R_Write 2 (.slice ao0 n0 n0) r ∧ True) := by
  refine Does.enterL (vs := [.slice aoa_2 na_2 capa_2]) (l := [(0, .slice aoa_2 na_2 capa_2)]) Try.func42 rfl rfl ⟨rfl, trivial⟩ (fun w hlt => ?_)
  rw [slices_Clip_Write.eq_1] at hx
  refine JC.seq ?_
  refine JC.region ?_
  refine JL.val rfl rfl (R.assign rfl) ?_
  refine JL.nil ?_
  refine JN.next ?_
  refine JC.seq ?_
  refine JC.region ?_
  refine JL.val rfl rfl (R.move rfl) ?_
  refine JL.val rfl rfl (R.move rfl) ?_
  refine JL.val rfl rfl (R.lenL U23 rfl (IsSlice.long ha_2)) ?_
  refine JL.val rfl rfl (R.move rfl) ?_
  refine JL.val rfl rfl (R.lenL U23 rfl (IsSlice.long ha_2)) ?_
  obtain ⟨m_3, hm_5, hb_4, hx⟩ := slc_some hx
  obtain ⟨vv_6, cv_6, aov_6, h1v_6, h2v_6, hsv_6⟩ := IsSlice.cutc ha_2 hm_5 hb_4
  refine JL.val rfl rfl (R.slc (cap := cv_6) (a := 0) (b := (p_1.length : Int)) (c := (p_1.length : Int)) (m := p_1) (R := R_Write) U23 S47 rfl rfl ⟨_, rfl⟩ ⟨_, rfl⟩ ⟨hb_4.1, hb_4.2.1, Int.le_refl _⟩ h1v_6 (.inr (fun h => by cases h))) ?_
  subst h2v_6
  refine JL.val rfl rfl (R.assign rfl) ?_
  refine JL.nil ?_
  refine JN.next ?_
  refine JC.ret ?_
  refine JN.outP (vs := [.slice aov_6 m_3.length m_3.length]) (K := []) (rst := []) (.inl rfl) rfl rfl (Res.tmp rfl rfl) picks0 ?_
  obtain rfl := Option.some.inj hx
  exact ⟨aov_6, m_3.length, rfl, rfl, rfl, hsv_6, trivial⟩

theorem bytes_Clone_ok (p_1 : List UInt8) (H : Heaplet) {ao : Option Addr} {n cap : Nat} (hs : IsSlice H RU8 1 (.slice ao n cap) p_1) (r : List UInt8) (hx : bytes_Clone p_1 = some r) :
    Does Try.prog 65 #[.slice ao n cap] [] H (fun u K' H' => ∃ ao0 : Option Addr, ∃ n0 : Nat, ∃ cap0 : Nat, ∃ K0 : Own, u = .slice ao0 n0 cap0 ∧ K' = [K0] ∧ H = H' ∧ RowOf (New H H') RU8 0 5 1 (.slice ao0 n0 cap0) r K0 ∧ (∀ p ∈ K0, p.1 ∉ ids (List.flatten [])) ∧ True) := by
  rw [bytes_Clone.eq_1] at hx
  obtain ⟨q, hq, hl, hx⟩ := app_some hx
  obtain rfl := Option.some.inj hx
  refine Does.enter (vs := [.slice ao n cap]) (l := [(0, .slice ao n cap)]) Try.func65 rfl rfl ⟨rfl, trivial⟩ (fun w => ?_)
  refine JC.seq ?_
  refine JC.region ?_
  refine JL.val rfl rfl (R.assign rfl) ?_
  refine JL.nil ?_
  refine JN.next ?_
  refine JC.seq ?_
  refine JC.seq ?_
  refine JC.region ?_
  refine JL.val rfl rfl (R.move rfl) ?_
  refine JL.val rfl rfl (R.eqlNil U45 rfl rfl) ?_
  refine JL.nil ?_
  refine JN.next ?_
  cases ao with
  | none =>
    have hp := hs.none_nil
    subst hp
    simp only [List.append_nil] at hq
    subst hq
    refine JC.condT rfl ?_
    refine JC.seq ?_
    refine JC.region ?_
    refine JL.val rfl rfl (R.assign rfl) ?_
    refine JL.nil ?_
    refine JN.next ?_
    refine JC.ret ?_
    refine JN.passR ?_
    refine JN.seg0 ?_
    refine JN.outP (vs := [.slice none 0 0]) (K := [_]) (rst := []) (.inl rfl) rfl rfl (Res.tmp rfl rfl) (picks 0 rfl picks0) ?_
    exact ⟨none, 0, 0, [], rfl, rfl, rfl, RowOf.nil _ _ _ _ _, (fun p hp => by cases hp), trivial⟩
  | some a =>
    refine JC.condF rfl ?_
    refine JC.skip ?_
    refine JN.next ?_
    refine JC.seq ?_
    refine JC.region ?_
    refine JL.bslF (HF := New H H) (R := RU8) (ls := []) (vs := []) U45 I5 rfl rfl rfl RU8.one rfl rfl rfl (by simp [maxLen]) rfl (fun v1 K1 h1 => ?_)
    obtain ⟨ao1, cap1, rfl⟩ := RowOf.val h1
    refine JL.val rfl rfl (R.move rfl) ?_
    refine JL.appF (HF := New H H) 0 U45 I5 rfl rfl h1 rfl (SrcF.sliceC RU8.const RU8.one U45 hs) hq hl rfl (Nat.le_refl _) rfl (fun v2 K2 h2 => ?_)
    obtain ⟨ao2, cap2, rfl⟩ := RowOf.val h2
    refine JL.val rfl rfl (R.assign rfl) ?_
    refine JL.nil ?_
    refine JN.next ?_
    refine JC.ret ?_
    refine JN.outP (vs := [.slice ao2 _ cap2]) (K := [_]) (rst := []) (.inl rfl) rfl rfl (Res.tmp rfl rfl) (picks 0 rfl picks0) ?_
    exact ⟨_, _, _, _, rfl, rfl, rfl, RowOf.weak (Nat.zero_le _) h2, (fun p hp hm => by cases hm), trivial⟩

set_option maxHeartbeats 1000000 in
theorem dev_Twin_ok (p_1 : Disk) (H : Heaplet) {aoa_2 : Option Addr} {na_2 : Nat} {capa_2 : Nat} {aoa_3 : Option Addr} {na_3 : Nat} {capa_3 : Nat} (ha_2 : IsSlice H (RSl RU8 1) 1 (.slice aoa_2 na_2 capa_2) p_1.Blocks) (ha_3 : IsSlice H R_Write 2 (.slice aoa_3 na_3 capa_3) p_1.Waits) (r : Disk) (hx : dev_Twin p_1 = some r) :
    Does Try.prog 41 #[.agg #[.slice aoa_2 na_2 capa_2, .slice aoa_3 na_3 capa_3]] [] H (fun u K' H' => ∃ ao0 : Option Addr, ∃ n0 : Nat, ∃ cap0 : Nat, ∃ K0 : Own, ∃ ao1 : Option Addr, ∃ n1 : Nat, ∃ cap1 : Nat, ∃ K1 : Own, u = .agg #[.slice ao0 n0 cap0, .slice ao1 n1 cap1] ∧ K' = [K0, K1] ∧ Pcs 0 5 45 (.slice ao0 n0 cap0) r.Blocks K0 ∧ (∀ p ∈ K0, p.1 ∉ ids (List.flatten [])) ∧ RowOf (New H H') R_Write 0 47 2 (.slice ao1 n1 cap1) r.Waits K1 ∧ (∀ p ∈ K1, p.1 ∉ ids (List.flatten [])) ∧ True) := by
  refine Does.enterL (vs := [.agg #[.slice aoa_2 na_2 capa_2, .slice aoa_3 na_3 capa_3]]) (l := [(0, .agg #[.slice aoa_2 na_2 capa_2, .slice aoa_3 na_3 capa_3])]) Try.func41 rfl rfl ⟨rfl, trivial⟩ (fun w hlt => ?_)
  rw [dev_Twin.eq_1] at hx
  refine JC.seq ?_
  refine JC.region ?_
  refine JL.box rfl rfl (fun b_4 hb_4 => ?_)
  refine JL.alloc Z25 rfl (fun b_5 hb_5 => ?_)
  refine JL.nil ?_
  refine JN.next ?_
  refine JC.seq ?_
  refine JC.region ?_
  refine JL.val rfl rfl (R.assign rfl) ?_
  refine JL.nil ?_
  refine JN.next ?_
  refine JC.seq ?_
  refine JC.seq ?_
  refine JC.region ?_
  refine JL.val rfl rfl (R.fa F25_0 rfl) ?_
  refine JL.val rfl rfl (R.ldo 1 S22 rfl rfl rfl) ?_
  refine JL.val rfl rfl (R.lenL U22 rfl (IsSlice.long ha_2)) ?_
  refine JL.val rfl rfl (R.move rfl) ?_
  refine JL.nil ?_
  refine JN.next ?_
  obtain ⟨t_6, ht_8, hx⟩ := bnd_some hx
  refine JC.cut (fun l o g => ∃ aor_13 : Option Addr, ∃ nr_13 : Nat, ∃ capr_13 : Nat, ∃ Kr_13 : Own, l = [(1, .pointer (some ⟨b_4, 0, none⟩)), (2, .pointer (some ⟨b_5, 0, none⟩)), (3, .slice aor_13 nr_13 capr_13)] ∧ o = [[(b_4, .cells #[.slice aoa_2 na_2 capa_2, .slice aoa_3 na_3 capa_3] 25 (0, 0))], [(b_5, .cells #[.slice none 0 0, .slice none 0 0] 25 (0, 0))], Kr_13] ∧ H = g ∧ RowOf (New H H) RInt w.heap.size 3 1 (.slice aor_13 nr_13 capr_13) t_6 Kr_13) ?_ ?_
  · rintro _ _ _ ⟨aor_13, nr_13, capr_13, Kr_13, rfl, rfl, rfl, hr_13⟩
    refine JN.next ?_
    refine JC.seq ?_
    refine JC.region ?_
    refine JL.val rfl rfl (R.move rfl) ?_
    refine JL.pubN 2 RInt.mono rfl hr_13 (Nat.le_refl _) (fun H_14 hleH_14 hsH_14 => ?_)
    refine JL.forget 2 ?_
    obtain ⟨x_15, hr_16, hx⟩ := bnd_some hx
    refine JL.callC (vs := [_]) (args := [_]) (K := []) (rst := [_, _]) E36 rfl rfl rfl picks0 (dev_cut_ok t_6 _ (hsH_14.old RInt.mono) _ hr_16) rfl (fun u_17 Ku_17 Hu_17 hRu_17 hleu_17 hfu_17 => ?_)
    obtain ⟨aor_18, nr_18, capr_18, Kr_18, rfl, rfl, rfl, hr_18, hnewr_18, -⟩ := hRu_17
    replace hr_18 := (Pcs.base hr_18 (fun p hp => (hfu_17 p (mem_seg 0 rfl hp)).resolve_left (hnewr_18 p hp)))
    refine JL.val rfl rfl (R.fa F25_0 rfl) ?_
    refine JL.store 2 S22 rfl rfl rfl rfl rfl (Nat.le_of_ble_eq_true rfl) ?_
    refine JL.nil ?_
    refine JN.next ?_
    refine JC.seq ?_
    refine JC.seq ?_
    refine JC.region ?_
    refine JL.val rfl rfl (R.fa F25_0 rfl) ?_
    refine JL.val rfl rfl (R.ldo 1 S22 rfl rfl rfl) ?_
    refine JL.val rfl rfl (R.lenL U22 rfl (IsSlice.long ha_2)) ?_
    refine JL.val rfl rfl (R.move rfl) ?_
    refine JL.nil ?_
    refine JN.next ?_
    obtain ⟨t_19, ht_21, hx⟩ := bnd_some hx
    refine JC.cut (fun l o g => ∃ Kr_26 : Own, l = [(1, .pointer (some ⟨b_4, 0, none⟩)), (2, .pointer (some ⟨b_5, 0, none⟩))] ∧ o = [[(b_4, .cells #[.slice aoa_2 na_2 capa_2, .slice aoa_3 na_3 capa_3] 25 (0, 0))], [(b_5, .cells #[.slice aor_18 nr_18 capr_18, .slice none 0 0] 25 (0, 0))], Kr_26] ∧ H_14 = g ∧ Pcs w.heap.size 5 45 (.slice aor_18 nr_18 capr_18) t_19 Kr_26) ?_ ?_
    · rintro _ _ _ ⟨Kr_26, rfl, rfl, rfl, hr_26⟩
      refine JN.next ?_
      refine JC.seq ?_
      refine JC.seq ?_
      refine JC.region ?_
      refine JL.val rfl rfl (R.fa F25_1 rfl) ?_
      refine JL.val rfl rfl (R.ldo 0 S23 rfl rfl rfl) ?_
      refine JL.val rfl rfl (R.lenL U23 rfl (IsSlice.long ha_3)) ?_
      refine JL.val rfl rfl (R.move rfl) ?_
      refine JL.nil ?_
      refine JN.next ?_
      obtain ⟨t_27, ht_29, hx⟩ := bnd_some hx
      refine JC.cut (fun l o g => ∃ H_35 : Heaplet, ∃ aor_36 : Option Addr, ∃ nr_36 : Nat, ∃ capr_36 : Nat, ∃ Kr_36 : Own, l = [(2, .pointer (some ⟨b_5, 0, none⟩))] ∧ o = [[(b_5, .cells #[.slice aor_18 nr_18 capr_18, .slice aor_36 nr_36 capr_36] 25 (0, 0))], Kr_26, Kr_36] ∧ H_35 = g ∧ Hle H_14 H_35 ∧ RowOf (New H H_35) R_Write w.heap.size 47 2 (.slice aor_36 nr_36 capr_36) t_27 Kr_36) ?_ ?_
      · rintro _ _ _ ⟨H_35, aor_36, nr_36, capr_36, Kr_36, rfl, rfl, rfl, hleH_35, hr_36⟩
        refine JN.next ?_
        refine JC.ret ?_
        refine JN.outP (vs := [.agg #[.slice aor_18 nr_18 capr_18, .slice aor_36 nr_36 capr_36]]) (K := [_, _]) (rst := [_]) (.inl rfl) rfl rfl (Res.cellN 0 rfl rfl S25 rfl) (picks 1 rfl (picks 1 rfl picks0)) ?_
        obtain rfl := Option.some.inj hx
        exact ⟨aor_18, nr_18, capr_18, Kr_26, aor_36, nr_36, capr_36, Kr_36, rfl, rfl, (Pcs.weak (Nat.zero_le _) hr_26), (newP_ids hr_26 hlt), (RowOf.weak (Nat.zero_le _) hr_36), (new_ids hr_36 hlt), trivial⟩
      · have hxo_28 := hx; clear hx; have hx := ht_29; clear ht_29
        refine JC.block ?_
        refine JC.seg0 ?_
        refine JC.forget 1 ?_
        refine JC.front 2 rfl ?_
        refine JC.front 2 rfl ?_
        refine JC.loopI (fun n l o g => ∃ s_30 : List Write × Nat, ∃ H_33 : Heaplet, ∃ aor_34 : Option Addr, ∃ nr_34 : Nat, ∃ capr_34 : Nat, ∃ Kr_34 : Own, l = [(2, .pointer (some ⟨b_5, 0, none⟩)), (43, .slice aoa_3 na_3 capa_3), (44, .int .i64 (p_1.Waits.length : Int)), (45, .int .i64 ((s_30.2 : Nat) : Int))] ∧ o = [[(b_5, .cells #[.slice aor_18 nr_18 capr_18, .slice aor_34 nr_34 capr_34] 25 (0, 0))], Kr_26, Kr_34] ∧ H_33 = g ∧ run (dev_Twin_l3 p_1) n s_30 = some t_27 ∧ Hle H_14 H_33 ∧ RowOf (New H H_33) R_Write w.heap.size 47 2 (.slice aor_34 nr_34 capr_34) s_30.1 Kr_34) FUEL ?_ ⟨(([] : List Write), 0), H_14, none, 0, 0, [], rfl, rfl, rfl, hx, (Hle.refl _), (RowOf.nil _ _ _ _ _)⟩ ⟨rfl, rfl, rfl, rfl, trivial⟩ ?_
        · rintro _ _ _ ⟨s_30, H_33, aor_34, nr_34, capr_34, Kr_34, rfl, rfl, rfl, hn_31, hleH_33, hr_34⟩
          exact run_zero hn_31
        · rintro n_32 _ _ _ ⟨s_30, H_33, aor_34, nr_34, capr_34, Kr_34, rfl, rfl, rfl, hn_31, hleH_33, hr_34⟩
          clear hx; obtain ⟨oo_36, hx, hd_35⟩ := run_some hn_31
          rw [dev_Twin_l3.eq_1] at hx
          refine JC.seq ?_
          refine JC.region ?_
          refine JL.val rfl rfl (R.lss_i rfl rfl) ?_
          refine JL.nil ?_
          refine JN.next ?_
          refine JC.seq ?_
          refine JC.condB rfl (fun c_35 => ?_) (fun c_35 => ?_)
          · replace hx := cond_t c_35 hx
            refine JC.skip ?_
            refine JN.next ?_
            refine JC.seq ?_
            refine JC.block ?_
            refine JC.seq ?_
            refine JC.region ?_
            obtain ⟨y_36, hN_37, hx⟩ := idx_some hx
            obtain ⟨b_38, o_39, cs_40, hE_41, hR_42, hl_43, hc_44⟩ := IsSlice.elem (ha_3.mono R_Write.mono (hleH_14.trans hleH_33)) hN_37
            obtain ⟨v_45, rfl, hs_46⟩ := hR_42
            obtain ⟨aov_45, capv_45, rfl⟩ := IsSlice.val hs_46
            refine JL.val rfl rfl (R.ix U23 S47 rfl rfl hE_41) ?_
            refine JL.val rfl rfl (R.ldHE (cs := [.int .i64 y_36.At, .slice aov_45 y_36.Data.length capv_45]) (k := 0) (vs := [.int .i64 y_36.At, .slice aov_45 y_36.Data.length capv_45]) S47 rfl hc_44 rfl rfl) ?_
            refine JL.alloc Z47 rfl (fun b_47 hb_47 => ?_)
            refine JL.store 0 S47 rfl rfl rfl rfl rfl (Nat.le_of_ble_eq_true rfl) ?_
            refine JL.nil ?_
            refine JN.next ?_
            refine JC.draw (so := [_, _]) 12 rfl Mixed ⟨⟨0, rfl⟩, ⟨2, rfl⟩, trivial⟩ ?_
            refine JA.val ⟨by kernel_rfl, by kernel_rfl⟩ (calm_only _) (i := 0) rfl ⟨by kernel_rfl, by kernel_rfl, rfl⟩ trivial (stab_of (Hle.refl _) ⟨⟨0, rfl⟩, ⟨2, rfl⟩, trivial⟩) (R.fa F25_1 rfl) rfl ?_
            refine JA.val ⟨by kernel_rfl, by kernel_rfl⟩ (calm_only _) (i := 2) rfl ⟨by kernel_rfl, by kernel_rfl, rfl⟩ trivial (stab_of (Hle.refl _) ⟨⟨0, rfl⟩, ⟨2, rfl⟩, trivial⟩) (R.fa F47_0 rfl) rfl ?_
            refine JA.val ⟨by kernel_rfl, by kernel_rfl⟩ (calm_only _) (i := 3) rfl ⟨by kernel_rfl, by kernel_rfl, rfl⟩ trivial (stab_of (Hle.refl _) ⟨⟨0, rfl⟩, ⟨2, rfl⟩, trivial⟩) (R.ldo 0 S3 rfl rfl rfl) rfl ?_
            refine JA.val ⟨by kernel_rfl, by kernel_rfl⟩ (calm_only _) (i := 4) rfl ⟨by kernel_rfl, by kernel_rfl, rfl⟩ trivial (stab_of (Hle.refl _) ⟨⟨0, rfl⟩, ⟨2, rfl⟩, trivial⟩) (R.fa F47_1 rfl) rfl ?_
            refine JA.val ⟨by kernel_rfl, by kernel_rfl⟩ (calm_only _) (i := 5) rfl ⟨by kernel_rfl, by kernel_rfl, rfl⟩ trivial (stab_of (Hle.refl _) ⟨⟨0, rfl⟩, ⟨2, rfl⟩, trivial⟩) (R.ldo 0 S45 rfl rfl rfl) rfl ?_
            obtain ⟨x_48, hr_49, hx⟩ := bnd_some hx
            obtain ⟨q_54, hm_55, hl_56, hx⟩ := app_some hx
            refine JA.two (i := 1) (j := 6) (by kernel_rfl) ?_ ?_
            · refine JO.step rfl trivial rfl (fun K hK => ?_)
              refine JL.val rfl rfl (R.ldo 1 S23 rfl rfl rfl) ?_
              refine JL.nil ?_
              refine hK _ _ _ (stab_of (Hle.refl _) ⟨⟨0, rfl⟩, ⟨2, rfl⟩, trivial⟩) ?_
              refine JA.one (i := 6) (by kernel_rfl) ?_
              refine JO.step rfl trivial rfl (fun K hK => ?_)
              refine JL.callC (vs := [_]) (args := [_]) (K := []) (rst := [_, _, _, _]) E65 rfl rfl rfl picks0 (bytes_Clone_ok y_36.Data _ hs_46 _ hr_49) rfl (fun u_50 Ku_50 Hu_50 hRu_50 hleu_50 hfu_50 => ?_)
              obtain ⟨aor_51, nr_51, capr_51, Kr_51, rfl, rfl, rfl, hr_51, hnewr_51, -⟩ := hRu_50
              replace hr_51 := (RowOf.base (RowOf.const (H2 := New H H_33) RU8.const hr_51) (fun p hp => (hfu_50 p (mem_seg 0 rfl hp)).resolve_left (hnewr_51 p hp)))
              refine JL.nil ?_
              refine hK _ _ _ (stab_of (Hle.refl _) ⟨⟨1, rfl⟩, ⟨3, rfl⟩, trivial⟩) ?_
              refine JA.one (i := 7) (by kernel_rfl) ?_
              refine JO.step rfl trivial rfl (fun K hK => ?_)
              refine JL.val rfl rfl (R.bldP (vs := [(0, .int .i64 y_36.At), (1, .slice aor_51 nr_51 capr_51)]) (cs := [.int .i64 y_36.At, .slice aor_51 nr_51 capr_51]) Z47 B47 rfl rfl rfl) ?_
              refine JL.nil ?_
              refine hK _ _ _ (stab_of (Hle.refl _) ⟨⟨1, rfl⟩, ⟨3, rfl⟩, trivial⟩) ?_
              refine JA.one (i := 8) (by kernel_rfl) ?_
              refine JO.step rfl trivial rfl (fun K hK => ?_)
              refine JL.pubN 0 RU8.mono rfl hr_51 (Nat.le_refl _) (fun H_52 hleH_52 hsH_52 => ?_)
              refine JL.forget 0 ?_
              refine JL.bslF (HF := (New H H_52)) (R := R_Write) (ls := [Write.mk y_36.At x_48]) (vs := [.agg #[.int .i64 y_36.At, .slice aor_51 nr_51 capr_51]]) U23 I47 rfl rfl (⟨_, _, rfl, rfl, ⟨_, rfl, hsH_52⟩, rfl⟩) R_Write.one rfl rfl rfl (by simp [maxLen]) rfl (fun vr_53 Kr_53 hr_53 => ?_)
              obtain ⟨aor_53, capr_53, rfl⟩ := RowOf.val hr_53
              refine JL.nil ?_
              refine hK _ _ _ (stab_of hleH_52 ⟨⟨1, rfl⟩, ⟨3, rfl⟩, trivial⟩) ?_
              refine JA.one (i := 9) (by kernel_rfl) ?_
              refine JO.step rfl trivial rfl (fun K hK => ?_)
              refine JL.appF (HF := (New H H_52)) 4 U23 I47 rfl rfl (hr_34.mono R_Write.mono (New.mono hleH_52)) rfl (SrcF.row 0 U23 rfl hr_53) hm_55 hl_56 rfl (Nat.le_refl _) rfl (fun vr_57 Kr_57 hr_57 => ?_)
              obtain ⟨aor_57, capr_57, rfl⟩ := RowOf.val hr_57
              refine JL.nil ?_
              refine hK _ _ _ (stab_of hleH_52 ⟨⟨1, rfl⟩, ⟨3, rfl⟩, trivial⟩) ?_
              refine JA.val ⟨by kernel_rfl, by kernel_rfl⟩ (calm_only _) (i := 10) rfl ⟨by kernel_rfl, by kernel_rfl, rfl⟩ trivial (stab_of hleH_52 ⟨⟨1, rfl⟩, ⟨3, rfl⟩, trivial⟩) (R.fa F25_1 rfl) rfl ?_
              refine JA.one (i := 11) (by kernel_rfl) ?_
              refine JO.step rfl trivial rfl (fun K hK => ?_)
              refine JL.store 2 S23 rfl rfl rfl rfl rfl (Nat.le_of_ble_eq_true rfl) ?_
              refine JL.nil ?_
              refine hK _ _ _ (stab_of hleH_52 ⟨⟨1, rfl⟩, ⟨3, rfl⟩, trivial⟩) ?_
              refine JA.doneN (by kernel_rfl) ?_
              refine JN.blkN ?_
              refine JN.next ?_
              refine JC.region ?_
              refine JL.val rfl rfl (R.inc rfl rfl (of_decide_eq_true c_35) (IsSlice.lenI ha_3)) ?_
              refine JL.val rfl rfl (R.move rfl) ?_
              refine JL.nil ?_
              replace hx := run_next hd_35 hx
              refine JN.forget 1 ?_
              refine JN.forget 0 ?_
              refine JN.front 2 rfl ?_
              refine JN.front 2 rfl ?_
              refine JN.front 2 rfl ?_
              exact JN.cut ⟨(q_54, s_30.2 + 1), H_52, aor_57, q_54.length, capr_57, Kr_57, rfl, rfl, rfl, hx, ((hleH_33.trans hleH_52)), hr_57⟩ ⟨rfl, rfl, rfl, rfl, trivial⟩ rfl rfl
            · refine JO.step rfl trivial rfl (fun K hK => ?_)
              refine JL.callC (vs := [_]) (args := [_]) (K := []) (rst := [_, _, _, _]) E65 rfl rfl rfl picks0 (bytes_Clone_ok y_36.Data _ hs_46 _ hr_49) rfl (fun u_50 Ku_50 Hu_50 hRu_50 hleu_50 hfu_50 => ?_)
              obtain ⟨aor_51, nr_51, capr_51, Kr_51, rfl, rfl, rfl, hr_51, hnewr_51, -⟩ := hRu_50
              replace hr_51 := (RowOf.base (RowOf.const (H2 := New H H_33) RU8.const hr_51) (fun p hp => (hfu_50 p (mem_seg 0 rfl hp)).resolve_left (hnewr_51 p hp)))
              refine JL.nil ?_
              refine hK _ _ _ (stab_of (Hle.refl _) ⟨⟨1, rfl⟩, ⟨3, rfl⟩, trivial⟩) ?_
              refine JA.two (i := 1) (j := 7) (by kernel_rfl) ?_ ?_
              · refine JO.step rfl trivial rfl (fun K hK => ?_)
                refine JL.val rfl rfl (R.ldo 2 S23 rfl rfl rfl) ?_
                refine JL.nil ?_
                refine hK _ _ _ (stab_of (Hle.refl _) ⟨⟨1, rfl⟩, ⟨3, rfl⟩, trivial⟩) ?_
                refine JA.one (i := 7) (by kernel_rfl) ?_
                refine JO.step rfl trivial rfl (fun K hK => ?_)
                refine JL.val rfl rfl (R.bldP (vs := [(0, .int .i64 y_36.At), (1, .slice aor_51 nr_51 capr_51)]) (cs := [.int .i64 y_36.At, .slice aor_51 nr_51 capr_51]) Z47 B47 rfl rfl rfl) ?_
                refine JL.nil ?_
                refine hK _ _ _ (stab_of (Hle.refl _) ⟨⟨1, rfl⟩, ⟨3, rfl⟩, trivial⟩) ?_
                refine JA.one (i := 8) (by kernel_rfl) ?_
                refine JO.step rfl trivial rfl (fun K hK => ?_)
                refine JL.pubN 0 RU8.mono rfl hr_51 (Nat.le_refl _) (fun H_52 hleH_52 hsH_52 => ?_)
                refine JL.forget 0 ?_
                refine JL.bslF (HF := (New H H_52)) (R := R_Write) (ls := [Write.mk y_36.At x_48]) (vs := [.agg #[.int .i64 y_36.At, .slice aor_51 nr_51 capr_51]]) U23 I47 rfl rfl (⟨_, _, rfl, rfl, ⟨_, rfl, hsH_52⟩, rfl⟩) R_Write.one rfl rfl rfl (by simp [maxLen]) rfl (fun vr_53 Kr_53 hr_53 => ?_)
                obtain ⟨aor_53, capr_53, rfl⟩ := RowOf.val hr_53
                refine JL.nil ?_
                refine hK _ _ _ (stab_of hleH_52 ⟨⟨1, rfl⟩, ⟨3, rfl⟩, trivial⟩) ?_
                refine JA.one (i := 9) (by kernel_rfl) ?_
                refine JO.step rfl trivial rfl (fun K hK => ?_)
                refine JL.appF (HF := (New H H_52)) 4 U23 I47 rfl rfl (hr_34.mono R_Write.mono (New.mono hleH_52)) rfl (SrcF.row 0 U23 rfl hr_53) hm_55 hl_56 rfl (Nat.le_refl _) rfl (fun vr_57 Kr_57 hr_57 => ?_)
                obtain ⟨aor_57, capr_57, rfl⟩ := RowOf.val hr_57
                refine JL.nil ?_
                refine hK _ _ _ (stab_of hleH_52 ⟨⟨1, rfl⟩, ⟨3, rfl⟩, trivial⟩) ?_
                refine JA.val ⟨by kernel_rfl, by kernel_rfl⟩ (calm_only _) (i := 10) rfl ⟨by kernel_rfl, by kernel_rfl, rfl⟩ trivial (stab_of hleH_52 ⟨⟨1, rfl⟩, ⟨3, rfl⟩, trivial⟩) (R.fa F25_1 rfl) rfl ?_
                refine JA.one (i := 11) (by kernel_rfl) ?_
                refine JO.step rfl trivial rfl (fun K hK => ?_)
                refine JL.store 2 S23 rfl rfl rfl rfl rfl (Nat.le_of_ble_eq_true rfl) ?_
                refine JL.nil ?_
                refine hK _ _ _ (stab_of hleH_52 ⟨⟨1, rfl⟩, ⟨3, rfl⟩, trivial⟩) ?_
                refine JA.doneN (by kernel_rfl) ?_
                refine JN.blkN ?_
                refine JN.next ?_
                refine JC.region ?_
                refine JL.val rfl rfl (R.inc rfl rfl (of_decide_eq_true c_35) (IsSlice.lenI ha_3)) ?_
                refine JL.val rfl rfl (R.move rfl) ?_
                refine JL.nil ?_
                replace hx := run_next hd_35 hx
                refine JN.forget 1 ?_
                refine JN.forget 0 ?_
                refine JN.front 2 rfl ?_
                refine JN.front 2 rfl ?_
                refine JN.front 2 rfl ?_
                exact JN.cut ⟨(q_54, s_30.2 + 1), H_52, aor_57, q_54.length, capr_57, Kr_57, rfl, rfl, rfl, hx, ((hleH_33.trans hleH_52)), hr_57⟩ ⟨rfl, rfl, rfl, rfl, trivial⟩ rfl rfl
              · refine JO.step rfl trivial rfl (fun K hK => ?_)
                refine JL.val rfl rfl (R.bldP (vs := [(0, .int .i64 y_36.At), (1, .slice aor_51 nr_51 capr_51)]) (cs := [.int .i64 y_36.At, .slice aor_51 nr_51 capr_51]) Z47 B47 rfl rfl rfl) ?_
                refine JL.nil ?_
                refine hK _ _ _ (stab_of (Hle.refl _) ⟨⟨1, rfl⟩, ⟨3, rfl⟩, trivial⟩) ?_
                refine JA.two (i := 1) (j := 8) (by kernel_rfl) ?_ ?_
                · refine JO.step rfl trivial rfl (fun K hK => ?_)
                  refine JL.val rfl rfl (R.ldo 2 S23 rfl rfl rfl) ?_
                  refine JL.nil ?_
                  refine hK _ _ _ (stab_of (Hle.refl _) ⟨⟨1, rfl⟩, ⟨3, rfl⟩, trivial⟩) ?_
                  refine JA.one (i := 8) (by kernel_rfl) ?_
                  refine JO.step rfl trivial rfl (fun K hK => ?_)
                  refine JL.pubN 0 RU8.mono rfl hr_51 (Nat.le_refl _) (fun H_52 hleH_52 hsH_52 => ?_)
                  refine JL.forget 0 ?_
                  refine JL.bslF (HF := (New H H_52)) (R := R_Write) (ls := [Write.mk y_36.At x_48]) (vs := [.agg #[.int .i64 y_36.At, .slice aor_51 nr_51 capr_51]]) U23 I47 rfl rfl (⟨_, _, rfl, rfl, ⟨_, rfl, hsH_52⟩, rfl⟩) R_Write.one rfl rfl rfl (by simp [maxLen]) rfl (fun vr_53 Kr_53 hr_53 => ?_)
                  obtain ⟨aor_53, capr_53, rfl⟩ := RowOf.val hr_53
                  refine JL.nil ?_
                  refine hK _ _ _ (stab_of hleH_52 ⟨⟨1, rfl⟩, ⟨3, rfl⟩, trivial⟩) ?_
                  refine JA.one (i := 9) (by kernel_rfl) ?_
                  refine JO.step rfl trivial rfl (fun K hK => ?_)
                  refine JL.appF (HF := (New H H_52)) 4 U23 I47 rfl rfl (hr_34.mono R_Write.mono (New.mono hleH_52)) rfl (SrcF.row 0 U23 rfl hr_53) hm_55 hl_56 rfl (Nat.le_refl _) rfl (fun vr_57 Kr_57 hr_57 => ?_)
                  obtain ⟨aor_57, capr_57, rfl⟩ := RowOf.val hr_57
                  refine JL.nil ?_
                  refine hK _ _ _ (stab_of hleH_52 ⟨⟨1, rfl⟩, ⟨3, rfl⟩, trivial⟩) ?_
                  refine JA.val ⟨by kernel_rfl, by kernel_rfl⟩ (calm_only _) (i := 10) rfl ⟨by kernel_rfl, by kernel_rfl, rfl⟩ trivial (stab_of hleH_52 ⟨⟨1, rfl⟩, ⟨3, rfl⟩, trivial⟩) (R.fa F25_1 rfl) rfl ?_
                  refine JA.one (i := 11) (by kernel_rfl) ?_
                  refine JO.step rfl trivial rfl (fun K hK => ?_)
                  refine JL.store 2 S23 rfl rfl rfl rfl rfl (Nat.le_of_ble_eq_true rfl) ?_
                  refine JL.nil ?_
                  refine hK _ _ _ (stab_of hleH_52 ⟨⟨1, rfl⟩, ⟨3, rfl⟩, trivial⟩) ?_
                  refine JA.doneN (by kernel_rfl) ?_
                  refine JN.blkN ?_
                  refine JN.next ?_
                  refine JC.region ?_
                  refine JL.val rfl rfl (R.inc rfl rfl (of_decide_eq_true c_35) (IsSlice.lenI ha_3)) ?_
                  refine JL.val rfl rfl (R.move rfl) ?_
                  refine JL.nil ?_
                  replace hx := run_next hd_35 hx
                  refine JN.forget 1 ?_
                  refine JN.forget 0 ?_
                  refine JN.front 2 rfl ?_
                  refine JN.front 2 rfl ?_
                  refine JN.front 2 rfl ?_
                  exact JN.cut ⟨(q_54, s_30.2 + 1), H_52, aor_57, q_54.length, capr_57, Kr_57, rfl, rfl, rfl, hx, ((hleH_33.trans hleH_52)), hr_57⟩ ⟨rfl, rfl, rfl, rfl, trivial⟩ rfl rfl
                · refine JO.step rfl trivial rfl (fun K hK => ?_)
                  refine JL.pubN 0 RU8.mono rfl hr_51 (Nat.le_refl _) (fun H_52 hleH_52 hsH_52 => ?_)
                  refine JL.forget 0 ?_
                  refine JL.bslF (HF := (New H H_52)) (R := R_Write) (ls := [Write.mk y_36.At x_48]) (vs := [.agg #[.int .i64 y_36.At, .slice aor_51 nr_51 capr_51]]) U23 I47 rfl rfl (⟨_, _, rfl, rfl, ⟨_, rfl, hsH_52⟩, rfl⟩) R_Write.one rfl rfl rfl (by simp [maxLen]) rfl (fun vr_53 Kr_53 hr_53 => ?_)
                  obtain ⟨aor_53, capr_53, rfl⟩ := RowOf.val hr_53
                  refine JL.nil ?_
                  refine hK _ _ _ (stab_of hleH_52 ⟨⟨1, rfl⟩, ⟨3, rfl⟩, trivial⟩) ?_
                  refine JA.one (i := 1) (by kernel_rfl) ?_
                  refine JO.step rfl trivial rfl (fun K hK => ?_)
                  refine JL.val rfl rfl (R.ldo 2 S23 rfl rfl rfl) ?_
                  refine JL.nil ?_
                  refine hK _ _ _ (stab_of hleH_52 ⟨⟨1, rfl⟩, ⟨3, rfl⟩, trivial⟩) ?_
                  refine JA.one (i := 9) (by kernel_rfl) ?_
                  refine JO.step rfl trivial rfl (fun K hK => ?_)
                  refine JL.appF (HF := (New H H_52)) 4 U23 I47 rfl rfl (hr_34.mono R_Write.mono (New.mono hleH_52)) rfl (SrcF.row 0 U23 rfl hr_53) hm_55 hl_56 rfl (Nat.le_refl _) rfl (fun vr_57 Kr_57 hr_57 => ?_)
                  obtain ⟨aor_57, capr_57, rfl⟩ := RowOf.val hr_57
                  refine JL.nil ?_
                  refine hK _ _ _ (stab_of hleH_52 ⟨⟨1, rfl⟩, ⟨3, rfl⟩, trivial⟩) ?_
                  refine JA.val ⟨by kernel_rfl, by kernel_rfl⟩ (calm_only _) (i := 10) rfl ⟨by kernel_rfl, by kernel_rfl, rfl⟩ trivial (stab_of hleH_52 ⟨⟨1, rfl⟩, ⟨3, rfl⟩, trivial⟩) (R.fa F25_1 rfl) rfl ?_
                  refine JA.one (i := 11) (by kernel_rfl) ?_
                  refine JO.step rfl trivial rfl (fun K hK => ?_)
                  refine JL.store 2 S23 rfl rfl rfl rfl rfl (Nat.le_of_ble_eq_true rfl) ?_
                  refine JL.nil ?_
                  refine hK _ _ _ (stab_of hleH_52 ⟨⟨1, rfl⟩, ⟨3, rfl⟩, trivial⟩) ?_
                  refine JA.doneN (by kernel_rfl) ?_
                  refine JN.blkN ?_
                  refine JN.next ?_
                  refine JC.region ?_
                  refine JL.val rfl rfl (R.inc rfl rfl (of_decide_eq_true c_35) (IsSlice.lenI ha_3)) ?_
                  refine JL.val rfl rfl (R.move rfl) ?_
                  refine JL.nil ?_
                  replace hx := run_next hd_35 hx
                  refine JN.forget 1 ?_
                  refine JN.forget 0 ?_
                  refine JN.front 2 rfl ?_
                  refine JN.front 2 rfl ?_
                  refine JN.front 2 rfl ?_
                  exact JN.cut ⟨(q_54, s_30.2 + 1), H_52, aor_57, q_54.length, capr_57, Kr_57, rfl, rfl, rfl, hx, ((hleH_33.trans hleH_52)), hr_57⟩ ⟨rfl, rfl, rfl, rfl, trivial⟩ rfl rfl
          · replace hx := cond_f c_35 hx
            refine JC.exit ?_
            refine JN.passX ?_
            obtain rfl := run_done hd_35 hx
            refine JN.passX ?_
            refine JN.exitSame ?_
            refine JN.front 2 rfl ?_
            refine JN.front 2 rfl ?_
            refine JN.front 2 rfl ?_
            exact JN.cut ⟨H_33, aor_34, nr_34, capr_34, Kr_34, rfl, rfl, rfl, (hleH_33), hr_34⟩ ⟨rfl, trivial⟩ rfl rfl
    · have hxo_20 := hx; clear hx; have hx := ht_21; clear ht_21
      refine JC.block ?_
      refine JC.front 2 rfl ?_
      refine JC.front 2 rfl ?_
      refine JC.loopI (fun n l o g => ∃ s_22 : List (List UInt8) × Nat, ∃ Kr_25 : Own, l = [(1, .pointer (some ⟨b_4, 0, none⟩)), (2, .pointer (some ⟨b_5, 0, none⟩)), (27, .slice aoa_2 na_2 capa_2), (28, .int .i64 (p_1.Blocks.length : Int)), (29, .int .i64 ((s_22.2 : Nat) : Int))] ∧ o = [[(b_4, .cells #[.slice aoa_2 na_2 capa_2, .slice aoa_3 na_3 capa_3] 25 (0, 0))], [(b_5, .cells #[.slice aor_18 nr_18 capr_18, .slice none 0 0] 25 (0, 0))], Kr_25] ∧ H_14 = g ∧ run (dev_Twin_l2 p_1) n s_22 = some t_19 ∧ Pcs w.heap.size 5 45 (.slice aor_18 nr_18 capr_18) s_22.1 Kr_25) FUEL ?_ ⟨(x_15, 0), Kr_18, rfl, rfl, rfl, hx, hr_18⟩ ⟨rfl, rfl, rfl, rfl, rfl, trivial⟩ ?_
      · rintro _ _ _ ⟨s_22, Kr_25, rfl, rfl, rfl, hn_23, hr_25⟩
        exact run_zero hn_23
      · rintro n_24 _ _ _ ⟨s_22, Kr_25, rfl, rfl, rfl, hn_23, hr_25⟩
        clear hx; obtain ⟨oo_27, hx, hd_26⟩ := run_some hn_23
        rw [dev_Twin_l2.eq_1] at hx
        refine JC.seq ?_
        refine JC.region ?_
        refine JL.val rfl rfl (R.lss_i rfl rfl) ?_
        refine JL.nil ?_
        refine JN.next ?_
        refine JC.seq ?_
        refine JC.condB rfl (fun c_26 => ?_) (fun c_26 => ?_)
        · replace hx := cond_t c_26 hx
          refine JC.skip ?_
          refine JN.next ?_
          refine JC.seq ?_
          refine JC.block ?_
          refine JC.seq ?_
          refine JC.region ?_
          refine JL.val rfl rfl (R.move rfl) ?_
          obtain ⟨y_27, hN_28, hx⟩ := idx_some hx
          obtain ⟨b_29, o_30, cs_31, hE_32, hR_33, hl_34, hc_35⟩ := IsSlice.elem (ha_2.mono (RSl.mono RU8.mono) hleH_14) hN_28
          obtain ⟨v_36, rfl, hs_37⟩ := hR_33
          obtain ⟨aov_36, capv_36, rfl⟩ := IsSlice.val hs_37
          refine JL.val rfl rfl (R.ix U22 S45 rfl rfl hE_32) ?_
          refine JL.val rfl rfl (R.ldH S45 rfl (hc_35 0 _ rfl)) ?_
          refine JL.val rfl rfl (R.assign rfl) ?_
          refine JL.val rfl rfl (R.assign rfl) ?_
          refine JL.nil ?_
          refine JN.next ?_
          refine JC.region ?_
          refine JL.val rfl rfl (R.fa F25_0 rfl) ?_
          refine JL.val rfl rfl (R.ldo 1 S22 rfl rfl rfl) ?_
          refine JL.val rfl rfl (R.move rfl) ?_
          obtain ⟨y_38, hN_39, hx⟩ := idx_some hx
          obtain ⟨b_41, o_40, cur_42, pv_43, hE_44, hm_45, hc_46, hA_47⟩ := Pcs.at hr_25 hN_39
          refine JL.val rfl rfl (R.ix U22 S45 rfl rfl hE_44) ?_
          refine JL.val rfl rfl (R.ldM 2 S45 rfl rfl hm_45 hc_46) ?_
          refine JL.val rfl rfl (R.move rfl) ?_
          obtain ⟨hl_48, hx⟩ := chk_some hx
          obtain ⟨m_51, hm_49, hi_50, hx⟩ := setI_some hx
          refine JL.copyP 2 U45 S5 rfl hr_25 hN_39 hA_47 rfl rfl (Hle.refl _) hs_37 hl_48 rfl (fun Kr_52 hr_52 => ?_)
          rw [← hm_49] at hr_52
          refine JL.nil ?_
          refine JN.blkN ?_
          refine JN.next ?_
          refine JC.region ?_
          refine JL.val rfl rfl (R.inc rfl rfl (of_decide_eq_true c_26) (IsSlice.lenI ha_2)) ?_
          refine JL.val rfl rfl (R.move rfl) ?_
          refine JL.nil ?_
          replace hx := run_next hd_26 hx
          refine JN.front 2 rfl ?_
          refine JN.front 2 rfl ?_
          refine JN.front 2 rfl ?_
          exact JN.cut ⟨(m_51, s_22.2 + 1), Kr_52, rfl, rfl, rfl, hx, hr_52⟩ ⟨rfl, rfl, rfl, rfl, rfl, trivial⟩ rfl rfl
        · replace hx := cond_f c_26 hx
          refine JC.exit ?_
          refine JN.passX ?_
          obtain rfl := run_done hd_26 hx
          refine JN.passX ?_
          refine JN.exitSame ?_
          refine JN.front 2 rfl ?_
          refine JN.front 2 rfl ?_
          refine JN.front 2 rfl ?_
          exact JN.cut ⟨Kr_25, rfl, rfl, rfl, hr_25⟩ ⟨rfl, rfl, trivial⟩ rfl rfl
  · have hxo_7 := hx; clear hx; have hx := ht_8; clear ht_8
    refine JC.block ?_
    refine JC.seg0 ?_
    refine JC.front 1 rfl ?_
    refine JC.front 2 rfl ?_
    refine JC.loopI (fun n l o g => ∃ s_9 : List Int × Nat, ∃ aor_12 : Option Addr, ∃ nr_12 : Nat, ∃ capr_12 : Nat, ∃ Kr_12 : Own, l = [(1, .pointer (some ⟨b_4, 0, none⟩)), (2, .pointer (some ⟨b_5, 0, none⟩)), (3, .slice aor_12 nr_12 capr_12), (11, .slice aoa_2 na_2 capa_2), (12, .int .i64 (p_1.Blocks.length : Int)), (13, .int .i64 ((s_9.2 : Nat) : Int))] ∧ o = [[(b_4, .cells #[.slice aoa_2 na_2 capa_2, .slice aoa_3 na_3 capa_3] 25 (0, 0))], [(b_5, .cells #[.slice none 0 0, .slice none 0 0] 25 (0, 0))], Kr_12] ∧ H = g ∧ run (dev_Twin_l1 p_1) n s_9 = some t_6 ∧ RowOf (New H H) RInt w.heap.size 3 1 (.slice aor_12 nr_12 capr_12) s_9.1 Kr_12) FUEL ?_ ⟨(([] : List Int), 0), none, 0, 0, [], rfl, rfl, rfl, hx, (RowOf.nil _ _ _ _ _)⟩ ⟨rfl, rfl, rfl, rfl, rfl, rfl, trivial⟩ ?_
    · rintro _ _ _ ⟨s_9, aor_12, nr_12, capr_12, Kr_12, rfl, rfl, rfl, hn_10, hr_12⟩
      exact run_zero hn_10
    · rintro n_11 _ _ _ ⟨s_9, aor_12, nr_12, capr_12, Kr_12, rfl, rfl, rfl, hn_10, hr_12⟩
      clear hx; obtain ⟨oo_14, hx, hd_13⟩ := run_some hn_10
      rw [dev_Twin_l1.eq_1] at hx
      refine JC.seq ?_
      refine JC.region ?_
      refine JL.val rfl rfl (R.lss_i rfl rfl) ?_
      refine JL.nil ?_
      refine JN.next ?_
      refine JC.seq ?_
      refine JC.condB rfl (fun c_13 => ?_) (fun c_13 => ?_)
      · replace hx := cond_t c_13 hx
        refine JC.skip ?_
        refine JN.next ?_
        refine JC.seq ?_
        refine JC.block ?_
        refine JC.seq ?_
        refine JC.region ?_
        obtain ⟨y_14, hN_15, hx⟩ := idx_some hx
        obtain ⟨b_16, o_17, cs_18, hE_19, hR_20, hl_21, hc_22⟩ := IsSlice.elem ha_2 hN_15
        obtain ⟨v_23, rfl, hs_24⟩ := hR_20
        obtain ⟨aov_23, capv_23, rfl⟩ := IsSlice.val hs_24
        refine JL.val rfl rfl (R.ix U22 S45 rfl rfl hE_19) ?_
        refine JL.val rfl rfl (R.ldH S45 rfl (hc_22 0 _ rfl)) ?_
        refine JL.val rfl rfl (R.assign rfl) ?_
        refine JL.nil ?_
        refine JN.next ?_
        refine JC.region ?_
        refine JL.val rfl rfl (R.move rfl) ?_
        refine JL.val rfl rfl (R.move rfl) ?_
        refine JL.val rfl rfl (R.lenL U45 rfl (IsSlice.long hs_24)) ?_
        refine JL.bslF (HF := (New H H)) (R := RInt) (ls := [(y_14.length : Int)]) (vs := [.int .i64 (y_14.length : Int)]) U72 I3 rfl rfl (⟨_, _, rfl, rfl, rfl, rfl⟩) RInt.one rfl rfl rfl (by simp [maxLen]) rfl (fun vr_25 Kr_25 hr_25 => ?_)
        obtain ⟨aor_25, capr_25, rfl⟩ := RowOf.val hr_25
        obtain ⟨q_26, hm_27, hl_28, hx⟩ := app_some hx
        refine JL.appF (HF := (New H H)) 3 U72 I3 rfl rfl hr_12 rfl (SrcF.row 0 U72 rfl hr_25) hm_27 hl_28 rfl (Nat.le_refl _) rfl (fun vr_29 Kr_29 hr_29 => ?_)
        obtain ⟨aor_29, capr_29, rfl⟩ := RowOf.val hr_29
        refine JL.val rfl rfl (R.assign rfl) ?_
        refine JL.nil ?_
        refine JN.blkN ?_
        refine JN.next ?_
        refine JC.region ?_
        refine JL.val rfl rfl (R.inc rfl rfl (of_decide_eq_true c_13) (IsSlice.lenI ha_2)) ?_
        refine JL.val rfl rfl (R.move rfl) ?_
        refine JL.nil ?_
        replace hx := run_next hd_13 hx
        refine JN.forget 0 ?_
        refine JN.front 2 rfl ?_
        refine JN.front 2 rfl ?_
        refine JN.front 2 rfl ?_
        exact JN.cut ⟨(q_26, s_9.2 + 1), aor_29, q_26.length, capr_29, Kr_29, rfl, rfl, rfl, hx, hr_29⟩ ⟨rfl, rfl, rfl, rfl, rfl, rfl, trivial⟩ rfl rfl
      · replace hx := cond_f c_13 hx
        refine JC.exit ?_
        refine JN.passX ?_
        obtain rfl := run_done hd_13 hx
        refine JN.passX ?_
        refine JN.exitSame ?_
        refine JN.front 2 rfl ?_
        refine JN.front 2 rfl ?_
        refine JN.front 2 rfl ?_
        exact JN.cut ⟨aor_12, nr_12, capr_12, Kr_12, rfl, rfl, rfl, hr_12⟩ ⟨rfl, rfl, rfl, trivial⟩ rfl rfl
end Go.Proofs.Ytabnbobdjckdmaa
