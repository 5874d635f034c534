/- walks: what the code computes, function by function. -/
import Derived.Test.YtabnbobdjckdmaaW2p1
namespace Go.Proofs.Ytabnbobdjckdmaa
open Go.Ow Go.RowKit Go.Proofs
set_option linter.unusedVariables false
set_option linter.unusedSimpArgs false
set_option maxHeartbeats 1000000 in
theorem law11_same_ok (p_1 : List Label) (p_3 : List Label) (H : Heaplet) {aoa_2 : Option Addr} {na_2 : Nat} {capa_2 : Nat} {aoa_4 : Option Addr} {na_4 : Nat} {capa_4 : Nat} (ha_2 : IsSlice H R_Label 7 (.slice aoa_2 na_2 capa_2) p_1) (ha_4 : IsSlice H R_Label 7 (.slice aoa_4 na_4 capa_4) p_3) (r : Bool) (hx : law11_same p_1 p_3 = some r) :
    Does Try.prog 21 #[.slice aoa_2 na_2 capa_2, .slice aoa_4 na_4 capa_4] [] H (fun u K' H' => u = .bool r ∧ K' = [] ∧ H = H' ∧ True) := by
  refine Does.enterL (vs := [.slice aoa_2 na_2 capa_2, .slice aoa_4 na_4 capa_4]) (l := [(0, .slice aoa_2 na_2 capa_2), (1, .slice aoa_4 na_4 capa_4)]) Try.func21 rfl rfl ⟨rfl, rfl, trivial⟩ (fun w hlt => ?_)
  rw [law11_same.eq_1] at hx
  refine JC.seq ?_
  refine JC.region ?_
  refine JL.val rfl rfl (R.assign rfl) ?_
  refine JL.nil ?_
  refine JN.next ?_
  refine JC.seq ?_
  refine JC.seq ?_
  refine JC.region ?_
  refine JL.val rfl rfl (R.assign rfl) ?_
  refine JL.nil ?_
  refine JN.next ?_
  obtain ⟨t_5, ht_7, hx⟩ := bnd_some hx
  refine JC.cut (fun l o g => ∃ t_5a : Unit, l = [(0, .slice aoa_2 na_2 capa_2), (1, .slice aoa_4 na_4 capa_4)] ∧ o = [] ∧ H = g ∧ t_5 = .inl t_5a) ?_ ?_
  · rintro _ _ _ ⟨t_5a, rfl, rfl, rfl, rfl⟩
    simp only [Sum.elim_inl] at hx
    refine JN.next ?_
    refine JC.seq ?_
    refine JC.region ?_
    refine JL.val rfl rfl (R.move rfl) ?_
    refine JL.val rfl rfl (R.lenL U38 rfl (IsSlice.long ha_2)) ?_
    refine JL.val rfl rfl (R.move rfl) ?_
    refine JL.val rfl rfl (R.lenL U38 rfl (IsSlice.long ha_4)) ?_
    refine JL.val rfl rfl (R.eql_i rfl rfl) ?_
    refine JL.val rfl rfl (R.assign rfl) ?_
    refine JL.nil ?_
    refine JN.next ?_
    refine JC.ret ?_
    refine JN.outP (vs := [.bool (decide ((p_1.length : Int) = (p_3.length : Int)))]) (K := []) (rst := []) (.inl rfl) rfl rfl (Res.tmp rfl rfl) picks0 ?_
    obtain rfl := Option.some.inj hx
    exact ⟨rfl, rfl, rfl, trivial⟩
  · have hxo_6 := hx; clear hx; have hx := ht_7; clear ht_7
    refine JC.block ?_
    refine JC.loopI (fun n l o g => ∃ s_8 : Nat, l = [(0, .slice aoa_2 na_2 capa_2), (1, .slice aoa_4 na_4 capa_4), (5, .int .i64 ((s_8 : Nat) : Int))] ∧ o = [] ∧ H = g ∧ run (law11_same_l1 p_1 p_3) n s_8 = some t_5) FUEL ?_ ⟨0, rfl, rfl, rfl, hx⟩ ⟨rfl, rfl, rfl, trivial⟩ ?_
    · rintro _ _ _ ⟨s_8, rfl, rfl, rfl, hn_9⟩
      exact run_zero hn_9
    · rintro n_10 _ _ _ ⟨s_8, rfl, rfl, rfl, hn_9⟩
      clear hx; obtain ⟨oo_12, hx, hd_11⟩ := run_some hn_9
      rw [law11_same_l1.eq_1] at hx
      refine JC.seq ?_
      refine JC.seq ?_
      refine JC.region ?_
      refine JL.val rfl rfl (R.move rfl) ?_
      refine JL.val rfl rfl (R.move rfl) ?_
      refine JL.val rfl rfl (R.lenL U38 rfl (IsSlice.long ha_2)) ?_
      refine JL.val rfl rfl (R.lss_i rfl rfl) ?_
      refine JL.val rfl rfl (R.move rfl) ?_
      refine JL.gSplit (t := 10) rfl (fun c_11 => ?_) (fun c_11 => ?_)
      · replace hx := cond_t c_11 hx
        refine JL.gYes rfl rfl rfl ?_
        refine JL.val rfl rfl (R.move rfl) ?_
        refine JL.gYes rfl rfl rfl ?_
        refine JL.val rfl rfl (R.move rfl) ?_
        refine JL.gYes rfl rfl rfl ?_
        refine JL.val rfl rfl (R.lenL U38 rfl (IsSlice.long ha_4)) ?_
        refine JL.gYes rfl rfl rfl ?_
        refine JL.val rfl rfl (R.lss_i rfl rfl) ?_
        refine JL.val rfl rfl (R.pickT rfl rfl) ?_
        refine JL.nil ?_
        refine JN.next ?_
        refine JC.condB rfl (fun c_12 => ?_) (fun c_12 => ?_)
        · replace hx := cond_t c_12 hx
          refine JC.skip ?_
          refine JN.next ?_
          refine JC.seq ?_
          refine JC.block ?_
          refine JC.seq ?_
          refine JC.draw (so := []) 9 rfl Mixed trivial ?_
          refine JA.val ⟨by kernel_rfl, by kernel_rfl⟩ (calm_only _) (i := 0) rfl ⟨by kernel_rfl, by kernel_rfl, rfl⟩ trivial (stab_of (Hle.refl _) trivial) (R.move rfl) rfl ?_
          refine JA.val ⟨by kernel_rfl, by kernel_rfl⟩ (calm_only _) (i := 1) rfl ⟨by kernel_rfl, by kernel_rfl, rfl⟩ trivial (stab_of (Hle.refl _) trivial) (R.move rfl) rfl ?_
          obtain ⟨y_13, hN_14, hx⟩ := idx_some hx
          obtain ⟨b_15, o_16, cs_17, hE_18, hR_19, hl_20, hc_21⟩ := IsSlice.elem ha_2 hN_14
          obtain rfl := hR_19
          refine JA.val ⟨by kernel_rfl, by kernel_rfl⟩ (calm_only _) (i := 2) rfl ⟨by kernel_rfl, by kernel_rfl, rfl⟩ trivial (stab_of (Hle.refl _) trivial) (R.ix U38 S30 rfl rfl hE_18) rfl ?_
          refine JA.val ⟨by kernel_rfl, by kernel_rfl⟩ (calm_only _) (i := 3) rfl ⟨by kernel_rfl, by kernel_rfl, rfl⟩ trivial (stab_of (Hle.refl _) trivial) (R.ldHE (cs := [.int .u32 (y_13.Gen.toNat : Int), .int .u32 (y_13.Epoch.toNat : Int), .int .i64 y_13.Root.At, .int .u32 (y_13.Root.Birth.toNat : Int), .int .u32 (y_13.Root.Iv.toNat : Int), .int .u32 (y_13.Root.Tag.toNat : Int), .int .u32 (y_13.Root.Sum.toNat : Int)]) (k := 0) (vs := [.int .u32 (y_13.Gen.toNat : Int), .int .u32 (y_13.Epoch.toNat : Int), .int .i64 y_13.Root.At, .int .u32 (y_13.Root.Birth.toNat : Int), .int .u32 (y_13.Root.Iv.toNat : Int), .int .u32 (y_13.Root.Tag.toNat : Int), .int .u32 (y_13.Root.Sum.toNat : Int)]) S30 rfl hc_21 rfl rfl) rfl ?_
          refine JA.val ⟨by kernel_rfl, by kernel_rfl⟩ (calm_only _) (i := 4) rfl ⟨by kernel_rfl, by kernel_rfl, rfl⟩ trivial (stab_of (Hle.refl _) trivial) (R.move rfl) rfl ?_
          refine JA.val ⟨by kernel_rfl, by kernel_rfl⟩ (calm_only _) (i := 5) rfl ⟨by kernel_rfl, by kernel_rfl, rfl⟩ trivial (stab_of (Hle.refl _) trivial) (R.move rfl) rfl ?_
          obtain ⟨y_22, hN_23, hx⟩ := idx_some hx
          obtain ⟨b_24, o_25, cs_26, hE_27, hR_28, hl_29, hc_30⟩ := IsSlice.elem ha_4 hN_23
          obtain rfl := hR_28
          refine JA.val ⟨by kernel_rfl, by kernel_rfl⟩ (calm_only _) (i := 6) rfl ⟨by kernel_rfl, by kernel_rfl, rfl⟩ trivial (stab_of (Hle.refl _) trivial) (R.ix U38 S30 rfl rfl hE_27) rfl ?_
          refine JA.val ⟨by kernel_rfl, by kernel_rfl⟩ (calm_only _) (i := 7) rfl ⟨by kernel_rfl, by kernel_rfl, rfl⟩ trivial (stab_of (Hle.refl _) trivial) (R.ldHE (cs := [.int .u32 (y_22.Gen.toNat : Int), .int .u32 (y_22.Epoch.toNat : Int), .int .i64 y_22.Root.At, .int .u32 (y_22.Root.Birth.toNat : Int), .int .u32 (y_22.Root.Iv.toNat : Int), .int .u32 (y_22.Root.Tag.toNat : Int), .int .u32 (y_22.Root.Sum.toNat : Int)]) (k := 0) (vs := [.int .u32 (y_22.Gen.toNat : Int), .int .u32 (y_22.Epoch.toNat : Int), .int .i64 y_22.Root.At, .int .u32 (y_22.Root.Birth.toNat : Int), .int .u32 (y_22.Root.Iv.toNat : Int), .int .u32 (y_22.Root.Tag.toNat : Int), .int .u32 (y_22.Root.Sum.toNat : Int)]) S30 rfl hc_30 rfl rfl) rfl ?_
          refine JA.val ⟨by kernel_rfl, by kernel_rfl⟩ (calm_only _) (i := 8) rfl ⟨by kernel_rfl, by kernel_rfl, rfl⟩ trivial (stab_of (Hle.refl _) trivial) (R.neqAgg QU30 QP30 QG30 QF30 rfl rfl (EqF.u32 (a := y_13.Gen) (b := y_22.Gen) (by decide) S26 U26 rfl rfl (EqF.u32 (a := y_13.Epoch) (b := y_22.Epoch) (by decide) S26 U26 rfl rfl (EqF.s (by decide) S28 QU28 QP28 QF28 rfl rfl (EqF.i (by decide) S3 U3 rfl rfl (EqF.u32 (a := y_13.Root.Birth) (b := y_22.Root.Birth) (by decide) S26 U26 rfl rfl (EqF.u32 (a := y_13.Root.Iv) (b := y_22.Root.Iv) (by decide) S26 U26 rfl rfl (EqF.u32 (a := y_13.Root.Tag) (b := y_22.Root.Tag) (by decide) S26 U26 rfl rfl (EqF.u32 (a := y_13.Root.Sum) (b := y_22.Root.Sum) (by decide) S26 U26 rfl rfl EqF.nil))))) EqF.nil)))) rfl ?_
          refine JA.doneN (by kernel_rfl) ?_
          refine JN.next ?_
          refine JC.condB rfl (fun c_31 => ?_) (fun c_31 => ?_)
          · replace hx := cond_t c_31 hx
            refine JC.seq ?_
            refine JC.region ?_
            refine JL.val rfl rfl (R.assign rfl) ?_
            refine JL.nil ?_
            refine JN.next ?_
            refine JC.ret ?_
            refine JN.blkR ?_
            refine JN.passR ?_
            obtain rfl := run_done hd_11 hx
            refine JN.passR ?_
            refine JN.blkR ?_
            clear hx; have hx := hxo_6
            simp only [Sum.elim_inl, Sum.elim_inr] at hx
            refine JN.passR ?_
            refine JN.passR ?_
            refine JN.outP (vs := [.bool false]) (K := []) (rst := []) (.inl rfl) rfl rfl (Res.tmp rfl rfl) picks0 ?_
            obtain rfl := Option.some.inj hx
            exact ⟨rfl, rfl, rfl, trivial⟩
          · replace hx := cond_f c_31 hx
            refine JC.skip ?_
            refine JN.blkN ?_
            refine JN.next ?_
            refine JC.region ?_
            refine JL.val rfl rfl (R.move rfl) ?_
            refine JL.val rfl rfl (R.inc rfl rfl (of_decide_eq_true c_11) (IsSlice.lenI ha_2)) ?_
            refine JL.val rfl rfl (R.assign rfl) ?_
            refine JL.nil ?_
            replace hx := run_next hd_11 hx
            exact JN.cut ⟨s_8 + 1, rfl, rfl, rfl, hx⟩ ⟨rfl, rfl, rfl, trivial⟩ rfl rfl
        · replace hx := cond_f c_12 hx
          refine JC.exit ?_
          refine JN.passX ?_
          obtain rfl := run_done hd_11 hx
          refine JN.passX ?_
          refine JN.exitSame ?_
          exact JN.cut ⟨(), rfl, rfl, rfl, rfl⟩ ⟨rfl, rfl, trivial⟩ rfl rfl
      · replace hx := cond_f c_11 hx
        refine JL.gNo rfl rfl rfl rfl rfl ?_
        refine JL.gNo rfl rfl rfl rfl rfl ?_
        refine JL.gNo rfl rfl rfl rfl rfl ?_
        refine JL.gNo rfl rfl rfl rfl rfl ?_
        refine JL.val rfl rfl (R.pickF rfl rfl) ?_
        refine JL.nil ?_
        refine JN.next ?_
        refine JC.condF rfl ?_
        refine JC.exit ?_
        refine JN.passX ?_
        obtain rfl := run_done hd_11 hx
        refine JN.passX ?_
        refine JN.exitSame ?_
        exact JN.cut ⟨(), rfl, rfl, rfl, rfl⟩ ⟨rfl, rfl, trivial⟩ rfl rfl

set_option maxHeartbeats 1000000 in
theorem dev_Crash_1_1_ok (p_1 : Int) (p_3 : List Bool) (H : Heaplet) {b_2 : Nat} {aoa_4 : Option Addr} {na_4 : Nat} {capa_4 : Nat} (ha_4 : IsSlice H RBool 1 (.slice aoa_4 na_4 capa_4) p_3) (r : Bool × List Bool) (hx : dev_Crash_1_1 p_1 p_3 = some r) :
    Does Try.prog 45 #[.int .i64 p_1, .pointer (some ⟨b_2, 0, none⟩)] [[(b_2, .cells #[.slice aoa_4 na_4 capa_4] 57 (0, 0))]] H (fun u K' H' => ∃ ao0 : Option Addr, ∃ n0 : Nat, ∃ cap0 : Nat, u = .bool r.1 ∧ K' = [[(b_2, .cells #[.slice ao0 n0 cap0] 57 (0, 0))]] ∧ H = H' ∧ IsSlice H RBool 1 (.slice ao0 n0 cap0) r.2 ∧ True) := by
  refine Does.enterL (vs := [.int .i64 p_1, .pointer (some ⟨b_2, 0, none⟩)]) (l := [(0, .int .i64 p_1), (1, .pointer (some ⟨b_2, 0, none⟩))]) Try.func45 rfl rfl ⟨rfl, rfl, trivial⟩ (fun w hlt => ?_)
  rw [dev_Crash_1_1.eq_1] at hx
  refine JC.seq ?_
  refine JC.region ?_
  refine JL.val rfl rfl (R.assign rfl) ?_
  refine JL.nil ?_
  refine JN.next ?_
  refine JC.seq ?_
  refine JC.region ?_
  refine JL.val rfl rfl (R.ldo 0 S57 rfl rfl rfl) ?_
  refine JL.val rfl rfl (R.move rfl) ?_
  obtain ⟨y_5, hN_6, hx⟩ := idx_some hx
  obtain ⟨b_7, o_8, cs_9, hE_10, hR_11, hl_12, hc_13⟩ := IsSlice.elem ha_4 hN_6
  obtain rfl := hR_11
  refine JL.val rfl rfl (R.ix U57 S4 rfl rfl hE_10) ?_
  refine JL.val rfl rfl (R.ldH S4 rfl (hc_13 0 _ rfl)) ?_
  refine JL.val rfl rfl (R.assign rfl) ?_
  refine JL.nil ?_
  refine JN.next ?_
  refine JC.ret ?_
  refine JN.outP (vs := [.bool y_5]) (K := [_]) (rst := []) (.inl rfl) rfl rfl (Res.tmp rfl rfl) (picks 0 rfl picks0) ?_
  obtain rfl := Option.some.inj hx
  exact ⟨aoa_4, na_4, capa_4, rfl, rfl, rfl, ha_4, trivial⟩

set_option maxHeartbeats 1000000 in
theorem dev_lasts_v2_ok (p_1 : Disk) (p_5 : List Bool) (H : Heaplet) {va_2 : Value} {aoa_3 : Option Addr} {na_3 : Nat} {capa_3 : Nat} {b_4 : Nat} {aoa_6 : Option Addr} {na_6 : Nat} {capa_6 : Nat} (ha_3 : IsSlice H R_Write 2 (.slice aoa_3 na_3 capa_3) p_1.Waits) (ha_6 : IsSlice H RBool 1 (.slice aoa_6 na_6 capa_6) p_5) (r : (List (Int × Write)) × List Bool) (hx : dev_lasts_v2 p_1 p_5 = some r) :
    Does Try.prog 67 #[.agg #[va_2, .slice aoa_3 na_3 capa_3], .func (.func 45) #[] #[.pointer (some ⟨b_4, 0, none⟩)]] [[(b_4, .cells #[.slice aoa_6 na_6 capa_6] 57 (0, 0))]] H (fun u K' H' => ∃ ao0 : Option Addr, ∃ n0 : Nat, ∃ cap0 : Nat, ∃ ao1 : Option Addr, ∃ n1 : Nat, ∃ cap1 : Nat, ∃ K1 : Own, u = .map (some n1) ∧ K' = [[(b_4, .cells #[.slice ao0 n0 cap0] 57 (0, 0))], K1] ∧ H = H' ∧ IsSlice H RBool 1 (.slice ao0 n0 cap0) r.2 ∧ MapOf H R_Write 0 n1 r.1 K1 ∧ (∀ p ∈ K1, p.1 ∉ ids (List.flatten [[(b_4, .cells #[.slice aoa_6 na_6 capa_6] 57 (0, 0))]])) ∧ True) := by
  refine Does.enterL (vs := [.agg #[va_2, .slice aoa_3 na_3 capa_3], .func (.func 45) #[] #[.pointer (some ⟨b_4, 0, none⟩)]]) (l := [(0, .agg #[va_2, .slice aoa_3 na_3 capa_3]), (1, .func (.func 45) #[] #[.pointer (some ⟨b_4, 0, none⟩)])]) Try.func67 rfl rfl ⟨rfl, rfl, trivial⟩ (fun w hlt => ?_)
  rw [dev_lasts_v2.eq_1] at hx
  refine JC.seq ?_
  refine JC.region ?_
  refine JL.box rfl rfl (fun b_7 hb_7 => ?_)
  refine JL.val rfl rfl (R.assign rfl) ?_
  refine JL.nil ?_
  refine JN.next ?_
  refine JC.seq ?_
  refine JC.region ?_
  refine JL.mkMapF (New H H) R_Write rfl (fun nr_8 Kr_8 hr_8 => ?_)
  refine JL.val rfl rfl (R.assign rfl) ?_
  refine JL.nil ?_
  refine JN.next ?_
  refine JC.seq ?_
  refine JC.seq ?_
  refine JC.region ?_
  refine JL.val rfl rfl (R.fa F25_1 rfl) ?_
  refine JL.val rfl rfl (R.ldo 1 S23 rfl rfl rfl) ?_
  refine JL.val rfl rfl (R.lenL U23 rfl (IsSlice.long ha_3)) ?_
  refine JL.val rfl rfl (R.move rfl) ?_
  refine JL.nil ?_
  refine JN.next ?_
  obtain ⟨t_9, ht_11, hx⟩ := bnd_some hx
  refine JC.cut (fun l o g => ∃ aoz_17 : Option Addr, ∃ nz_17 : Nat, ∃ capz_17 : Nat, ∃ Kr_18 : Own, l = [(1, .func (.func 45) #[] #[.pointer (some ⟨b_4, 0, none⟩)]), (5, .map (some nr_8))] ∧ o = [[(b_4, .cells #[.slice aoz_17 nz_17 capz_17] 57 (0, 0))], Kr_18] ∧ H = g ∧ IsSlice H RBool 1 (.slice aoz_17 nz_17 capz_17) t_9.1 ∧ MapOf H R_Write w.heap.size nr_8 t_9.2 Kr_18) ?_ ?_
  · rintro _ _ _ ⟨aoz_17, nz_17, capz_17, Kr_18, rfl, rfl, rfl, hz_17, hr_18⟩
    refine JN.next ?_
    refine JC.seq ?_
    refine JC.region ?_
    refine JL.val rfl rfl (R.move rfl) ?_
    refine JL.val rfl rfl (R.assign rfl) ?_
    refine JL.nil ?_
    refine JN.next ?_
    refine JC.ret ?_
    refine JN.outP (vs := [.map (some nr_8)]) (K := [_, _]) (rst := []) (.inl rfl) rfl rfl (Res.tmp rfl rfl) (picks 0 rfl (picks 0 rfl picks0)) ?_
    obtain rfl := Option.some.inj hx
    exact ⟨aoz_17, nz_17, capz_17, none, nr_8, 0, Kr_18, rfl, rfl, rfl, hz_17, (MapOf.weak (Nat.zero_le _) hr_18), (newM_ids hr_18 hlt), trivial⟩
  · have hxo_10 := hx; clear hx; have hx := ht_11; clear ht_11
    refine JC.block ?_
    refine JC.forget 1 ?_
    refine JC.front 1 rfl ?_
    refine JC.loopI (fun n l o g => ∃ s_12 : List Bool × (List (Int × Write)) × Nat, ∃ aoz_15 : Option Addr, ∃ nz_15 : Nat, ∃ capz_15 : Nat, ∃ Kr_16 : Own, l = [(1, .func (.func 45) #[] #[.pointer (some ⟨b_4, 0, none⟩)]), (5, .map (some nr_8)), (10, .slice aoa_3 na_3 capa_3), (11, .int .i64 (p_1.Waits.length : Int)), (12, .int .i64 ((s_12.2.2 : Nat) : Int))] ∧ o = [[(b_4, .cells #[.slice aoz_15 nz_15 capz_15] 57 (0, 0))], Kr_16] ∧ H = g ∧ run (dev_lasts_v2_l1 p_1) n s_12 = some t_9 ∧ IsSlice H RBool 1 (.slice aoz_15 nz_15 capz_15) s_12.1 ∧ MapOf H R_Write w.heap.size nr_8 s_12.2.1 Kr_16) FUEL ?_ ⟨(p_5, ([] : List (Int × Write)), 0), aoa_6, na_6, capa_6, Kr_8, rfl, rfl, rfl, hx, ha_6, (hr_8.old R_Write.mono)⟩ ⟨rfl, rfl, rfl, rfl, rfl, trivial⟩ ?_
    · rintro _ _ _ ⟨s_12, aoz_15, nz_15, capz_15, Kr_16, rfl, rfl, rfl, hn_13, hz_15, hr_16⟩
      exact run_zero hn_13
    · rintro n_14 _ _ _ ⟨s_12, aoz_15, nz_15, capz_15, Kr_16, rfl, rfl, rfl, hn_13, hz_15, hr_16⟩
      clear hx; obtain ⟨oo_18, hx, hd_17⟩ := run_some hn_13
      rw [dev_lasts_v2_l1.eq_1] at hx
      refine JC.seq ?_
      refine JC.region ?_
      refine JL.val rfl rfl (R.lss_i rfl rfl) ?_
      refine JL.nil ?_
      refine JN.next ?_
      refine JC.seq ?_
      refine JC.condB rfl (fun c_17 => ?_) (fun c_17 => ?_)
      · replace hx := cond_t c_17 hx
        refine JC.skip ?_
        refine JN.next ?_
        refine JC.seq ?_
        refine JC.block ?_
        refine JC.seq ?_
        refine JC.region ?_
        refine JL.val rfl rfl (R.move rfl) ?_
        obtain ⟨y_18, hN_19, hx⟩ := idx_some hx
        obtain ⟨b_20, o_21, cs_22, hE_23, hR_24, hl_25, hc_26⟩ := IsSlice.elem ha_3 hN_19
        obtain ⟨v_27, rfl, hs_28⟩ := hR_24
        obtain ⟨aov_27, capv_27, rfl⟩ := IsSlice.val hs_28
        refine JL.val rfl rfl (R.ix U23 S47 rfl rfl hE_23) ?_
        refine JL.val rfl rfl (R.ldHE (cs := [.int .i64 y_18.At, .slice aov_27 y_18.Data.length capv_27]) (k := 0) (vs := [.int .i64 y_18.At, .slice aov_27 y_18.Data.length capv_27]) S47 rfl hc_26 rfl rfl) ?_
        refine JL.alloc Z47 rfl (fun b_29 hb_29 => ?_)
        refine JL.val rfl rfl (R.assign rfl) ?_
        refine JL.store 0 S47 rfl rfl rfl rfl rfl (Nat.le_of_ble_eq_true rfl) ?_
        refine JL.nil ?_
        refine JN.next ?_
        refine JC.seq ?_
        refine JC.region ?_
        refine JL.val rfl rfl (R.move rfl) ?_
        refine JL.val rfl rfl (R.move rfl) ?_
        obtain ⟨x_30, hr_31, hx⟩ := bnd_some hx
        refine JL.callC (vs := [_]) (args := [_, _]) (K := [_]) (rst := [_, _]) E45 rfl rfl rfl (picks 1 rfl picks0) (dev_Crash_1_1_ok ((s_12.2.2 : Nat) : Int) s_12.1 _ hz_15 _ hr_31) rfl (fun u_32 Ku_32 Hu_32 hRu_32 hleu_32 hfu_32 => ?_)
        obtain ⟨aoz_33, nz_33, capz_33, rfl, rfl, rfl, hz_33, -⟩ := hRu_32
        refine JL.nil ?_
        refine JN.next ?_
        refine JC.condB rfl (fun c_34 => ?_) (fun c_34 => ?_)
        · replace hx := cond_t c_34 hx
          refine JC.region ?_
          refine JL.val rfl rfl (R.move rfl) ?_
          refine JL.val rfl rfl (R.fa F47_0 rfl) ?_
          refine JL.val rfl rfl (R.ldo 1 S3 rfl rfl rfl) ?_
          refine JL.val rfl rfl (R.ldoN 1 (vs := [.int .i64 y_18.At, .slice aov_27 y_18.Data.length capv_27]) S47 rfl rfl rfl rfl) ?_
          refine JL.mapUpdF 2 (cs := [.int .i64 y_18.At, .slice aov_27 y_18.Data.length capv_27]) U97 U3 rfl rfl rfl rfl hr_16 ⟨_, rfl, hs_28⟩ (fun Kr_35 hr_35 => ?_)
          refine JL.nil ?_
          refine JN.blkN ?_
          refine JN.next ?_
          refine JC.region ?_
          refine JL.val rfl rfl (R.inc rfl rfl (of_decide_eq_true c_17) (IsSlice.lenI ha_3)) ?_
          refine JL.val rfl rfl (R.move rfl) ?_
          refine JL.nil ?_
          replace hx := run_next hd_17 hx
          refine JN.forget 1 ?_
          refine JN.front 1 rfl ?_
          refine JN.front 1 rfl ?_
          exact JN.cut ⟨(x_30.2, (putM s_12.2.1 y_18.At y_18), s_12.2.2 + 1), aoz_33, nz_33, capz_33, Kr_35, rfl, rfl, rfl, hx, hz_33, hr_35⟩ ⟨rfl, rfl, rfl, rfl, rfl, trivial⟩ rfl rfl
        · replace hx := cond_f c_34 hx
          refine JC.skip ?_
          refine JN.blkN ?_
          refine JN.next ?_
          refine JC.region ?_
          refine JL.val rfl rfl (R.inc rfl rfl (of_decide_eq_true c_17) (IsSlice.lenI ha_3)) ?_
          refine JL.val rfl rfl (R.move rfl) ?_
          refine JL.nil ?_
          replace hx := run_next hd_17 hx
          refine JN.forget 1 ?_
          refine JN.front 1 rfl ?_
          refine JN.front 1 rfl ?_
          exact JN.cut ⟨(x_30.2, s_12.2.1, s_12.2.2 + 1), aoz_33, nz_33, capz_33, Kr_16, rfl, rfl, rfl, hx, hz_33, hr_16⟩ ⟨rfl, rfl, rfl, rfl, rfl, trivial⟩ rfl rfl
      · replace hx := cond_f c_17 hx
        refine JC.exit ?_
        refine JN.passX ?_
        obtain rfl := run_done hd_17 hx
        refine JN.passX ?_
        refine JN.exitSame ?_
        refine JN.front 1 rfl ?_
        refine JN.front 1 rfl ?_
        exact JN.cut ⟨aoz_15, nz_15, capz_15, Kr_16, rfl, rfl, rfl, hz_15, hr_16⟩ ⟨rfl, rfl, trivial⟩ rfl rfl

set_option maxHeartbeats 1000000 in
theorem dev_left_v2_ok (p_1 : Disk) (p_5 : List Bool) (H : Heaplet) {aoa_2 : Option Addr} {na_2 : Nat} {capa_2 : Nat} {aoa_3 : Option Addr} {na_3 : Nat} {capa_3 : Nat} {b_4 : Nat} {aoa_6 : Option Addr} {na_6 : Nat} {capa_6 : Nat} (ha_2 : IsSlice H (RSl RU8 1) 1 (.slice aoa_2 na_2 capa_2) p_1.Blocks) (ha_3 : IsSlice H R_Write 2 (.slice aoa_3 na_3 capa_3) p_1.Waits) (ha_6 : IsSlice H RBool 1 (.slice aoa_6 na_6 capa_6) p_5) (r : Disk × List Bool) (hx : dev_left_v2 p_1 p_5 = some r) :
    Does Try.prog 44 #[.agg #[.slice aoa_2 na_2 capa_2, .slice aoa_3 na_3 capa_3], .func (.func 45) #[] #[.pointer (some ⟨b_4, 0, none⟩)]] [[(b_4, .cells #[.slice aoa_6 na_6 capa_6] 57 (0, 0))]] H (fun u K' H' => ∃ ao0 : Option Addr, ∃ n0 : Nat, ∃ cap0 : Nat, ∃ ao1 : Option Addr, ∃ n1 : Nat, ∃ cap1 : Nat, ∃ K1 : Own, ∃ ao2 : Option Addr, ∃ n2 : Nat, ∃ cap2 : Nat, ∃ K2 : Own, u = .agg #[.slice ao1 n1 cap1, .slice ao2 n2 cap2] ∧ K' = [[(b_4, .cells #[.slice ao0 n0 cap0] 57 (0, 0))], K1, K2] ∧ IsSlice H' RBool 1 (.slice ao0 n0 cap0) r.2 ∧ Pcs 0 5 45 (.slice ao1 n1 cap1) r.1.Blocks K1 ∧ (∀ p ∈ K1, p.1 ∉ ids (List.flatten [[(b_4, .cells #[.slice aoa_6 na_6 capa_6] 57 (0, 0))]])) ∧ RowOf (New H H') R_Write 0 47 2 (.slice ao2 n2 cap2) r.1.Waits K2 ∧ (∀ p ∈ K2, p.1 ∉ ids (List.flatten [[(b_4, .cells #[.slice aoa_6 na_6 capa_6] 57 (0, 0))]])) ∧ True) := by
  refine Does.enterL (vs := [.agg #[.slice aoa_2 na_2 capa_2, .slice aoa_3 na_3 capa_3], .func (.func 45) #[] #[.pointer (some ⟨b_4, 0, none⟩)]]) (l := [(0, .agg #[.slice aoa_2 na_2 capa_2, .slice aoa_3 na_3 capa_3]), (1, .func (.func 45) #[] #[.pointer (some ⟨b_4, 0, none⟩)])]) Try.func44 rfl rfl ⟨rfl, rfl, trivial⟩ (fun w hlt => ?_)
  rw [dev_left_v2.eq_1] at hx
  refine JC.seq ?_
  refine JC.region ?_
  refine JL.box rfl rfl (fun b_7 hb_7 => ?_)
  refine JL.alloc Z25 rfl (fun b_8 hb_8 => ?_)
  refine JL.nil ?_
  refine JN.next ?_
  refine JC.seq ?_
  obtain ⟨t_9, ht_11, hx⟩ := bnd_some hx
  refine JC.cut (fun l o g => ∃ aor_24 : Option Addr, ∃ nr_24 : Nat, ∃ capr_24 : Nat, ∃ Kr_24 : Own, l = [(1, .func (.func 45) #[] #[.pointer (some ⟨b_4, 0, none⟩)]), (2, .pointer (some ⟨b_7, 0, none⟩)), (4, .pointer (some ⟨b_8, 0, none⟩))] ∧ o = [[(b_4, .cells #[.slice aoa_6 na_6 capa_6] 57 (0, 0))], [(b_7, .cells #[.slice aor_24 nr_24 capr_24, .slice aoa_3 na_3 capa_3] 25 (0, 0))], Kr_24, [(b_8, .cells #[.slice none 0 0, .slice none 0 0] 25 (0, 0))]] ∧ H = g ∧ RowOf H (RSl RU8 1) w.heap.size 45 1 (.slice aor_24 nr_24 capr_24) t_9 Kr_24) ?_ ?_
  · rintro _ _ _ ⟨aor_24, nr_24, capr_24, Kr_24, rfl, rfl, rfl, hr_24⟩
    refine JN.next ?_
    refine JC.seq ?_
    refine JC.seq ?_
    refine JC.region ?_
    refine JL.val rfl rfl (R.ldoN 1 (vs := [.slice aor_24 nr_24 capr_24, .slice aoa_3 na_3 capa_3]) S25 rfl rfl rfl rfl) ?_
    refine JL.val rfl rfl (R.move rfl) ?_
    obtain ⟨x_25, hr_26, hx⟩ := bnd_some hx
    refine JL.callC (vs := [_, _]) (args := [_, _]) (K := [_]) (rst := [_, _, _]) E67 rfl rfl rfl (picks 0 rfl picks0) (dev_lasts_v2_ok (Disk.mk t_9 p_1.Waits) p_5 _ ha_3 ha_6 _ hr_26) rfl (fun u_27 Ku_27 Hu_27 hRu_27 hleu_27 hfu_27 => ?_)
    obtain ⟨aoz_28, nz_28, capz_28, aor_29, nr_29, capr_29, Kr_29, rfl, rfl, rfl, hz_28, hr_29, hnewr_29, -⟩ := hRu_27
    replace hr_29 := (MapOf.base hr_29 (fun p hp => (hfu_27 p (mem_seg 1 rfl hp)).resolve_left (hnewr_29 p hp)))
    refine JL.rangeMapF 1 U97 rfl rfl hr_29 rfl (fun b_30 es_31 hK_32 hM_33 => ?_)
    subst hK_32
    refine JL.nil ?_
    refine JN.next ?_
    obtain ⟨m_34, hm_35, hin_36, hx⟩ := layR_some hx
    refine JC.block ?_
    refine JC.loop (ι := Array Nat × (List (List UInt8)) × Own) (fun _ => [(1, .func (.func 45) #[] #[.pointer (some ⟨b_4, 0, none⟩)]), (2, .pointer (some ⟨b_7, 0, none⟩)), (4, .pointer (some ⟨b_8, 0, none⟩)), (16, .pointer (some ⟨b_30, 0, none⟩))]) (fun i => [[(b_30, .mapIter (some nr_29) (x_25.1).length i.1 (x_25.1).length)], [(b_4, .cells #[.slice aoz_28 nz_28 capz_28] 57 (0, 0))], [(nr_29, .map es_31 (x_25.1).length)], [(b_7, .cells #[.slice aor_24 nr_24 capr_24, .slice aoa_3 na_3 capa_3] 25 (0, 0))], i.2.2, [(b_8, .cells #[.slice none 0 0, .slice none 0 0] 25 (0, 0))]]) (fun _ => H) (fun i => i.1.toList.Nodup ∧ (∀ q ∈ i.1.toList, q < (x_25.1).length) ∧ Laid (fun y : Write => y.Data) t_9 x_25.1 i.1.toList i.2.1 ∧ RowOf H (RSl RU8 1) w.heap.size 45 1 (.slice aor_24 nr_24 capr_24) i.2.1 i.2.2) (fun i => (x_25.1).length - i.1.size) (#[], t_9, Kr_24) ⟨by simp, by simp, Laid.start _ _ _, hr_24⟩ ⟨rfl, rfl, rfl, rfl, trivial⟩ rfl rfl ?_
    rintro ⟨seen_37, B_38, K_39⟩ ⟨hn_40, hlt_41, hL_42, hr_43⟩
    dsimp only at hn_40 hlt_41 hL_42 hr_43 ⊢
    refine JC.seq ?_
    refine JC.region ?_
    refine JL.nextMap 0 2 rfl rfl rfl hM_33 (Nat.le_refl _) rfl (fun he_44 => ?_) (fun n_45 k_46 y_47 cs_48 hMn_49 hen_50 hns_51 hRy_52 => ?_)
    · refine JL.val rfl rfl (R.extract rfl rfl) ?_
      refine JL.nil ?_
      refine JN.next ?_
      refine JC.seq ?_
      refine JC.condF rfl ?_
      refine JC.exit ?_
      refine JN.passX ?_
      refine JN.passX ?_
      refine JN.exitSame ?_
      obtain rfl := hm_35.trans (hL_42.full hM_33.nodup hin_36 he_44).symm
      refine JN.forget 2 ?_
      refine JN.forget 0 ?_
      refine JN.next ?_
      refine JC.seq ?_
      refine JC.region ?_
      refine JL.val rfl rfl (R.fa F25_1 rfl) ?_
      refine JL.store 1 S23 rfl rfl rfl rfl rfl (Nat.le_of_ble_eq_true rfl) ?_
      refine JL.nil ?_
      refine JN.next ?_
      refine JC.seq ?_
      refine JC.region ?_
      refine JL.val rfl rfl (R.ldoN 1 (vs := [.slice aor_24 nr_24 capr_24, .slice none 0 0]) S25 rfl rfl rfl rfl) ?_
      refine JL.pub 2 (RSl.mono RU8.mono) rfl hr_43 (Nat.le_refl _) (fun H_53 hleH_53 hsH_53 => ?_)
      refine JL.forget 2 ?_
      obtain ⟨x_54, hr_55, hx⟩ := bnd_some hx
      refine JL.callC (vs := [_]) (args := [_]) (K := []) (rst := [_, _, _]) E41 rfl rfl rfl picks0 (dev_Twin_ok (Disk.mk m_34 ([] : List Write)) _ hsH_53 (IsSlice.nil _ _ _) _ hr_55) rfl (fun u_56 Ku_56 Hu_56 hRu_56 hleu_56 hfu_56 => ?_)
      obtain ⟨aor_57, nr_57, capr_57, Kr_57, aor_58, nr_58, capr_58, Kr_58, rfl, rfl, hr_57, hnewr_57, hr_58, hnewr_58, -⟩ := hRu_56
      replace hr_57 := (Pcs.base hr_57 (fun p hp => (hfu_56 p (mem_seg 0 rfl hp)).resolve_left (hnewr_57 p hp)))
      replace hr_58 := (RowOf.base (RowOf.mono R_Write.mono (New.call hleH_53) hr_58) (fun p hp => (hfu_56 p (mem_seg 1 rfl hp)).resolve_left (hnewr_58 p hp)))
      refine JL.store 4 S25 rfl rfl rfl rfl rfl (Nat.le_of_ble_eq_true rfl) ?_
      refine JL.nil ?_
      refine JN.next ?_
      refine JC.ret ?_
      refine JN.outP (vs := [.agg #[.slice aor_57 nr_57 capr_57, .slice aor_58 nr_58 capr_58]]) (K := [_, _, _]) (rst := [_, _]) (.inl rfl) rfl rfl (Res.cellN 4 rfl rfl S25 rfl) (picks 2 rfl (picks 0 rfl (picks 0 rfl picks0))) ?_
      obtain rfl := Option.some.inj hx
      exact ⟨aoz_28, nz_28, capz_28, aor_57, nr_57, capr_57, Kr_57, aor_58, nr_58, capr_58, Kr_58, rfl, rfl, (hz_28.mono RBool.mono (hleH_53.trans hleu_56)), (Pcs.weak (Nat.zero_le _) hr_57), (newP_ids hr_57 hlt), (RowOf.weak (Nat.zero_le _) hr_58), (new_ids hr_58 hlt), trivial⟩
    · have hs_53 := seen_more hn_40 hlt_41 (List.getElem?_eq_some_iff.1 hMn_49).1 hns_51
      refine JL.val rfl rfl (R.extract rfl rfl) ?_
      refine JL.nil ?_
      refine JN.next ?_
      refine JC.seq ?_
      refine JC.condT rfl ?_
      refine JC.skip ?_
      refine JN.next ?_
      refine JC.block ?_
      refine JC.seq ?_
      refine JC.region ?_
      obtain ⟨v_54, rfl, hs_55⟩ := hRy_52
      obtain ⟨aov_54, capv_54, rfl⟩ := IsSlice.val hs_55
      refine JL.entryMap 0 2 rfl rfl rfl hM_33 hen_50 rfl ?_
      have hp_57 := hin_36 _ (List.mem_of_getElem? hMn_49)
      rw [← hL_42.len] at hp_57
      clear hx
      have hx : (chk (0 ≤ k_46 ∧ k_46.toNat < B_38.length) <| setI B_38 k_46 y_47.Data fun m_64 =>  some m_64) = some (B_38.set k_46.toNat y_47.Data) := lay_step hp_57
      refine JL.val rfl rfl (R.extract rfl rfl) ?_
      refine JL.val rfl rfl (R.extract rfl rfl) ?_
      refine JL.alloc Z47 rfl (fun b_59 hb_59 => ?_)
      refine JL.val rfl rfl (R.assign rfl) ?_
      refine JL.store 0 S47 rfl rfl rfl rfl rfl (Nat.le_of_ble_eq_true rfl) ?_
      refine JL.nil ?_
      refine JN.next ?_
      refine JC.region ?_
      refine JL.val rfl rfl (R.fa F25_0 rfl) ?_
      refine JL.val rfl rfl (R.ldo 4 S22 rfl rfl rfl) ?_
      refine JL.val rfl rfl (R.move rfl) ?_
      refine JL.val rfl rfl (R.fa F47_1 rfl) ?_
      refine JL.val rfl rfl (R.ldo 0 S45 rfl rfl rfl) ?_
      obtain ⟨hp_60, hx⟩ := chk_some hx
      obtain ⟨b_61, o_62, hE_63⟩ := RowOf.place hr_43 hp_60
      refine JL.val rfl rfl (R.ix U22 S45 rfl rfl hE_63) ?_
      obtain ⟨m_64, hm_65, hi_66, hx⟩ := setI_some hx
      refine JL.stE 5 (k := k_46) (y := y_47.Data) S45 rfl hr_43 rfl hE_63 rfl rfl (⟨_, rfl, hs_55⟩) RSl.one hm_65 (fun Kr_67 hr_67 hlr_67 => ?_)
      refine JL.nil ?_
      refine JN.blkN ?_
      obtain rfl := Option.some.inj hx
      refine JN.forget 0 ?_
      refine JN.front 5 rfl ?_
      refine JN.front 5 rfl ?_
      refine JN.front 5 rfl ?_
      refine JN.front 5 rfl ?_
      refine JN.front 5 rfl ?_
      refine JN.front 5 rfl ?_
      exact JN.again (i := (seen_37, B_38, K_39)) (seen_37.push n_45, B_38.set k_46.toNat y_47.Data, Kr_67) ⟨by simp only [Array.toList_push]; exact List.nodup_append.2 ⟨hn_40, by simp, fun a ha b hb e => by simp at hb; subst hb; subst e; exact hns_51 ha⟩, by simp only [Array.toList_push]; intro q hq; rcases List.mem_append.1 hq with h | h; exact hlt_41 q h; simp at h; subst h; exact (List.getElem?_eq_some_iff.1 hMn_49).1, hL_42.step (f := (fun y : Write => y.Data)) hM_33.nodup hin_36 hMn_49 _ (fun q => by simp), hr_67⟩ (by simp only [Array.size_push]; simp only [Array.length_toList] at hs_53; omega) ⟨rfl, rfl, rfl, rfl, trivial⟩ rfl rfl
  · have hxo_10 := hx; clear hx; have hx := ht_11; clear ht_11
    refine JC.draw (so := [_, _]) 7 rfl Mixed ⟨⟨0, rfl⟩, ⟨2, rfl⟩, trivial⟩ ?_
    refine JA.val ⟨by kernel_rfl, by kernel_rfl⟩ (calm_only _) (i := 0) rfl ⟨by kernel_rfl, by kernel_rfl, rfl⟩ trivial (stab_of (Hle.refl _) ⟨⟨0, rfl⟩, ⟨2, rfl⟩, trivial⟩) (R.fa F25_0 rfl) rfl ?_
    refine JA.val ⟨by kernel_rfl, by kernel_rfl⟩ (calm_only _) (i := 3) rfl ⟨by kernel_rfl, by kernel_rfl, rfl⟩ trivial (stab_of (Hle.refl _) ⟨⟨0, rfl⟩, ⟨2, rfl⟩, trivial⟩) (R.fa F25_1 rfl) rfl ?_
    refine JA.two (i := 1) (j := 4) (by kernel_rfl) ?_ ?_
    · refine JO.step rfl trivial rfl (fun K hK => ?_)
      refine JL.val rfl rfl (R.ldo 1 S22 rfl rfl rfl) ?_
      refine JL.nil ?_
      refine hK _ _ _ (stab_of (Hle.refl _) ⟨⟨0, rfl⟩, ⟨2, rfl⟩, trivial⟩) ?_
      refine JA.two (i := 2) (j := 4) (by kernel_rfl) ?_ ?_
      · refine JO.step rfl trivial rfl (fun K hK => ?_)
        obtain ⟨x_12, hr_13, hx⟩ := bnd_some hx
        refine JL.callC (vs := [_]) (args := [_]) (K := []) (rst := [_, _, _]) E66 rfl rfl rfl picks0 (slices_Clone_byte_45_ok p_1.Blocks _ ha_2 _ hr_13) rfl (fun u_14 Ku_14 Hu_14 hRu_14 hleu_14 hfu_14 => ?_)
        obtain ⟨aor_15, nr_15, capr_15, Kr_15, rfl, rfl, rfl, hr_15, hnewr_15, -⟩ := hRu_14
        replace hr_15 := (RowOf.base hr_15 (fun p hp => (hfu_14 p (mem_seg 0 rfl hp)).resolve_left (hnewr_15 p hp)))
        refine JL.nil ?_
        refine hK _ _ _ (stab_of (Hle.refl _) ⟨⟨1, rfl⟩, ⟨3, rfl⟩, trivial⟩) ?_
        refine JA.one (i := 4) (by kernel_rfl) ?_
        refine JO.step rfl trivial rfl (fun K hK => ?_)
        refine JL.val rfl rfl (R.ldo 2 S23 rfl rfl rfl) ?_
        refine JL.nil ?_
        refine hK _ _ _ (stab_of (Hle.refl _) ⟨⟨1, rfl⟩, ⟨3, rfl⟩, trivial⟩) ?_
        refine JA.one (i := 5) (by kernel_rfl) ?_
        refine JO.step rfl trivial rfl (fun K hK => ?_)
        refine JL.val rfl rfl (R.bldP (vs := [(0, .slice aor_15 nr_15 capr_15), (1, .slice aoa_3 na_3 capa_3)]) (cs := [.slice aor_15 nr_15 capr_15, .slice aoa_3 na_3 capa_3]) Z25 B25 rfl rfl rfl) ?_
        refine JL.nil ?_
        refine hK _ _ _ (stab_of (Hle.refl _) ⟨⟨1, rfl⟩, ⟨3, rfl⟩, trivial⟩) ?_
        refine JA.one (i := 6) (by kernel_rfl) ?_
        refine JO.step rfl trivial rfl (fun K hK => ?_)
        refine JL.store 2 S25 rfl rfl rfl rfl rfl (Nat.le_of_ble_eq_true rfl) ?_
        refine JL.nil ?_
        refine hK _ _ _ (stab_of (Hle.refl _) ⟨⟨1, rfl⟩, ⟨3, rfl⟩, trivial⟩) ?_
        refine JA.doneN (by kernel_rfl) ?_
        obtain rfl := Option.some.inj hx
        refine JN.front 1 rfl ?_
        refine JN.front 1 rfl ?_
        refine JN.front 2 rfl ?_
        refine JN.front 3 rfl ?_
        exact JN.cut ⟨aor_15, nr_15, capr_15, Kr_15, rfl, rfl, rfl, hr_15⟩ ⟨rfl, rfl, rfl, trivial⟩ rfl rfl
      · refine JO.step rfl trivial rfl (fun K hK => ?_)
        refine JL.val rfl rfl (R.ldo 1 S23 rfl rfl rfl) ?_
        refine JL.nil ?_
        refine hK _ _ _ (stab_of (Hle.refl _) ⟨⟨0, rfl⟩, ⟨2, rfl⟩, trivial⟩) ?_
        refine JA.one (i := 2) (by kernel_rfl) ?_
        refine JO.step rfl trivial rfl (fun K hK => ?_)
        obtain ⟨x_16, hr_17, hx⟩ := bnd_some hx
        refine JL.callC (vs := [_]) (args := [_]) (K := []) (rst := [_, _, _]) E66 rfl rfl rfl picks0 (slices_Clone_byte_45_ok p_1.Blocks _ ha_2 _ hr_17) rfl (fun u_18 Ku_18 Hu_18 hRu_18 hleu_18 hfu_18 => ?_)
        obtain ⟨aor_19, nr_19, capr_19, Kr_19, rfl, rfl, rfl, hr_19, hnewr_19, -⟩ := hRu_18
        replace hr_19 := (RowOf.base hr_19 (fun p hp => (hfu_18 p (mem_seg 0 rfl hp)).resolve_left (hnewr_19 p hp)))
        refine JL.nil ?_
        refine hK _ _ _ (stab_of (Hle.refl _) ⟨⟨1, rfl⟩, ⟨3, rfl⟩, trivial⟩) ?_
        refine JA.one (i := 5) (by kernel_rfl) ?_
        refine JO.step rfl trivial rfl (fun K hK => ?_)
        refine JL.val rfl rfl (R.bldP (vs := [(0, .slice aor_19 nr_19 capr_19), (1, .slice aoa_3 na_3 capa_3)]) (cs := [.slice aor_19 nr_19 capr_19, .slice aoa_3 na_3 capa_3]) Z25 B25 rfl rfl rfl) ?_
        refine JL.nil ?_
        refine hK _ _ _ (stab_of (Hle.refl _) ⟨⟨1, rfl⟩, ⟨3, rfl⟩, trivial⟩) ?_
        refine JA.one (i := 6) (by kernel_rfl) ?_
        refine JO.step rfl trivial rfl (fun K hK => ?_)
        refine JL.store 2 S25 rfl rfl rfl rfl rfl (Nat.le_of_ble_eq_true rfl) ?_
        refine JL.nil ?_
        refine hK _ _ _ (stab_of (Hle.refl _) ⟨⟨1, rfl⟩, ⟨3, rfl⟩, trivial⟩) ?_
        refine JA.doneN (by kernel_rfl) ?_
        obtain rfl := Option.some.inj hx
        refine JN.front 1 rfl ?_
        refine JN.front 1 rfl ?_
        refine JN.front 2 rfl ?_
        refine JN.front 3 rfl ?_
        exact JN.cut ⟨aor_19, nr_19, capr_19, Kr_19, rfl, rfl, rfl, hr_19⟩ ⟨rfl, rfl, rfl, trivial⟩ rfl rfl
    · refine JO.step rfl trivial rfl (fun K hK => ?_)
      refine JL.val rfl rfl (R.ldo 1 S23 rfl rfl rfl) ?_
      refine JL.nil ?_
      refine hK _ _ _ (stab_of (Hle.refl _) ⟨⟨0, rfl⟩, ⟨2, rfl⟩, trivial⟩) ?_
      refine JA.one (i := 1) (by kernel_rfl) ?_
      refine JO.step rfl trivial rfl (fun K hK => ?_)
      refine JL.val rfl rfl (R.ldo 1 S22 rfl rfl rfl) ?_
      refine JL.nil ?_
      refine hK _ _ _ (stab_of (Hle.refl _) ⟨⟨0, rfl⟩, ⟨2, rfl⟩, trivial⟩) ?_
      refine JA.one (i := 2) (by kernel_rfl) ?_
      refine JO.step rfl trivial rfl (fun K hK => ?_)
      obtain ⟨x_20, hr_21, hx⟩ := bnd_some hx
      refine JL.callC (vs := [_]) (args := [_]) (K := []) (rst := [_, _, _]) E66 rfl rfl rfl picks0 (slices_Clone_byte_45_ok p_1.Blocks _ ha_2 _ hr_21) rfl (fun u_22 Ku_22 Hu_22 hRu_22 hleu_22 hfu_22 => ?_)
      obtain ⟨aor_23, nr_23, capr_23, Kr_23, rfl, rfl, rfl, hr_23, hnewr_23, -⟩ := hRu_22
      replace hr_23 := (RowOf.base hr_23 (fun p hp => (hfu_22 p (mem_seg 0 rfl hp)).resolve_left (hnewr_23 p hp)))
      refine JL.nil ?_
      refine hK _ _ _ (stab_of (Hle.refl _) ⟨⟨1, rfl⟩, ⟨3, rfl⟩, trivial⟩) ?_
      refine JA.one (i := 5) (by kernel_rfl) ?_
      refine JO.step rfl trivial rfl (fun K hK => ?_)
      refine JL.val rfl rfl (R.bldP (vs := [(0, .slice aor_23 nr_23 capr_23), (1, .slice aoa_3 na_3 capa_3)]) (cs := [.slice aor_23 nr_23 capr_23, .slice aoa_3 na_3 capa_3]) Z25 B25 rfl rfl rfl) ?_
      refine JL.nil ?_
      refine hK _ _ _ (stab_of (Hle.refl _) ⟨⟨1, rfl⟩, ⟨3, rfl⟩, trivial⟩) ?_
      refine JA.one (i := 6) (by kernel_rfl) ?_
      refine JO.step rfl trivial rfl (fun K hK => ?_)
      refine JL.store 2 S25 rfl rfl rfl rfl rfl (Nat.le_of_ble_eq_true rfl) ?_
      refine JL.nil ?_
      refine hK _ _ _ (stab_of (Hle.refl _) ⟨⟨1, rfl⟩, ⟨3, rfl⟩, trivial⟩) ?_
      refine JA.doneN (by kernel_rfl) ?_
      obtain rfl := Option.some.inj hx
      refine JN.front 1 rfl ?_
      refine JN.front 1 rfl ?_
      refine JN.front 2 rfl ?_
      refine JN.front 3 rfl ?_
      exact JN.cut ⟨aor_23, nr_23, capr_23, Kr_23, rfl, rfl, rfl, hr_23⟩ ⟨rfl, rfl, rfl, trivial⟩ rfl rfl

set_option maxHeartbeats 1000000 in
theorem dev_Crash_1_ok (p_2 : Disk) (p_6 : List Bool) (H : Heaplet) {b_1 : Nat} {aoa_3 : Option Addr} {na_3 : Nat} {capa_3 : Nat} {aoa_4 : Option Addr} {na_4 : Nat} {capa_4 : Nat} {b_5 : Nat} {aoa_7 : Option Addr} {na_7 : Nat} {capa_7 : Nat} (ha_3 : IsSlice H (RSl RU8 1) 1 (.slice aoa_3 na_3 capa_3) p_2.Blocks) (ha_4 : IsSlice H R_Write 2 (.slice aoa_4 na_4 capa_4) p_2.Waits) (ha_7 : IsSlice H RBool 1 (.slice aoa_7 na_7 capa_7) p_6) (r : Disk × Disk × List Bool) (hx : dev_Crash_1 p_2 p_6 = some r) :
    Does Try.prog 43 #[.pointer (some ⟨b_1, 0, none⟩), .pointer (some ⟨b_5, 0, none⟩)] [[(b_1, .cells #[.slice aoa_3 na_3 capa_3, .slice aoa_4 na_4 capa_4] 25 (0, 0))], [(b_5, .cells #[.slice aoa_7 na_7 capa_7] 57 (0, 0))]] H (fun u K' H' => ∃ ao0 : Option Addr, ∃ n0 : Nat, ∃ cap0 : Nat, ∃ ao1 : Option Addr, ∃ n1 : Nat, ∃ cap1 : Nat, ∃ ao2 : Option Addr, ∃ n2 : Nat, ∃ cap2 : Nat, ∃ ao3 : Option Addr, ∃ n3 : Nat, ∃ cap3 : Nat, ∃ K3 : Own, ∃ ao4 : Option Addr, ∃ n4 : Nat, ∃ cap4 : Nat, ∃ K4 : Own, u = .agg #[.slice ao3 n3 cap3, .slice ao4 n4 cap4] ∧ K' = [[(b_1, .cells #[.slice ao0 n0 cap0, .slice ao1 n1 cap1] 25 (0, 0))], [(b_5, .cells #[.slice ao2 n2 cap2] 57 (0, 0))], K3, K4] ∧ IsSlice H' (RSl RU8 1) 1 (.slice ao0 n0 cap0) r.2.1.Blocks ∧ IsSlice H' R_Write 2 (.slice ao1 n1 cap1) r.2.1.Waits ∧ IsSlice H' RBool 1 (.slice ao2 n2 cap2) r.2.2 ∧ Pcs 0 5 45 (.slice ao3 n3 cap3) r.1.Blocks K3 ∧ (∀ p ∈ K3, p.1 ∉ ids (List.flatten [[(b_1, .cells #[.slice aoa_3 na_3 capa_3, .slice aoa_4 na_4 capa_4] 25 (0, 0))], [(b_5, .cells #[.slice aoa_7 na_7 capa_7] 57 (0, 0))]])) ∧ RowOf (New H H') R_Write 0 47 2 (.slice ao4 n4 cap4) r.1.Waits K4 ∧ (∀ p ∈ K4, p.1 ∉ ids (List.flatten [[(b_1, .cells #[.slice aoa_3 na_3 capa_3, .slice aoa_4 na_4 capa_4] 25 (0, 0))], [(b_5, .cells #[.slice aoa_7 na_7 capa_7] 57 (0, 0))]])) ∧ True) := by
  refine Does.enterL (vs := [.pointer (some ⟨b_1, 0, none⟩), .pointer (some ⟨b_5, 0, none⟩)]) (l := [(0, .pointer (some ⟨b_1, 0, none⟩)), (1, .pointer (some ⟨b_5, 0, none⟩))]) Try.func43 rfl rfl ⟨rfl, rfl, trivial⟩ (fun w hlt => ?_)
  rw [dev_Crash_1.eq_1] at hx
  refine JC.seq ?_
  refine JC.region ?_
  refine JL.alloc Z25 rfl (fun b_8 hb_8 => ?_)
  refine JL.nil ?_
  refine JN.next ?_
  refine JC.seq ?_
  refine JC.region ?_
  refine JL.val rfl rfl (R.ldoN 1 (vs := [.slice aoa_3 na_3 capa_3, .slice aoa_4 na_4 capa_4]) S25 rfl rfl rfl rfl) ?_
  refine JL.val rfl rfl (R.func (vf := []) (vc := [_]) rfl rfl) ?_
  obtain ⟨x_9, hr_10, hx⟩ := bnd_some hx
  refine JL.callC (vs := [_, _]) (args := [_, _]) (K := [_]) (rst := [_, _]) E44 rfl rfl rfl (picks 2 rfl picks0) (dev_left_v2_ok p_2 p_6 _ ha_3 ha_4 ha_7 _ hr_10) rfl (fun u_11 Ku_11 Hu_11 hRu_11 hleu_11 hfu_11 => ?_)
  obtain ⟨aoz_12, nz_12, capz_12, aor_13, nr_13, capr_13, Kr_13, aor_14, nr_14, capr_14, Kr_14, rfl, rfl, hz_12, hr_13, hnewr_13, hr_14, hnewr_14, -⟩ := hRu_11
  replace hr_13 := (Pcs.base hr_13 (fun p hp => (hfu_11 p (mem_seg 1 rfl hp)).resolve_left (hnewr_13 p hp)))
  replace hr_14 := (RowOf.base (RowOf.mono R_Write.mono (New.call (Hle.refl _)) hr_14) (fun p hp => (hfu_11 p (mem_seg 2 rfl hp)).resolve_left (hnewr_14 p hp)))
  refine JL.store 3 S25 rfl rfl rfl rfl rfl (Nat.le_of_ble_eq_true rfl) ?_
  refine JL.nil ?_
  refine JN.next ?_
  refine JC.ret ?_
  refine JN.outP (vs := [.agg #[.slice aor_13 nr_13 capr_13, .slice aor_14 nr_14 capr_14]]) (K := [_, _, _, _]) (rst := [_]) (.inl rfl) rfl rfl (Res.cellN 3 rfl rfl S25 rfl) (picks 4 rfl (picks 0 rfl (picks 0 rfl (picks 0 rfl picks0)))) ?_
  obtain rfl := Option.some.inj hx
  exact ⟨aoa_3, na_3, capa_3, aoa_4, na_4, capa_4, aoz_12, nz_12, capz_12, aor_13, nr_13, capr_13, Kr_13, aor_14, nr_14, capr_14, Kr_14, rfl, rfl, (ha_3.mono (RSl.mono RU8.mono) hleu_11), (ha_4.mono R_Write.mono hleu_11), hz_12, (Pcs.weak (Nat.zero_le _) hr_13), (newP_ids hr_13 hlt), (RowOf.weak (Nat.zero_le _) hr_14), (new_ids hr_14 hlt), trivial⟩

set_option maxHeartbeats 1000000 in
theorem dev_guarded_v3_ok (p_1 : Disk) (p_4 : Bool) (p_6 : Disk) (p_10 : List Bool) (H : Heaplet) {aoa_2 : Option Addr} {na_2 : Nat} {capa_2 : Nat} {aoa_3 : Option Addr} {na_3 : Nat} {capa_3 : Nat} {b_5 : Nat} {aoa_7 : Option Addr} {na_7 : Nat} {capa_7 : Nat} {aoa_8 : Option Addr} {na_8 : Nat} {capa_8 : Nat} {b_9 : Nat} {aoa_11 : Option Addr} {na_11 : Nat} {capa_11 : Nat} (ha_2 : IsSlice H (RSl RU8 1) 1 (.slice aoa_2 na_2 capa_2) p_1.Blocks) (ha_3 : IsSlice H R_Write 2 (.slice aoa_3 na_3 capa_3) p_1.Waits) (ha_7 : IsSlice H (RSl RU8 1) 1 (.slice aoa_7 na_7 capa_7) p_6.Blocks) (ha_8 : IsSlice H R_Write 2 (.slice aoa_8 na_8 capa_8) p_6.Waits) (ha_11 : IsSlice H RBool 1 (.slice aoa_11 na_11 capa_11) p_10) (r : Disk × Int × Disk × List Bool) (hx : dev_guarded_v3 p_1 p_4 p_6 p_10 = some r) :
    Does Try.prog 38 #[.agg #[.slice aoa_2 na_2 capa_2, .slice aoa_3 na_3 capa_3], .bool p_4, .func (.func 43) #[] #[.pointer (some ⟨b_5, 0, none⟩), .pointer (some ⟨b_9, 0, none⟩)]] [[(b_5, .cells #[.slice aoa_7 na_7 capa_7, .slice aoa_8 na_8 capa_8] 25 (0, 0))], [(b_9, .cells #[.slice aoa_11 na_11 capa_11] 57 (0, 0))]] H (fun u K' H' => ∃ ao0 : Option Addr, ∃ n0 : Nat, ∃ cap0 : Nat, ∃ ao1 : Option Addr, ∃ n1 : Nat, ∃ cap1 : Nat, ∃ ao2 : Option Addr, ∃ n2 : Nat, ∃ cap2 : Nat, ∃ ao3 : Option Addr, ∃ n3 : Nat, ∃ cap3 : Nat, ∃ ao4 : Option Addr, ∃ n4 : Nat, ∃ cap4 : Nat, ∃ K4 : Own, u = .tuple #[.agg #[.slice ao3 n3 cap3, .slice ao4 n4 cap4], .int .i64 r.2.1] ∧ K' = [[(b_5, .cells #[.slice ao0 n0 cap0, .slice ao1 n1 cap1] 25 (0, 0))], [(b_9, .cells #[.slice ao2 n2 cap2] 57 (0, 0))], K4] ∧ IsSlice H' (RSl RU8 1) 1 (.slice ao0 n0 cap0) r.2.2.1.Blocks ∧ IsSlice H' R_Write 2 (.slice ao1 n1 cap1) r.2.2.1.Waits ∧ IsSlice H' RBool 1 (.slice ao2 n2 cap2) r.2.2.2 ∧ IsSlice (New H H') (RSl RU8 1) 1 (.slice ao3 n3 cap3) r.1.Blocks ∧ RowOf (New H H') R_Write 0 47 2 (.slice ao4 n4 cap4) r.1.Waits K4 ∧ (∀ p ∈ K4, p.1 ∉ ids (List.flatten [[(b_5, .cells #[.slice aoa_7 na_7 capa_7, .slice aoa_8 na_8 capa_8] 25 (0, 0))], [(b_9, .cells #[.slice aoa_11 na_11 capa_11] 57 (0, 0))]])) ∧ True) := by
  refine Does.enterL (vs := [.agg #[.slice aoa_2 na_2 capa_2, .slice aoa_3 na_3 capa_3], .bool p_4, .func (.func 43) #[] #[.pointer (some ⟨b_5, 0, none⟩), .pointer (some ⟨b_9, 0, none⟩)]]) (l := [(0, .agg #[.slice aoa_2 na_2 capa_2, .slice aoa_3 na_3 capa_3]), (1, .bool p_4), (2, .func (.func 43) #[] #[.pointer (some ⟨b_5, 0, none⟩), .pointer (some ⟨b_9, 0, none⟩)])]) Try.func38 rfl rfl ⟨rfl, rfl, rfl, trivial⟩ (fun w hlt => ?_)
  rw [dev_guarded_v3.eq_1] at hx
  refine JC.seq ?_
  refine JC.region ?_
  refine JL.box rfl rfl (fun b_12 hb_12 => ?_)
  refine JL.alloc Z25 rfl (fun b_13 hb_13 => ?_)
  refine JL.val rfl rfl (R.assign rfl) ?_
  refine JL.nil ?_
  refine JN.next ?_
  refine JC.seq ?_
  refine JC.region ?_
  refine JL.val rfl rfl (R.ldoN 1 (vs := [.slice aoa_2 na_2 capa_2, .slice aoa_3 na_3 capa_3]) S25 rfl rfl rfl rfl) ?_
  obtain ⟨x_14, hr_15, hx⟩ := bnd_some hx
  refine JL.callC (vs := [_]) (args := [_]) (K := []) (rst := [_, _, _, _]) E24 rfl rfl rfl picks0 (dev_Check_ok p_1 _ ha_2 ha_3 _ hr_15) rfl (fun u_16 Ku_16 Hu_16 hRu_16 hleu_16 hfu_16 => ?_)
  obtain ⟨rfl, rfl, rfl, -⟩ := hRu_16
  refine JL.val rfl rfl (R.assign rfl) ?_
  refine JL.nil ?_
  refine JN.next ?_
  refine JC.seq ?_
  refine JC.block ?_
  refine JC.seq ?_
  refine JC.region ?_
  refine JL.val rfl rfl (R.move rfl) ?_
  refine JL.val rfl rfl (R.neq_i rfl rfl) ?_
  refine JL.val rfl rfl (R.assign rfl) ?_
  refine JL.nil ?_
  refine JN.next ?_
  refine JC.condB rfl (fun c_17 => ?_) (fun c_17 => ?_)
  · replace hx := cond_t c_17 hx
    refine JC.seq ?_
    refine JC.region ?_
    refine JL.val rfl rfl (R.bldP (vs := []) (cs := [.slice none 0 0, .slice none 0 0]) Z25 B25 rfl rfl rfl) ?_
    refine JL.val rfl rfl (R.move rfl) ?_
    refine JL.store 0 S25 rfl rfl rfl rfl rfl (Nat.le_of_ble_eq_true rfl) ?_
    refine JL.val rfl rfl (R.assign rfl) ?_
    refine JL.nil ?_
    refine JN.next ?_
    refine JC.ret ?_
    refine JN.blkR ?_
    refine JN.passR ?_
    refine JN.seg0 ?_
    refine JN.outP (vs := [.agg #[.slice none 0 0, .slice none 0 0], .int .i64 x_14]) (K := [_, _, _]) (rst := [_, _]) (.inl rfl) rfl rfl (Res.cellN 1 rfl rfl S25 (Res.tmp rfl rfl)) (picks 3 rfl (picks 3 rfl (picks 0 rfl picks0))) ?_
    obtain rfl := Option.some.inj hx
    exact ⟨aoa_7, na_7, capa_7, aoa_8, na_8, capa_8, aoa_11, na_11, capa_11, none, 0, 0, none, 0, 0, [], rfl, rfl, ha_7, ha_8, ha_11, (IsSlice.nil _ _ _), (RowOf.nil _ _ _ _ _), (fun p hp => by cases hp), trivial⟩
  · replace hx := cond_f c_17 hx
    refine JC.seq ?_
    refine JC.region ?_
    refine JL.val rfl rfl (R.move rfl) ?_
    refine JL.val rfl rfl (R.not rfl) ?_
    refine JL.val rfl rfl (R.assign rfl) ?_
    refine JL.nil ?_
    refine JN.next ?_
    refine JC.condB rfl (fun c_18 => ?_) (fun c_18 => ?_)
    · replace hx := cond_t c_18 hx
      refine JC.seq ?_
      refine JC.region ?_
      refine JL.val rfl rfl (R.bldP (vs := []) (cs := [.slice none 0 0, .slice none 0 0]) Z25 B25 rfl rfl rfl) ?_
      refine JL.store 0 S25 rfl rfl rfl rfl rfl (Nat.le_of_ble_eq_true rfl) ?_
      refine JL.val rfl rfl (R.assign rfl) ?_
      refine JL.nil ?_
      refine JN.next ?_
      refine JC.ret ?_
      refine JN.blkR ?_
      refine JN.passR ?_
      refine JN.seg0 ?_
      refine JN.outP (vs := [.agg #[.slice none 0 0, .slice none 0 0], .int .i64 2]) (K := [_, _, _]) (rst := [_, _]) (.inl rfl) rfl rfl (Res.cellN 1 rfl rfl S25 (Res.tmp rfl rfl)) (picks 3 rfl (picks 3 rfl (picks 0 rfl picks0))) ?_
      obtain rfl := Option.some.inj hx
      exact ⟨aoa_7, na_7, capa_7, aoa_8, na_8, capa_8, aoa_11, na_11, capa_11, none, 0, 0, none, 0, 0, [], rfl, rfl, ha_7, ha_8, ha_11, (IsSlice.nil _ _ _), (RowOf.nil _ _ _ _ _), (fun p hp => by cases hp), trivial⟩
    · replace hx := cond_f c_18 hx
      refine JC.skip ?_
      refine JN.blkN ?_
      refine JN.next ?_
      refine JC.seq ?_
      refine JC.region ?_
      refine JL.val rfl rfl (R.move rfl) ?_
      obtain ⟨x_19, hr_20, hx⟩ := bnd_some hx
      refine JL.callC (vs := []) (args := [_, _]) (K := [_, _]) (rst := [_, _]) E43 rfl rfl rfl (picks 2 rfl (picks 2 rfl picks0)) (dev_Crash_1_ok p_6 p_10 _ ha_7 ha_8 ha_11 _ hr_20) rfl (fun u_21 Ku_21 Hu_21 hRu_21 hleu_21 hfu_21 => ?_)
      obtain ⟨aoz_22, nz_22, capz_22, aoz_23, nz_23, capz_23, aoz_24, nz_24, capz_24, aor_25, nr_25, capr_25, Kr_25, aor_26, nr_26, capr_26, Kr_26, rfl, rfl, hz_22, hz_23, hz_24, hr_25, hnewr_25, hr_26, hnewr_26, -⟩ := hRu_21
      replace hr_25 := (Pcs.base hr_25 (fun p hp => (hfu_21 p (mem_seg 2 rfl hp)).resolve_left (hnewr_25 p hp)))
      replace hr_26 := (RowOf.base (RowOf.mono R_Write.mono (New.call (Hle.refl _)) hr_26) (fun p hp => (hfu_21 p (mem_seg 3 rfl hp)).resolve_left (hnewr_26 p hp)))
      refine JL.store 4 S25 rfl rfl rfl rfl rfl (Nat.le_of_ble_eq_true rfl) ?_
      refine JL.val rfl rfl (R.assign rfl) ?_
      refine JL.nil ?_
      refine JN.next ?_
      refine JC.ret ?_
      refine JN.pubPcs 2  rfl hr_25 (Nat.le_refl _) (fun H_27 hleH_27 hsH_27 => ?_)
      refine JN.forget 2 ?_
      refine JN.outP (vs := [.agg #[.slice aor_25 nr_25 capr_25, .slice aor_26 nr_26 capr_26], .int .i64 0]) (K := [_, _, _]) (rst := [_, _]) (.inl rfl) rfl rfl (Res.cellN 3 rfl rfl S25 (Res.tmp rfl rfl)) (picks 0 rfl (picks 0 rfl (picks 0 rfl picks0))) ?_
      obtain rfl := Option.some.inj hx
      exact ⟨aoz_22, nz_22, capz_22, aoz_23, nz_23, capz_23, aoz_24, nz_24, capz_24, aor_25, nr_25, capr_25, aor_26, nr_26, capr_26, Kr_26, rfl, rfl, (hz_22.mono (RSl.mono RU8.mono) hleH_27), (hz_23.mono R_Write.mono hleH_27), (hz_24.mono RBool.mono hleH_27), hsH_27, (RowOf.weak (Nat.zero_le _) (hr_26.mono R_Write.mono (New.mono hleH_27))), (new_ids (hr_26.mono R_Write.mono (New.mono hleH_27)) hlt), trivial⟩

set_option maxHeartbeats 1000000 in
theorem dev_Crash_ok (p_1 : Disk) (p_4 : List Bool) (H : Heaplet) {aoa_2 : Option Addr} {na_2 : Nat} {capa_2 : Nat} {aoa_3 : Option Addr} {na_3 : Nat} {capa_3 : Nat} {aoa_5 : Option Addr} {na_5 : Nat} {capa_5 : Nat} (ha_2 : IsSlice H (RSl RU8 1) 1 (.slice aoa_2 na_2 capa_2) p_1.Blocks) (ha_3 : IsSlice H R_Write 2 (.slice aoa_3 na_3 capa_3) p_1.Waits) (ha_5 : IsSlice H RBool 1 (.slice aoa_5 na_5 capa_5) p_4) (r : Disk × Int) (hx : dev_Crash p_1 p_4 = some r) :
    Does Try.prog 23 #[.agg #[.slice aoa_2 na_2 capa_2, .slice aoa_3 na_3 capa_3], .slice aoa_5 na_5 capa_5] [] H (fun u K' H' => ∃ ao0 : Option Addr, ∃ n0 : Nat, ∃ cap0 : Nat, ∃ ao1 : Option Addr, ∃ n1 : Nat, ∃ cap1 : Nat, ∃ K1 : Own, u = .tuple #[.agg #[.slice ao0 n0 cap0, .slice ao1 n1 cap1], .int .i64 r.2] ∧ K' = [K1] ∧ IsSlice (New H H') (RSl RU8 1) 1 (.slice ao0 n0 cap0) r.1.Blocks ∧ RowOf (New H H') R_Write 0 47 2 (.slice ao1 n1 cap1) r.1.Waits K1 ∧ (∀ p ∈ K1, p.1 ∉ ids (List.flatten [])) ∧ True) := by
  refine Does.enterL (vs := [.agg #[.slice aoa_2 na_2 capa_2, .slice aoa_3 na_3 capa_3], .slice aoa_5 na_5 capa_5]) (l := [(0, .agg #[.slice aoa_2 na_2 capa_2, .slice aoa_3 na_3 capa_3]), (1, .slice aoa_5 na_5 capa_5)]) Try.func23 rfl rfl ⟨rfl, rfl, trivial⟩ (fun w hlt => ?_)
  rw [dev_Crash.eq_1] at hx
  refine JC.seq ?_
  refine JC.region ?_
  refine JL.box rfl rfl (fun b_6 hb_6 => ?_)
  refine JL.box rfl rfl (fun b_7 hb_7 => ?_)
  refine JL.alloc Z25 rfl (fun b_8 hb_8 => ?_)
  refine JL.val rfl rfl (R.assign rfl) ?_
  refine JL.nil ?_
  refine JN.next ?_
  refine JC.seq ?_
  refine JC.region ?_
  refine JL.val rfl rfl (R.ldoN 2 (vs := [.slice aoa_2 na_2 capa_2, .slice aoa_3 na_3 capa_3]) S25 rfl rfl rfl rfl) ?_
  refine JL.val rfl rfl (R.ldo 1 S57 rfl rfl rfl) ?_
  refine JL.val rfl rfl (R.lenL U57 rfl (IsSlice.long ha_5)) ?_
  refine JL.val rfl rfl (R.fa F25_1 rfl) ?_
  refine JL.val rfl rfl (R.ldo 2 S23 rfl rfl rfl) ?_
  refine JL.val rfl rfl (R.lenL U23 rfl (IsSlice.long ha_3)) ?_
  refine JL.val rfl rfl (R.eql_i rfl rfl) ?_
  refine JL.val rfl rfl (R.func (vf := []) (vc := [_, _]) rfl rfl) ?_
  obtain ⟨x_9, hr_10, hx⟩ := bnd_some hx
  refine JL.callC (vs := [_, _, _]) (args := [_, _, _]) (K := [_, _]) (rst := [_]) E38 rfl rfl rfl (picks 2 rfl (picks 1 rfl picks0)) (dev_guarded_v3_ok p_1 (decide ((p_4.length : Int) = (p_1.Waits.length : Int))) p_1 p_4 _ ha_2 ha_3 ha_2 ha_3 ha_5 _ hr_10) rfl (fun u_11 Ku_11 Hu_11 hRu_11 hleu_11 hfu_11 => ?_)
  obtain ⟨aoz_12, nz_12, capz_12, aoz_13, nz_13, capz_13, aoz_14, nz_14, capz_14, aoz_15, nz_15, capz_15, aor_16, nr_16, capr_16, Kr_16, rfl, rfl, hz_12, hz_13, hz_14, hz_15, hr_16, hnewr_16, -⟩ := hRu_11
  replace hr_16 := (RowOf.base (RowOf.mono R_Write.mono (New.call (Hle.refl _)) hr_16) (fun p hp => (hfu_11 p (mem_seg 2 rfl hp)).resolve_left (hnewr_16 p hp)))
  replace hz_15 := IsSlice.mono (RSl.mono RU8.mono) (New.call (Hle.refl _)) hz_15
  refine JL.val rfl rfl (R.extract rfl rfl) ?_
  refine JL.val rfl rfl (R.extract rfl rfl) ?_
  refine JL.store 3 S25 rfl rfl rfl rfl rfl (Nat.le_of_ble_eq_true rfl) ?_
  refine JL.val rfl rfl (R.assign rfl) ?_
  refine JL.nil ?_
  refine JN.next ?_
  refine JC.ret ?_
  refine JN.outP (vs := [.agg #[.slice aoz_15 nz_15 capz_15, .slice aor_16 nr_16 capr_16], .int .i64 x_9.2.1]) (K := [_]) (rst := [_, _, _]) (.inl rfl) rfl rfl (Res.cellN 3 rfl rfl S25 (Res.tmp rfl rfl)) (picks 2 rfl picks0) ?_
  obtain rfl := Option.some.inj hx
  exact ⟨aoz_15, nz_15, capz_15, aor_16, nr_16, capr_16, Kr_16, rfl, rfl, hz_15, (RowOf.weak (Nat.zero_le _) hr_16), (new_ids hr_16 hlt), trivial⟩

set_option maxHeartbeats 1000000 in
theorem law11_LabelLost_ok (p_1 : Disk) (p_4 : Label) (p_5 : Bool) (H : Heaplet) {aoa_2 : Option Addr} {na_2 : Nat} {capa_2 : Nat} {aoa_3 : Option Addr} {na_3 : Nat} {capa_3 : Nat} (ha_2 : IsSlice H (RSl RU8 1) 1 (.slice aoa_2 na_2 capa_2) p_1.Blocks) (ha_3 : IsSlice H R_Write 2 (.slice aoa_3 na_3 capa_3) p_1.Waits) (r : Bool) (hx : law11_LabelLost p_1 p_4 p_5 = some r) :
    Does Try.prog 7 #[.agg #[.slice aoa_2 na_2 capa_2, .slice aoa_3 na_3 capa_3], .agg #[.int .u32 (p_4.Gen.toNat : Int), .int .u32 (p_4.Epoch.toNat : Int), .int .i64 p_4.Root.At, .int .u32 (p_4.Root.Birth.toNat : Int), .int .u32 (p_4.Root.Iv.toNat : Int), .int .u32 (p_4.Root.Tag.toNat : Int), .int .u32 (p_4.Root.Sum.toNat : Int)], .bool p_5] [] H (fun u K' H' => u = .bool r ∧ K' = [] ∧ True) := by
  refine Does.enterL (vs := [.agg #[.slice aoa_2 na_2 capa_2, .slice aoa_3 na_3 capa_3], .agg #[.int .u32 (p_4.Gen.toNat : Int), .int .u32 (p_4.Epoch.toNat : Int), .int .i64 p_4.Root.At, .int .u32 (p_4.Root.Birth.toNat : Int), .int .u32 (p_4.Root.Iv.toNat : Int), .int .u32 (p_4.Root.Tag.toNat : Int), .int .u32 (p_4.Root.Sum.toNat : Int)], .bool p_5]) (l := [(0, .agg #[.slice aoa_2 na_2 capa_2, .slice aoa_3 na_3 capa_3]), (1, .agg #[.int .u32 (p_4.Gen.toNat : Int), .int .u32 (p_4.Epoch.toNat : Int), .int .i64 p_4.Root.At, .int .u32 (p_4.Root.Birth.toNat : Int), .int .u32 (p_4.Root.Iv.toNat : Int), .int .u32 (p_4.Root.Tag.toNat : Int), .int .u32 (p_4.Root.Sum.toNat : Int)]), (2, .bool p_5)]) Try.func7 rfl rfl ⟨rfl, rfl, rfl, trivial⟩ (fun w hlt => ?_)
  rw [law11_LabelLost.eq_1] at hx
  refine JC.seq ?_
  refine JC.region ?_
  refine JL.box rfl rfl (fun b_6 hb_6 => ?_)
  refine JL.box rfl rfl (fun b_7 hb_7 => ?_)
  refine JL.val rfl rfl (R.assign rfl) ?_
  refine JL.nil ?_
  refine JN.next ?_
  refine JC.seq ?_
  refine JC.region ?_
  obtain ⟨x_8, hr_9, hx⟩ := bnd_some hx
  refine JL.callC (vs := []) (args := []) (K := []) (rst := [_, _]) E17 rfl rfl rfl picks0 (law11_alive_ok _ _ hr_9) rfl (fun u_10 Ku_10 Hu_10 hRu_10 hleu_10 hfu_10 => ?_)
  obtain ⟨rfl, rfl, -⟩ := hRu_10
  refine JL.val rfl rfl (R.assign rfl) ?_
  refine JL.nil ?_
  refine JN.next ?_
  refine JC.seq ?_
  refine JC.seq ?_
  refine JC.region ?_
  refine JL.val rfl rfl (R.move rfl) ?_
  refine JL.val rfl rfl (R.not rfl) ?_
  refine JL.nil ?_
  refine JN.next ?_
  refine JC.condB rfl (fun c_11 => ?_) (fun c_11 => ?_)
  · replace hx := cond_t c_11 hx
    refine JC.seq ?_
    refine JC.region ?_
    refine JL.val rfl rfl (R.assign rfl) ?_
    refine JL.nil ?_
    refine JN.next ?_
    refine JC.ret ?_
    refine JN.passR ?_
    refine JN.outP (vs := [.bool false]) (K := []) (rst := [_, _]) (.inl rfl) rfl rfl (Res.tmp rfl rfl) picks0 ?_
    obtain rfl := Option.some.inj hx
    exact ⟨rfl, rfl, trivial⟩
  · replace hx := cond_f c_11 hx
    refine JC.skip ?_
    refine JN.next ?_
    refine JC.seq ?_
    refine JC.seq ?_
    refine JC.region ?_
    refine JL.val rfl rfl (R.ldoN 1 (vs := [.slice aoa_2 na_2 capa_2, .slice aoa_3 na_3 capa_3]) S25 rfl rfl rfl rfl) ?_
    obtain ⟨x_12, hr_13, hx⟩ := bnd_some hx
    refine JL.callC (vs := [_]) (args := [_]) (K := []) (rst := [_, _]) E8 rfl rfl rfl picks0 (ref09_Great_ok p_1 _ (ha_2.mono (RSl.mono RU8.mono) hleu_10) (ha_3.mono R_Write.mono hleu_10) _ hr_13) rfl (fun u_14 Ku_14 Hu_14 hRu_14 hleu_14 hfu_14 => ?_)
    obtain ⟨rfl, rfl, rfl, -⟩ := hRu_14
    refine JL.val rfl rfl (R.move rfl) ?_
    refine JL.gSplit (t := 23) rfl (fun c_15 => ?_) (fun c_15 => ?_)
    · replace hx := cond_t c_15 hx
      refine JL.gNo rfl rfl rfl rfl rfl ?_
      refine JL.gNo rfl rfl rfl rfl rfl ?_
      refine JL.gNo rfl rfl rfl rfl rfl ?_
      refine JL.gNo rfl rfl rfl rfl rfl ?_
      refine JL.val rfl rfl (R.pickT rfl rfl) ?_
      refine JL.nil ?_
      refine JN.next ?_
      refine JC.condT rfl ?_
      refine JC.seq ?_
      refine JC.region ?_
      refine JL.val rfl rfl (R.move rfl) ?_
      refine JL.val rfl rfl (R.assign rfl) ?_
      refine JL.nil ?_
      refine JN.next ?_
      refine JC.ret ?_
      refine JN.passR ?_
      refine JN.outP (vs := [.bool x_8]) (K := []) (rst := [_, _]) (.inl rfl) rfl rfl (Res.tmp rfl rfl) picks0 ?_
      obtain rfl := Option.some.inj hx
      exact ⟨rfl, rfl, trivial⟩
    · replace hx := cond_f c_15 hx
      refine JL.gYes rfl rfl rfl ?_
      refine JL.val rfl rfl (R.fa F25_1 rfl) ?_
      refine JL.gYes rfl rfl rfl ?_
      refine JL.val rfl rfl (R.ldo 1 S23 rfl rfl rfl) ?_
      refine JL.gYes rfl rfl rfl ?_
      refine JL.val rfl rfl (R.lenL U23 rfl (IsSlice.long ha_3)) ?_
      refine JL.gYes rfl rfl rfl ?_
      refine JL.val rfl rfl (R.gtr_i rfl rfl) ?_
      refine JL.val rfl rfl (R.pickF rfl rfl) ?_
      refine JL.nil ?_
      refine JN.next ?_
      refine JC.condB rfl (fun c_16 => ?_) (fun c_16 => ?_)
      · replace hx := cond_t c_16 hx
        refine JC.seq ?_
        refine JC.region ?_
        refine JL.val rfl rfl (R.move rfl) ?_
        refine JL.val rfl rfl (R.assign rfl) ?_
        refine JL.nil ?_
        refine JN.next ?_
        refine JC.ret ?_
        refine JN.passR ?_
        refine JN.outP (vs := [.bool x_8]) (K := []) (rst := [_, _]) (.inl rfl) rfl rfl (Res.tmp rfl rfl) picks0 ?_
        obtain rfl := Option.some.inj hx
        exact ⟨rfl, rfl, trivial⟩
      · replace hx := cond_f c_16 hx
        refine JC.skip ?_
        refine JN.next ?_
        refine JC.seq ?_
        refine JC.region ?_
        refine JL.val rfl rfl (R.ldoN 1 (vs := [.slice aoa_2 na_2 capa_2, .slice aoa_3 na_3 capa_3]) S25 rfl rfl rfl rfl) ?_
        refine JL.val rfl rfl (R.ldoN 0 (vs := [.int .u32 (p_4.Gen.toNat : Int), .int .u32 (p_4.Epoch.toNat : Int), .int .i64 p_4.Root.At, .int .u32 (p_4.Root.Birth.toNat : Int), .int .u32 (p_4.Root.Iv.toNat : Int), .int .u32 (p_4.Root.Tag.toNat : Int), .int .u32 (p_4.Root.Sum.toNat : Int)]) S30 rfl rfl rfl rfl) ?_
        obtain ⟨x_17, hr_18, hx⟩ := bnd_some hx
        refine JL.callC (vs := [_, _]) (args := [_, _]) (K := []) (rst := [_, _]) E10 rfl rfl rfl picks0 (label_Put_ok p_1 p_4 _ (ha_2.mono (RSl.mono RU8.mono) hleu_10) (ha_3.mono R_Write.mono hleu_10) _ hr_18) rfl (fun u_19 Ku_19 Hu_19 hRu_19 hleu_19 hfu_19 => ?_)
        obtain ⟨aoz_20, nz_20, capz_20, aor_21, nr_21, capr_21, Kr_21, rfl, rfl, hz_20, hr_21, hnewr_21, -⟩ := hRu_19
        replace hr_21 := (RowOf.base (RowOf.mono R_Write.mono (New.call hleu_10) hr_21) (fun p hp => (hfu_19 p (mem_seg 0 rfl hp)).resolve_left (hnewr_21 p hp)))
        replace hz_20 := IsSlice.mono (RSl.mono RU8.mono) (New.call hleu_10) hz_20
        refine JL.val rfl rfl (R.move rfl) ?_
        refine JL.val rfl rfl (R.extract rfl rfl) ?_
        refine JL.val rfl rfl (R.extract rfl rfl) ?_
        refine JL.alloc Z25 rfl (fun b_22 hb_22 => ?_)
        refine JL.store 0 S25 rfl rfl rfl rfl rfl (Nat.le_of_ble_eq_true rfl) ?_
        refine JL.val rfl rfl (R.assign rfl) ?_
        refine JL.nil ?_
        refine JN.next ?_
        refine JC.seq ?_
        refine JC.seq ?_
        refine JC.region ?_
        refine JL.val rfl rfl (R.move rfl) ?_
        refine JL.val rfl rfl (R.neq_i rfl rfl) ?_
        refine JL.nil ?_
        refine JN.next ?_
        refine JC.condB rfl (fun c_23 => ?_) (fun c_23 => ?_)
        · replace hx := cond_t c_23 hx
          refine JC.seq ?_
          refine JC.region ?_
          refine JL.val rfl rfl (R.move rfl) ?_
          refine JL.val rfl rfl (R.assign rfl) ?_
          refine JL.nil ?_
          refine JN.next ?_
          refine JC.ret ?_
          refine JN.passR ?_
          refine JN.outP (vs := [.bool x_8]) (K := []) (rst := [_, _, _, _]) (.inl rfl) rfl rfl (Res.tmp rfl rfl) picks0 ?_
          obtain rfl := Option.some.inj hx
          exact ⟨rfl, rfl, trivial⟩
        · replace hx := cond_f c_23 hx
          refine JC.skip ?_
          refine JN.next ?_
          refine JC.seq ?_
          refine JC.region ?_
          refine JL.val rfl rfl (R.ldoN 0 (vs := [.slice aoz_20 nz_20 capz_20, .slice aor_21 nr_21 capr_21]) S25 rfl rfl rfl rfl) ?_
          refine JL.val rfl rfl (R.move rfl) ?_
          refine JL.bslF (HF := (New H Hu_19)) (R := RBool) (ls := [p_5]) (vs := [.bool p_5]) U57 I4 rfl rfl (⟨_, _, rfl, rfl, rfl, rfl⟩) RBool.one rfl rfl rfl (by simp [maxLen]) rfl (fun vr_24 Kr_24 hr_24 => ?_)
          obtain ⟨aor_24, capr_24, rfl⟩ := RowOf.val hr_24
          refine JL.pubN 2 R_Write.mono rfl hr_21 (Nat.le_refl _) (fun H_25 hleH_25 hsH_25 => ?_)
          refine JL.forget 2 ?_
          refine JL.pubN 0 RBool.mono rfl (hr_24.mono RBool.mono (New.mono hleH_25)) (Nat.le_refl _) (fun H_26 hleH_26 hsH_26 => ?_)
          refine JL.forget 0 ?_
          obtain ⟨x_27, hr_28, hx⟩ := bnd_some hx
          refine JL.callC (vs := [_, _]) (args := [_, _]) (K := []) (rst := [_, _, _]) E23 rfl rfl rfl picks0 (dev_Crash_ok x_17.1 ([p_5]) _ ((hz_20.mono (RSl.mono RU8.mono) (New.mono (hleH_25.trans hleH_26))).old (RSl.mono RU8.mono)) ((hsH_25.mono R_Write.mono (New.mono hleH_26)).old R_Write.mono) (hsH_26.old RBool.mono) _ hr_28) rfl (fun u_29 Ku_29 Hu_29 hRu_29 hleu_29 hfu_29 => ?_)
          obtain ⟨aoz_30, nz_30, capz_30, aor_31, nr_31, capr_31, Kr_31, rfl, rfl, hz_30, hr_31, hnewr_31, -⟩ := hRu_29
          replace hr_31 := (RowOf.base (RowOf.mono R_Write.mono (New.call (hleu_10.trans (hleu_19.trans (hleH_25.trans hleH_26)))) hr_31) (fun p hp => (hfu_29 p (mem_seg 0 rfl hp)).resolve_left (hnewr_31 p hp)))
          replace hz_30 := IsSlice.mono (RSl.mono RU8.mono) (New.call (hleu_10.trans (hleu_19.trans (hleH_25.trans hleH_26)))) hz_30
          refine JL.val rfl rfl (R.move rfl) ?_
          refine JL.val rfl rfl (R.extract rfl rfl) ?_
          refine JL.val rfl rfl (R.extract rfl rfl) ?_
          refine JL.alloc Z25 rfl (fun b_32 hb_32 => ?_)
          refine JL.store 0 S25 rfl rfl rfl rfl rfl (Nat.le_of_ble_eq_true rfl) ?_
          refine JL.val rfl rfl (R.assign rfl) ?_
          refine JL.nil ?_
          refine JN.next ?_
          refine JC.seq ?_
          refine JC.region ?_
          refine JL.val rfl rfl (R.ldoN 4 (vs := [.slice aoa_2 na_2 capa_2, .slice aoa_3 na_3 capa_3]) S25 rfl rfl rfl rfl) ?_
          obtain ⟨x_33, hr_34, hx⟩ := bnd_some hx
          refine JL.callC (vs := [_]) (args := [_]) (K := []) (rst := [_, _, _, _, _]) E12 rfl rfl rfl picks0 (label_Find_ok p_1 _ (ha_2.mono (RSl.mono RU8.mono) (hleu_10.trans (hleu_19.trans (hleH_25.trans (hleH_26.trans hleu_29))))) (ha_3.mono R_Write.mono (hleu_10.trans (hleu_19.trans (hleH_25.trans (hleH_26.trans hleu_29))))) _ hr_34) rfl (fun u_35 Ku_35 Hu_35 hRu_35 hleu_35 hfu_35 => ?_)
          obtain ⟨aor_36, nr_36, capr_36, Kr_36, rfl, rfl, hr_36, hnewr_36, -⟩ := hRu_35
          replace hr_36 := (RowOf.base (RowOf.const (H2 := New H Hu_35) R_Label.const hr_36) (fun p hp => (hfu_35 p (mem_seg 0 rfl hp)).resolve_left (hnewr_36 p hp)))
          refine JL.val rfl rfl (R.move rfl) ?_
          refine JL.val rfl rfl (R.extract rfl rfl) ?_
          refine JL.val rfl rfl (R.extract rfl rfl) ?_
          refine JL.val rfl rfl (R.assign rfl) ?_
          refine JL.val rfl rfl (R.assign rfl) ?_
          refine JL.nil ?_
          refine JN.next ?_
          refine JC.seq ?_
          refine JC.region ?_
          refine JL.val rfl rfl (R.ldoN 3 (vs := [.slice aoz_20 nz_20 capz_20, .slice aor_21 nr_21 capr_21]) S25 rfl rfl rfl rfl) ?_
          obtain ⟨x_37, hr_38, hx⟩ := bnd_some hx
          refine JL.callC (vs := [_]) (args := [_]) (K := []) (rst := [_, _, _, _, _, _]) E12 rfl rfl rfl picks0 (label_Find_ok x_17.1 _ ((hz_20.mono (RSl.mono RU8.mono) (New.mono (hleH_25.trans (hleH_26.trans (hleu_29.trans hleu_35))))).old (RSl.mono RU8.mono)) ((hsH_25.mono R_Write.mono (New.mono (hleH_26.trans (hleu_29.trans hleu_35)))).old R_Write.mono) _ hr_38) rfl (fun u_39 Ku_39 Hu_39 hRu_39 hleu_39 hfu_39 => ?_)
          obtain ⟨aor_40, nr_40, capr_40, Kr_40, rfl, rfl, hr_40, hnewr_40, -⟩ := hRu_39
          replace hr_40 := (RowOf.base (RowOf.const (H2 := New H Hu_39) R_Label.const hr_40) (fun p hp => (hfu_39 p (mem_seg 0 rfl hp)).resolve_left (hnewr_40 p hp)))
          refine JL.val rfl rfl (R.move rfl) ?_
          refine JL.val rfl rfl (R.extract rfl rfl) ?_
          refine JL.val rfl rfl (R.extract rfl rfl) ?_
          refine JL.val rfl rfl (R.assign rfl) ?_
          refine JL.val rfl rfl (R.assign rfl) ?_
          refine JL.nil ?_
          refine JN.next ?_
          refine JC.seq ?_
          refine JC.region ?_
          refine JL.val rfl rfl (R.ldoN 2 (vs := [.slice aoz_30 nz_30 capz_30, .slice aor_31 nr_31 capr_31]) S25 rfl rfl rfl rfl) ?_
          obtain ⟨x_44, hr_45, hx⟩ := bnd_some hx
          refine JL.callL3 (vs := [_]) E12 rfl rfl (fun H_43 hle_42 hl_41 => label_Find_ok x_27.1 _ (IsSlice.mono (RSl.mono RU8.mono) hle_42 ((hz_30.mono (RSl.mono RU8.mono) (New.mono (hleu_35.trans hleu_39))).old (RSl.mono RU8.mono))) (Lent.row' 3 hl_41 R_Write.mono hle_42 rfl ((hr_31.mono R_Write.mono (New.mono (hleu_35.trans hleu_39))).old R_Write.mono)) _ hr_45) rfl (fun _ _ _ _ hR_47 hf_48 => ?_)
          obtain ⟨aor_46, nr_46, capr_46, Kr_46, rfl, rfl, hr_46, -, -⟩ := hR_47
          replace hr_46 := RowOf.base (RowOf.const (H2 := New H Hu_39) R_Label.const hr_46) (fun p hp => hf_48 p (mem_seg 0 rfl hp))
          refine JL.val rfl rfl (R.move rfl) ?_
          refine JL.val rfl rfl (R.extract rfl rfl) ?_
          refine JL.val rfl rfl (R.extract rfl rfl) ?_
          refine JL.val rfl rfl (R.assign rfl) ?_
          refine JL.val rfl rfl (R.assign rfl) ?_
          refine JL.nil ?_
          refine JN.next ?_
          refine JC.seq ?_
          refine JC.seq ?_
          refine JC.region ?_
          refine JL.val rfl rfl (R.move rfl) ?_
          refine JL.val rfl rfl (R.neq_i rfl rfl) ?_
          refine JL.val rfl rfl (R.move rfl) ?_
          refine JL.gSplit (t := 63) rfl (fun c_49 => ?_) (fun c_49 => ?_)
          · replace hx := cond_t c_49 hx
            refine JL.gNo rfl rfl rfl rfl rfl ?_
            refine JL.gNo rfl rfl rfl rfl rfl ?_
            refine JL.val rfl rfl (R.pickT rfl rfl) ?_
            refine JL.val rfl rfl (R.move rfl) ?_
            refine JL.gNo rfl rfl rfl rfl rfl ?_
            refine JL.gNo rfl rfl rfl rfl rfl ?_
            refine JL.val rfl rfl (R.pickT rfl rfl) ?_
            refine JL.val rfl rfl (R.move rfl) ?_
            refine JL.gNo rfl rfl rfl rfl rfl ?_
            refine JL.gNo rfl rfl rfl rfl rfl ?_
            refine JL.val rfl rfl (R.pickT rfl rfl) ?_
            refine JL.nil ?_
            refine JN.next ?_
            refine JC.condT rfl ?_
            refine JC.seq ?_
            refine JC.region ?_
            refine JL.val rfl rfl (R.assign rfl) ?_
            refine JL.nil ?_
            refine JN.next ?_
            refine JC.ret ?_
            refine JN.passR ?_
            refine JN.outP (vs := [.bool false]) (K := []) (rst := [_, _, _, _, _, _, _, _]) (.inl rfl) rfl rfl (Res.tmp rfl rfl) picks0 ?_
            obtain rfl := Option.some.inj hx
            exact ⟨rfl, rfl, trivial⟩
          · replace hx := cond_f c_49 hx
            refine JL.gYes rfl rfl rfl ?_
            refine JL.val rfl rfl (R.move rfl) ?_
            refine JL.gYes rfl rfl rfl ?_
            refine JL.val rfl rfl (R.neq_i rfl rfl) ?_
            refine JL.val rfl rfl (R.pickF rfl rfl) ?_
            refine JL.val rfl rfl (R.move rfl) ?_
            refine JL.gSplit (t := 67) rfl (fun c_50 => ?_) (fun c_50 => ?_)
            · replace hx := cond_t c_50 hx
              refine JL.gNo rfl rfl rfl rfl rfl ?_
              refine JL.gNo rfl rfl rfl rfl rfl ?_
              refine JL.val rfl rfl (R.pickT rfl rfl) ?_
              refine JL.val rfl rfl (R.move rfl) ?_
              refine JL.gNo rfl rfl rfl rfl rfl ?_
              refine JL.gNo rfl rfl rfl rfl rfl ?_
              refine JL.val rfl rfl (R.pickT rfl rfl) ?_
              refine JL.nil ?_
              refine JN.next ?_
              refine JC.condT rfl ?_
              refine JC.seq ?_
              refine JC.region ?_
              refine JL.val rfl rfl (R.assign rfl) ?_
              refine JL.nil ?_
              refine JN.next ?_
              refine JC.ret ?_
              refine JN.passR ?_
              refine JN.outP (vs := [.bool false]) (K := []) (rst := [_, _, _, _, _, _, _, _]) (.inl rfl) rfl rfl (Res.tmp rfl rfl) picks0 ?_
              obtain rfl := Option.some.inj hx
              exact ⟨rfl, rfl, trivial⟩
            · replace hx := cond_f c_50 hx
              refine JL.gYes rfl rfl rfl ?_
              refine JL.val rfl rfl (R.move rfl) ?_
              refine JL.gYes rfl rfl rfl ?_
              refine JL.val rfl rfl (R.neq_i rfl rfl) ?_
              refine JL.val rfl rfl (R.pickF rfl rfl) ?_
              refine JL.val rfl rfl (R.move rfl) ?_
              refine JL.gSplit (t := 71) rfl (fun c_51 => ?_) (fun c_51 => ?_)
              · replace hx := cond_t c_51 hx
                refine JL.gNo rfl rfl rfl rfl rfl ?_
                refine JL.gNo rfl rfl rfl rfl rfl ?_
                refine JL.val rfl rfl (R.pickT rfl rfl) ?_
                refine JL.nil ?_
                refine JN.next ?_
                refine JC.condT rfl ?_
                refine JC.seq ?_
                refine JC.region ?_
                refine JL.val rfl rfl (R.assign rfl) ?_
                refine JL.nil ?_
                refine JN.next ?_
                refine JC.ret ?_
                refine JN.passR ?_
                refine JN.outP (vs := [.bool false]) (K := []) (rst := [_, _, _, _, _, _, _, _]) (.inl rfl) rfl rfl (Res.tmp rfl rfl) picks0 ?_
                obtain rfl := Option.some.inj hx
                exact ⟨rfl, rfl, trivial⟩
              · replace hx := cond_f c_51 hx
                refine JL.gYes rfl rfl rfl ?_
                refine JL.val rfl rfl (R.move rfl) ?_
                refine JL.gYes rfl rfl rfl ?_
                refine JL.val rfl rfl (R.neq_i rfl rfl) ?_
                refine JL.val rfl rfl (R.pickF rfl rfl) ?_
                refine JL.nil ?_
                refine JN.next ?_
                refine JC.condB rfl (fun c_52 => ?_) (fun c_52 => ?_)
                · replace hx := cond_t c_52 hx
                  refine JC.seq ?_
                  refine JC.region ?_
                  refine JL.val rfl rfl (R.assign rfl) ?_
                  refine JL.nil ?_
                  refine JN.next ?_
                  refine JC.ret ?_
                  refine JN.passR ?_
                  refine JN.outP (vs := [.bool false]) (K := []) (rst := [_, _, _, _, _, _, _, _]) (.inl rfl) rfl rfl (Res.tmp rfl rfl) picks0 ?_
                  obtain rfl := Option.some.inj hx
                  exact ⟨rfl, rfl, trivial⟩
                · replace hx := cond_f c_52 hx
                  refine JC.skip ?_
                  refine JN.next ?_
                  refine JC.seq ?_
                  obtain ⟨t_53, ht_55, hx⟩ := bnd_some hx
                  refine JC.cut (fun l o g => l = [(6, .bool t_53)] ∧ o = [] ∧ Hu_39 = g) ?_ ?_
                  · rintro _ _ _ ⟨rfl, rfl, rfl⟩
                    refine JN.next ?_
                    refine JC.ret ?_
                    refine JN.outP (vs := [.bool t_53]) (K := []) (rst := []) (.inl rfl) rfl rfl (Res.tmp rfl rfl) picks0 ?_
                    obtain rfl := Option.some.inj hx
                    exact ⟨rfl, rfl, trivial⟩
                  · have hxo_54 := hx; clear hx; have hx := ht_55; clear ht_55
                    refine JC.region ?_
                    refine JL.val rfl rfl (R.move rfl) ?_
                    refine JL.val rfl rfl (R.move rfl) ?_
                    refine JL.gSplit (t := 76) rfl (fun c_56 => ?_) (fun c_56 => ?_)
                    · replace hx := cond_t c_56 hx
                      refine JL.gYes rfl rfl rfl ?_
                      refine JL.val rfl rfl (R.move rfl) ?_
                      refine JL.gYes rfl rfl rfl ?_
                      refine JL.val rfl rfl (R.move rfl) ?_
                      refine JL.gSplit (t := 78) rfl (fun c_57 => ?_) (fun c_57 => ?_)
                      · replace hx := cond_t c_57 hx
                        refine JL.gYes rfl rfl rfl ?_
                        refine JL.val rfl rfl (R.move rfl) ?_
                        refine JL.gYes rfl rfl rfl ?_
                        refine JL.val rfl rfl (R.move rfl) ?_
                        refine JL.gYes rfl rfl rfl ?_
                        obtain ⟨x_61, hr_62, hx⟩ := bnd_some hx
                        refine JL.callL2 (vs := [_, _]) (v := .bool x_61) E21 rfl rfl (fun H_60 hle_59 hl_58 => Does.mono (law11_same_ok x_44.1 x_37.1 _ (Lent.row' 0 hl_58 R_Label.mono hle_59 rfl (hr_46.old R_Label.mono)) (Lent.row' 1 hl_58 R_Label.mono hle_59 rfl (hr_40.old R_Label.mono)) _ hr_62) (fun _ _ _ h => h.1)) rfl ?_
                        refine JL.gYes rfl rfl rfl ?_
                        refine JL.val rfl rfl (R.pickT rfl rfl) ?_
                        refine JL.gYes rfl rfl rfl ?_
                        refine JL.val rfl rfl (R.move rfl) ?_
                        refine JL.gSplit (t := 83) rfl (fun c_63 => ?_) (fun c_63 => ?_)
                        · replace hx := cond_t c_63 hx
                          refine JL.gNo rfl rfl rfl rfl rfl ?_
                          refine JL.gNo rfl rfl rfl rfl rfl ?_
                          refine JL.gNo rfl rfl rfl rfl rfl ?_
                          refine JL.gNoU rfl rfl rfl rfl ?_
                          refine JL.gNoU rfl rfl rfl rfl ?_
                          refine JL.gNoU rfl rfl rfl rfl ?_
                          refine JL.gNo rfl rfl rfl rfl rfl ?_
                          refine JL.gYes rfl rfl rfl ?_
                          refine JL.val rfl rfl (R.pickT rfl rfl) ?_
                          refine JL.val rfl rfl (R.pickT rfl rfl) ?_
                          refine JL.val rfl rfl (R.assign rfl) ?_
                          refine JL.nil ?_
                          obtain rfl := Option.some.inj hx
                          refine JN.forget 7 ?_
                          refine JN.forget 6 ?_
                          refine JN.forget 5 ?_
                          refine JN.forget 4 ?_
                          refine JN.forget 3 ?_
                          refine JN.forget 2 ?_
                          refine JN.forget 1 ?_
                          refine JN.forget 0 ?_
                          exact JN.cut ⟨rfl, rfl, rfl⟩ ⟨rfl, trivial⟩ rfl rfl
                        · replace hx := cond_f c_63 hx
                          refine JL.gYes rfl rfl rfl ?_
                          refine JL.val rfl rfl (R.move rfl) ?_
                          refine JL.gYes rfl rfl rfl ?_
                          refine JL.val rfl rfl (R.not rfl) ?_
                          refine JL.gYes rfl rfl rfl ?_
                          refine JL.val rfl rfl (R.move rfl) ?_
                          refine JL.gSplit (t := 86) rfl (fun c_64 => ?_) (fun c_64 => ?_)
                          · replace hx := cond_t c_64 hx
                            refine JL.gYes rfl rfl rfl ?_
                            refine JL.val rfl rfl (R.move rfl) ?_
                            refine JL.gYes rfl rfl rfl ?_
                            refine JL.val rfl rfl (R.move rfl) ?_
                            refine JL.gYes rfl rfl rfl ?_
                            obtain ⟨x_68, hr_69, hx⟩ := bnd_some hx
                            refine JL.callL2 (vs := [_, _]) (v := .bool x_68) E21 rfl rfl (fun H_67 hle_66 hl_65 => Does.mono (law11_same_ok x_44.1 x_33.1 _ (Lent.row' 0 hl_65 R_Label.mono hle_66 rfl (hr_46.old R_Label.mono)) (Lent.row' 2 hl_65 R_Label.mono hle_66 rfl ((hr_36.mono R_Label.mono (New.mono hleu_39)).old R_Label.mono)) _ hr_69) (fun _ _ _ h => h.1)) rfl ?_
                            refine JL.gYes rfl rfl rfl ?_
                            refine JL.val rfl rfl (R.pickT rfl rfl) ?_
                            refine JL.gYes rfl rfl rfl ?_
                            refine JL.val rfl rfl (R.pickF rfl rfl) ?_
                            refine JL.val rfl rfl (R.pickT rfl rfl) ?_
                            refine JL.val rfl rfl (R.assign rfl) ?_
                            refine JL.nil ?_
                            obtain rfl := Option.some.inj hx
                            refine JN.forget 7 ?_
                            refine JN.forget 6 ?_
                            refine JN.forget 5 ?_
                            refine JN.forget 4 ?_
                            refine JN.forget 3 ?_
                            refine JN.forget 2 ?_
                            refine JN.forget 1 ?_
                            refine JN.forget 0 ?_
                            exact JN.cut ⟨rfl, rfl, rfl⟩ ⟨rfl, trivial⟩ rfl rfl
                          · replace hx := cond_f c_64 hx
                            refine JL.gNo rfl rfl rfl rfl rfl ?_
                            refine JL.gNo rfl rfl rfl rfl rfl ?_
                            refine JL.gNo rfl rfl rfl rfl rfl ?_
                            refine JL.gYes rfl rfl rfl ?_
                            refine JL.val rfl rfl (R.pickF rfl rfl) ?_
                            refine JL.gYes rfl rfl rfl ?_
                            refine JL.val rfl rfl (R.pickF rfl rfl) ?_
                            refine JL.val rfl rfl (R.pickT rfl rfl) ?_
                            refine JL.val rfl rfl (R.assign rfl) ?_
                            refine JL.nil ?_
                            obtain rfl := Option.some.inj hx
                            refine JN.forget 7 ?_
                            refine JN.forget 6 ?_
                            refine JN.forget 5 ?_
                            refine JN.forget 4 ?_
                            refine JN.forget 3 ?_
                            refine JN.forget 2 ?_
                            refine JN.forget 1 ?_
                            refine JN.forget 0 ?_
                            exact JN.cut ⟨rfl, rfl, rfl⟩ ⟨rfl, trivial⟩ rfl rfl
                      · replace hx := cond_f c_57 hx
                        refine JL.gNo rfl rfl rfl rfl rfl ?_
                        refine JL.gNo rfl rfl rfl rfl rfl ?_
                        refine JL.gNo rfl rfl rfl rfl rfl ?_
                        refine JL.gYes rfl rfl rfl ?_
                        refine JL.val rfl rfl (R.pickF rfl rfl) ?_
                        refine JL.gYes rfl rfl rfl ?_
                        refine JL.val rfl rfl (R.move rfl) ?_
                        refine JL.gYes rfl rfl rfl ?_
                        refine JL.val rfl rfl (R.move rfl) ?_
                        refine JL.gYes rfl rfl rfl ?_
                        refine JL.val rfl rfl (R.not rfl) ?_
                        refine JL.gYes rfl rfl rfl ?_
                        refine JL.val rfl rfl (R.move rfl) ?_
                        refine JL.gSplit (t := 86) rfl (fun c_70 => ?_) (fun c_70 => ?_)
                        · replace hx := cond_t c_70 hx
                          refine JL.gYes rfl rfl rfl ?_
                          refine JL.val rfl rfl (R.move rfl) ?_
                          refine JL.gYes rfl rfl rfl ?_
                          refine JL.val rfl rfl (R.move rfl) ?_
                          refine JL.gYes rfl rfl rfl ?_
                          obtain ⟨x_74, hr_75, hx⟩ := bnd_some hx
                          refine JL.callL2 (vs := [_, _]) (v := .bool x_74) E21 rfl rfl (fun H_73 hle_72 hl_71 => Does.mono (law11_same_ok x_44.1 x_33.1 _ (Lent.row' 0 hl_71 R_Label.mono hle_72 rfl (hr_46.old R_Label.mono)) (Lent.row' 2 hl_71 R_Label.mono hle_72 rfl ((hr_36.mono R_Label.mono (New.mono hleu_39)).old R_Label.mono)) _ hr_75) (fun _ _ _ h => h.1)) rfl ?_
                          refine JL.gYes rfl rfl rfl ?_
                          refine JL.val rfl rfl (R.pickT rfl rfl) ?_
                          refine JL.gYes rfl rfl rfl ?_
                          refine JL.val rfl rfl (R.pickF rfl rfl) ?_
                          refine JL.val rfl rfl (R.pickT rfl rfl) ?_
                          refine JL.val rfl rfl (R.assign rfl) ?_
                          refine JL.nil ?_
                          obtain rfl := Option.some.inj hx
                          refine JN.forget 7 ?_
                          refine JN.forget 6 ?_
                          refine JN.forget 5 ?_
                          refine JN.forget 4 ?_
                          refine JN.forget 3 ?_
                          refine JN.forget 2 ?_
                          refine JN.forget 1 ?_
                          refine JN.forget 0 ?_
                          exact JN.cut ⟨rfl, rfl, rfl⟩ ⟨rfl, trivial⟩ rfl rfl
                        · replace hx := cond_f c_70 hx
                          refine JL.gNo rfl rfl rfl rfl rfl ?_
                          refine JL.gNo rfl rfl rfl rfl rfl ?_
                          refine JL.gNo rfl rfl rfl rfl rfl ?_
                          refine JL.gYes rfl rfl rfl ?_
                          refine JL.val rfl rfl (R.pickF rfl rfl) ?_
                          refine JL.gYes rfl rfl rfl ?_
                          refine JL.val rfl rfl (R.pickF rfl rfl) ?_
                          refine JL.val rfl rfl (R.pickT rfl rfl) ?_
                          refine JL.val rfl rfl (R.assign rfl) ?_
                          refine JL.nil ?_
                          obtain rfl := Option.some.inj hx
                          refine JN.forget 7 ?_
                          refine JN.forget 6 ?_
                          refine JN.forget 5 ?_
                          refine JN.forget 4 ?_
                          refine JN.forget 3 ?_
                          refine JN.forget 2 ?_
                          refine JN.forget 1 ?_
                          refine JN.forget 0 ?_
                          exact JN.cut ⟨rfl, rfl, rfl⟩ ⟨rfl, trivial⟩ rfl rfl
                    · replace hx := cond_f c_56 hx
                      refine JL.gNo rfl rfl rfl rfl rfl ?_
                      refine JL.gNo rfl rfl rfl rfl rfl ?_
                      refine JL.gNoU rfl rfl rfl rfl ?_
                      refine JL.gNoU rfl rfl rfl rfl ?_
                      refine JL.gNoU rfl rfl rfl rfl ?_
                      refine JL.gNo rfl rfl rfl rfl rfl ?_
                      refine JL.gNo rfl rfl rfl rfl rfl ?_
                      refine JL.gNoU rfl rfl rfl rfl ?_
                      refine JL.gNoU rfl rfl rfl rfl ?_
                      refine JL.gNoU rfl rfl rfl rfl ?_
                      refine JL.gNoU rfl rfl rfl rfl ?_
                      refine JL.gNoU rfl rfl rfl rfl ?_
                      refine JL.gNoU rfl rfl rfl rfl ?_
                      refine JL.gNoU rfl rfl rfl rfl ?_
                      refine JL.gNo rfl rfl rfl rfl rfl ?_
                      refine JL.val rfl rfl (R.pickF rfl rfl) ?_
                      refine JL.val rfl rfl (R.assign rfl) ?_
                      refine JL.nil ?_
                      obtain rfl := Option.some.inj hx
                      refine JN.forget 7 ?_
                      refine JN.forget 6 ?_
                      refine JN.forget 5 ?_
                      refine JN.forget 4 ?_
                      refine JN.forget 3 ?_
                      refine JN.forget 2 ?_
                      refine JN.forget 1 ?_
                      refine JN.forget 0 ?_
                      exact JN.cut ⟨rfl, rfl, rfl⟩ ⟨rfl, trivial⟩ rfl rfl
end Go.Proofs.Ytabnbobdjckdmaa
