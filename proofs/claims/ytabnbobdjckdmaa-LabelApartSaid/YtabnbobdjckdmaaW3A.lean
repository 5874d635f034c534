/- walks: what the code computes, function by function. -/
import Derived.Test.YtabnbobdjckdmaaW2p1
namespace Go.Proofs.Ytabnbobdjckdmaa
open Go.Ow Go.RowKit Go.Proofs
set_option linter.unusedVariables false
set_option linter.unusedSimpArgs false
set_option maxHeartbeats 1000000 in
theorem law11_same_ok (p_1 : List Label) (p_3 : List Label) (H : Heaplet) {aoa_2 : Option Addr} {na_2 : Nat} {capa_2 : Nat} {aoa_4 : Option Addr} {na_4 : Nat} {capa_4 : Nat} (ha_2 : IsSlice H R_Label 7 (.slice aoa_2 na_2 capa_2) p_1) (ha_4 : IsSlice H R_Label 7 (.slice aoa_4 na_4 capa_4) p_3) (r : Bool) (hx : law11_same p_1 p_3 = some r) :
    Does Try.prog 21 #[.slice aoa_2 na_2 capa_2, .slice aoa_4 na_4 capa_4] [] H (fun u K' H' => u = .bool r ∧ K' = [] ∧ H = H' ∧ True) := by
  refine Does.enterL (vs := [.slice aoa_2 na_2 capa_2, .slice aoa_4 na_4 capa_4]) (l := [(0, .slice aoa_2 na_2 capa_2), (1, .slice aoa_4 na_4 capa_4)]) Try.func21 rfl rfl ⟨rfl, rfl, trivial⟩ (fun w hlt => ?_)
  rw [law11_same.eq_1] at hx
  refine JC.seq ?_
  refine JC.region ?_
  refine JL.val rfl rfl (R.assign rfl) ?_
  refine JL.nil ?_
  refine JN.next ?_
  refine JC.seq ?_
  refine JC.seq ?_
  refine JC.region ?_
  refine JL.val rfl rfl (R.assign rfl) ?_
  refine JL.nil ?_
  refine JN.next ?_
  obtain ⟨t_5, ht_7, hx⟩ := bnd_some hx
  refine JC.cut (fun l o g => ∃ t_5a : Unit, l = [(0, .slice aoa_2 na_2 capa_2), (1, .slice aoa_4 na_4 capa_4)] ∧ o = [] ∧ H = g ∧ t_5 = .inl t_5a) ?_ ?_
  · rintro _ _ _ ⟨t_5a, rfl, rfl, rfl, rfl⟩
    simp only [Sum.elim_inl] at hx
    refine JN.next ?_
    refine JC.seq ?_
    refine JC.region ?_
    refine JL.val rfl rfl (R.move rfl) ?_
    refine JL.val rfl rfl (R.lenL U38 rfl (IsSlice.long ha_2)) ?_
    refine JL.val rfl rfl (R.move rfl) ?_
    refine JL.val rfl rfl (R.lenL U38 rfl (IsSlice.long ha_4)) ?_
    refine JL.val rfl rfl (R.eql_i rfl rfl) ?_
    refine JL.val rfl rfl (R.assign rfl) ?_
    refine JL.nil ?_
    refine JN.next ?_
    refine JC.ret ?_
    refine JN.outP (vs := [.bool (decide ((p_1.length : Int) = (p_3.length : Int)))]) (K := []) (rst := []) (.inl rfl) rfl rfl (Res.tmp rfl rfl) picks0 ?_
    obtain rfl := Option.some.inj hx
    exact ⟨rfl, rfl, rfl, trivial⟩
  · have hxo_6 := hx; clear hx; have hx := ht_7; clear ht_7
    refine JC.block ?_
    refine JC.loopI (fun n l o g => ∃ s_8 : Nat, l = [(0, .slice aoa_2 na_2 capa_2), (1, .slice aoa_4 na_4 capa_4), (5, .int .i64 ((s_8 : Nat) : Int))] ∧ o = [] ∧ H = g ∧ run (law11_same_l1 p_1 p_3) n s_8 = some t_5) FUEL ?_ ⟨0, rfl, rfl, rfl, hx⟩ ⟨rfl, rfl, rfl, trivial⟩ ?_
    · rintro _ _ _ ⟨s_8, rfl, rfl, rfl, hn_9⟩
      exact run_zero hn_9
    · rintro n_10 _ _ _ ⟨s_8, rfl, rfl, rfl, hn_9⟩
      clear hx; obtain ⟨oo_12, hx, hd_11⟩ := run_some hn_9
      rw [law11_same_l1.eq_1] at hx
      refine JC.seq ?_
      refine JC.seq ?_
      refine JC.region ?_
      refine JL.val rfl rfl (R.move rfl) ?_
      refine JL.val rfl rfl (R.move rfl) ?_
      refine JL.val rfl rfl (R.lenL U38 rfl (IsSlice.long ha_2)) ?_
      refine JL.val rfl rfl (R.lss_i rfl rfl) ?_
      refine JL.val rfl rfl (R.move rfl) ?_
      refine JL.gSplit (t := 10) rfl (fun c_11 => ?_) (fun c_11 => ?_)
      · replace hx := cond_t c_11 hx
        refine JL.gYes rfl rfl rfl ?_
        refine JL.val rfl rfl (R.move rfl) ?_
        refine JL.gYes rfl rfl rfl ?_
        refine JL.val rfl rfl (R.move rfl) ?_
        refine JL.gYes rfl rfl rfl ?_
        refine JL.val rfl rfl (R.lenL U38 rfl (IsSlice.long ha_4)) ?_
        refine JL.gYes rfl rfl rfl ?_
        refine JL.val rfl rfl (R.lss_i rfl rfl) ?_
        refine JL.val rfl rfl (R.pickT rfl rfl) ?_
        refine JL.nil ?_
        refine JN.next ?_
        refine JC.condB rfl (fun c_12 => ?_) (fun c_12 => ?_)
        · replace hx := cond_t c_12 hx
          refine JC.skip ?_
          refine JN.next ?_
          refine JC.seq ?_
          refine JC.block ?_
          refine JC.seq ?_
          refine JC.draw (so := []) 9 rfl Mixed trivial ?_
          refine JA.val ⟨by kernel_rfl, by kernel_rfl⟩ (calm_only _) (i := 0) rfl ⟨by kernel_rfl, by kernel_rfl, rfl⟩ trivial (stab_of (Hle.refl _) trivial) (R.move rfl) rfl ?_
          refine JA.val ⟨by kernel_rfl, by kernel_rfl⟩ (calm_only _) (i := 1) rfl ⟨by kernel_rfl, by kernel_rfl, rfl⟩ trivial (stab_of (Hle.refl _) trivial) (R.move rfl) rfl ?_
          obtain ⟨y_13, hN_14, hx⟩ := idx_some hx
          obtain ⟨b_15, o_16, cs_17, hE_18, hR_19, hl_20, hc_21⟩ := IsSlice.elem ha_2 hN_14
          obtain rfl := hR_19
          refine JA.val ⟨by kernel_rfl, by kernel_rfl⟩ (calm_only _) (i := 2) rfl ⟨by kernel_rfl, by kernel_rfl, rfl⟩ trivial (stab_of (Hle.refl _) trivial) (R.ix U38 S30 rfl rfl hE_18) rfl ?_
          refine JA.val ⟨by kernel_rfl, by kernel_rfl⟩ (calm_only _) (i := 3) rfl ⟨by kernel_rfl, by kernel_rfl, rfl⟩ trivial (stab_of (Hle.refl _) trivial) (R.ldHE (cs := [.int .u32 (y_13.Gen.toNat : Int), .int .u32 (y_13.Epoch.toNat : Int), .int .i64 y_13.Root.At, .int .u32 (y_13.Root.Birth.toNat : Int), .int .u32 (y_13.Root.Iv.toNat : Int), .int .u32 (y_13.Root.Tag.toNat : Int), .int .u32 (y_13.Root.Sum.toNat : Int)]) (k := 0) (vs := [.int .u32 (y_13.Gen.toNat : Int), .int .u32 (y_13.Epoch.toNat : Int), .int .i64 y_13.Root.At, .int .u32 (y_13.Root.Birth.toNat : Int), .int .u32 (y_13.Root.Iv.toNat : Int), .int .u32 (y_13.Root.Tag.toNat : Int), .int .u32 (y_13.Root.Sum.toNat : Int)]) S30 rfl hc_21 rfl rfl) rfl ?_
          refine JA.val ⟨by kernel_rfl, by kernel_rfl⟩ (calm_only _) (i := 4) rfl ⟨by kernel_rfl, by kernel_rfl, rfl⟩ trivial (stab_of (Hle.refl _) trivial) (R.move rfl) rfl ?_
          refine JA.val ⟨by kernel_rfl, by kernel_rfl⟩ (calm_only _) (i := 5) rfl ⟨by kernel_rfl, by kernel_rfl, rfl⟩ trivial (stab_of (Hle.refl _) trivial) (R.move rfl) rfl ?_
          obtain ⟨y_22, hN_23, hx⟩ := idx_some hx
          obtain ⟨b_24, o_25, cs_26, hE_27, hR_28, hl_29, hc_30⟩ := IsSlice.elem ha_4 hN_23
          obtain rfl := hR_28
          refine JA.val ⟨by kernel_rfl, by kernel_rfl⟩ (calm_only _) (i := 6) rfl ⟨by kernel_rfl, by kernel_rfl, rfl⟩ trivial (stab_of (Hle.refl _) trivial) (R.ix U38 S30 rfl rfl hE_27) rfl ?_
          refine JA.val ⟨by kernel_rfl, by kernel_rfl⟩ (calm_only _) (i := 7) rfl ⟨by kernel_rfl, by kernel_rfl, rfl⟩ trivial (stab_of (Hle.refl _) trivial) (R.ldHE (cs := [.int .u32 (y_22.Gen.toNat : Int), .int .u32 (y_22.Epoch.toNat : Int), .int .i64 y_22.Root.At, .int .u32 (y_22.Root.Birth.toNat : Int), .int .u32 (y_22.Root.Iv.toNat : Int), .int .u32 (y_22.Root.Tag.toNat : Int), .int .u32 (y_22.Root.Sum.toNat : Int)]) (k := 0) (vs := [.int .u32 (y_22.Gen.toNat : Int), .int .u32 (y_22.Epoch.toNat : Int), .int .i64 y_22.Root.At, .int .u32 (y_22.Root.Birth.toNat : Int), .int .u32 (y_22.Root.Iv.toNat : Int), .int .u32 (y_22.Root.Tag.toNat : Int), .int .u32 (y_22.Root.Sum.toNat : Int)]) S30 rfl hc_30 rfl rfl) rfl ?_
          refine JA.val ⟨by kernel_rfl, by kernel_rfl⟩ (calm_only _) (i := 8) rfl ⟨by kernel_rfl, by kernel_rfl, rfl⟩ trivial (stab_of (Hle.refl _) trivial) (R.neqAgg QU30 QP30 QG30 QF30 rfl rfl (EqF.u32 (a := y_13.Gen) (b := y_22.Gen) (by decide) S26 U26 rfl rfl (EqF.u32 (a := y_13.Epoch) (b := y_22.Epoch) (by decide) S26 U26 rfl rfl (EqF.s (by decide) S28 QU28 QP28 QF28 rfl rfl (EqF.i (by decide) S3 U3 rfl rfl (EqF.u32 (a := y_13.Root.Birth) (b := y_22.Root.Birth) (by decide) S26 U26 rfl rfl (EqF.u32 (a := y_13.Root.Iv) (b := y_22.Root.Iv) (by decide) S26 U26 rfl rfl (EqF.u32 (a := y_13.Root.Tag) (b := y_22.Root.Tag) (by decide) S26 U26 rfl rfl (EqF.u32 (a := y_13.Root.Sum) (b := y_22.Root.Sum) (by decide) S26 U26 rfl rfl EqF.nil))))) EqF.nil)))) rfl ?_
          refine JA.doneN (by kernel_rfl) ?_
          refine JN.next ?_
          refine JC.condB rfl (fun c_31 => ?_) (fun c_31 => ?_)
          · replace hx := cond_t c_31 hx
            refine JC.seq ?_
            refine JC.region ?_
            refine JL.val rfl rfl (R.assign rfl) ?_
            refine JL.nil ?_
            refine JN.next ?_
            refine JC.ret ?_
            refine JN.blkR ?_
            refine JN.passR ?_
            obtain rfl := run_done hd_11 hx
            refine JN.passR ?_
            refine JN.blkR ?_
            clear hx; have hx := hxo_6
            simp only [Sum.elim_inl, Sum.elim_inr] at hx
            refine JN.passR ?_
            refine JN.passR ?_
            refine JN.outP (vs := [.bool false]) (K := []) (rst := []) (.inl rfl) rfl rfl (Res.tmp rfl rfl) picks0 ?_
            obtain rfl := Option.some.inj hx
            exact ⟨rfl, rfl, rfl, trivial⟩
          · replace hx := cond_f c_31 hx
            refine JC.skip ?_
            refine JN.blkN ?_
            refine JN.next ?_
            refine JC.region ?_
            refine JL.val rfl rfl (R.move rfl) ?_
            refine JL.val rfl rfl (R.inc rfl rfl (of_decide_eq_true c_11) (IsSlice.lenI ha_2)) ?_
            refine JL.val rfl rfl (R.assign rfl) ?_
            refine JL.nil ?_
            replace hx := run_next hd_11 hx
            exact JN.cut ⟨s_8 + 1, rfl, rfl, rfl, hx⟩ ⟨rfl, rfl, rfl, trivial⟩ rfl rfl
        · replace hx := cond_f c_12 hx
          refine JC.exit ?_
          refine JN.passX ?_
          obtain rfl := run_done hd_11 hx
          refine JN.passX ?_
          refine JN.exitSame ?_
          exact JN.cut ⟨(), rfl, rfl, rfl, rfl⟩ ⟨rfl, rfl, trivial⟩ rfl rfl
      · replace hx := cond_f c_11 hx
        refine JL.gNo rfl rfl rfl rfl rfl ?_
        refine JL.gNo rfl rfl rfl rfl rfl ?_
        refine JL.gNo rfl rfl rfl rfl rfl ?_
        refine JL.gNo rfl rfl rfl rfl rfl ?_
        refine JL.val rfl rfl (R.pickF rfl rfl) ?_
        refine JL.nil ?_
        refine JN.next ?_
        refine JC.condF rfl ?_
        refine JC.exit ?_
        refine JN.passX ?_
        obtain rfl := run_done hd_11 hx
        refine JN.passX ?_
        refine JN.exitSame ?_
        exact JN.cut ⟨(), rfl, rfl, rfl, rfl⟩ ⟨rfl, rfl, trivial⟩ rfl rfl

set_option maxHeartbeats 1000000 in
theorem law11_LabelApart_ok (p_1 : Disk) (p_4 : Label) (p_5 : Label) (p_6 : Int) (p_7 : List UInt8) (H : Heaplet) {aoa_2 : Option Addr} {na_2 : Nat} {capa_2 : Nat} {aoa_3 : Option Addr} {na_3 : Nat} {capa_3 : Nat} {aoa_8 : Option Addr} {na_8 : Nat} {capa_8 : Nat} (ha_2 : IsSlice H (RSl RU8 1) 1 (.slice aoa_2 na_2 capa_2) p_1.Blocks) (ha_3 : IsSlice H R_Write 2 (.slice aoa_3 na_3 capa_3) p_1.Waits) (ha_8 : IsSlice H RU8 1 (.slice aoa_8 na_8 capa_8) p_7) (r : Bool) (hx : law11_LabelApart p_1 p_4 p_5 p_6 p_7 = some r) :
    Does Try.prog 6 #[.agg #[.slice aoa_2 na_2 capa_2, .slice aoa_3 na_3 capa_3], .agg #[.int .u32 (p_4.Gen.toNat : Int), .int .u32 (p_4.Epoch.toNat : Int), .int .i64 p_4.Root.At, .int .u32 (p_4.Root.Birth.toNat : Int), .int .u32 (p_4.Root.Iv.toNat : Int), .int .u32 (p_4.Root.Tag.toNat : Int), .int .u32 (p_4.Root.Sum.toNat : Int)], .agg #[.int .u32 (p_5.Gen.toNat : Int), .int .u32 (p_5.Epoch.toNat : Int), .int .i64 p_5.Root.At, .int .u32 (p_5.Root.Birth.toNat : Int), .int .u32 (p_5.Root.Iv.toNat : Int), .int .u32 (p_5.Root.Tag.toNat : Int), .int .u32 (p_5.Root.Sum.toNat : Int)], .int .i64 p_6, .slice aoa_8 na_8 capa_8] [] H (fun u K' H' => u = .bool r ∧ K' = [] ∧ True) := by
  refine Does.enterL (vs := [.agg #[.slice aoa_2 na_2 capa_2, .slice aoa_3 na_3 capa_3], .agg #[.int .u32 (p_4.Gen.toNat : Int), .int .u32 (p_4.Epoch.toNat : Int), .int .i64 p_4.Root.At, .int .u32 (p_4.Root.Birth.toNat : Int), .int .u32 (p_4.Root.Iv.toNat : Int), .int .u32 (p_4.Root.Tag.toNat : Int), .int .u32 (p_4.Root.Sum.toNat : Int)], .agg #[.int .u32 (p_5.Gen.toNat : Int), .int .u32 (p_5.Epoch.toNat : Int), .int .i64 p_5.Root.At, .int .u32 (p_5.Root.Birth.toNat : Int), .int .u32 (p_5.Root.Iv.toNat : Int), .int .u32 (p_5.Root.Tag.toNat : Int), .int .u32 (p_5.Root.Sum.toNat : Int)], .int .i64 p_6, .slice aoa_8 na_8 capa_8]) (l := [(0, .agg #[.slice aoa_2 na_2 capa_2, .slice aoa_3 na_3 capa_3]), (1, .agg #[.int .u32 (p_4.Gen.toNat : Int), .int .u32 (p_4.Epoch.toNat : Int), .int .i64 p_4.Root.At, .int .u32 (p_4.Root.Birth.toNat : Int), .int .u32 (p_4.Root.Iv.toNat : Int), .int .u32 (p_4.Root.Tag.toNat : Int), .int .u32 (p_4.Root.Sum.toNat : Int)]), (2, .agg #[.int .u32 (p_5.Gen.toNat : Int), .int .u32 (p_5.Epoch.toNat : Int), .int .i64 p_5.Root.At, .int .u32 (p_5.Root.Birth.toNat : Int), .int .u32 (p_5.Root.Iv.toNat : Int), .int .u32 (p_5.Root.Tag.toNat : Int), .int .u32 (p_5.Root.Sum.toNat : Int)]), (3, .int .i64 p_6), (4, .slice aoa_8 na_8 capa_8)]) Try.func6 rfl rfl ⟨rfl, rfl, rfl, rfl, rfl, trivial⟩ (fun w hlt => ?_)
  rw [law11_LabelApart.eq_1] at hx
  refine JC.seq ?_
  refine JC.region ?_
  refine JL.box rfl rfl (fun b_9 hb_9 => ?_)
  refine JL.box rfl rfl (fun b_10 hb_10 => ?_)
  refine JL.box rfl rfl (fun b_11 hb_11 => ?_)
  refine JL.val rfl rfl (R.assign rfl) ?_
  refine JL.nil ?_
  refine JN.next ?_
  refine JC.seq ?_
  refine JC.region ?_
  obtain ⟨x_12, hr_13, hx⟩ := bnd_some hx
  refine JL.callC (vs := []) (args := []) (K := []) (rst := [_, _, _]) E17 rfl rfl rfl picks0 (law11_alive_ok _ _ hr_13) rfl (fun u_14 Ku_14 Hu_14 hRu_14 hleu_14 hfu_14 => ?_)
  obtain ⟨rfl, rfl, -⟩ := hRu_14
  refine JL.val rfl rfl (R.assign rfl) ?_
  refine JL.nil ?_
  refine JN.next ?_
  refine JC.seq ?_
  refine JC.seq ?_
  refine JC.region ?_
  refine JL.val rfl rfl (R.move rfl) ?_
  refine JL.val rfl rfl (R.not rfl) ?_
  refine JL.nil ?_
  refine JN.next ?_
  refine JC.condB rfl (fun c_15 => ?_) (fun c_15 => ?_)
  · replace hx := cond_t c_15 hx
    refine JC.seq ?_
    refine JC.region ?_
    refine JL.val rfl rfl (R.assign rfl) ?_
    refine JL.nil ?_
    refine JN.next ?_
    refine JC.ret ?_
    refine JN.passR ?_
    refine JN.outP (vs := [.bool false]) (K := []) (rst := [_, _, _]) (.inl rfl) rfl rfl (Res.tmp rfl rfl) picks0 ?_
    obtain rfl := Option.some.inj hx
    exact ⟨rfl, rfl, trivial⟩
  · replace hx := cond_f c_15 hx
    refine JC.skip ?_
    refine JN.next ?_
    refine JC.seq ?_
    refine JC.seq ?_
    refine JC.region ?_
    refine JL.val rfl rfl (R.ldoN 2 (vs := [.slice aoa_2 na_2 capa_2, .slice aoa_3 na_3 capa_3]) S25 rfl rfl rfl rfl) ?_
    obtain ⟨x_16, hr_17, hx⟩ := bnd_some hx
    refine JL.callC (vs := [_]) (args := [_]) (K := []) (rst := [_, _, _]) E8 rfl rfl rfl picks0 (ref09_Great_ok p_1 _ (ha_2.mono (RSl.mono RU8.mono) hleu_14) (ha_3.mono R_Write.mono hleu_14) _ hr_17) rfl (fun u_18 Ku_18 Hu_18 hRu_18 hleu_18 hfu_18 => ?_)
    obtain ⟨rfl, rfl, rfl, -⟩ := hRu_18
    refine JL.val rfl rfl (R.move rfl) ?_
    refine JL.gSplit (t := 35) rfl (fun c_19 => ?_) (fun c_19 => ?_)
    · replace hx := cond_t c_19 hx
      refine JL.gNo rfl rfl rfl rfl rfl ?_
      refine JL.gNo rfl rfl rfl rfl rfl ?_
      refine JL.gNo rfl rfl rfl rfl rfl ?_
      refine JL.val rfl rfl (R.pickT rfl rfl) ?_
      refine JL.nil ?_
      refine JN.next ?_
      refine JC.condT rfl ?_
      refine JC.seq ?_
      refine JC.region ?_
      refine JL.val rfl rfl (R.move rfl) ?_
      refine JL.val rfl rfl (R.assign rfl) ?_
      refine JL.nil ?_
      refine JN.next ?_
      refine JC.ret ?_
      refine JN.passR ?_
      refine JN.outP (vs := [.bool x_12]) (K := []) (rst := [_, _, _]) (.inl rfl) rfl rfl (Res.tmp rfl rfl) picks0 ?_
      obtain rfl := Option.some.inj hx
      exact ⟨rfl, rfl, trivial⟩
    · replace hx := cond_f c_19 hx
      refine JL.gYes rfl rfl rfl ?_
      refine JL.val rfl rfl (R.move rfl) ?_
      refine JL.gYes rfl rfl rfl ?_
      refine JL.val rfl rfl (R.lenL U45 rfl (IsSlice.long ha_8)) ?_
      refine JL.gYes rfl rfl rfl ?_
      refine JL.val rfl rfl (R.gtr_i rfl rfl) ?_
      refine JL.val rfl rfl (R.pickF rfl rfl) ?_
      refine JL.nil ?_
      refine JN.next ?_
      refine JC.condB rfl (fun c_20 => ?_) (fun c_20 => ?_)
      · replace hx := cond_t c_20 hx
        refine JC.seq ?_
        refine JC.region ?_
        refine JL.val rfl rfl (R.move rfl) ?_
        refine JL.val rfl rfl (R.assign rfl) ?_
        refine JL.nil ?_
        refine JN.next ?_
        refine JC.ret ?_
        refine JN.passR ?_
        refine JN.outP (vs := [.bool x_12]) (K := []) (rst := [_, _, _]) (.inl rfl) rfl rfl (Res.tmp rfl rfl) picks0 ?_
        obtain rfl := Option.some.inj hx
        exact ⟨rfl, rfl, trivial⟩
      · replace hx := cond_f c_20 hx
        refine JC.skip ?_
        refine JN.next ?_
        refine JC.seq ?_
        refine JC.region ?_
        refine JL.val rfl rfl (R.ldoN 2 (vs := [.slice aoa_2 na_2 capa_2, .slice aoa_3 na_3 capa_3]) S25 rfl rfl rfl rfl) ?_
        refine JL.val rfl rfl (R.ldoN 1 (vs := [.int .u32 (p_4.Gen.toNat : Int), .int .u32 (p_4.Epoch.toNat : Int), .int .i64 p_4.Root.At, .int .u32 (p_4.Root.Birth.toNat : Int), .int .u32 (p_4.Root.Iv.toNat : Int), .int .u32 (p_4.Root.Tag.toNat : Int), .int .u32 (p_4.Root.Sum.toNat : Int)]) S30 rfl rfl rfl rfl) ?_
        obtain ⟨x_21, hr_22, hx⟩ := bnd_some hx
        refine JL.callC (vs := [_, _]) (args := [_, _]) (K := []) (rst := [_, _, _]) E10 rfl rfl rfl picks0 (label_Put_ok p_1 p_4 _ (ha_2.mono (RSl.mono RU8.mono) hleu_14) (ha_3.mono R_Write.mono hleu_14) _ hr_22) rfl (fun u_23 Ku_23 Hu_23 hRu_23 hleu_23 hfu_23 => ?_)
        obtain ⟨aoz_24, nz_24, capz_24, aor_25, nr_25, capr_25, Kr_25, rfl, rfl, hz_24, hr_25, hnewr_25, -⟩ := hRu_23
        replace hr_25 := (RowOf.base (RowOf.mono R_Write.mono (New.call hleu_14) hr_25) (fun p hp => (hfu_23 p (mem_seg 0 rfl hp)).resolve_left (hnewr_25 p hp)))
        replace hz_24 := IsSlice.mono (RSl.mono RU8.mono) (New.call hleu_14) hz_24
        refine JL.val rfl rfl (R.move rfl) ?_
        refine JL.val rfl rfl (R.extract rfl rfl) ?_
        refine JL.val rfl rfl (R.extract rfl rfl) ?_
        refine JL.alloc Z25 rfl (fun b_26 hb_26 => ?_)
        refine JL.store 0 S25 rfl rfl rfl rfl rfl (Nat.le_of_ble_eq_true rfl) ?_
        refine JL.val rfl rfl (R.assign rfl) ?_
        refine JL.nil ?_
        refine JN.next ?_
        refine JC.seq ?_
        refine JC.region ?_
        refine JL.val rfl rfl (R.ldoN 0 (vs := [.slice aoz_24 nz_24 capz_24, .slice aor_25 nr_25 capr_25]) S25 rfl rfl rfl rfl) ?_
        refine JL.val rfl rfl (R.ldoN 2 (vs := [.int .u32 (p_5.Gen.toNat : Int), .int .u32 (p_5.Epoch.toNat : Int), .int .i64 p_5.Root.At, .int .u32 (p_5.Root.Birth.toNat : Int), .int .u32 (p_5.Root.Iv.toNat : Int), .int .u32 (p_5.Root.Tag.toNat : Int), .int .u32 (p_5.Root.Sum.toNat : Int)]) S30 rfl rfl rfl rfl) ?_
        refine JL.pubN 1 R_Write.mono rfl hr_25 (Nat.le_refl _) (fun H_27 hleH_27 hsH_27 => ?_)
        refine JL.forget 1 ?_
        obtain ⟨x_28, hr_29, hx⟩ := bnd_some hx
        refine JL.callC (vs := [_, _]) (args := [_, _]) (K := []) (rst := [_, _, _, _]) E10 rfl rfl rfl picks0 (label_Put_ok x_21.1 p_5 _ ((hz_24.mono (RSl.mono RU8.mono) (New.mono hleH_27)).old (RSl.mono RU8.mono)) (hsH_27.old R_Write.mono) _ hr_29) rfl (fun u_30 Ku_30 Hu_30 hRu_30 hleu_30 hfu_30 => ?_)
        obtain ⟨aoz_31, nz_31, capz_31, aor_32, nr_32, capr_32, Kr_32, rfl, rfl, hz_31, hr_32, hnewr_32, -⟩ := hRu_30
        replace hr_32 := (RowOf.base (RowOf.mono R_Write.mono (New.call (hleu_14.trans (hleu_23.trans hleH_27))) hr_32) (fun p hp => (hfu_30 p (mem_seg 0 rfl hp)).resolve_left (hnewr_32 p hp)))
        replace hz_31 := IsSlice.mono (RSl.mono RU8.mono) (New.call (hleu_14.trans (hleu_23.trans hleH_27))) hz_31
        refine JL.val rfl rfl (R.move rfl) ?_
        refine JL.val rfl rfl (R.extract rfl rfl) ?_
        refine JL.val rfl rfl (R.extract rfl rfl) ?_
        refine JL.store 1 S25 rfl rfl rfl rfl rfl (Nat.le_of_ble_eq_true rfl) ?_
        refine JL.val rfl rfl (R.assign rfl) ?_
        refine JL.nil ?_
        refine JN.next ?_
        refine JC.seq ?_
        refine JC.region ?_
        refine JL.val rfl rfl (R.ldoN 4 (vs := [.slice aoa_2 na_2 capa_2, .slice aoa_3 na_3 capa_3]) S25 rfl rfl rfl rfl) ?_
        refine JL.val rfl rfl (R.ldoN 2 (vs := [.int .u32 (p_5.Gen.toNat : Int), .int .u32 (p_5.Epoch.toNat : Int), .int .i64 p_5.Root.At, .int .u32 (p_5.Root.Birth.toNat : Int), .int .u32 (p_5.Root.Iv.toNat : Int), .int .u32 (p_5.Root.Tag.toNat : Int), .int .u32 (p_5.Root.Sum.toNat : Int)]) S30 rfl rfl rfl rfl) ?_
        obtain ⟨x_33, hr_34, hx⟩ := bnd_some hx
        refine JL.callC (vs := [_, _]) (args := [_, _]) (K := []) (rst := [_, _, _, _, _]) E10 rfl rfl rfl picks0 (label_Put_ok p_1 p_5 _ (ha_2.mono (RSl.mono RU8.mono) (hleu_14.trans (hleu_23.trans (hleH_27.trans hleu_30)))) (ha_3.mono R_Write.mono (hleu_14.trans (hleu_23.trans (hleH_27.trans hleu_30)))) _ hr_34) rfl (fun u_35 Ku_35 Hu_35 hRu_35 hleu_35 hfu_35 => ?_)
        obtain ⟨aoz_36, nz_36, capz_36, aor_37, nr_37, capr_37, Kr_37, rfl, rfl, hz_36, hr_37, hnewr_37, -⟩ := hRu_35
        replace hr_37 := (RowOf.base (RowOf.mono R_Write.mono (New.call (hleu_14.trans (hleu_23.trans (hleH_27.trans hleu_30)))) hr_37) (fun p hp => (hfu_35 p (mem_seg 0 rfl hp)).resolve_left (hnewr_37 p hp)))
        replace hz_36 := IsSlice.mono (RSl.mono RU8.mono) (New.call (hleu_14.trans (hleu_23.trans (hleH_27.trans hleu_30)))) hz_36
        refine JL.val rfl rfl (R.move rfl) ?_
        refine JL.val rfl rfl (R.extract rfl rfl) ?_
        refine JL.val rfl rfl (R.extract rfl rfl) ?_
        refine JL.alloc Z25 rfl (fun b_38 hb_38 => ?_)
        refine JL.store 0 S25 rfl rfl rfl rfl rfl (Nat.le_of_ble_eq_true rfl) ?_
        refine JL.val rfl rfl (R.assign rfl) ?_
        refine JL.nil ?_
        refine JN.next ?_
        refine JC.seq ?_
        refine JC.region ?_
        refine JL.val rfl rfl (R.ldoN 0 (vs := [.slice aoz_36 nz_36 capz_36, .slice aor_37 nr_37 capr_37]) S25 rfl rfl rfl rfl) ?_
        refine JL.val rfl rfl (R.ldoN 5 (vs := [.int .u32 (p_4.Gen.toNat : Int), .int .u32 (p_4.Epoch.toNat : Int), .int .i64 p_4.Root.At, .int .u32 (p_4.Root.Birth.toNat : Int), .int .u32 (p_4.Root.Iv.toNat : Int), .int .u32 (p_4.Root.Tag.toNat : Int), .int .u32 (p_4.Root.Sum.toNat : Int)]) S30 rfl rfl rfl rfl) ?_
        refine JL.pubN 1 R_Write.mono rfl hr_37 (Nat.le_refl _) (fun H_39 hleH_39 hsH_39 => ?_)
        refine JL.forget 1 ?_
        obtain ⟨x_40, hr_41, hx⟩ := bnd_some hx
        refine JL.callC (vs := [_, _]) (args := [_, _]) (K := []) (rst := [_, _, _, _, _, _]) E10 rfl rfl rfl picks0 (label_Put_ok x_33.1 p_4 _ ((hz_36.mono (RSl.mono RU8.mono) (New.mono hleH_39)).old (RSl.mono RU8.mono)) (hsH_39.old R_Write.mono) _ hr_41) rfl (fun u_42 Ku_42 Hu_42 hRu_42 hleu_42 hfu_42 => ?_)
        obtain ⟨aoz_43, nz_43, capz_43, aor_44, nr_44, capr_44, Kr_44, rfl, rfl, hz_43, hr_44, hnewr_44, -⟩ := hRu_42
        replace hr_44 := (RowOf.base (RowOf.mono R_Write.mono (New.call (hleu_14.trans (hleu_23.trans (hleH_27.trans (hleu_30.trans (hleu_35.trans hleH_39)))))) hr_44) (fun p hp => (hfu_42 p (mem_seg 0 rfl hp)).resolve_left (hnewr_44 p hp)))
        replace hz_43 := IsSlice.mono (RSl.mono RU8.mono) (New.call (hleu_14.trans (hleu_23.trans (hleH_27.trans (hleu_30.trans (hleu_35.trans hleH_39)))))) hz_43
        refine JL.val rfl rfl (R.move rfl) ?_
        refine JL.val rfl rfl (R.extract rfl rfl) ?_
        refine JL.val rfl rfl (R.extract rfl rfl) ?_
        refine JL.store 1 S25 rfl rfl rfl rfl rfl (Nat.le_of_ble_eq_true rfl) ?_
        refine JL.val rfl rfl (R.assign rfl) ?_
        refine JL.nil ?_
        refine JN.next ?_
        refine JC.seq ?_
        refine JC.seq ?_
        refine JC.region ?_
        refine JL.val rfl rfl (R.move rfl) ?_
        refine JL.val rfl rfl (R.neq_i rfl rfl) ?_
        refine JL.val rfl rfl (R.move rfl) ?_
        refine JL.gSplit (t := 67) rfl (fun c_45 => ?_) (fun c_45 => ?_)
        · replace hx := cond_t c_45 hx
          refine JL.gNo rfl rfl rfl rfl rfl ?_
          refine JL.gNo rfl rfl rfl rfl rfl ?_
          refine JL.val rfl rfl (R.pickT rfl rfl) ?_
          refine JL.val rfl rfl (R.move rfl) ?_
          refine JL.gNo rfl rfl rfl rfl rfl ?_
          refine JL.gNo rfl rfl rfl rfl rfl ?_
          refine JL.val rfl rfl (R.pickT rfl rfl) ?_
          refine JL.val rfl rfl (R.move rfl) ?_
          refine JL.gNo rfl rfl rfl rfl rfl ?_
          refine JL.gNo rfl rfl rfl rfl rfl ?_
          refine JL.val rfl rfl (R.pickT rfl rfl) ?_
          refine JL.nil ?_
          refine JN.next ?_
          refine JC.condT rfl ?_
          refine JC.seq ?_
          refine JC.region ?_
          refine JL.val rfl rfl (R.move rfl) ?_
          refine JL.val rfl rfl (R.assign rfl) ?_
          refine JL.nil ?_
          refine JN.next ?_
          refine JC.ret ?_
          refine JN.passR ?_
          refine JN.outP (vs := [.bool x_12]) (K := []) (rst := [_, _, _, _, _, _, _]) (.inl rfl) rfl rfl (Res.tmp rfl rfl) picks0 ?_
          obtain rfl := Option.some.inj hx
          exact ⟨rfl, rfl, trivial⟩
        · replace hx := cond_f c_45 hx
          refine JL.gYes rfl rfl rfl ?_
          refine JL.val rfl rfl (R.move rfl) ?_
          refine JL.gYes rfl rfl rfl ?_
          refine JL.val rfl rfl (R.neq_i rfl rfl) ?_
          refine JL.val rfl rfl (R.pickF rfl rfl) ?_
          refine JL.val rfl rfl (R.move rfl) ?_
          refine JL.gSplit (t := 71) rfl (fun c_46 => ?_) (fun c_46 => ?_)
          · replace hx := cond_t c_46 hx
            refine JL.gNo rfl rfl rfl rfl rfl ?_
            refine JL.gNo rfl rfl rfl rfl rfl ?_
            refine JL.val rfl rfl (R.pickT rfl rfl) ?_
            refine JL.val rfl rfl (R.move rfl) ?_
            refine JL.gNo rfl rfl rfl rfl rfl ?_
            refine JL.gNo rfl rfl rfl rfl rfl ?_
            refine JL.val rfl rfl (R.pickT rfl rfl) ?_
            refine JL.nil ?_
            refine JN.next ?_
            refine JC.condT rfl ?_
            refine JC.seq ?_
            refine JC.region ?_
            refine JL.val rfl rfl (R.move rfl) ?_
            refine JL.val rfl rfl (R.assign rfl) ?_
            refine JL.nil ?_
            refine JN.next ?_
            refine JC.ret ?_
            refine JN.passR ?_
            refine JN.outP (vs := [.bool x_12]) (K := []) (rst := [_, _, _, _, _, _, _]) (.inl rfl) rfl rfl (Res.tmp rfl rfl) picks0 ?_
            obtain rfl := Option.some.inj hx
            exact ⟨rfl, rfl, trivial⟩
          · replace hx := cond_f c_46 hx
            refine JL.gYes rfl rfl rfl ?_
            refine JL.val rfl rfl (R.move rfl) ?_
            refine JL.gYes rfl rfl rfl ?_
            refine JL.val rfl rfl (R.neq_i rfl rfl) ?_
            refine JL.val rfl rfl (R.pickF rfl rfl) ?_
            refine JL.val rfl rfl (R.move rfl) ?_
            refine JL.gSplit (t := 75) rfl (fun c_47 => ?_) (fun c_47 => ?_)
            · replace hx := cond_t c_47 hx
              refine JL.gNo rfl rfl rfl rfl rfl ?_
              refine JL.gNo rfl rfl rfl rfl rfl ?_
              refine JL.val rfl rfl (R.pickT rfl rfl) ?_
              refine JL.nil ?_
              refine JN.next ?_
              refine JC.condT rfl ?_
              refine JC.seq ?_
              refine JC.region ?_
              refine JL.val rfl rfl (R.move rfl) ?_
              refine JL.val rfl rfl (R.assign rfl) ?_
              refine JL.nil ?_
              refine JN.next ?_
              refine JC.ret ?_
              refine JN.passR ?_
              refine JN.outP (vs := [.bool x_12]) (K := []) (rst := [_, _, _, _, _, _, _]) (.inl rfl) rfl rfl (Res.tmp rfl rfl) picks0 ?_
              obtain rfl := Option.some.inj hx
              exact ⟨rfl, rfl, trivial⟩
            · replace hx := cond_f c_47 hx
              refine JL.gYes rfl rfl rfl ?_
              refine JL.val rfl rfl (R.move rfl) ?_
              refine JL.gYes rfl rfl rfl ?_
              refine JL.val rfl rfl (R.neq_i rfl rfl) ?_
              refine JL.val rfl rfl (R.pickF rfl rfl) ?_
              refine JL.nil ?_
              refine JN.next ?_
              refine JC.condB rfl (fun c_48 => ?_) (fun c_48 => ?_)
              · replace hx := cond_t c_48 hx
                refine JC.seq ?_
                refine JC.region ?_
                refine JL.val rfl rfl (R.move rfl) ?_
                refine JL.val rfl rfl (R.assign rfl) ?_
                refine JL.nil ?_
                refine JN.next ?_
                refine JC.ret ?_
                refine JN.passR ?_
                refine JN.outP (vs := [.bool x_12]) (K := []) (rst := [_, _, _, _, _, _, _]) (.inl rfl) rfl rfl (Res.tmp rfl rfl) picks0 ?_
                obtain rfl := Option.some.inj hx
                exact ⟨rfl, rfl, trivial⟩
              · replace hx := cond_f c_48 hx
                refine JC.skip ?_
                refine JN.next ?_
                refine JC.seq ?_
                refine JC.region ?_
                refine JL.val rfl rfl (R.ldoN 3 (vs := [.slice aoz_31 nz_31 capz_31, .slice aor_32 nr_32 capr_32]) S25 rfl rfl rfl rfl) ?_
                obtain ⟨x_52, hr_53, hx⟩ := bnd_some hx
                refine JL.callL3 (vs := [_]) E12 rfl rfl (fun H_51 hle_50 hl_49 => label_Find_ok x_28.1 _ (IsSlice.mono (RSl.mono RU8.mono) hle_50 ((hz_31.mono (RSl.mono RU8.mono) (New.mono (hleu_35.trans (hleH_39.trans hleu_42)))).old (RSl.mono RU8.mono))) (Lent.row' 2 hl_49 R_Write.mono hle_50 rfl ((hr_32.mono R_Write.mono (New.mono (hleu_35.trans (hleH_39.trans hleu_42)))).old R_Write.mono)) _ hr_53) rfl (fun _ _ _ _ hR_55 hf_56 => ?_)
                obtain ⟨aor_54, nr_54, capr_54, Kr_54, rfl, rfl, hr_54, -, -⟩ := hR_55
                replace hr_54 := RowOf.base (RowOf.const (H2 := New H Hu_42) R_Label.const hr_54) (fun p hp => hf_56 p (mem_seg 0 rfl hp))
                refine JL.val rfl rfl (R.move rfl) ?_
                refine JL.val rfl rfl (R.extract rfl rfl) ?_
                refine JL.val rfl rfl (R.extract rfl rfl) ?_
                refine JL.val rfl rfl (R.assign rfl) ?_
                refine JL.val rfl rfl (R.assign rfl) ?_
                refine JL.nil ?_
                refine JN.next ?_
                refine JC.seq ?_
                refine JC.region ?_
                refine JL.val rfl rfl (R.ldoN 2 (vs := [.slice aoz_43 nz_43 capz_43, .slice aor_44 nr_44 capr_44]) S25 rfl rfl rfl rfl) ?_
                obtain ⟨x_60, hr_61, hx⟩ := bnd_some hx
                refine JL.callL3 (vs := [_]) E12 rfl rfl (fun H_59 hle_58 hl_57 => label_Find_ok x_40.1 _ (IsSlice.mono (RSl.mono RU8.mono) hle_58 (hz_43.old (RSl.mono RU8.mono))) (Lent.row' 1 hl_57 R_Write.mono hle_58 rfl (hr_44.old R_Write.mono)) _ hr_61) rfl (fun _ _ _ _ hR_63 hf_64 => ?_)
                obtain ⟨aor_62, nr_62, capr_62, Kr_62, rfl, rfl, hr_62, -, -⟩ := hR_63
                replace hr_62 := RowOf.base (RowOf.const (H2 := New H Hu_42) R_Label.const hr_62) (fun p hp => hf_64 p (mem_seg 0 rfl hp))
                refine JL.val rfl rfl (R.move rfl) ?_
                refine JL.val rfl rfl (R.extract rfl rfl) ?_
                refine JL.val rfl rfl (R.extract rfl rfl) ?_
                refine JL.val rfl rfl (R.assign rfl) ?_
                refine JL.val rfl rfl (R.assign rfl) ?_
                refine JL.nil ?_
                refine JN.next ?_
                refine JC.seq ?_
                refine JC.seq ?_
                refine JC.region ?_
                refine JL.val rfl rfl (R.move rfl) ?_
                refine JL.val rfl rfl (R.neq_i rfl rfl) ?_
                refine JL.val rfl rfl (R.move rfl) ?_
                refine JL.gSplit (t := 92) rfl (fun c_65 => ?_) (fun c_65 => ?_)
                · replace hx := cond_t c_65 hx
                  refine JL.gNo rfl rfl rfl rfl rfl ?_
                  refine JL.gNo rfl rfl rfl rfl rfl ?_
                  refine JL.val rfl rfl (R.pickT rfl rfl) ?_
                  refine JL.nil ?_
                  refine JN.next ?_
                  refine JC.condT rfl ?_
                  refine JC.seq ?_
                  refine JC.region ?_
                  refine JL.val rfl rfl (R.assign rfl) ?_
                  refine JL.nil ?_
                  refine JN.next ?_
                  refine JC.ret ?_
                  refine JN.passR ?_
                  refine JN.outP (vs := [.bool false]) (K := []) (rst := [_, _, _, _, _, _, _, _, _]) (.inl rfl) rfl rfl (Res.tmp rfl rfl) picks0 ?_
                  obtain rfl := Option.some.inj hx
                  exact ⟨rfl, rfl, trivial⟩
                · replace hx := cond_f c_65 hx
                  refine JL.gYes rfl rfl rfl ?_
                  refine JL.val rfl rfl (R.move rfl) ?_
                  refine JL.gYes rfl rfl rfl ?_
                  refine JL.val rfl rfl (R.neq_i rfl rfl) ?_
                  refine JL.val rfl rfl (R.pickF rfl rfl) ?_
                  refine JL.nil ?_
                  refine JN.next ?_
                  refine JC.condB rfl (fun c_66 => ?_) (fun c_66 => ?_)
                  · replace hx := cond_t c_66 hx
                    refine JC.seq ?_
                    refine JC.region ?_
                    refine JL.val rfl rfl (R.assign rfl) ?_
                    refine JL.nil ?_
                    refine JN.next ?_
                    refine JC.ret ?_
                    refine JN.passR ?_
                    refine JN.outP (vs := [.bool false]) (K := []) (rst := [_, _, _, _, _, _, _, _, _]) (.inl rfl) rfl rfl (Res.tmp rfl rfl) picks0 ?_
                    obtain rfl := Option.some.inj hx
                    exact ⟨rfl, rfl, trivial⟩
                  · replace hx := cond_f c_66 hx
                    refine JC.skip ?_
                    refine JN.next ?_
                    refine JC.seq ?_
                    obtain ⟨t_67, ht_69, hx⟩ := bnd_some hx
                    refine JC.cut (fun l o g => ∃ t_67a : Unit, l = [(3, .int .i64 p_6), (4, .slice aoa_8 na_8 capa_8), (7, .pointer (some ⟨b_11, 0, none⟩)), (11, .bool x_12), (12, .pointer (some ⟨b_26, 0, none⟩)), (18, .slice aor_54 nr_54 capr_54)] ∧ o = [[(b_11, .cells #[.int .u32 (p_5.Gen.toNat : Int), .int .u32 (p_5.Epoch.toNat : Int), .int .i64 p_5.Root.At, .int .u32 (p_5.Root.Birth.toNat : Int), .int .u32 (p_5.Root.Iv.toNat : Int), .int .u32 (p_5.Root.Tag.toNat : Int), .int .u32 (p_5.Root.Sum.toNat : Int)] 30 (0, 0))], [(b_26, .cells #[.slice aoz_31 nz_31 capz_31, .slice aor_32 nr_32 capr_32] 25 (0, 0))], Kr_32, Kr_54] ∧ Hu_42 = g ∧ t_67 = .inl t_67a) ?_ ?_
                    · rintro _ _ _ ⟨t_67a, rfl, rfl, rfl, rfl⟩
                      simp only [Sum.elim_inl] at hx
                      refine JN.next ?_
                      refine JC.seq ?_
                      refine JC.region ?_
                      refine JL.val rfl rfl (R.ldoN 1 (vs := [.slice aoz_31 nz_31 capz_31, .slice aor_32 nr_32 capr_32]) S25 rfl rfl rfl rfl) ?_
                      refine JL.val rfl rfl (R.ldoN 0 (vs := [.int .u32 (p_5.Gen.toNat : Int), .int .u32 (p_5.Epoch.toNat : Int), .int .i64 p_5.Root.At, .int .u32 (p_5.Root.Birth.toNat : Int), .int .u32 (p_5.Root.Iv.toNat : Int), .int .u32 (p_5.Root.Tag.toNat : Int), .int .u32 (p_5.Root.Sum.toNat : Int)]) S30 rfl rfl rfl rfl) ?_
                      refine JL.pubN 2 R_Write.mono rfl (hr_32.mono R_Write.mono (New.mono (hleu_35.trans (hleH_39.trans hleu_42)))) (Nat.le_refl _) (fun H_83 hleH_83 hsH_83 => ?_)
                      refine JL.forget 2 ?_
                      obtain ⟨x_84, hr_85, hx⟩ := bnd_some hx
                      refine JL.callC (vs := [_, _]) (args := [_, _]) (K := []) (rst := [_, _, _]) E10 rfl rfl rfl picks0 (label_Put_ok x_28.1 p_5 _ ((hz_31.mono (RSl.mono RU8.mono) (New.mono (hleu_35.trans (hleH_39.trans (hleu_42.trans hleH_83))))).old (RSl.mono RU8.mono)) (hsH_83.old R_Write.mono) _ hr_85) rfl (fun u_86 Ku_86 Hu_86 hRu_86 hleu_86 hfu_86 => ?_)
                      obtain ⟨aoz_87, nz_87, capz_87, aor_88, nr_88, capr_88, Kr_88, rfl, rfl, hz_87, hr_88, hnewr_88, -⟩ := hRu_86
                      replace hr_88 := (RowOf.base (RowOf.mono R_Write.mono (New.call (hleu_14.trans (hleu_23.trans (hleH_27.trans (hleu_30.trans (hleu_35.trans (hleH_39.trans (hleu_42.trans hleH_83)))))))) hr_88) (fun p hp => (hfu_86 p (mem_seg 0 rfl hp)).resolve_left (hnewr_88 p hp)))
                      replace hz_87 := IsSlice.mono (RSl.mono RU8.mono) (New.call (hleu_14.trans (hleu_23.trans (hleH_27.trans (hleu_30.trans (hleu_35.trans (hleH_39.trans (hleu_42.trans hleH_83)))))))) hz_87
                      refine JL.val rfl rfl (R.move rfl) ?_
                      refine JL.val rfl rfl (R.extract rfl rfl) ?_
                      refine JL.val rfl rfl (R.extract rfl rfl) ?_
                      refine JL.alloc Z25 rfl (fun b_89 hb_89 => ?_)
                      refine JL.store 0 S25 rfl rfl rfl rfl rfl (Nat.le_of_ble_eq_true rfl) ?_
                      refine JL.val rfl rfl (R.assign rfl) ?_
                      refine JL.nil ?_
                      refine JN.next ?_
                      refine JC.seq ?_
                      refine JC.region ?_
                      refine JL.val rfl rfl (R.ldoN 0 (vs := [.slice aoz_87 nz_87 capz_87, .slice aor_88 nr_88 capr_88]) S25 rfl rfl rfl rfl) ?_
                      obtain ⟨x_93, hr_94, hx⟩ := bnd_some hx
                      refine JL.callL3 (vs := [_]) E12 rfl rfl (fun H_92 hle_91 hl_90 => label_Find_ok x_84.1 _ (IsSlice.mono (RSl.mono RU8.mono) hle_91 (hz_87.old (RSl.mono RU8.mono))) (Lent.row' 1 hl_90 R_Write.mono hle_91 rfl (hr_88.old R_Write.mono)) _ hr_94) rfl (fun _ _ _ _ hR_96 hf_97 => ?_)
                      obtain ⟨aor_95, nr_95, capr_95, Kr_95, rfl, rfl, hr_95, -, -⟩ := hR_96
                      replace hr_95 := RowOf.base (RowOf.const (H2 := New H Hu_86) R_Label.const hr_95) (fun p hp => hf_97 p (mem_seg 0 rfl hp))
                      refine JL.val rfl rfl (R.move rfl) ?_
                      refine JL.val rfl rfl (R.extract rfl rfl) ?_
                      refine JL.val rfl rfl (R.extract rfl rfl) ?_
                      refine JL.val rfl rfl (R.assign rfl) ?_
                      refine JL.val rfl rfl (R.assign rfl) ?_
                      refine JL.nil ?_
                      refine JN.next ?_
                      refine JC.seq ?_
                      obtain ⟨t_98, ht_100, hx⟩ := bnd_some hx
                      refine JC.cut (fun l o g => ∃ t_98a : Unit, l = [(3, .int .i64 p_6), (4, .slice aoa_8 na_8 capa_8), (11, .bool x_12), (12, .pointer (some ⟨b_26, 0, none⟩)), (18, .slice aor_54 nr_54 capr_54)] ∧ o = [[(b_26, .cells #[.slice aoz_31 nz_31 capz_31, .slice aor_32 nr_32 capr_32] 25 (0, 0))], Kr_54] ∧ Hu_86 = g ∧ t_98 = .inl t_98a) ?_ ?_
                      · rintro _ _ _ ⟨t_98a, rfl, rfl, rfl, rfl⟩
                        simp only [Sum.elim_inl] at hx
                        refine JN.next ?_
                        refine JC.seq ?_
                        refine JC.region ?_
                        refine JL.val rfl rfl (R.ldoN 0 (vs := [.slice aoz_31 nz_31 capz_31, .slice aor_32 nr_32 capr_32]) S25 rfl rfl rfl rfl) ?_
                        refine JL.val rfl rfl (R.move rfl) ?_
                        refine JL.val rfl rfl (R.move rfl) ?_
                        obtain ⟨x_109, hr_110, hx⟩ := bnd_some hx
                        refine JL.callC (vs := [_, _, _]) (args := [_, _, _]) (K := []) (rst := [_, _]) E22 rfl rfl rfl picks0 (dev_Write_ok x_28.1 p_6 p_7 _ ((hz_31.mono (RSl.mono RU8.mono) (New.mono (hleu_35.trans (hleH_39.trans (hleu_42.trans (hleH_83.trans hleu_86)))))).old (RSl.mono RU8.mono)) ((hsH_83.mono R_Write.mono (New.mono hleu_86)).old R_Write.mono) (ha_8.mono RU8.mono (hleu_14.trans (hleu_23.trans (hleH_27.trans (hleu_30.trans (hleu_35.trans (hleH_39.trans (hleu_42.trans (hleH_83.trans hleu_86))))))))) _ hr_110) rfl (fun u_111 Ku_111 Hu_111 hRu_111 hleu_111 hfu_111 => ?_)
                        obtain ⟨aoz_112, nz_112, capz_112, aor_113, nr_113, capr_113, Kr_113, rfl, rfl, hz_112, hr_113, hnewr_113, -⟩ := hRu_111
                        replace hr_113 := (RowOf.base (RowOf.mono R_Write.mono (New.call (hleu_14.trans (hleu_23.trans (hleH_27.trans (hleu_30.trans (hleu_35.trans (hleH_39.trans (hleu_42.trans (hleH_83.trans hleu_86))))))))) hr_113) (fun p hp => (hfu_111 p (mem_seg 0 rfl hp)).resolve_left (hnewr_113 p hp)))
                        replace hz_112 := IsSlice.mono (RSl.mono RU8.mono) (New.call (hleu_14.trans (hleu_23.trans (hleH_27.trans (hleu_30.trans (hleu_35.trans (hleH_39.trans (hleu_42.trans (hleH_83.trans hleu_86))))))))) hz_112
                        refine JL.val rfl rfl (R.move rfl) ?_
                        refine JL.val rfl rfl (R.extract rfl rfl) ?_
                        refine JL.val rfl rfl (R.extract rfl rfl) ?_
                        refine JL.alloc Z25 rfl (fun b_114 hb_114 => ?_)
                        refine JL.store 0 S25 rfl rfl rfl rfl rfl (Nat.le_of_ble_eq_true rfl) ?_
                        refine JL.val rfl rfl (R.assign rfl) ?_
                        refine JL.nil ?_
                        refine JN.next ?_
                        refine JC.seq ?_
                        refine JC.seq ?_
                        refine JC.region ?_
                        refine JL.val rfl rfl (R.move rfl) ?_
                        refine JL.val rfl rfl (R.neq_i rfl rfl) ?_
                        refine JL.val rfl rfl (R.move rfl) ?_
                        refine JL.gSplit (t := 141) rfl (fun c_115 => ?_) (fun c_115 => ?_)
                        · replace hx := cond_t c_115 hx
                          refine JL.gNo rfl rfl rfl rfl rfl ?_
                          refine JL.gNo rfl rfl rfl rfl rfl ?_
                          refine JL.val rfl rfl (R.pickT rfl rfl) ?_
                          refine JL.nil ?_
                          refine JN.next ?_
                          refine JC.condT rfl ?_
                          refine JC.seq ?_
                          refine JC.region ?_
                          refine JL.val rfl rfl (R.move rfl) ?_
                          refine JL.val rfl rfl (R.assign rfl) ?_
                          refine JL.nil ?_
                          refine JN.next ?_
                          refine JC.ret ?_
                          refine JN.passR ?_
                          refine JN.outP (vs := [.bool x_12]) (K := []) (rst := [_, _, _, _]) (.inl rfl) rfl rfl (Res.tmp rfl rfl) picks0 ?_
                          obtain rfl := Option.some.inj hx
                          exact ⟨rfl, rfl, trivial⟩
                        · replace hx := cond_f c_115 hx
                          refine JL.gYes rfl rfl rfl ?_
                          refine JL.val rfl rfl (R.move rfl) ?_
                          refine JL.gYes rfl rfl rfl ?_
                          refine JL.val rfl rfl (R.lss_i rfl rfl) ?_
                          refine JL.val rfl rfl (R.pickF rfl rfl) ?_
                          refine JL.nil ?_
                          refine JN.next ?_
                          refine JC.condB rfl (fun c_116 => ?_) (fun c_116 => ?_)
                          · replace hx := cond_t c_116 hx
                            refine JC.seq ?_
                            refine JC.region ?_
                            refine JL.val rfl rfl (R.move rfl) ?_
                            refine JL.val rfl rfl (R.assign rfl) ?_
                            refine JL.nil ?_
                            refine JN.next ?_
                            refine JC.ret ?_
                            refine JN.passR ?_
                            refine JN.outP (vs := [.bool x_12]) (K := []) (rst := [_, _, _, _]) (.inl rfl) rfl rfl (Res.tmp rfl rfl) picks0 ?_
                            obtain rfl := Option.some.inj hx
                            exact ⟨rfl, rfl, trivial⟩
                          · replace hx := cond_f c_116 hx
                            refine JC.skip ?_
                            refine JN.next ?_
                            refine JC.seq ?_
                            refine JC.region ?_
                            refine JL.val rfl rfl (R.ldoN 0 (vs := [.slice aoz_112 nz_112 capz_112, .slice aor_113 nr_113 capr_113]) S25 rfl rfl rfl rfl) ?_
                            obtain ⟨x_120, hr_121, hx⟩ := bnd_some hx
                            refine JL.callL3 (vs := [_]) E12 rfl rfl (fun H_119 hle_118 hl_117 => label_Find_ok x_109.1 _ (IsSlice.mono (RSl.mono RU8.mono) hle_118 (hz_112.old (RSl.mono RU8.mono))) (Lent.row' 1 hl_117 R_Write.mono hle_118 rfl (hr_113.old R_Write.mono)) _ hr_121) rfl (fun _ _ _ _ hR_123 hf_124 => ?_)
                            obtain ⟨aor_122, nr_122, capr_122, Kr_122, rfl, rfl, hr_122, -, -⟩ := hR_123
                            replace hr_122 := RowOf.base (RowOf.const (H2 := New H Hu_111) R_Label.const hr_122) (fun p hp => hf_124 p (mem_seg 0 rfl hp))
                            refine JL.val rfl rfl (R.move rfl) ?_
                            refine JL.val rfl rfl (R.extract rfl rfl) ?_
                            refine JL.val rfl rfl (R.extract rfl rfl) ?_
                            refine JL.val rfl rfl (R.assign rfl) ?_
                            refine JL.val rfl rfl (R.assign rfl) ?_
                            refine JL.nil ?_
                            refine JN.next ?_
                            refine JC.seq ?_
                            obtain ⟨t_125, ht_127, hx⟩ := bnd_some hx
                            refine JC.cut (fun l o g => l = [(10, .bool t_125)] ∧ o = [] ∧ Hu_111 = g) ?_ ?_
                            · rintro _ _ _ ⟨rfl, rfl, rfl⟩
                              refine JN.next ?_
                              refine JC.ret ?_
                              refine JN.outP (vs := [.bool t_125]) (K := []) (rst := []) (.inl rfl) rfl rfl (Res.tmp rfl rfl) picks0 ?_
                              obtain rfl := Option.some.inj hx
                              exact ⟨rfl, rfl, trivial⟩
                            · have hxo_126 := hx; clear hx; have hx := ht_127; clear ht_127
                              refine JC.region ?_
                              refine JL.val rfl rfl (R.move rfl) ?_
                              refine JL.val rfl rfl (R.move rfl) ?_
                              refine JL.gSplit (t := 152) rfl (fun c_128 => ?_) (fun c_128 => ?_)
                              · replace hx := cond_t c_128 hx
                                refine JL.gYes rfl rfl rfl ?_
                                refine JL.val rfl rfl (R.move rfl) ?_
                                refine JL.gYes rfl rfl rfl ?_
                                refine JL.val rfl rfl (R.eql_i rfl rfl) ?_
                                refine JL.val rfl rfl (R.pickT rfl rfl) ?_
                                refine JL.val rfl rfl (R.move rfl) ?_
                                refine JL.gSplit (t := 156) rfl (fun c_129 => ?_) (fun c_129 => ?_)
                                · replace hx := cond_t c_129 hx
                                  refine JL.gYes rfl rfl rfl ?_
                                  refine JL.val rfl rfl (R.move rfl) ?_
                                  refine JL.gYes rfl rfl rfl ?_
                                  refine JL.val rfl rfl (R.move rfl) ?_
                                  refine JL.gYes rfl rfl rfl ?_
                                  obtain ⟨x_133, hr_134, hx⟩ := bnd_some hx
                                  refine JL.callL2 (vs := [_, _]) (v := .bool x_133) E21 rfl rfl (fun H_132 hle_131 hl_130 => Does.mono (law11_same_ok x_120.1 x_52.1 _ (Lent.row' 0 hl_130 R_Label.mono hle_131 rfl (hr_122.old R_Label.mono)) (Lent.row' 4 hl_130 R_Label.mono hle_131 rfl ((hr_54.mono R_Label.mono (New.mono (hleH_83.trans (hleu_86.trans hleu_111)))).old R_Label.mono)) _ hr_134) (fun _ _ _ h => h.1)) rfl ?_
                                  refine JL.val rfl rfl (R.pickT rfl rfl) ?_
                                  refine JL.val rfl rfl (R.assign rfl) ?_
                                  refine JL.nil ?_
                                  obtain rfl := Option.some.inj hx
                                  refine JN.forget 4 ?_
                                  refine JN.forget 3 ?_
                                  refine JN.forget 2 ?_
                                  refine JN.forget 1 ?_
                                  refine JN.forget 0 ?_
                                  exact JN.cut ⟨rfl, rfl, rfl⟩ ⟨rfl, trivial⟩ rfl rfl
                                · replace hx := cond_f c_129 hx
                                  refine JL.gNo rfl rfl rfl rfl rfl ?_
                                  refine JL.gNo rfl rfl rfl rfl rfl ?_
                                  refine JL.gNo rfl rfl rfl rfl rfl ?_
                                  refine JL.val rfl rfl (R.pickF rfl rfl) ?_
                                  refine JL.val rfl rfl (R.assign rfl) ?_
                                  refine JL.nil ?_
                                  obtain rfl := Option.some.inj hx
                                  refine JN.forget 4 ?_
                                  refine JN.forget 3 ?_
                                  refine JN.forget 2 ?_
                                  refine JN.forget 1 ?_
                                  refine JN.forget 0 ?_
                                  exact JN.cut ⟨rfl, rfl, rfl⟩ ⟨rfl, trivial⟩ rfl rfl
                              · replace hx := cond_f c_128 hx
                                refine JL.gNo rfl rfl rfl rfl rfl ?_
                                refine JL.gNo rfl rfl rfl rfl rfl ?_
                                refine JL.val rfl rfl (R.pickF rfl rfl) ?_
                                refine JL.val rfl rfl (R.move rfl) ?_
                                refine JL.gNo rfl rfl rfl rfl rfl ?_
                                refine JL.gNo rfl rfl rfl rfl rfl ?_
                                refine JL.gNo rfl rfl rfl rfl rfl ?_
                                refine JL.val rfl rfl (R.pickF rfl rfl) ?_
                                refine JL.val rfl rfl (R.assign rfl) ?_
                                refine JL.nil ?_
                                obtain rfl := Option.some.inj hx
                                refine JN.forget 4 ?_
                                refine JN.forget 3 ?_
                                refine JN.forget 2 ?_
                                refine JN.forget 1 ?_
                                refine JN.forget 0 ?_
                                exact JN.cut ⟨rfl, rfl, rfl⟩ ⟨rfl, trivial⟩ rfl rfl
                      · have hxo_99 := hx; clear hx; have hx := ht_100; clear ht_100
                        refine JC.seq ?_
                        refine JC.region ?_
                        refine JL.val rfl rfl (R.move rfl) ?_
                        refine JL.val rfl rfl (R.eql_i rfl rfl) ?_
                        refine JL.val rfl rfl (R.move rfl) ?_
                        refine JL.gSplit (t := 122) rfl (fun c_101 => ?_) (fun c_101 => ?_)
                        · replace hx := cond_t c_101 hx
                          refine JL.gYes rfl rfl rfl ?_
                          refine JL.val rfl rfl (R.move rfl) ?_
                          refine JL.gYes rfl rfl rfl ?_
                          refine JL.val rfl rfl (R.neq_i rfl rfl) ?_
                          refine JL.gYes rfl rfl rfl ?_
                          refine JL.val rfl rfl (R.move rfl) ?_
                          refine JL.gSplit (t := 125) rfl (fun c_102 => ?_) (fun c_102 => ?_)
                          · replace hx := cond_t c_102 hx
                            refine JL.gNo rfl rfl rfl rfl rfl ?_
                            refine JL.gNo rfl rfl rfl rfl rfl ?_
                            refine JL.gNo rfl rfl rfl rfl rfl ?_
                            refine JL.gNo rfl rfl rfl rfl rfl ?_
                            refine JL.gYes rfl rfl rfl ?_
                            refine JL.val rfl rfl (R.pickT rfl rfl) ?_
                            refine JL.val rfl rfl (R.pickT rfl rfl) ?_
                            refine JL.nil ?_
                            refine JN.next ?_
                            refine JC.condT rfl ?_
                            refine JC.seq ?_
                            refine JC.region ?_
                            refine JL.val rfl rfl (R.assign rfl) ?_
                            refine JL.nil ?_
                            refine JN.next ?_
                            refine JC.ret ?_
                            obtain rfl := Option.some.inj hx
                            clear hx; have hx := hxo_99
                            simp only [Sum.elim_inl, Sum.elim_inr] at hx
                            refine JN.passR ?_
                            refine JN.passR ?_
                            refine JN.outP (vs := [.bool false]) (K := []) (rst := [_, _, _, _, _, _]) (.inl rfl) rfl rfl (Res.tmp rfl rfl) picks0 ?_
                            obtain rfl := Option.some.inj hx
                            exact ⟨rfl, rfl, trivial⟩
                          · replace hx := cond_f c_102 hx
                            refine JL.gYes rfl rfl rfl ?_
                            refine JL.val rfl rfl (R.move rfl) ?_
                            refine JL.gYes rfl rfl rfl ?_
                            refine JL.val rfl rfl (R.move rfl) ?_
                            refine JL.gYes rfl rfl rfl ?_
                            obtain ⟨x_106, hr_107, hx⟩ := bnd_some hx
                            refine JL.callL2 (vs := [_, _]) (v := .bool x_106) E21 rfl rfl (fun H_105 hle_104 hl_103 => Does.mono (law11_same_ok x_93.1 x_52.1 _ (Lent.row' 0 hl_103 R_Label.mono hle_104 rfl (hr_95.old R_Label.mono)) (Lent.row' 5 hl_103 R_Label.mono hle_104 rfl ((hr_54.mono R_Label.mono (New.mono (hleH_83.trans hleu_86))).old R_Label.mono)) _ hr_107) (fun _ _ _ h => h.1)) rfl ?_
                            refine JL.gYes rfl rfl rfl ?_
                            refine JL.val rfl rfl (R.not rfl) ?_
                            refine JL.gYes rfl rfl rfl ?_
                            refine JL.val rfl rfl (R.pickF rfl rfl) ?_
                            refine JL.val rfl rfl (R.pickT rfl rfl) ?_
                            refine JL.nil ?_
                            refine JN.next ?_
                            refine JC.condB rfl (fun c_108 => ?_) (fun c_108 => ?_)
                            · replace hx := cond_t c_108 hx
                              refine JC.seq ?_
                              refine JC.region ?_
                              refine JL.val rfl rfl (R.assign rfl) ?_
                              refine JL.nil ?_
                              refine JN.next ?_
                              refine JC.ret ?_
                              obtain rfl := Option.some.inj hx
                              clear hx; have hx := hxo_99
                              simp only [Sum.elim_inl, Sum.elim_inr] at hx
                              refine JN.passR ?_
                              refine JN.passR ?_
                              refine JN.outP (vs := [.bool false]) (K := []) (rst := [_, _, _, _, _, _]) (.inl rfl) rfl rfl (Res.tmp rfl rfl) picks0 ?_
                              obtain rfl := Option.some.inj hx
                              exact ⟨rfl, rfl, trivial⟩
                            · replace hx := cond_f c_108 hx
                              refine JC.skip ?_
                              obtain rfl := Option.some.inj hx
                              refine JN.forget 3 ?_
                              refine JN.forget 2 ?_
                              refine JN.forget 1 ?_
                              refine JN.forget 0 ?_
                              refine JN.front 1 rfl ?_
                              refine JN.front 1 rfl ?_
                              exact JN.cut ⟨(), rfl, rfl, rfl, rfl⟩ ⟨rfl, rfl, rfl, rfl, rfl, trivial⟩ rfl rfl
                        · replace hx := cond_f c_101 hx
                          refine JL.gNo rfl rfl rfl rfl rfl ?_
                          refine JL.gNo rfl rfl rfl rfl rfl ?_
                          refine JL.gNo rfl rfl rfl rfl rfl ?_
                          refine JL.gNoU rfl rfl rfl rfl ?_
                          refine JL.gNoU rfl rfl rfl rfl ?_
                          refine JL.gNoU rfl rfl rfl rfl ?_
                          refine JL.gNoU rfl rfl rfl rfl ?_
                          refine JL.gNo rfl rfl rfl rfl rfl ?_
                          refine JL.val rfl rfl (R.pickF rfl rfl) ?_
                          refine JL.nil ?_
                          refine JN.next ?_
                          refine JC.condF rfl ?_
                          refine JC.skip ?_
                          obtain rfl := Option.some.inj hx
                          refine JN.forget 3 ?_
                          refine JN.forget 2 ?_
                          refine JN.forget 1 ?_
                          refine JN.forget 0 ?_
                          refine JN.front 1 rfl ?_
                          refine JN.front 1 rfl ?_
                          exact JN.cut ⟨(), rfl, rfl, rfl, rfl⟩ ⟨rfl, rfl, rfl, rfl, rfl, trivial⟩ rfl rfl
                    · have hxo_68 := hx; clear hx; have hx := ht_69; clear ht_69
                      refine JC.seq ?_
                      refine JC.draw (so := [_, _, _, _, _, _, _]) 13 rfl Mixed ⟨⟨2, rfl⟩, ⟨3, rfl⟩, ⟨4, rfl⟩, ⟨5, rfl⟩, ⟨6, rfl⟩, ⟨7, rfl⟩, ⟨8, rfl⟩, trivial⟩ ?_
                      refine JA.val ⟨by kernel_rfl, by kernel_rfl⟩ (calm_only _) (i := 0) rfl ⟨by kernel_rfl, by kernel_rfl, rfl⟩ trivial (stab_of (Hle.refl _) ⟨⟨2, rfl⟩, ⟨3, rfl⟩, ⟨4, rfl⟩, ⟨5, rfl⟩, ⟨6, rfl⟩, ⟨7, rfl⟩, ⟨8, rfl⟩, trivial⟩) (R.fa F30_0 rfl) rfl ?_
                      refine JA.val ⟨by kernel_rfl, by kernel_rfl⟩ (calm_only _) (i := 1) rfl ⟨by kernel_rfl, by kernel_rfl, rfl⟩ trivial (stab_of (Hle.refl _) ⟨⟨2, rfl⟩, ⟨3, rfl⟩, ⟨4, rfl⟩, ⟨5, rfl⟩, ⟨6, rfl⟩, ⟨7, rfl⟩, ⟨8, rfl⟩, trivial⟩) (R.ldo 5 S26 rfl rfl rfl) rfl ?_
                      refine JA.val ⟨by kernel_rfl, by kernel_rfl⟩ (calm_only _) (i := 3) rfl ⟨by kernel_rfl, by kernel_rfl, rfl⟩ trivial (stab_of (Hle.refl _) ⟨⟨2, rfl⟩, ⟨3, rfl⟩, ⟨4, rfl⟩, ⟨5, rfl⟩, ⟨6, rfl⟩, ⟨7, rfl⟩, ⟨8, rfl⟩, trivial⟩) (R.fa F30_0 rfl) rfl ?_
                      refine JA.val ⟨by kernel_rfl, by kernel_rfl⟩ (calm_only _) (i := 4) rfl ⟨by kernel_rfl, by kernel_rfl, rfl⟩ trivial (stab_of (Hle.refl _) ⟨⟨2, rfl⟩, ⟨3, rfl⟩, ⟨4, rfl⟩, ⟨5, rfl⟩, ⟨6, rfl⟩, ⟨7, rfl⟩, ⟨8, rfl⟩, trivial⟩) (R.ldo 4 S26 rfl rfl rfl) rfl ?_
                      refine JA.one (i := 2) (by kernel_rfl) ?_
                      refine JO.step rfl trivial rfl (fun K hK => ?_)
                      obtain ⟨x_70, hr_71, hx⟩ := bnd_some hx
                      refine JL.callC (vs := [_]) (args := [_]) (K := []) (rst := [_, _, _, _, _, _, _, _, _]) E15 rfl rfl rfl picks0 (label_Slot_ok p_4.Gen _ _ hr_71) rfl (fun u_72 Ku_72 Hu_72 hRu_72 hleu_72 hfu_72 => ?_)
                      obtain ⟨rfl, rfl, rfl, -⟩ := hRu_72
                      refine JL.nil ?_
                      refine hK _ _ _ (stab_of (Hle.refl _) ⟨⟨2, rfl⟩, ⟨3, rfl⟩, ⟨4, rfl⟩, ⟨5, rfl⟩, ⟨6, rfl⟩, ⟨7, rfl⟩, ⟨8, rfl⟩, trivial⟩) ?_
                      refine JA.one (i := 5) (by kernel_rfl) ?_
                      refine JO.step rfl trivial rfl (fun K hK => ?_)
                      obtain ⟨x_73, hr_74, hx⟩ := bnd_some hx
                      refine JL.callC (vs := [_]) (args := [_]) (K := []) (rst := [_, _, _, _, _, _, _, _, _]) E15 rfl rfl rfl picks0 (label_Slot_ok p_5.Gen _ _ hr_74) rfl (fun u_75 Ku_75 Hu_75 hRu_75 hleu_75 hfu_75 => ?_)
                      obtain ⟨rfl, rfl, rfl, -⟩ := hRu_75
                      refine JL.nil ?_
                      refine hK _ _ _ (stab_of (Hle.refl _) ⟨⟨2, rfl⟩, ⟨3, rfl⟩, ⟨4, rfl⟩, ⟨5, rfl⟩, ⟨6, rfl⟩, ⟨7, rfl⟩, ⟨8, rfl⟩, trivial⟩) ?_
                      refine JA.val ⟨by kernel_rfl, by kernel_rfl⟩ (calm_only _) (i := 6) rfl ⟨by kernel_rfl, by kernel_rfl, rfl⟩ trivial (stab_of (Hle.refl _) ⟨⟨2, rfl⟩, ⟨3, rfl⟩, ⟨4, rfl⟩, ⟨5, rfl⟩, ⟨6, rfl⟩, ⟨7, rfl⟩, ⟨8, rfl⟩, trivial⟩) (R.neq_i rfl rfl) rfl ?_
                      refine JA.val ⟨by kernel_rfl, by kernel_rfl⟩ (calm_only _) (i := 7) rfl ⟨by kernel_rfl, by kernel_rfl, rfl⟩ trivial (stab_of (Hle.refl _) ⟨⟨2, rfl⟩, ⟨3, rfl⟩, ⟨4, rfl⟩, ⟨5, rfl⟩, ⟨6, rfl⟩, ⟨7, rfl⟩, ⟨8, rfl⟩, trivial⟩) (R.move rfl) rfl ?_
                      refine JA.gSplit (t := 103) rfl (fun c_76 => ?_) (fun c_76 => ?_)
                      · replace hx := cond_t c_76 hx
                        refine JA.val ⟨by kernel_rfl, by kernel_rfl⟩ (calm_only _) (i := 8) rfl ⟨by kernel_rfl, by kernel_rfl, rfl⟩ ⟨_, _, rfl, rfl, rfl⟩ (stab_of (Hle.refl _) ⟨⟨2, rfl⟩, ⟨3, rfl⟩, ⟨4, rfl⟩, ⟨5, rfl⟩, ⟨6, rfl⟩, ⟨7, rfl⟩, ⟨8, rfl⟩, trivial⟩) (R.move rfl) rfl ?_
                        refine JA.val ⟨by kernel_rfl, by kernel_rfl⟩ (calm_only _) (i := 9) rfl ⟨by kernel_rfl, by kernel_rfl, rfl⟩ ⟨_, _, rfl, rfl, rfl⟩ (stab_of (Hle.refl _) ⟨⟨2, rfl⟩, ⟨3, rfl⟩, ⟨4, rfl⟩, ⟨5, rfl⟩, ⟨6, rfl⟩, ⟨7, rfl⟩, ⟨8, rfl⟩, trivial⟩) (R.move rfl) rfl ?_
                        refine JA.one (i := 10) (by kernel_rfl) ?_
                        refine JO.step rfl ⟨_, _, rfl, rfl, rfl⟩ rfl (fun K hK => ?_)
                        obtain ⟨x_80, hr_81, hx⟩ := bnd_some hx
                        refine JL.callL2 (vs := [_, _]) (v := .bool x_80) E21 rfl rfl (fun H_79 hle_78 hl_77 => Does.mono (law11_same_ok x_52.1 x_60.1 _ (Lent.row' 1 hl_77 R_Label.mono hle_78 rfl (hr_54.old R_Label.mono)) (Lent.row' 0 hl_77 R_Label.mono hle_78 rfl (hr_62.old R_Label.mono)) _ hr_81) (fun _ _ _ h => h.1)) rfl ?_
                        refine JL.nil ?_
                        refine hK _ _ _ (stab_of (Hle.refl _) ⟨⟨2, rfl⟩, ⟨3, rfl⟩, ⟨4, rfl⟩, ⟨5, rfl⟩, ⟨6, rfl⟩, ⟨7, rfl⟩, ⟨8, rfl⟩, trivial⟩) ?_
                        refine JA.val ⟨by kernel_rfl, by kernel_rfl⟩ (calm_only _) (i := 11) rfl ⟨by kernel_rfl, by kernel_rfl, rfl⟩ ⟨_, _, rfl, rfl, rfl⟩ (stab_of (Hle.refl _) ⟨⟨2, rfl⟩, ⟨3, rfl⟩, ⟨4, rfl⟩, ⟨5, rfl⟩, ⟨6, rfl⟩, ⟨7, rfl⟩, ⟨8, rfl⟩, trivial⟩) (R.not rfl) rfl ?_
                        refine JA.val ⟨by kernel_rfl, by kernel_rfl⟩ (calm_only _) (i := 12) rfl ⟨by kernel_rfl, by kernel_rfl, rfl⟩ trivial (stab_of (Hle.refl _) ⟨⟨2, rfl⟩, ⟨3, rfl⟩, ⟨4, rfl⟩, ⟨5, rfl⟩, ⟨6, rfl⟩, ⟨7, rfl⟩, ⟨8, rfl⟩, trivial⟩) (R.pickT rfl rfl) rfl ?_
                        refine JA.doneN (by kernel_rfl) ?_
                        refine JN.next ?_
                        refine JC.condB rfl (fun c_82 => ?_) (fun c_82 => ?_)
                        · replace hx := cond_t c_82 hx
                          refine JC.seq ?_
                          refine JC.region ?_
                          refine JL.val rfl rfl (R.assign rfl) ?_
                          refine JL.nil ?_
                          refine JN.next ?_
                          refine JC.ret ?_
                          obtain rfl := Option.some.inj hx
                          clear hx; have hx := hxo_68
                          simp only [Sum.elim_inl, Sum.elim_inr] at hx
                          refine JN.passR ?_
                          refine JN.passR ?_
                          refine JN.outP (vs := [.bool false]) (K := []) (rst := [_, _, _, _, _, _, _, _, _]) (.inl rfl) rfl rfl (Res.tmp rfl rfl) picks0 ?_
                          obtain rfl := Option.some.inj hx
                          exact ⟨rfl, rfl, trivial⟩
                        · replace hx := cond_f c_82 hx
                          refine JC.skip ?_
                          obtain rfl := Option.some.inj hx
                          refine JN.forget 8 ?_
                          refine JN.forget 7 ?_
                          refine JN.forget 3 ?_
                          refine JN.forget 2 ?_
                          refine JN.forget 0 ?_
                          refine JN.front 1 rfl ?_
                          refine JN.front 2 rfl ?_
                          refine JN.front 3 rfl ?_
                          exact JN.cut ⟨(), rfl, rfl, rfl, rfl⟩ ⟨rfl, rfl, rfl, rfl, rfl, rfl, trivial⟩ rfl rfl
                      · replace hx := cond_f c_76 hx
                        refine JA.no ⟨by kernel_rfl, by kernel_rfl⟩ (calm_only _) (i := 8) rfl ⟨by kernel_rfl, by kernel_rfl, rfl⟩ rfl rfl rfl rfl (stab_of (Hle.refl _) ⟨⟨2, rfl⟩, ⟨3, rfl⟩, ⟨4, rfl⟩, ⟨5, rfl⟩, ⟨6, rfl⟩, ⟨7, rfl⟩, ⟨8, rfl⟩, trivial⟩) rfl ?_
                        refine JA.no ⟨by kernel_rfl, by kernel_rfl⟩ (calm_only _) (i := 9) rfl ⟨by kernel_rfl, by kernel_rfl, rfl⟩ rfl rfl rfl rfl (stab_of (Hle.refl _) ⟨⟨2, rfl⟩, ⟨3, rfl⟩, ⟨4, rfl⟩, ⟨5, rfl⟩, ⟨6, rfl⟩, ⟨7, rfl⟩, ⟨8, rfl⟩, trivial⟩) rfl ?_
                        refine JA.no ⟨by kernel_rfl, by kernel_rfl⟩ (calm_only _) (i := 10) rfl ⟨by kernel_rfl, by kernel_rfl, rfl⟩ rfl rfl rfl rfl (stab_of (Hle.refl _) ⟨⟨2, rfl⟩, ⟨3, rfl⟩, ⟨4, rfl⟩, ⟨5, rfl⟩, ⟨6, rfl⟩, ⟨7, rfl⟩, ⟨8, rfl⟩, trivial⟩) rfl ?_
                        refine JA.no ⟨by kernel_rfl, by kernel_rfl⟩ (calm_only _) (i := 11) rfl ⟨by kernel_rfl, by kernel_rfl, rfl⟩ rfl rfl rfl rfl (stab_of (Hle.refl _) ⟨⟨2, rfl⟩, ⟨3, rfl⟩, ⟨4, rfl⟩, ⟨5, rfl⟩, ⟨6, rfl⟩, ⟨7, rfl⟩, ⟨8, rfl⟩, trivial⟩) rfl ?_
                        refine JA.val ⟨by kernel_rfl, by kernel_rfl⟩ (calm_only _) (i := 12) rfl ⟨by kernel_rfl, by kernel_rfl, rfl⟩ trivial (stab_of (Hle.refl _) ⟨⟨2, rfl⟩, ⟨3, rfl⟩, ⟨4, rfl⟩, ⟨5, rfl⟩, ⟨6, rfl⟩, ⟨7, rfl⟩, ⟨8, rfl⟩, trivial⟩) (R.pickF rfl rfl) rfl ?_
                        refine JA.doneN (by kernel_rfl) ?_
                        refine JN.next ?_
                        refine JC.condF rfl ?_
                        refine JC.skip ?_
                        obtain rfl := Option.some.inj hx
                        refine JN.forget 8 ?_
                        refine JN.forget 7 ?_
                        refine JN.forget 3 ?_
                        refine JN.forget 2 ?_
                        refine JN.forget 0 ?_
                        refine JN.front 1 rfl ?_
                        refine JN.front 2 rfl ?_
                        refine JN.front 3 rfl ?_
                        exact JN.cut ⟨(), rfl, rfl, rfl, rfl⟩ ⟨rfl, rfl, rfl, rfl, rfl, rfl, trivial⟩ rfl rfl
end Go.Proofs.Ytabnbobdjckdmaa
