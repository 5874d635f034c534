/- walks: what the code computes, function by function. -/
import Derived.Test.YtbdmdhfphnklbaaW2p0
namespace Go.Proofs.Ytbdmdhfphnklbaa
open Go.Ow Go.RowKit Go.Proofs
set_option linter.unusedVariables false
set_option linter.unusedSimpArgs false
set_option maxHeartbeats 1000000 in
theorem law16_DeadParts_ok (p_1 : List Ptr) (p_3 : Ptr) (p_4 : UInt32) (H : Heaplet) {aoa_2 : Option Addr} {na_2 : Nat} {capa_2 : Nat} (ha_2 : IsSlice H R_Ptr 5 (.slice aoa_2 na_2 capa_2) p_1) (r : Bool) (hx : law16_DeadParts p_1 p_3 p_4 = some r) :
    Does Try.prog 5 #[.slice aoa_2 na_2 capa_2, .agg #[.int .i64 p_3.At, .int .u32 (p_3.Birth.toNat : Int), .int .u32 (p_3.Iv.toNat : Int), .int .u32 (p_3.Tag.toNat : Int), .int .u32 (p_3.Sum.toNat : Int)], .int .u32 (p_4.toNat : Int)] [] H (fun u K' H' => u = .bool r ∧ K' = [] ∧ H = H' ∧ True) := by
  refine Does.enterL (vs := [.slice aoa_2 na_2 capa_2, .agg #[.int .i64 p_3.At, .int .u32 (p_3.Birth.toNat : Int), .int .u32 (p_3.Iv.toNat : Int), .int .u32 (p_3.Tag.toNat : Int), .int .u32 (p_3.Sum.toNat : Int)], .int .u32 (p_4.toNat : Int)]) (l := [(0, .slice aoa_2 na_2 capa_2), (1, .agg #[.int .i64 p_3.At, .int .u32 (p_3.Birth.toNat : Int), .int .u32 (p_3.Iv.toNat : Int), .int .u32 (p_3.Tag.toNat : Int), .int .u32 (p_3.Sum.toNat : Int)]), (2, .int .u32 (p_4.toNat : Int))]) Try.func5 rfl rfl ⟨rfl, rfl, rfl, trivial⟩ (fun w hlt => ?_)
  rw [law16_DeadParts.eq_1] at hx
  refine JC.seq ?_
  refine JC.region ?_
  refine JL.box rfl rfl (fun b_5 hb_5 => ?_)
  refine JL.val rfl rfl (R.assign rfl) ?_
  refine JL.nil ?_
  refine JN.next ?_
  refine JC.seq ?_
  refine JC.region ?_
  obtain ⟨x_6, hr_7, hx⟩ := bnd_some hx
  refine JL.callC (vs := []) (args := []) (K := []) (rst := [_]) E7 rfl rfl rfl picks0 (law16_alive_ok _ _ hr_7) rfl (fun u_8 Ku_8 Hu_8 hRu_8 hleu_8 hfu_8 => ?_)
  obtain ⟨rfl, rfl, rfl, -⟩ := hRu_8
  refine JL.val rfl rfl (R.assign rfl) ?_
  refine JL.nil ?_
  refine JN.next ?_
  refine JC.seq ?_
  refine JC.seq ?_
  refine JC.region ?_
  refine JL.val rfl rfl (R.move rfl) ?_
  refine JL.val rfl rfl (R.lenL U22 rfl (IsSlice.long ha_2)) ?_
  refine JL.val rfl rfl (R.gtr_i rfl rfl) ?_
  refine JL.val rfl rfl (R.move rfl) ?_
  refine JL.gSplit (t := 24) rfl (fun c_9 => ?_) (fun c_9 => ?_)
  · replace hx := cond_t c_9 hx
    refine JL.gNo rfl rfl rfl rfl rfl ?_
    refine JL.gNo rfl rfl rfl rfl rfl ?_
    refine JL.gNo rfl rfl rfl rfl rfl ?_
    refine JL.val rfl rfl (R.pickT rfl rfl) ?_
    refine JL.nil ?_
    refine JN.next ?_
    refine JC.condT rfl ?_
    refine JC.seq ?_
    refine JC.region ?_
    refine JL.val rfl rfl (R.move rfl) ?_
    refine JL.val rfl rfl (R.assign rfl) ?_
    refine JL.nil ?_
    refine JN.next ?_
    refine JC.ret ?_
    refine JN.passR ?_
    refine JN.outP (vs := [.bool x_6]) (K := []) (rst := [_]) (.inl rfl) rfl rfl (Res.tmp rfl rfl) picks0 ?_
    obtain rfl := Option.some.inj hx
    exact ⟨rfl, rfl, rfl, trivial⟩
  · replace hx := cond_f c_9 hx
    refine JL.gYes rfl rfl rfl ?_
    refine JL.val rfl rfl (R.move rfl) ?_
    refine JL.gYes rfl rfl rfl ?_
    obtain ⟨x_10, hr_11, hx⟩ := bnd_some hx
    refine JL.callC (vs := [_]) (args := [_]) (K := []) (rst := [_]) E10 rfl rfl rfl picks0 (dead_Check_ok p_1 _ ha_2 _ hr_11) rfl (fun u_12 Ku_12 Hu_12 hRu_12 hleu_12 hfu_12 => ?_)
    obtain ⟨rfl, rfl, rfl, -⟩ := hRu_12
    refine JL.gYes rfl rfl rfl ?_
    refine JL.val rfl rfl (R.neq_i rfl rfl) ?_
    refine JL.val rfl rfl (R.pickF rfl rfl) ?_
    refine JL.nil ?_
    refine JN.next ?_
    refine JC.condB rfl (fun c_13 => ?_) (fun c_13 => ?_)
    · replace hx := cond_t c_13 hx
      refine JC.seq ?_
      refine JC.region ?_
      refine JL.val rfl rfl (R.move rfl) ?_
      refine JL.val rfl rfl (R.assign rfl) ?_
      refine JL.nil ?_
      refine JN.next ?_
      refine JC.ret ?_
      refine JN.passR ?_
      refine JN.outP (vs := [.bool x_6]) (K := []) (rst := [_]) (.inl rfl) rfl rfl (Res.tmp rfl rfl) picks0 ?_
      obtain rfl := Option.some.inj hx
      exact ⟨rfl, rfl, rfl, trivial⟩
    · replace hx := cond_f c_13 hx
      refine JC.skip ?_
      refine JN.next ?_
      refine JC.seq ?_
      refine JC.region ?_
      refine JL.val rfl rfl (R.move rfl) ?_
      refine JL.val rfl rfl (R.move rfl) ?_
      obtain ⟨x_14, hr_15, hx⟩ := bnd_some hx
      refine JL.callC (vs := [_, _]) (args := [_, _]) (K := []) (rst := [_]) E13 rfl rfl rfl picks0 (dead_Split_ok p_1 p_4 _ ha_2 _ hr_15) rfl (fun u_16 Ku_16 Hu_16 hRu_16 hleu_16 hfu_16 => ?_)
      obtain ⟨aor_17, nr_17, capr_17, Kr_17, aor_18, nr_18, capr_18, Kr_18, rfl, rfl, rfl, hr_17, hnewr_17, hr_18, hnewr_18, -⟩ := hRu_16
      replace hr_17 := (RowOf.base (RowOf.const (H2 := New H H) R_Ptr.const hr_17) (fun p hp => (hfu_16 p (mem_seg 0 rfl hp)).resolve_left (hnewr_17 p hp)))
      replace hr_18 := (RowOf.base (RowOf.const (H2 := New H H) R_Ptr.const hr_18) (fun p hp => (hfu_16 p (mem_seg 1 rfl hp)).resolve_left (hnewr_18 p hp)))
      refine JL.val rfl rfl (R.move rfl) ?_
      refine JL.val rfl rfl (R.extract rfl rfl) ?_
      refine JL.val rfl rfl (R.extract rfl rfl) ?_
      refine JL.val rfl rfl (R.extract rfl rfl) ?_
      refine JL.val rfl rfl (R.assign rfl) ?_
      refine JL.val rfl rfl (R.assign rfl) ?_
      refine JL.val rfl rfl (R.assign rfl) ?_
      refine JL.nil ?_
      refine JN.next ?_
      refine JC.seq ?_
      refine JC.region ?_
      refine JL.val rfl rfl (R.move rfl) ?_
      refine JL.val rfl rfl (R.move rfl) ?_
      obtain ⟨x_22, hr_23, hx⟩ := bnd_some hx
      refine JL.callL3 (vs := [_, _]) E8 rfl rfl (fun H_21 hle_20 hl_19 => dead_Join_ok x_14.2.1 x_14.1 _ (Lent.row' 1 hl_19 R_Ptr.mono hle_20 rfl (hr_18.old R_Ptr.mono)) (Lent.row' 0 hl_19 R_Ptr.mono hle_20 rfl (hr_17.old R_Ptr.mono)) _ hr_23) rfl (fun _ _ _ _ hR_25 hf_26 => ?_)
      obtain ⟨aor_24, nr_24, capr_24, Kr_24, rfl, rfl, rfl, hr_24, -, -⟩ := hR_25
      replace hr_24 := RowOf.base (RowOf.const (H2 := New H H) R_Ptr.const hr_24) (fun p hp => hf_26 p (mem_seg 0 rfl hp))
      refine JL.val rfl rfl (R.move rfl) ?_
      refine JL.val rfl rfl (R.extract rfl rfl) ?_
      refine JL.val rfl rfl (R.extract rfl rfl) ?_
      refine JL.val rfl rfl (R.assign rfl) ?_
      refine JL.val rfl rfl (R.assign rfl) ?_
      refine JL.nil ?_
      refine JN.next ?_
      refine JC.seq ?_
      refine JC.seq ?_
      refine JC.region ?_
      refine JL.val rfl rfl (R.move rfl) ?_
      refine JL.val rfl rfl (R.neq_i rfl rfl) ?_
      refine JL.val rfl rfl (R.move rfl) ?_
      refine JL.gSplit (t := 45) rfl (fun c_27 => ?_) (fun c_27 => ?_)
      · replace hx := cond_t c_27 hx
        refine JL.gNo rfl rfl rfl rfl rfl ?_
        refine JL.gNo rfl rfl rfl rfl rfl ?_
        refine JL.val rfl rfl (R.pickT rfl rfl) ?_
        refine JL.val rfl rfl (R.move rfl) ?_
        refine JL.gNo rfl rfl rfl rfl rfl ?_
        refine JL.gNo rfl rfl rfl rfl rfl ?_
        refine JL.gNo rfl rfl rfl rfl rfl ?_
        refine JL.gNo rfl rfl rfl rfl rfl ?_
        refine JL.val rfl rfl (R.pickT rfl rfl) ?_
        refine JL.val rfl rfl (R.move rfl) ?_
        refine JL.gNo rfl rfl rfl rfl rfl ?_
        refine JL.gNo rfl rfl rfl rfl rfl ?_
        refine JL.gNo rfl rfl rfl rfl rfl ?_
        refine JL.val rfl rfl (R.pickT rfl rfl) ?_
        refine JL.val rfl rfl (R.move rfl) ?_
        refine JL.gNo rfl rfl rfl rfl rfl ?_
        refine JL.gNo rfl rfl rfl rfl rfl ?_
        refine JL.gNo rfl rfl rfl rfl rfl ?_
        refine JL.val rfl rfl (R.pickT rfl rfl) ?_
        refine JL.nil ?_
        refine JN.next ?_
        refine JC.condT rfl ?_
        refine JC.seq ?_
        refine JC.region ?_
        refine JL.val rfl rfl (R.assign rfl) ?_
        refine JL.nil ?_
        refine JN.next ?_
        refine JC.ret ?_
        refine JN.passR ?_
        refine JN.outP (vs := [.bool false]) (K := []) (rst := [_, _, _, _]) (.inl rfl) rfl rfl (Res.tmp rfl rfl) picks0 ?_
        obtain rfl := Option.some.inj hx
        exact ⟨rfl, rfl, rfl, trivial⟩
      · replace hx := cond_f c_27 hx
        refine JL.gYes rfl rfl rfl ?_
        refine JL.val rfl rfl (R.move rfl) ?_
        refine JL.gYes rfl rfl rfl ?_
        refine JL.val rfl rfl (R.neq_i rfl rfl) ?_
        refine JL.val rfl rfl (R.pickF rfl rfl) ?_
        refine JL.val rfl rfl (R.move rfl) ?_
        refine JL.gSplit (t := 49) rfl (fun c_28 => ?_) (fun c_28 => ?_)
        · replace hx := cond_t c_28 hx
          refine JL.gNo rfl rfl rfl rfl rfl ?_
          refine JL.gNo rfl rfl rfl rfl rfl ?_
          refine JL.gNo rfl rfl rfl rfl rfl ?_
          refine JL.gNo rfl rfl rfl rfl rfl ?_
          refine JL.val rfl rfl (R.pickT rfl rfl) ?_
          refine JL.val rfl rfl (R.move rfl) ?_
          refine JL.gNo rfl rfl rfl rfl rfl ?_
          refine JL.gNo rfl rfl rfl rfl rfl ?_
          refine JL.gNo rfl rfl rfl rfl rfl ?_
          refine JL.val rfl rfl (R.pickT rfl rfl) ?_
          refine JL.val rfl rfl (R.move rfl) ?_
          refine JL.gNo rfl rfl rfl rfl rfl ?_
          refine JL.gNo rfl rfl rfl rfl rfl ?_
          refine JL.gNo rfl rfl rfl rfl rfl ?_
          refine JL.val rfl rfl (R.pickT rfl rfl) ?_
          refine JL.nil ?_
          refine JN.next ?_
          refine JC.condT rfl ?_
          refine JC.seq ?_
          refine JC.region ?_
          refine JL.val rfl rfl (R.assign rfl) ?_
          refine JL.nil ?_
          refine JN.next ?_
          refine JC.ret ?_
          refine JN.passR ?_
          refine JN.outP (vs := [.bool false]) (K := []) (rst := [_, _, _, _]) (.inl rfl) rfl rfl (Res.tmp rfl rfl) picks0 ?_
          obtain rfl := Option.some.inj hx
          exact ⟨rfl, rfl, rfl, trivial⟩
        · replace hx := cond_f c_28 hx
          refine JL.gYes rfl rfl rfl ?_
          refine JL.val rfl rfl (R.move rfl) ?_
          refine JL.gYes rfl rfl rfl ?_
          refine JL.val rfl rfl (R.move rfl) ?_
          refine JL.gYes rfl rfl rfl ?_
          obtain ⟨x_32, hr_33, hx⟩ := bnd_some hx
          refine JL.callL2 (vs := [_, _]) (v := .bool x_32) E9 rfl rfl (fun H_31 hle_30 hl_29 => Does.mono (law16_same_ok x_22.1 p_1 _ (Lent.row' 0 hl_29 R_Ptr.mono hle_30 rfl (hr_24.old R_Ptr.mono)) (IsSlice.mono R_Ptr.mono hle_30 ha_2) _ hr_33) (fun _ _ _ h => h.1)) rfl ?_
          refine JL.gYes rfl rfl rfl ?_
          refine JL.val rfl rfl (R.not rfl) ?_
          refine JL.val rfl rfl (R.pickF rfl rfl) ?_
          refine JL.val rfl rfl (R.move rfl) ?_
          refine JL.gSplit (t := 55) rfl (fun c_34 => ?_) (fun c_34 => ?_)
          · replace hx := cond_t c_34 hx
            refine JL.gNo rfl rfl rfl rfl rfl ?_
            refine JL.gNo rfl rfl rfl rfl rfl ?_
            refine JL.gNo rfl rfl rfl rfl rfl ?_
            refine JL.val rfl rfl (R.pickT rfl rfl) ?_
            refine JL.val rfl rfl (R.move rfl) ?_
            refine JL.gNo rfl rfl rfl rfl rfl ?_
            refine JL.gNo rfl rfl rfl rfl rfl ?_
            refine JL.gNo rfl rfl rfl rfl rfl ?_
            refine JL.val rfl rfl (R.pickT rfl rfl) ?_
            refine JL.nil ?_
            refine JN.next ?_
            refine JC.condT rfl ?_
            refine JC.seq ?_
            refine JC.region ?_
            refine JL.val rfl rfl (R.assign rfl) ?_
            refine JL.nil ?_
            refine JN.next ?_
            refine JC.ret ?_
            refine JN.passR ?_
            refine JN.outP (vs := [.bool false]) (K := []) (rst := [_, _, _, _]) (.inl rfl) rfl rfl (Res.tmp rfl rfl) picks0 ?_
            obtain rfl := Option.some.inj hx
            exact ⟨rfl, rfl, rfl, trivial⟩
          · replace hx := cond_f c_34 hx
            refine JL.gYes rfl rfl rfl ?_
            refine JL.val rfl rfl (R.move rfl) ?_
            refine JL.gYes rfl rfl rfl ?_
            obtain ⟨x_38, hr_39, hx⟩ := bnd_some hx
            refine JL.callL2 (vs := [_]) (v := .int .i64 x_38) E10 rfl rfl (fun H_37 hle_36 hl_35 => Does.mono (dead_Check_ok x_14.1 _ (Lent.row' 1 hl_35 R_Ptr.mono hle_36 rfl (hr_17.old R_Ptr.mono)) _ hr_39) (fun _ _ _ h => h.1)) rfl ?_
            refine JL.gYes rfl rfl rfl ?_
            refine JL.val rfl rfl (R.neq_i rfl rfl) ?_
            refine JL.val rfl rfl (R.pickF rfl rfl) ?_
            refine JL.val rfl rfl (R.move rfl) ?_
            refine JL.gSplit (t := 60) rfl (fun c_40 => ?_) (fun c_40 => ?_)
            · replace hx := cond_t c_40 hx
              refine JL.gNo rfl rfl rfl rfl rfl ?_
              refine JL.gNo rfl rfl rfl rfl rfl ?_
              refine JL.gNo rfl rfl rfl rfl rfl ?_
              refine JL.val rfl rfl (R.pickT rfl rfl) ?_
              refine JL.nil ?_
              refine JN.next ?_
              refine JC.condT rfl ?_
              refine JC.seq ?_
              refine JC.region ?_
              refine JL.val rfl rfl (R.assign rfl) ?_
              refine JL.nil ?_
              refine JN.next ?_
              refine JC.ret ?_
              refine JN.passR ?_
              refine JN.outP (vs := [.bool false]) (K := []) (rst := [_, _, _, _]) (.inl rfl) rfl rfl (Res.tmp rfl rfl) picks0 ?_
              obtain rfl := Option.some.inj hx
              exact ⟨rfl, rfl, rfl, trivial⟩
            · replace hx := cond_f c_40 hx
              refine JL.gYes rfl rfl rfl ?_
              refine JL.val rfl rfl (R.move rfl) ?_
              refine JL.gYes rfl rfl rfl ?_
              obtain ⟨x_44, hr_45, hx⟩ := bnd_some hx
              refine JL.callL2 (vs := [_]) (v := .int .i64 x_44) E10 rfl rfl (fun H_43 hle_42 hl_41 => Does.mono (dead_Check_ok x_14.2.1 _ (Lent.row' 2 hl_41 R_Ptr.mono hle_42 rfl (hr_18.old R_Ptr.mono)) _ hr_45) (fun _ _ _ h => h.1)) rfl ?_
              refine JL.gYes rfl rfl rfl ?_
              refine JL.val rfl rfl (R.neq_i rfl rfl) ?_
              refine JL.val rfl rfl (R.pickF rfl rfl) ?_
              refine JL.nil ?_
              refine JN.next ?_
              refine JC.condB rfl (fun c_46 => ?_) (fun c_46 => ?_)
              · replace hx := cond_t c_46 hx
                refine JC.seq ?_
                refine JC.region ?_
                refine JL.val rfl rfl (R.assign rfl) ?_
                refine JL.nil ?_
                refine JN.next ?_
                refine JC.ret ?_
                refine JN.passR ?_
                refine JN.outP (vs := [.bool false]) (K := []) (rst := [_, _, _, _]) (.inl rfl) rfl rfl (Res.tmp rfl rfl) picks0 ?_
                obtain rfl := Option.some.inj hx
                exact ⟨rfl, rfl, rfl, trivial⟩
              · replace hx := cond_f c_46 hx
                refine JC.skip ?_
                refine JN.next ?_
                refine JC.seq ?_
                refine JC.seq ?_
                refine JC.region ?_
                refine JL.val rfl rfl (R.assign rfl) ?_
                refine JL.nil ?_
                refine JN.next ?_
                obtain ⟨t_47, ht_49, hx⟩ := bnd_some hx
                refine JC.cut (fun l o g => ∃ t_47a : Unit, l = [(0, .slice aoa_2 na_2 capa_2), (2, .int .u32 (p_4.toNat : Int)), (4, .pointer (some ⟨b_5, 0, none⟩)), (7, .bool x_6), (9, .slice aor_18 nr_18 capr_18)] ∧ o = [[(b_5, .cells #[.int .i64 p_3.At, .int .u32 (p_3.Birth.toNat : Int), .int .u32 (p_3.Iv.toNat : Int), .int .u32 (p_3.Tag.toNat : Int), .int .u32 (p_3.Sum.toNat : Int)] 32 (0, 0))], Kr_18] ∧ H = g ∧ t_47 = .inl t_47a) ?_ ?_
                · rintro _ _ _ ⟨t_47a, rfl, rfl, rfl, rfl⟩
                  simp only [Sum.elim_inl] at hx
                  refine JN.next ?_
                  refine JC.seq ?_
                  refine JC.seq ?_
                  refine JC.region ?_
                  refine JL.val rfl rfl (R.assign rfl) ?_
                  refine JL.nil ?_
                  refine JN.next ?_
                  obtain ⟨t_53, ht_55, hx⟩ := bnd_some hx
                  refine JC.cut (fun l o g => ∃ t_53a : Unit, l = [(0, .slice aoa_2 na_2 capa_2), (4, .pointer (some ⟨b_5, 0, none⟩)), (7, .bool x_6)] ∧ o = [[(b_5, .cells #[.int .i64 p_3.At, .int .u32 (p_3.Birth.toNat : Int), .int .u32 (p_3.Iv.toNat : Int), .int .u32 (p_3.Tag.toNat : Int), .int .u32 (p_3.Sum.toNat : Int)] 32 (0, 0))]] ∧ H = g ∧ t_53 = .inl t_53a) ?_ ?_
                  · rintro _ _ _ ⟨t_53a, rfl, rfl, rfl, rfl⟩
                    simp only [Sum.elim_inl] at hx
                    refine JN.next ?_
                    refine JC.seq ?_
                    refine JC.region ?_
                    refine JL.val rfl rfl (R.move rfl) ?_
                    refine JL.val rfl rfl (R.ldoN 0 (vs := [.int .i64 p_3.At, .int .u32 (p_3.Birth.toNat : Int), .int .u32 (p_3.Iv.toNat : Int), .int .u32 (p_3.Tag.toNat : Int), .int .u32 (p_3.Sum.toNat : Int)]) S32 rfl rfl rfl rfl) ?_
                    obtain ⟨x_59, hr_60, hx⟩ := bnd_some hx
                    refine JL.callC (vs := [_, _]) (args := [_, _]) (K := []) (rst := [_]) E11 rfl rfl rfl picks0 (dead_Add_ok p_1 p_3 _ ha_2 _ hr_60) rfl (fun u_61 Ku_61 Hu_61 hRu_61 hleu_61 hfu_61 => ?_)
                    obtain ⟨aor_62, nr_62, capr_62, Kr_62, rfl, rfl, rfl, hr_62, hnewr_62, -⟩ := hRu_61
                    replace hr_62 := (RowOf.base (RowOf.const (H2 := New H H) R_Ptr.const hr_62) (fun p hp => (hfu_61 p (mem_seg 0 rfl hp)).resolve_left (hnewr_62 p hp)))
                    refine JL.val rfl rfl (R.move rfl) ?_
                    refine JL.val rfl rfl (R.extract rfl rfl) ?_
                    refine JL.val rfl rfl (R.extract rfl rfl) ?_
                    refine JL.val rfl rfl (R.assign rfl) ?_
                    refine JL.val rfl rfl (R.assign rfl) ?_
                    refine JL.nil ?_
                    refine JN.next ?_
                    refine JC.seq ?_
                    refine JC.seq ?_
                    refine JC.region ?_
                    refine JL.val rfl rfl (R.move rfl) ?_
                    refine JL.val rfl rfl (R.neq_i rfl rfl) ?_
                    refine JL.nil ?_
                    refine JN.next ?_
                    refine JC.condB rfl (fun c_63 => ?_) (fun c_63 => ?_)
                    · replace hx := cond_t c_63 hx
                      refine JC.seq ?_
                      obtain ⟨t_64, ht_66, hx⟩ := bnd_some hx
                      refine JC.cut (fun l o g => l = [(6, .bool t_64)] ∧ o = [] ∧ H = g) ?_ ?_
                      · rintro _ _ _ ⟨rfl, rfl, rfl⟩
                        refine JN.next ?_
                        refine JC.ret ?_
                        refine JN.passR ?_
                        refine JN.outP (vs := [.bool t_64]) (K := []) (rst := []) (.inl rfl) rfl rfl (Res.tmp rfl rfl) picks0 ?_
                        obtain rfl := Option.some.inj hx
                        exact ⟨rfl, rfl, rfl, trivial⟩
                      · have hxo_65 := hx; clear hx; have hx := ht_66; clear ht_66
                        refine JC.region ?_
                        refine JL.val rfl rfl (R.move rfl) ?_
                        refine JL.val rfl rfl (R.move rfl) ?_
                        refine JL.gSplit (t := 100) rfl (fun c_67 => ?_) (fun c_67 => ?_)
                        · replace hx := cond_t c_67 hx
                          refine JL.gYes rfl rfl rfl ?_
                          refine JL.val rfl rfl (R.move rfl) ?_
                          refine JL.gYes rfl rfl rfl ?_
                          refine JL.val rfl rfl (R.lenL U22 rfl (RowOf.long hr_62)) ?_
                          refine JL.gYes rfl rfl rfl ?_
                          refine JL.val rfl rfl (R.eql_i rfl rfl) ?_
                          refine JL.val rfl rfl (R.pickT rfl rfl) ?_
                          refine JL.val rfl rfl (R.assign rfl) ?_
                          refine JL.nil ?_
                          obtain rfl := Option.some.inj hx
                          refine JN.forget 1 ?_
                          refine JN.forget 0 ?_
                          exact JN.cut ⟨rfl, rfl, rfl⟩ ⟨rfl, trivial⟩ rfl rfl
                        · replace hx := cond_f c_67 hx
                          refine JL.gNo rfl rfl rfl rfl rfl ?_
                          refine JL.gNo rfl rfl rfl rfl rfl ?_
                          refine JL.gNo rfl rfl rfl rfl rfl ?_
                          refine JL.val rfl rfl (R.pickF rfl rfl) ?_
                          refine JL.val rfl rfl (R.assign rfl) ?_
                          refine JL.nil ?_
                          obtain rfl := Option.some.inj hx
                          refine JN.forget 1 ?_
                          refine JN.forget 0 ?_
                          exact JN.cut ⟨rfl, rfl, rfl⟩ ⟨rfl, trivial⟩ rfl rfl
                    · replace hx := cond_f c_63 hx
                      refine JC.skip ?_
                      refine JN.next ?_
                      refine JC.seq ?_
                      refine JC.region ?_
                      refine JL.val rfl rfl (R.assign rfl) ?_
                      refine JL.val rfl rfl (R.assign rfl) ?_
                      refine JL.nil ?_
                      refine JN.next ?_
                      refine JC.seq ?_
                      refine JC.seq ?_
                      refine JC.region ?_
                      refine JL.val rfl rfl (R.assign rfl) ?_
                      refine JL.nil ?_
                      refine JN.next ?_
                      obtain ⟨t_68, ht_70, hx⟩ := bnd_some hx
                      refine JC.cut (fun l o g => ∃ t_68a : Int × Int, l = [(0, .slice aoa_2 na_2 capa_2), (7, .bool x_6), (15, .slice aor_62 nr_62 capr_62), (17, .int .i64 t_68a.1), (18, .int .i64 t_68a.2)] ∧ o = [Kr_62] ∧ H = g ∧ t_68 = .inl t_68a) ?_ ?_
                      · rintro _ _ _ ⟨t_68a, rfl, rfl, rfl, rfl⟩
                        simp only [Sum.elim_inl] at hx
                        refine JN.next ?_
                        refine JC.seq ?_
                        obtain ⟨t_74, ht_76, hx⟩ := bnd_some hx
                        refine JC.cut (fun l o g => l = [(6, .bool t_74)] ∧ o = [] ∧ H = g) ?_ ?_
                        · rintro _ _ _ ⟨rfl, rfl, rfl⟩
                          refine JN.next ?_
                          refine JC.ret ?_
                          refine JN.outP (vs := [.bool t_74]) (K := []) (rst := []) (.inl rfl) rfl rfl (Res.tmp rfl rfl) picks0 ?_
                          obtain rfl := Option.some.inj hx
                          exact ⟨rfl, rfl, rfl, trivial⟩
                        · have hxo_75 := hx; clear hx; have hx := ht_76; clear ht_76
                          refine JC.region ?_
                          refine JL.val rfl rfl (R.move rfl) ?_
                          refine JL.val rfl rfl (R.move rfl) ?_
                          refine JL.gSplit (t := 137) rfl (fun c_77 => ?_) (fun c_77 => ?_)
                          · replace hx := cond_t c_77 hx
                            refine JL.gYes rfl rfl rfl ?_
                            refine JL.val rfl rfl (R.move rfl) ?_
                            refine JL.gYes rfl rfl rfl ?_
                            refine JL.val rfl rfl (R.eql_i rfl rfl) ?_
                            refine JL.val rfl rfl (R.pickT rfl rfl) ?_
                            refine JL.val rfl rfl (R.move rfl) ?_
                            refine JL.gSplit (t := 141) rfl (fun c_78 => ?_) (fun c_78 => ?_)
                            · replace hx := cond_t c_78 hx
                              refine JL.gYes rfl rfl rfl ?_
                              refine JL.val rfl rfl (R.move rfl) ?_
                              refine JL.gYes rfl rfl rfl ?_
                              refine JL.val rfl rfl (R.move rfl) ?_
                              refine JL.gYes rfl rfl rfl ?_
                              refine JL.val rfl rfl (R.lenL U22 rfl (IsSlice.long ha_2)) ?_
                              refine JL.gYes rfl rfl rfl ?_
                              refine JL.val rfl rfl (R.eql_i rfl rfl) ?_
                              refine JL.val rfl rfl (R.pickT rfl rfl) ?_
                              refine JL.val rfl rfl (R.move rfl) ?_
                              refine JL.gSplit (t := 147) rfl (fun c_79 => ?_) (fun c_79 => ?_)
                              · replace hx := cond_t c_79 hx
                                refine JL.gYes rfl rfl rfl ?_
                                refine JL.val rfl rfl (R.move rfl) ?_
                                refine JL.gYes rfl rfl rfl ?_
                                obtain ⟨x_83, hr_84, hx⟩ := bnd_some hx
                                refine JL.callL2 (vs := [_]) (v := .int .i64 x_83) E10 rfl rfl (fun H_82 hle_81 hl_80 => Does.mono (dead_Check_ok x_59.1 _ (Lent.row' 0 hl_80 R_Ptr.mono hle_81 rfl (hr_62.old R_Ptr.mono)) _ hr_84) (fun _ _ _ h => h.1)) rfl ?_
                                refine JL.gYes rfl rfl rfl ?_
                                refine JL.val rfl rfl (R.eql_i rfl rfl) ?_
                                refine JL.val rfl rfl (R.pickT rfl rfl) ?_
                                refine JL.val rfl rfl (R.assign rfl) ?_
                                refine JL.nil ?_
                                obtain rfl := Option.some.inj hx
                                refine JN.forget 0 ?_
                                exact JN.cut ⟨rfl, rfl, rfl⟩ ⟨rfl, trivial⟩ rfl rfl
                              · replace hx := cond_f c_79 hx
                                refine JL.gNo rfl rfl rfl rfl rfl ?_
                                refine JL.gNo rfl rfl rfl rfl rfl ?_
                                refine JL.gNo rfl rfl rfl rfl rfl ?_
                                refine JL.val rfl rfl (R.pickF rfl rfl) ?_
                                refine JL.val rfl rfl (R.assign rfl) ?_
                                refine JL.nil ?_
                                obtain rfl := Option.some.inj hx
                                refine JN.forget 0 ?_
                                exact JN.cut ⟨rfl, rfl, rfl⟩ ⟨rfl, trivial⟩ rfl rfl
                            · replace hx := cond_f c_78 hx
                              refine JL.gNo rfl rfl rfl rfl rfl ?_
                              refine JL.gNo rfl rfl rfl rfl rfl ?_
                              refine JL.gNo rfl rfl rfl rfl rfl ?_
                              refine JL.gNo rfl rfl rfl rfl rfl ?_
                              refine JL.val rfl rfl (R.pickF rfl rfl) ?_
                              refine JL.val rfl rfl (R.move rfl) ?_
                              refine JL.gNo rfl rfl rfl rfl rfl ?_
                              refine JL.gNo rfl rfl rfl rfl rfl ?_
                              refine JL.gNo rfl rfl rfl rfl rfl ?_
                              refine JL.val rfl rfl (R.pickF rfl rfl) ?_
                              refine JL.val rfl rfl (R.assign rfl) ?_
                              refine JL.nil ?_
                              obtain rfl := Option.some.inj hx
                              refine JN.forget 0 ?_
                              exact JN.cut ⟨rfl, rfl, rfl⟩ ⟨rfl, trivial⟩ rfl rfl
                          · replace hx := cond_f c_77 hx
                            refine JL.gNo rfl rfl rfl rfl rfl ?_
                            refine JL.gNo rfl rfl rfl rfl rfl ?_
                            refine JL.val rfl rfl (R.pickF rfl rfl) ?_
                            refine JL.val rfl rfl (R.move rfl) ?_
                            refine JL.gNo rfl rfl rfl rfl rfl ?_
                            refine JL.gNo rfl rfl rfl rfl rfl ?_
                            refine JL.gNo rfl rfl rfl rfl rfl ?_
                            refine JL.gNo rfl rfl rfl rfl rfl ?_
                            refine JL.val rfl rfl (R.pickF rfl rfl) ?_
                            refine JL.val rfl rfl (R.move rfl) ?_
                            refine JL.gNo rfl rfl rfl rfl rfl ?_
                            refine JL.gNo rfl rfl rfl rfl rfl ?_
                            refine JL.gNo rfl rfl rfl rfl rfl ?_
                            refine JL.val rfl rfl (R.pickF rfl rfl) ?_
                            refine JL.val rfl rfl (R.assign rfl) ?_
                            refine JL.nil ?_
                            obtain rfl := Option.some.inj hx
                            refine JN.forget 0 ?_
                            exact JN.cut ⟨rfl, rfl, rfl⟩ ⟨rfl, trivial⟩ rfl rfl
                      · have hxo_69 := hx; clear hx; have hx := ht_70; clear ht_70
                        refine JC.block ?_
                        refine JC.front 1 rfl ?_
                        refine JC.loopI (fun n l o g => ∃ s_71 : Int × Int × Nat, l = [(0, .slice aoa_2 na_2 capa_2), (4, .pointer (some ⟨b_5, 0, none⟩)), (7, .bool x_6), (15, .slice aor_62 nr_62 capr_62), (17, .int .i64 s_71.1), (18, .int .i64 s_71.2.1), (19, .int .i64 ((s_71.2.2 : Nat) : Int))] ∧ o = [[(b_5, .cells #[.int .i64 p_3.At, .int .u32 (p_3.Birth.toNat : Int), .int .u32 (p_3.Iv.toNat : Int), .int .u32 (p_3.Tag.toNat : Int), .int .u32 (p_3.Sum.toNat : Int)] 32 (0, 0))], Kr_62] ∧ H = g ∧ run (law16_DeadParts_l3 p_1 p_3 x_59) n s_71 = some t_68) FUEL ?_ ⟨(0, 0, 0), rfl, rfl, rfl, hx⟩ ⟨rfl, rfl, rfl, rfl, rfl, rfl, rfl, trivial⟩ ?_
                        · rintro _ _ _ ⟨s_71, rfl, rfl, rfl, hn_72⟩
                          exact run_zero hn_72
                        · rintro n_73 _ _ _ ⟨s_71, rfl, rfl, rfl, hn_72⟩
                          clear hx; obtain ⟨oo_75, hx, hd_74⟩ := run_some hn_72
                          rw [law16_DeadParts_l3.eq_1] at hx
                          refine JC.seq ?_
                          refine JC.seq ?_
                          refine JC.region ?_
                          refine JL.val rfl rfl (R.move rfl) ?_
                          refine JL.val rfl rfl (R.move rfl) ?_
                          refine JL.val rfl rfl (R.lenL U22 rfl (RowOf.long hr_62)) ?_
                          refine JL.val rfl rfl (R.lss_i rfl rfl) ?_
                          refine JL.nil ?_
                          refine JN.next ?_
                          refine JC.condB rfl (fun c_74 => ?_) (fun c_74 => ?_)
                          · replace hx := cond_t c_74 hx
                            refine JC.skip ?_
                            refine JN.next ?_
                            refine JC.seq ?_
                            refine JC.block ?_
                            refine JC.seq ?_
                            refine JC.draw (so := [_, _]) 6 rfl Mixed ⟨⟨0, rfl⟩, ⟨1, rfl⟩, trivial⟩ ?_
                            refine JA.val ⟨by kernel_rfl, by kernel_rfl⟩ (calm_only _) (i := 0) rfl ⟨by kernel_rfl, by kernel_rfl, rfl⟩ trivial (stab_of (Hle.refl _) ⟨⟨0, rfl⟩, ⟨1, rfl⟩, trivial⟩) (R.move rfl) rfl ?_
                            refine JA.val ⟨by kernel_rfl, by kernel_rfl⟩ (calm_only _) (i := 1) rfl ⟨by kernel_rfl, by kernel_rfl, rfl⟩ trivial (stab_of (Hle.refl _) ⟨⟨0, rfl⟩, ⟨1, rfl⟩, trivial⟩) (R.move rfl) rfl ?_
                            obtain ⟨y_75, hN_76, hx⟩ := idx_some hx
                            obtain ⟨b_77, o_78, cs_79, cur_84, hK_85, hE_80, hR_81, hl_82, hc_83⟩ := RowOf.elem hr_62 hN_76
                            subst hK_85
                            obtain rfl := hR_81
                            refine JA.val ⟨by kernel_rfl, by kernel_rfl⟩ (calm_only _) (i := 2) rfl ⟨by kernel_rfl, by kernel_rfl, rfl⟩ trivial (stab_of (Hle.refl _) ⟨⟨0, rfl⟩, ⟨1, rfl⟩, trivial⟩) (R.ix U22 S32 rfl rfl hE_80) rfl ?_
                            refine JA.val ⟨by kernel_rfl, by kernel_rfl⟩ (calm_only _) (i := 3) rfl ⟨by kernel_rfl, by kernel_rfl, rfl⟩ trivial (stab_of (Hle.refl _) ⟨⟨0, rfl⟩, ⟨1, rfl⟩, trivial⟩) (R.ldoE 1 (cs := [.int .i64 y_75.At, .int .u32 (y_75.Birth.toNat : Int), .int .u32 (y_75.Iv.toNat : Int), .int .u32 (y_75.Tag.toNat : Int), .int .u32 (y_75.Sum.toNat : Int)]) (k := 0) (vs := [.int .i64 y_75.At, .int .u32 (y_75.Birth.toNat : Int), .int .u32 (y_75.Iv.toNat : Int), .int .u32 (y_75.Tag.toNat : Int), .int .u32 (y_75.Sum.toNat : Int)]) S32 rfl rfl hc_83 rfl rfl) rfl ?_
                            refine JA.val ⟨by kernel_rfl, by kernel_rfl⟩ (calm_only _) (i := 4) rfl ⟨by kernel_rfl, by kernel_rfl, rfl⟩ trivial (stab_of (Hle.refl _) ⟨⟨0, rfl⟩, ⟨1, rfl⟩, trivial⟩) (R.ldoN 0 (vs := [.int .i64 p_3.At, .int .u32 (p_3.Birth.toNat : Int), .int .u32 (p_3.Iv.toNat : Int), .int .u32 (p_3.Tag.toNat : Int), .int .u32 (p_3.Sum.toNat : Int)]) S32 rfl rfl rfl rfl) rfl ?_
                            refine JA.val ⟨by kernel_rfl, by kernel_rfl⟩ (calm_only _) (i := 5) rfl ⟨by kernel_rfl, by kernel_rfl, rfl⟩ trivial (stab_of (Hle.refl _) ⟨⟨0, rfl⟩, ⟨1, rfl⟩, trivial⟩) (R.eqlAgg QU32 QP32 QG32 QF32 rfl rfl (EqF.i (by decide) S3 U3 rfl rfl (EqF.u32 (a := y_75.Birth) (b := p_3.Birth) (by decide) S30 U30 rfl rfl (EqF.u32 (a := y_75.Iv) (b := p_3.Iv) (by decide) S30 U30 rfl rfl (EqF.u32 (a := y_75.Tag) (b := p_3.Tag) (by decide) S30 U30 rfl rfl (EqF.u32 (a := y_75.Sum) (b := p_3.Sum) (by decide) S30 U30 rfl rfl EqF.nil)))))) rfl ?_
                            refine JA.doneN (by kernel_rfl) ?_
                            refine JN.next ?_
                            refine JC.condB rfl (fun c_86 => ?_) (fun c_86 => ?_)
                            · replace hx := cond_t c_86 hx
                              refine JC.region ?_
                              refine JL.val rfl rfl (R.move rfl) ?_
                              refine JL.val rfl rfl (R.add_i rfl rfl) ?_
                              refine JL.val rfl rfl (R.assign rfl) ?_
                              refine JL.nil ?_
                              refine JN.blkN ?_
                              refine JN.next ?_
                              refine JC.region ?_
                              refine JL.val rfl rfl (R.move rfl) ?_
                              refine JL.val rfl rfl (R.inc rfl rfl (of_decide_eq_true c_74) (RowOf.lenI hr_62)) ?_
                              refine JL.val rfl rfl (R.assign rfl) ?_
                              refine JL.nil ?_
                              replace hx := run_next hd_74 hx
                              refine JN.front 1 rfl ?_
                              refine JN.front 1 rfl ?_
                              exact JN.cut ⟨(s_71.1, w64 (s_71.2.1 + 1), s_71.2.2 + 1), rfl, rfl, rfl, hx⟩ ⟨rfl, rfl, rfl, rfl, rfl, rfl, rfl, trivial⟩ rfl rfl
                            · replace hx := cond_f c_86 hx
                              refine JC.seq ?_
                              refine JC.draw (so := [_, _]) 15 rfl Mixed ⟨⟨0, rfl⟩, ⟨1, rfl⟩, trivial⟩ ?_
                              refine JA.val ⟨by kernel_rfl, by kernel_rfl⟩ (calm_only _) (i := 0) rfl ⟨by kernel_rfl, by kernel_rfl, rfl⟩ trivial (stab_of (Hle.refl _) ⟨⟨0, rfl⟩, ⟨1, rfl⟩, trivial⟩) (R.move rfl) rfl ?_
                              refine JA.val ⟨by kernel_rfl, by kernel_rfl⟩ (calm_only _) (i := 1) rfl ⟨by kernel_rfl, by kernel_rfl, rfl⟩ trivial (stab_of (Hle.refl _) ⟨⟨0, rfl⟩, ⟨1, rfl⟩, trivial⟩) (R.move rfl) rfl ?_
                              refine JA.val ⟨by kernel_rfl, by kernel_rfl⟩ (calm_only _) (i := 2) rfl ⟨by kernel_rfl, by kernel_rfl, rfl⟩ trivial (stab_of (Hle.refl _) ⟨⟨0, rfl⟩, ⟨1, rfl⟩, trivial⟩) (R.lenL U22 rfl (IsSlice.long ha_2)) rfl ?_
                              refine JA.val ⟨by kernel_rfl, by kernel_rfl⟩ (calm_only _) (i := 3) rfl ⟨by kernel_rfl, by kernel_rfl, rfl⟩ trivial (stab_of (Hle.refl _) ⟨⟨0, rfl⟩, ⟨1, rfl⟩, trivial⟩) (R.geq_i rfl rfl) rfl ?_
                              refine JA.val ⟨by kernel_rfl, by kernel_rfl⟩ (calm_only _) (i := 4) rfl ⟨by kernel_rfl, by kernel_rfl, rfl⟩ trivial (stab_of (Hle.refl _) ⟨⟨0, rfl⟩, ⟨1, rfl⟩, trivial⟩) (R.move rfl) rfl ?_
                              refine JA.gSplit (t := 123) rfl (fun c_87 => ?_) (fun c_87 => ?_)
                              · replace hx := cond_t c_87 hx
                                refine JA.no ⟨by kernel_rfl, by kernel_rfl⟩ (calm_only _) (i := 5) rfl ⟨by kernel_rfl, by kernel_rfl, rfl⟩ rfl rfl rfl rfl (stab_of (Hle.refl _) ⟨⟨0, rfl⟩, ⟨1, rfl⟩, trivial⟩) rfl ?_
                                refine JA.no ⟨by kernel_rfl, by kernel_rfl⟩ (calm_only _) (i := 6) rfl ⟨by kernel_rfl, by kernel_rfl, rfl⟩ rfl rfl rfl rfl (stab_of (Hle.refl _) ⟨⟨0, rfl⟩, ⟨1, rfl⟩, trivial⟩) rfl ?_
                                refine JA.no ⟨by kernel_rfl, by kernel_rfl⟩ (calm_only _) (i := 7) rfl ⟨by kernel_rfl, by kernel_rfl, rfl⟩ rfl rfl rfl rfl (stab_of (Hle.refl _) ⟨⟨0, rfl⟩, ⟨1, rfl⟩, trivial⟩) rfl ?_
                                refine JA.no ⟨by kernel_rfl, by kernel_rfl⟩ (calm_only _) (i := 8) rfl ⟨by kernel_rfl, by kernel_rfl, rfl⟩ rfl rfl rfl rfl (stab_of (Hle.refl _) ⟨⟨0, rfl⟩, ⟨1, rfl⟩, trivial⟩) rfl ?_
                                refine JA.no ⟨by kernel_rfl, by kernel_rfl⟩ (calm_only _) (i := 9) rfl ⟨by kernel_rfl, by kernel_rfl, rfl⟩ rfl rfl rfl rfl (stab_of (Hle.refl _) ⟨⟨0, rfl⟩, ⟨1, rfl⟩, trivial⟩) rfl ?_
                                refine JA.no ⟨by kernel_rfl, by kernel_rfl⟩ (calm_only _) (i := 10) rfl ⟨by kernel_rfl, by kernel_rfl, rfl⟩ rfl rfl rfl rfl (stab_of (Hle.refl _) ⟨⟨0, rfl⟩, ⟨1, rfl⟩, trivial⟩) rfl ?_
                                refine JA.no ⟨by kernel_rfl, by kernel_rfl⟩ (calm_only _) (i := 11) rfl ⟨by kernel_rfl, by kernel_rfl, rfl⟩ rfl rfl rfl rfl (stab_of (Hle.refl _) ⟨⟨0, rfl⟩, ⟨1, rfl⟩, trivial⟩) rfl ?_
                                refine JA.no ⟨by kernel_rfl, by kernel_rfl⟩ (calm_only _) (i := 12) rfl ⟨by kernel_rfl, by kernel_rfl, rfl⟩ rfl rfl rfl rfl (stab_of (Hle.refl _) ⟨⟨0, rfl⟩, ⟨1, rfl⟩, trivial⟩) rfl ?_
                                refine JA.no ⟨by kernel_rfl, by kernel_rfl⟩ (calm_only _) (i := 13) rfl ⟨by kernel_rfl, by kernel_rfl, rfl⟩ rfl rfl rfl rfl (stab_of (Hle.refl _) ⟨⟨0, rfl⟩, ⟨1, rfl⟩, trivial⟩) rfl ?_
                                refine JA.val ⟨by kernel_rfl, by kernel_rfl⟩ (calm_only _) (i := 14) rfl ⟨by kernel_rfl, by kernel_rfl, rfl⟩ trivial (stab_of (Hle.refl _) ⟨⟨0, rfl⟩, ⟨1, rfl⟩, trivial⟩) (R.pickT rfl rfl) rfl ?_
                                refine JA.doneN (by kernel_rfl) ?_
                                refine JN.next ?_
                                refine JC.condT rfl ?_
                                refine JC.seq ?_
                                refine JC.region ?_
                                refine JL.val rfl rfl (R.assign rfl) ?_
                                refine JL.nil ?_
                                refine JN.next ?_
                                refine JC.ret ?_
                                refine JN.blkR ?_
                                refine JN.passR ?_
                                obtain rfl := run_done hd_74 hx
                                refine JN.passR ?_
                                refine JN.blkR ?_
                                clear hx; have hx := hxo_69
                                simp only [Sum.elim_inl, Sum.elim_inr] at hx
                                refine JN.passR ?_
                                refine JN.passR ?_
                                refine JN.outP (vs := [.bool false]) (K := []) (rst := [_, _]) (.inl rfl) rfl rfl (Res.tmp rfl rfl) picks0 ?_
                                obtain rfl := Option.some.inj hx
                                exact ⟨rfl, rfl, rfl, trivial⟩
                              · replace hx := cond_f c_87 hx
                                refine JA.val ⟨by kernel_rfl, by kernel_rfl⟩ (calm_only _) (i := 5) rfl ⟨by kernel_rfl, by kernel_rfl, rfl⟩ ⟨_, _, rfl, rfl, rfl⟩ (stab_of (Hle.refl _) ⟨⟨0, rfl⟩, ⟨1, rfl⟩, trivial⟩) (R.move rfl) rfl ?_
                                refine JA.val ⟨by kernel_rfl, by kernel_rfl⟩ (calm_only _) (i := 6) rfl ⟨by kernel_rfl, by kernel_rfl, rfl⟩ ⟨_, _, rfl, rfl, rfl⟩ (stab_of (Hle.refl _) ⟨⟨0, rfl⟩, ⟨1, rfl⟩, trivial⟩) (R.move rfl) rfl ?_
                                obtain ⟨y_88, hN_89, hx⟩ := idx_some hx
                                obtain ⟨b_90, o_91, cs_92, hE_93, hR_94, hl_95, hc_96⟩ := IsSlice.elem ha_2 hN_89
                                obtain rfl := hR_94
                                refine JA.val ⟨by kernel_rfl, by kernel_rfl⟩ (calm_only _) (i := 7) rfl ⟨by kernel_rfl, by kernel_rfl, rfl⟩ ⟨_, _, rfl, rfl, rfl⟩ (stab_of (Hle.refl _) ⟨⟨0, rfl⟩, ⟨1, rfl⟩, trivial⟩) (R.ix U22 S32 rfl rfl hE_93) rfl ?_
                                refine JA.val ⟨by kernel_rfl, by kernel_rfl⟩ (calm_only _) (i := 8) rfl ⟨by kernel_rfl, by kernel_rfl, rfl⟩ ⟨_, _, rfl, rfl, rfl⟩ (stab_of (Hle.refl _) ⟨⟨0, rfl⟩, ⟨1, rfl⟩, trivial⟩) (R.ldHE (cs := [.int .i64 y_88.At, .int .u32 (y_88.Birth.toNat : Int), .int .u32 (y_88.Iv.toNat : Int), .int .u32 (y_88.Tag.toNat : Int), .int .u32 (y_88.Sum.toNat : Int)]) (k := 0) (vs := [.int .i64 y_88.At, .int .u32 (y_88.Birth.toNat : Int), .int .u32 (y_88.Iv.toNat : Int), .int .u32 (y_88.Tag.toNat : Int), .int .u32 (y_88.Sum.toNat : Int)]) S32 rfl hc_96 rfl rfl) rfl ?_
                                refine JA.val ⟨by kernel_rfl, by kernel_rfl⟩ (calm_only _) (i := 9) rfl ⟨by kernel_rfl, by kernel_rfl, rfl⟩ ⟨_, _, rfl, rfl, rfl⟩ (stab_of (Hle.refl _) ⟨⟨0, rfl⟩, ⟨1, rfl⟩, trivial⟩) (R.move rfl) rfl ?_
                                refine JA.val ⟨by kernel_rfl, by kernel_rfl⟩ (calm_only _) (i := 10) rfl ⟨by kernel_rfl, by kernel_rfl, rfl⟩ ⟨_, _, rfl, rfl, rfl⟩ (stab_of (Hle.refl _) ⟨⟨0, rfl⟩, ⟨1, rfl⟩, trivial⟩) (R.move rfl) rfl ?_
                                obtain ⟨y_97, hN_98, hx⟩ := idx_some hx
                                obtain ⟨b_99, o_100, cs_101, cur_106, hK_107, hE_102, hR_103, hl_104, hc_105⟩ := RowOf.elem hr_62 hN_98
                                obtain ⟨rfl, rfl⟩ : b_77 = b_99 ∧ cur_84 = cur_106 := by simpa using hK_107
                                obtain rfl := hR_103
                                refine JA.val ⟨by kernel_rfl, by kernel_rfl⟩ (calm_only _) (i := 11) rfl ⟨by kernel_rfl, by kernel_rfl, rfl⟩ ⟨_, _, rfl, rfl, rfl⟩ (stab_of (Hle.refl _) ⟨⟨0, rfl⟩, ⟨1, rfl⟩, trivial⟩) (R.ix U22 S32 rfl rfl hE_102) rfl ?_
                                refine JA.val ⟨by kernel_rfl, by kernel_rfl⟩ (calm_only _) (i := 12) rfl ⟨by kernel_rfl, by kernel_rfl, rfl⟩ ⟨_, _, rfl, rfl, rfl⟩ (stab_of (Hle.refl _) ⟨⟨0, rfl⟩, ⟨1, rfl⟩, trivial⟩) (R.ldoE 1 (cs := [.int .i64 y_97.At, .int .u32 (y_97.Birth.toNat : Int), .int .u32 (y_97.Iv.toNat : Int), .int .u32 (y_97.Tag.toNat : Int), .int .u32 (y_97.Sum.toNat : Int)]) (k := 0) (vs := [.int .i64 y_97.At, .int .u32 (y_97.Birth.toNat : Int), .int .u32 (y_97.Iv.toNat : Int), .int .u32 (y_97.Tag.toNat : Int), .int .u32 (y_97.Sum.toNat : Int)]) S32 rfl rfl hc_105 rfl rfl) rfl ?_
                                refine JA.val ⟨by kernel_rfl, by kernel_rfl⟩ (calm_only _) (i := 13) rfl ⟨by kernel_rfl, by kernel_rfl, rfl⟩ ⟨_, _, rfl, rfl, rfl⟩ (stab_of (Hle.refl _) ⟨⟨0, rfl⟩, ⟨1, rfl⟩, trivial⟩) (R.neqAgg QU32 QP32 QG32 QF32 rfl rfl (EqF.i (by decide) S3 U3 rfl rfl (EqF.u32 (a := y_88.Birth) (b := y_97.Birth) (by decide) S30 U30 rfl rfl (EqF.u32 (a := y_88.Iv) (b := y_97.Iv) (by decide) S30 U30 rfl rfl (EqF.u32 (a := y_88.Tag) (b := y_97.Tag) (by decide) S30 U30 rfl rfl (EqF.u32 (a := y_88.Sum) (b := y_97.Sum) (by decide) S30 U30 rfl rfl EqF.nil)))))) rfl ?_
                                refine JA.val ⟨by kernel_rfl, by kernel_rfl⟩ (calm_only _) (i := 14) rfl ⟨by kernel_rfl, by kernel_rfl, rfl⟩ trivial (stab_of (Hle.refl _) ⟨⟨0, rfl⟩, ⟨1, rfl⟩, trivial⟩) (R.pickF rfl rfl) rfl ?_
                                refine JA.doneN (by kernel_rfl) ?_
                                refine JN.next ?_
                                refine JC.condB rfl (fun c_108 => ?_) (fun c_108 => ?_)
                                · replace hx := cond_t c_108 hx
                                  refine JC.seq ?_
                                  refine JC.region ?_
                                  refine JL.val rfl rfl (R.assign rfl) ?_
                                  refine JL.nil ?_
                                  refine JN.next ?_
                                  refine JC.ret ?_
                                  refine JN.blkR ?_
                                  refine JN.passR ?_
                                  obtain rfl := run_done hd_74 hx
                                  refine JN.passR ?_
                                  refine JN.blkR ?_
                                  clear hx; have hx := hxo_69
                                  simp only [Sum.elim_inl, Sum.elim_inr] at hx
                                  refine JN.passR ?_
                                  refine JN.passR ?_
                                  refine JN.outP (vs := [.bool false]) (K := []) (rst := [_, _]) (.inl rfl) rfl rfl (Res.tmp rfl rfl) picks0 ?_
                                  obtain rfl := Option.some.inj hx
                                  exact ⟨rfl, rfl, rfl, trivial⟩
                                · replace hx := cond_f c_108 hx
                                  refine JC.region ?_
                                  refine JL.val rfl rfl (R.move rfl) ?_
                                  refine JL.val rfl rfl (R.add_i rfl rfl) ?_
                                  refine JL.val rfl rfl (R.assign rfl) ?_
                                  refine JL.nil ?_
                                  refine JN.blkN ?_
                                  refine JN.next ?_
                                  refine JC.region ?_
                                  refine JL.val rfl rfl (R.move rfl) ?_
                                  refine JL.val rfl rfl (R.inc rfl rfl (of_decide_eq_true c_74) (RowOf.lenI hr_62)) ?_
                                  refine JL.val rfl rfl (R.assign rfl) ?_
                                  refine JL.nil ?_
                                  replace hx := run_next hd_74 hx
                                  refine JN.front 1 rfl ?_
                                  refine JN.front 1 rfl ?_
                                  exact JN.cut ⟨(w64 (s_71.1 + 1), s_71.2.1, s_71.2.2 + 1), rfl, rfl, rfl, hx⟩ ⟨rfl, rfl, rfl, rfl, rfl, rfl, rfl, trivial⟩ rfl rfl
                          · replace hx := cond_f c_74 hx
                            refine JC.exit ?_
                            refine JN.passX ?_
                            obtain rfl := run_done hd_74 hx
                            refine JN.passX ?_
                            refine JN.exitSame ?_
                            refine JN.forget 0 ?_
                            exact JN.cut ⟨(s_71.1, s_71.2.1), rfl, rfl, rfl, rfl⟩ ⟨rfl, rfl, rfl, rfl, rfl, trivial⟩ rfl rfl
                  · have hxo_54 := hx; clear hx; have hx := ht_55; clear ht_55
                    refine JC.block ?_
                    refine JC.front 1 rfl ?_
                    refine JC.front 1 rfl ?_
                    refine JC.loopI (fun n l o g => ∃ s_56 : Nat, l = [(0, .slice aoa_2 na_2 capa_2), (2, .int .u32 (p_4.toNat : Int)), (4, .pointer (some ⟨b_5, 0, none⟩)), (7, .bool x_6), (9, .slice aor_18 nr_18 capr_18), (14, .int .i64 ((s_56 : Nat) : Int))] ∧ o = [[(b_5, .cells #[.int .i64 p_3.At, .int .u32 (p_3.Birth.toNat : Int), .int .u32 (p_3.Iv.toNat : Int), .int .u32 (p_3.Tag.toNat : Int), .int .u32 (p_3.Sum.toNat : Int)] 32 (0, 0))], Kr_18] ∧ H = g ∧ run (law16_DeadParts_l2 p_4 x_14) n s_56 = some t_53) FUEL ?_ ⟨0, rfl, rfl, rfl, hx⟩ ⟨rfl, rfl, rfl, rfl, rfl, rfl, trivial⟩ ?_
                    · rintro _ _ _ ⟨s_56, rfl, rfl, rfl, hn_57⟩
                      exact run_zero hn_57
                    · rintro n_58 _ _ _ ⟨s_56, rfl, rfl, rfl, hn_57⟩
                      clear hx; obtain ⟨oo_60, hx, hd_59⟩ := run_some hn_57
                      rw [law16_DeadParts_l2.eq_1] at hx
                      refine JC.seq ?_
                      refine JC.seq ?_
                      refine JC.region ?_
                      refine JL.val rfl rfl (R.move rfl) ?_
                      refine JL.val rfl rfl (R.move rfl) ?_
                      refine JL.val rfl rfl (R.lenL U22 rfl (RowOf.long hr_18)) ?_
                      refine JL.val rfl rfl (R.lss_i rfl rfl) ?_
                      refine JL.nil ?_
                      refine JN.next ?_
                      refine JC.condB rfl (fun c_59 => ?_) (fun c_59 => ?_)
                      · replace hx := cond_t c_59 hx
                        refine JC.skip ?_
                        refine JN.next ?_
                        refine JC.seq ?_
                        refine JC.block ?_
                        refine JC.seq ?_
                        refine JC.region ?_
                        refine JL.val rfl rfl (R.move rfl) ?_
                        refine JL.val rfl rfl (R.move rfl) ?_
                        obtain ⟨y_60, hN_61, hx⟩ := idx_some hx
                        obtain ⟨b_62, o_63, cs_64, cur_69, hK_70, hE_65, hR_66, hl_67, hc_68⟩ := RowOf.elem hr_18 hN_61
                        subst hK_70
                        obtain rfl := hR_66
                        refine JL.val rfl rfl (R.ix U22 S32 rfl rfl hE_65) ?_
                        refine JL.val rfl rfl (R.fa F32_1 rfl) ?_
                        refine JL.val rfl rfl (R.ldo 1 S30 rfl rfl (hc_68 1 _ rfl)) ?_
                        refine JL.val rfl rfl (R.move rfl) ?_
                        refine JL.val rfl rfl (R.leq32 (a := y_60.Birth) (b := p_4) rfl rfl) ?_
                        refine JL.nil ?_
                        refine JN.next ?_
                        refine JC.condB rfl (fun c_71 => ?_) (fun c_71 => ?_)
                        · replace hx := cond_t c_71 hx
                          refine JC.seq ?_
                          refine JC.region ?_
                          refine JL.val rfl rfl (R.assign rfl) ?_
                          refine JL.nil ?_
                          refine JN.next ?_
                          refine JC.ret ?_
                          refine JN.blkR ?_
                          refine JN.passR ?_
                          obtain rfl := run_done hd_59 hx
                          refine JN.passR ?_
                          refine JN.blkR ?_
                          clear hx; have hx := hxo_54
                          simp only [Sum.elim_inl, Sum.elim_inr] at hx
                          refine JN.passR ?_
                          refine JN.passR ?_
                          refine JN.outP (vs := [.bool false]) (K := []) (rst := [_, _]) (.inl rfl) rfl rfl (Res.tmp rfl rfl) picks0 ?_
                          obtain rfl := Option.some.inj hx
                          exact ⟨rfl, rfl, rfl, trivial⟩
                        · replace hx := cond_f c_71 hx
                          refine JC.skip ?_
                          refine JN.blkN ?_
                          refine JN.next ?_
                          refine JC.region ?_
                          refine JL.val rfl rfl (R.move rfl) ?_
                          refine JL.val rfl rfl (R.inc rfl rfl (of_decide_eq_true c_59) (RowOf.lenI hr_18)) ?_
                          refine JL.val rfl rfl (R.assign rfl) ?_
                          refine JL.nil ?_
                          replace hx := run_next hd_59 hx
                          refine JN.front 1 rfl ?_
                          refine JN.front 1 rfl ?_
                          exact JN.cut ⟨s_56 + 1, rfl, rfl, rfl, hx⟩ ⟨rfl, rfl, rfl, rfl, rfl, rfl, trivial⟩ rfl rfl
                      · replace hx := cond_f c_59 hx
                        refine JC.exit ?_
                        refine JN.passX ?_
                        obtain rfl := run_done hd_59 hx
                        refine JN.passX ?_
                        refine JN.exitSame ?_
                        refine JN.forget 1 ?_
                        exact JN.cut ⟨(), rfl, rfl, rfl, rfl⟩ ⟨rfl, rfl, rfl, trivial⟩ rfl rfl
                · have hxo_48 := hx; clear hx; have hx := ht_49; clear ht_49
                  refine JC.block ?_
                  refine JC.forget 0 ?_
                  refine JC.front 1 rfl ?_
                  refine JC.front 1 rfl ?_
                  refine JC.front 2 rfl ?_
                  refine JC.loopI (fun n l o g => ∃ s_50 : Nat, l = [(0, .slice aoa_2 na_2 capa_2), (2, .int .u32 (p_4.toNat : Int)), (4, .pointer (some ⟨b_5, 0, none⟩)), (7, .bool x_6), (8, .slice aor_17 nr_17 capr_17), (9, .slice aor_18 nr_18 capr_18), (13, .int .i64 ((s_50 : Nat) : Int))] ∧ o = [[(b_5, .cells #[.int .i64 p_3.At, .int .u32 (p_3.Birth.toNat : Int), .int .u32 (p_3.Iv.toNat : Int), .int .u32 (p_3.Tag.toNat : Int), .int .u32 (p_3.Sum.toNat : Int)] 32 (0, 0))], Kr_17, Kr_18] ∧ H = g ∧ run (law16_DeadParts_l1 p_4 x_14) n s_50 = some t_47) FUEL ?_ ⟨0, rfl, rfl, rfl, hx⟩ ⟨rfl, rfl, rfl, rfl, rfl, rfl, rfl, trivial⟩ ?_
                  · rintro _ _ _ ⟨s_50, rfl, rfl, rfl, hn_51⟩
                    exact run_zero hn_51
                  · rintro n_52 _ _ _ ⟨s_50, rfl, rfl, rfl, hn_51⟩
                    clear hx; obtain ⟨oo_54, hx, hd_53⟩ := run_some hn_51
                    rw [law16_DeadParts_l1.eq_1] at hx
                    refine JC.seq ?_
                    refine JC.seq ?_
                    refine JC.region ?_
                    refine JL.val rfl rfl (R.move rfl) ?_
                    refine JL.val rfl rfl (R.move rfl) ?_
                    refine JL.val rfl rfl (R.lenL U22 rfl (RowOf.long hr_17)) ?_
                    refine JL.val rfl rfl (R.lss_i rfl rfl) ?_
                    refine JL.nil ?_
                    refine JN.next ?_
                    refine JC.condB rfl (fun c_53 => ?_) (fun c_53 => ?_)
                    · replace hx := cond_t c_53 hx
                      refine JC.skip ?_
                      refine JN.next ?_
                      refine JC.seq ?_
                      refine JC.block ?_
                      refine JC.seq ?_
                      refine JC.region ?_
                      refine JL.val rfl rfl (R.move rfl) ?_
                      refine JL.val rfl rfl (R.move rfl) ?_
                      obtain ⟨y_54, hN_55, hx⟩ := idx_some hx
                      obtain ⟨b_56, o_57, cs_58, cur_63, hK_64, hE_59, hR_60, hl_61, hc_62⟩ := RowOf.elem hr_17 hN_55
                      subst hK_64
                      obtain rfl := hR_60
                      refine JL.val rfl rfl (R.ix U22 S32 rfl rfl hE_59) ?_
                      refine JL.val rfl rfl (R.fa F32_1 rfl) ?_
                      refine JL.val rfl rfl (R.ldo 1 S30 rfl rfl (hc_62 1 _ rfl)) ?_
                      refine JL.val rfl rfl (R.move rfl) ?_
                      refine JL.val rfl rfl (R.gtr32 (a := y_54.Birth) (b := p_4) rfl rfl) ?_
                      refine JL.nil ?_
                      refine JN.next ?_
                      refine JC.condB rfl (fun c_65 => ?_) (fun c_65 => ?_)
                      · replace hx := cond_t c_65 hx
                        refine JC.seq ?_
                        refine JC.region ?_
                        refine JL.val rfl rfl (R.assign rfl) ?_
                        refine JL.nil ?_
                        refine JN.next ?_
                        refine JC.ret ?_
                        refine JN.blkR ?_
                        refine JN.passR ?_
                        obtain rfl := run_done hd_53 hx
                        refine JN.passR ?_
                        refine JN.blkR ?_
                        clear hx; have hx := hxo_48
                        simp only [Sum.elim_inl, Sum.elim_inr] at hx
                        refine JN.passR ?_
                        refine JN.passR ?_
                        refine JN.outP (vs := [.bool false]) (K := []) (rst := [_, _, _]) (.inl rfl) rfl rfl (Res.tmp rfl rfl) picks0 ?_
                        obtain rfl := Option.some.inj hx
                        exact ⟨rfl, rfl, rfl, trivial⟩
                      · replace hx := cond_f c_65 hx
                        refine JC.skip ?_
                        refine JN.blkN ?_
                        refine JN.next ?_
                        refine JC.region ?_
                        refine JL.val rfl rfl (R.move rfl) ?_
                        refine JL.val rfl rfl (R.inc rfl rfl (of_decide_eq_true c_53) (RowOf.lenI hr_17)) ?_
                        refine JL.val rfl rfl (R.assign rfl) ?_
                        refine JL.nil ?_
                        replace hx := run_next hd_53 hx
                        refine JN.front 2 rfl ?_
                        refine JN.front 2 rfl ?_
                        refine JN.front 2 rfl ?_
                        exact JN.cut ⟨s_50 + 1, rfl, rfl, rfl, hx⟩ ⟨rfl, rfl, rfl, rfl, rfl, rfl, rfl, trivial⟩ rfl rfl
                    · replace hx := cond_f c_53 hx
                      refine JC.exit ?_
                      refine JN.passX ?_
                      obtain rfl := run_done hd_53 hx
                      refine JN.passX ?_
                      refine JN.exitSame ?_
                      refine JN.forget 1 ?_
                      refine JN.front 1 rfl ?_
                      refine JN.front 1 rfl ?_
                      exact JN.cut ⟨(), rfl, rfl, rfl, rfl⟩ ⟨rfl, rfl, rfl, rfl, rfl, trivial⟩ rfl rfl

set_option maxHeartbeats 1000000 in
theorem law16_DeadSyncs_ok (p_1 : List Ptr) (p_3 : UInt32) (p_4 : UInt32) (H : Heaplet) {aoa_2 : Option Addr} {na_2 : Nat} {capa_2 : Nat} (ha_2 : IsSlice H R_Ptr 5 (.slice aoa_2 na_2 capa_2) p_1) (r : Bool) (hx : law16_DeadSyncs p_1 p_3 p_4 = some r) :
    Does Try.prog 6 #[.slice aoa_2 na_2 capa_2, .int .u32 (p_3.toNat : Int), .int .u32 (p_4.toNat : Int)] [] H (fun u K' H' => u = .bool r ∧ K' = [] ∧ H = H' ∧ True) := by
  refine Does.enterL (vs := [.slice aoa_2 na_2 capa_2, .int .u32 (p_3.toNat : Int), .int .u32 (p_4.toNat : Int)]) (l := [(0, .slice aoa_2 na_2 capa_2), (1, .int .u32 (p_3.toNat : Int)), (2, .int .u32 (p_4.toNat : Int))]) Try.func6 rfl rfl ⟨rfl, rfl, rfl, trivial⟩ (fun w hlt => ?_)
  rw [law16_DeadSyncs.eq_1] at hx
  refine JC.seq ?_
  refine JC.region ?_
  refine JL.val rfl rfl (R.assign rfl) ?_
  refine JL.nil ?_
  refine JN.next ?_
  refine JC.seq ?_
  refine JC.region ?_
  obtain ⟨x_5, hr_6, hx⟩ := bnd_some hx
  refine JL.callC (vs := []) (args := []) (K := []) (rst := []) E7 rfl rfl rfl picks0 (law16_alive_ok _ _ hr_6) rfl (fun u_7 Ku_7 Hu_7 hRu_7 hleu_7 hfu_7 => ?_)
  obtain ⟨rfl, rfl, rfl, -⟩ := hRu_7
  refine JL.val rfl rfl (R.assign rfl) ?_
  refine JL.nil ?_
  refine JN.next ?_
  refine JC.seq ?_
  refine JC.seq ?_
  refine JC.region ?_
  refine JL.val rfl rfl (R.move rfl) ?_
  refine JL.val rfl rfl (R.lenL U22 rfl (IsSlice.long ha_2)) ?_
  refine JL.val rfl rfl (R.gtr_i rfl rfl) ?_
  refine JL.val rfl rfl (R.move rfl) ?_
  refine JL.gSplit (t := 28) rfl (fun c_8 => ?_) (fun c_8 => ?_)
  · replace hx := cond_t c_8 hx
    refine JL.gNo rfl rfl rfl rfl rfl ?_
    refine JL.gNo rfl rfl rfl rfl rfl ?_
    refine JL.gNo rfl rfl rfl rfl rfl ?_
    refine JL.val rfl rfl (R.pickT rfl rfl) ?_
    refine JL.val rfl rfl (R.move rfl) ?_
    refine JL.gNo rfl rfl rfl rfl rfl ?_
    refine JL.gNo rfl rfl rfl rfl rfl ?_
    refine JL.gNo rfl rfl rfl rfl rfl ?_
    refine JL.val rfl rfl (R.pickT rfl rfl) ?_
    refine JL.nil ?_
    refine JN.next ?_
    refine JC.condT rfl ?_
    refine JC.seq ?_
    refine JC.region ?_
    refine JL.val rfl rfl (R.move rfl) ?_
    refine JL.val rfl rfl (R.assign rfl) ?_
    refine JL.nil ?_
    refine JN.next ?_
    refine JC.ret ?_
    refine JN.passR ?_
    refine JN.outP (vs := [.bool x_5]) (K := []) (rst := []) (.inl rfl) rfl rfl (Res.tmp rfl rfl) picks0 ?_
    obtain rfl := Option.some.inj hx
    exact ⟨rfl, rfl, rfl, trivial⟩
  · replace hx := cond_f c_8 hx
    refine JL.gYes rfl rfl rfl ?_
    refine JL.val rfl rfl (R.move rfl) ?_
    refine JL.gYes rfl rfl rfl ?_
    obtain ⟨x_9, hr_10, hx⟩ := bnd_some hx
    refine JL.callC (vs := [_]) (args := [_]) (K := []) (rst := []) E10 rfl rfl rfl picks0 (dead_Check_ok p_1 _ ha_2 _ hr_10) rfl (fun u_11 Ku_11 Hu_11 hRu_11 hleu_11 hfu_11 => ?_)
    obtain ⟨rfl, rfl, rfl, -⟩ := hRu_11
    refine JL.gYes rfl rfl rfl ?_
    refine JL.val rfl rfl (R.neq_i rfl rfl) ?_
    refine JL.val rfl rfl (R.pickF rfl rfl) ?_
    refine JL.val rfl rfl (R.move rfl) ?_
    refine JL.gSplit (t := 33) rfl (fun c_12 => ?_) (fun c_12 => ?_)
    · replace hx := cond_t c_12 hx
      refine JL.gNo rfl rfl rfl rfl rfl ?_
      refine JL.gNo rfl rfl rfl rfl rfl ?_
      refine JL.gNo rfl rfl rfl rfl rfl ?_
      refine JL.val rfl rfl (R.pickT rfl rfl) ?_
      refine JL.nil ?_
      refine JN.next ?_
      refine JC.condT rfl ?_
      refine JC.seq ?_
      refine JC.region ?_
      refine JL.val rfl rfl (R.move rfl) ?_
      refine JL.val rfl rfl (R.assign rfl) ?_
      refine JL.nil ?_
      refine JN.next ?_
      refine JC.ret ?_
      refine JN.passR ?_
      refine JN.outP (vs := [.bool x_5]) (K := []) (rst := []) (.inl rfl) rfl rfl (Res.tmp rfl rfl) picks0 ?_
      obtain rfl := Option.some.inj hx
      exact ⟨rfl, rfl, rfl, trivial⟩
    · replace hx := cond_f c_12 hx
      refine JL.gYes rfl rfl rfl ?_
      refine JL.val rfl rfl (R.move rfl) ?_
      refine JL.gYes rfl rfl rfl ?_
      refine JL.val rfl rfl (R.move rfl) ?_
      refine JL.gYes rfl rfl rfl ?_
      refine JL.val rfl rfl (R.gtr32 (a := p_3) (b := p_4) rfl rfl) ?_
      refine JL.val rfl rfl (R.pickF rfl rfl) ?_
      refine JL.nil ?_
      refine JN.next ?_
      refine JC.condB rfl (fun c_13 => ?_) (fun c_13 => ?_)
      · replace hx := cond_t c_13 hx
        refine JC.seq ?_
        refine JC.region ?_
        refine JL.val rfl rfl (R.move rfl) ?_
        refine JL.val rfl rfl (R.assign rfl) ?_
        refine JL.nil ?_
        refine JN.next ?_
        refine JC.ret ?_
        refine JN.passR ?_
        refine JN.outP (vs := [.bool x_5]) (K := []) (rst := []) (.inl rfl) rfl rfl (Res.tmp rfl rfl) picks0 ?_
        obtain rfl := Option.some.inj hx
        exact ⟨rfl, rfl, rfl, trivial⟩
      · replace hx := cond_f c_13 hx
        refine JC.skip ?_
        refine JN.next ?_
        refine JC.seq ?_
        refine JC.region ?_
        refine JL.val rfl rfl (R.move rfl) ?_
        refine JL.val rfl rfl (R.move rfl) ?_
        obtain ⟨x_14, hr_15, hx⟩ := bnd_some hx
        refine JL.callC (vs := [_, _]) (args := [_, _]) (K := []) (rst := []) E13 rfl rfl rfl picks0 (dead_Split_ok p_1 p_3 _ ha_2 _ hr_15) rfl (fun u_16 Ku_16 Hu_16 hRu_16 hleu_16 hfu_16 => ?_)
        obtain ⟨aor_17, nr_17, capr_17, Kr_17, aor_18, nr_18, capr_18, Kr_18, rfl, rfl, rfl, hr_17, hnewr_17, hr_18, hnewr_18, -⟩ := hRu_16
        replace hr_17 := (RowOf.base (RowOf.const (H2 := New H H) R_Ptr.const hr_17) (fun p hp => (hfu_16 p (mem_seg 0 rfl hp)).resolve_left (hnewr_17 p hp)))
        replace hr_18 := (RowOf.base (RowOf.const (H2 := New H H) R_Ptr.const hr_18) (fun p hp => (hfu_16 p (mem_seg 1 rfl hp)).resolve_left (hnewr_18 p hp)))
        refine JL.val rfl rfl (R.move rfl) ?_
        refine JL.val rfl rfl (R.extract rfl rfl) ?_
        refine JL.val rfl rfl (R.extract rfl rfl) ?_
        refine JL.val rfl rfl (R.extract rfl rfl) ?_
        refine JL.val rfl rfl (R.assign rfl) ?_
        refine JL.val rfl rfl (R.assign rfl) ?_
        refine JL.val rfl rfl (R.assign rfl) ?_
        refine JL.nil ?_
        refine JN.next ?_
        refine JC.seq ?_
        refine JC.region ?_
        refine JL.val rfl rfl (R.move rfl) ?_
        refine JL.val rfl rfl (R.move rfl) ?_
        obtain ⟨x_22, hr_23, hx⟩ := bnd_some hx
        refine JL.callL3 (vs := [_, _]) E13 rfl rfl (fun H_21 hle_20 hl_19 => dead_Split_ok x_14.2.1 p_4 _ (Lent.row' 1 hl_19 R_Ptr.mono hle_20 rfl (hr_18.old R_Ptr.mono)) _ hr_23) rfl (fun _ _ _ _ hR_26 hf_27 => ?_)
        obtain ⟨aor_24, nr_24, capr_24, Kr_24, aor_25, nr_25, capr_25, Kr_25, rfl, rfl, rfl, hr_24, -, hr_25, -, -⟩ := hR_26
        replace hr_24 := RowOf.base (RowOf.const (H2 := New H H) R_Ptr.const hr_24) (fun p hp => hf_27 p (mem_seg 0 rfl hp))
        replace hr_25 := RowOf.base (RowOf.const (H2 := New H H) R_Ptr.const hr_25) (fun p hp => hf_27 p (mem_seg 1 rfl hp))
        refine JL.val rfl rfl (R.move rfl) ?_
        refine JL.val rfl rfl (R.extract rfl rfl) ?_
        refine JL.val rfl rfl (R.extract rfl rfl) ?_
        refine JL.val rfl rfl (R.extract rfl rfl) ?_
        refine JL.val rfl rfl (R.assign rfl) ?_
        refine JL.val rfl rfl (R.assign rfl) ?_
        refine JL.val rfl rfl (R.assign rfl) ?_
        refine JL.nil ?_
        refine JN.next ?_
        refine JC.seq ?_
        refine JC.region ?_
        refine JL.val rfl rfl (R.move rfl) ?_
        refine JL.val rfl rfl (R.move rfl) ?_
        obtain ⟨x_28, hr_29, hx⟩ := bnd_some hx
        refine JL.callC (vs := [_, _]) (args := [_, _]) (K := []) (rst := [_, _, _, _]) E13 rfl rfl rfl picks0 (dead_Split_ok p_1 p_4 _ ha_2 _ hr_29) rfl (fun u_30 Ku_30 Hu_30 hRu_30 hleu_30 hfu_30 => ?_)
        obtain ⟨aor_31, nr_31, capr_31, Kr_31, aor_32, nr_32, capr_32, Kr_32, rfl, rfl, rfl, hr_31, hnewr_31, hr_32, hnewr_32, -⟩ := hRu_30
        replace hr_31 := (RowOf.base (RowOf.const (H2 := New H H) R_Ptr.const hr_31) (fun p hp => (hfu_30 p (mem_seg 0 rfl hp)).resolve_left (hnewr_31 p hp)))
        replace hr_32 := (RowOf.base (RowOf.const (H2 := New H H) R_Ptr.const hr_32) (fun p hp => (hfu_30 p (mem_seg 1 rfl hp)).resolve_left (hnewr_32 p hp)))
        refine JL.val rfl rfl (R.move rfl) ?_
        refine JL.val rfl rfl (R.extract rfl rfl) ?_
        refine JL.val rfl rfl (R.extract rfl rfl) ?_
        refine JL.val rfl rfl (R.extract rfl rfl) ?_
        refine JL.val rfl rfl (R.assign rfl) ?_
        refine JL.val rfl rfl (R.assign rfl) ?_
        refine JL.val rfl rfl (R.assign rfl) ?_
        refine JL.nil ?_
        refine JN.next ?_
        refine JC.seq ?_
        refine JC.region ?_
        refine JL.val rfl rfl (R.move rfl) ?_
        refine JL.val rfl rfl (R.move rfl) ?_
        obtain ⟨x_36, hr_37, hx⟩ := bnd_some hx
        refine JL.callL3 (vs := [_, _]) E13 rfl rfl (fun H_35 hle_34 hl_33 => dead_Split_ok x_28.1 p_3 _ (Lent.row' 0 hl_33 R_Ptr.mono hle_34 rfl (hr_31.old R_Ptr.mono)) _ hr_37) rfl (fun _ _ _ _ hR_40 hf_41 => ?_)
        obtain ⟨aor_38, nr_38, capr_38, Kr_38, aor_39, nr_39, capr_39, Kr_39, rfl, rfl, rfl, hr_38, -, hr_39, -, -⟩ := hR_40
        replace hr_38 := RowOf.base (RowOf.const (H2 := New H H) R_Ptr.const hr_38) (fun p hp => hf_41 p (mem_seg 0 rfl hp))
        replace hr_39 := RowOf.base (RowOf.const (H2 := New H H) R_Ptr.const hr_39) (fun p hp => hf_41 p (mem_seg 1 rfl hp))
        refine JL.val rfl rfl (R.move rfl) ?_
        refine JL.val rfl rfl (R.extract rfl rfl) ?_
        refine JL.val rfl rfl (R.extract rfl rfl) ?_
        refine JL.val rfl rfl (R.extract rfl rfl) ?_
        refine JL.val rfl rfl (R.assign rfl) ?_
        refine JL.val rfl rfl (R.assign rfl) ?_
        refine JL.val rfl rfl (R.assign rfl) ?_
        refine JL.nil ?_
        refine JN.next ?_
        refine JC.seq ?_
        refine JC.seq ?_
        refine JC.region ?_
        refine JL.val rfl rfl (R.move rfl) ?_
        refine JL.val rfl rfl (R.neq_i rfl rfl) ?_
        refine JL.val rfl rfl (R.move rfl) ?_
        refine JL.gSplit (t := 69) rfl (fun c_42 => ?_) (fun c_42 => ?_)
        · replace hx := cond_t c_42 hx
          refine JL.gNo rfl rfl rfl rfl rfl ?_
          refine JL.gNo rfl rfl rfl rfl rfl ?_
          refine JL.val rfl rfl (R.pickT rfl rfl) ?_
          refine JL.val rfl rfl (R.move rfl) ?_
          refine JL.gNo rfl rfl rfl rfl rfl ?_
          refine JL.gNo rfl rfl rfl rfl rfl ?_
          refine JL.val rfl rfl (R.pickT rfl rfl) ?_
          refine JL.val rfl rfl (R.move rfl) ?_
          refine JL.gNo rfl rfl rfl rfl rfl ?_
          refine JL.gNo rfl rfl rfl rfl rfl ?_
          refine JL.val rfl rfl (R.pickT rfl rfl) ?_
          refine JL.val rfl rfl (R.move rfl) ?_
          refine JL.gNo rfl rfl rfl rfl rfl ?_
          refine JL.gNo rfl rfl rfl rfl rfl ?_
          refine JL.gNo rfl rfl rfl rfl rfl ?_
          refine JL.gNo rfl rfl rfl rfl rfl ?_
          refine JL.val rfl rfl (R.pickT rfl rfl) ?_
          refine JL.val rfl rfl (R.move rfl) ?_
          refine JL.gNo rfl rfl rfl rfl rfl ?_
          refine JL.gNo rfl rfl rfl rfl rfl ?_
          refine JL.gNo rfl rfl rfl rfl rfl ?_
          refine JL.gNo rfl rfl rfl rfl rfl ?_
          refine JL.val rfl rfl (R.pickT rfl rfl) ?_
          refine JL.val rfl rfl (R.move rfl) ?_
          refine JL.gNo rfl rfl rfl rfl rfl ?_
          refine JL.gNo rfl rfl rfl rfl rfl ?_
          refine JL.gNo rfl rfl rfl rfl rfl ?_
          refine JL.gNo rfl rfl rfl rfl rfl ?_
          refine JL.val rfl rfl (R.pickT rfl rfl) ?_
          refine JL.nil ?_
          refine JN.next ?_
          refine JC.condT rfl ?_
          refine JC.seq ?_
          refine JC.region ?_
          refine JL.val rfl rfl (R.assign rfl) ?_
          refine JL.nil ?_
          refine JN.next ?_
          refine JC.ret ?_
          refine JN.passR ?_
          refine JN.outP (vs := [.bool false]) (K := []) (rst := [_, _, _, _, _, _, _, _]) (.inl rfl) rfl rfl (Res.tmp rfl rfl) picks0 ?_
          obtain rfl := Option.some.inj hx
          exact ⟨rfl, rfl, rfl, trivial⟩
        · replace hx := cond_f c_42 hx
          refine JL.gYes rfl rfl rfl ?_
          refine JL.val rfl rfl (R.move rfl) ?_
          refine JL.gYes rfl rfl rfl ?_
          refine JL.val rfl rfl (R.neq_i rfl rfl) ?_
          refine JL.val rfl rfl (R.pickF rfl rfl) ?_
          refine JL.val rfl rfl (R.move rfl) ?_
          refine JL.gSplit (t := 73) rfl (fun c_43 => ?_) (fun c_43 => ?_)
          · replace hx := cond_t c_43 hx
            refine JL.gNo rfl rfl rfl rfl rfl ?_
            refine JL.gNo rfl rfl rfl rfl rfl ?_
            refine JL.val rfl rfl (R.pickT rfl rfl) ?_
            refine JL.val rfl rfl (R.move rfl) ?_
            refine JL.gNo rfl rfl rfl rfl rfl ?_
            refine JL.gNo rfl rfl rfl rfl rfl ?_
            refine JL.val rfl rfl (R.pickT rfl rfl) ?_
            refine JL.val rfl rfl (R.move rfl) ?_
            refine JL.gNo rfl rfl rfl rfl rfl ?_
            refine JL.gNo rfl rfl rfl rfl rfl ?_
            refine JL.gNo rfl rfl rfl rfl rfl ?_
            refine JL.gNo rfl rfl rfl rfl rfl ?_
            refine JL.val rfl rfl (R.pickT rfl rfl) ?_
            refine JL.val rfl rfl (R.move rfl) ?_
            refine JL.gNo rfl rfl rfl rfl rfl ?_
            refine JL.gNo rfl rfl rfl rfl rfl ?_
            refine JL.gNo rfl rfl rfl rfl rfl ?_
            refine JL.gNo rfl rfl rfl rfl rfl ?_
            refine JL.val rfl rfl (R.pickT rfl rfl) ?_
            refine JL.val rfl rfl (R.move rfl) ?_
            refine JL.gNo rfl rfl rfl rfl rfl ?_
            refine JL.gNo rfl rfl rfl rfl rfl ?_
            refine JL.gNo rfl rfl rfl rfl rfl ?_
            refine JL.gNo rfl rfl rfl rfl rfl ?_
            refine JL.val rfl rfl (R.pickT rfl rfl) ?_
            refine JL.nil ?_
            refine JN.next ?_
            refine JC.condT rfl ?_
            refine JC.seq ?_
            refine JC.region ?_
            refine JL.val rfl rfl (R.assign rfl) ?_
            refine JL.nil ?_
            refine JN.next ?_
            refine JC.ret ?_
            refine JN.passR ?_
            refine JN.outP (vs := [.bool false]) (K := []) (rst := [_, _, _, _, _, _, _, _]) (.inl rfl) rfl rfl (Res.tmp rfl rfl) picks0 ?_
            obtain rfl := Option.some.inj hx
            exact ⟨rfl, rfl, rfl, trivial⟩
          · replace hx := cond_f c_43 hx
            refine JL.gYes rfl rfl rfl ?_
            refine JL.val rfl rfl (R.move rfl) ?_
            refine JL.gYes rfl rfl rfl ?_
            refine JL.val rfl rfl (R.neq_i rfl rfl) ?_
            refine JL.val rfl rfl (R.pickF rfl rfl) ?_
            refine JL.val rfl rfl (R.move rfl) ?_
            refine JL.gSplit (t := 77) rfl (fun c_44 => ?_) (fun c_44 => ?_)
            · replace hx := cond_t c_44 hx
              refine JL.gNo rfl rfl rfl rfl rfl ?_
              refine JL.gNo rfl rfl rfl rfl rfl ?_
              refine JL.val rfl rfl (R.pickT rfl rfl) ?_
              refine JL.val rfl rfl (R.move rfl) ?_
              refine JL.gNo rfl rfl rfl rfl rfl ?_
              refine JL.gNo rfl rfl rfl rfl rfl ?_
              refine JL.gNo rfl rfl rfl rfl rfl ?_
              refine JL.gNo rfl rfl rfl rfl rfl ?_
              refine JL.val rfl rfl (R.pickT rfl rfl) ?_
              refine JL.val rfl rfl (R.move rfl) ?_
              refine JL.gNo rfl rfl rfl rfl rfl ?_
              refine JL.gNo rfl rfl rfl rfl rfl ?_
              refine JL.gNo rfl rfl rfl rfl rfl ?_
              refine JL.gNo rfl rfl rfl rfl rfl ?_
              refine JL.val rfl rfl (R.pickT rfl rfl) ?_
              refine JL.val rfl rfl (R.move rfl) ?_
              refine JL.gNo rfl rfl rfl rfl rfl ?_
              refine JL.gNo rfl rfl rfl rfl rfl ?_
              refine JL.gNo rfl rfl rfl rfl rfl ?_
              refine JL.gNo rfl rfl rfl rfl rfl ?_
              refine JL.val rfl rfl (R.pickT rfl rfl) ?_
              refine JL.nil ?_
              refine JN.next ?_
              refine JC.condT rfl ?_
              refine JC.seq ?_
              refine JC.region ?_
              refine JL.val rfl rfl (R.assign rfl) ?_
              refine JL.nil ?_
              refine JN.next ?_
              refine JC.ret ?_
              refine JN.passR ?_
              refine JN.outP (vs := [.bool false]) (K := []) (rst := [_, _, _, _, _, _, _, _]) (.inl rfl) rfl rfl (Res.tmp rfl rfl) picks0 ?_
              obtain rfl := Option.some.inj hx
              exact ⟨rfl, rfl, rfl, trivial⟩
            · replace hx := cond_f c_44 hx
              refine JL.gYes rfl rfl rfl ?_
              refine JL.val rfl rfl (R.move rfl) ?_
              refine JL.gYes rfl rfl rfl ?_
              refine JL.val rfl rfl (R.neq_i rfl rfl) ?_
              refine JL.val rfl rfl (R.pickF rfl rfl) ?_
              refine JL.val rfl rfl (R.move rfl) ?_
              refine JL.gSplit (t := 81) rfl (fun c_45 => ?_) (fun c_45 => ?_)
              · replace hx := cond_t c_45 hx
                refine JL.gNo rfl rfl rfl rfl rfl ?_
                refine JL.gNo rfl rfl rfl rfl rfl ?_
                refine JL.gNo rfl rfl rfl rfl rfl ?_
                refine JL.gNo rfl rfl rfl rfl rfl ?_
                refine JL.val rfl rfl (R.pickT rfl rfl) ?_
                refine JL.val rfl rfl (R.move rfl) ?_
                refine JL.gNo rfl rfl rfl rfl rfl ?_
                refine JL.gNo rfl rfl rfl rfl rfl ?_
                refine JL.gNo rfl rfl rfl rfl rfl ?_
                refine JL.gNo rfl rfl rfl rfl rfl ?_
                refine JL.val rfl rfl (R.pickT rfl rfl) ?_
                refine JL.val rfl rfl (R.move rfl) ?_
                refine JL.gNo rfl rfl rfl rfl rfl ?_
                refine JL.gNo rfl rfl rfl rfl rfl ?_
                refine JL.gNo rfl rfl rfl rfl rfl ?_
                refine JL.gNo rfl rfl rfl rfl rfl ?_
                refine JL.val rfl rfl (R.pickT rfl rfl) ?_
                refine JL.nil ?_
                refine JN.next ?_
                refine JC.condT rfl ?_
                refine JC.seq ?_
                refine JC.region ?_
                refine JL.val rfl rfl (R.assign rfl) ?_
                refine JL.nil ?_
                refine JN.next ?_
                refine JC.ret ?_
                refine JN.passR ?_
                refine JN.outP (vs := [.bool false]) (K := []) (rst := [_, _, _, _, _, _, _, _]) (.inl rfl) rfl rfl (Res.tmp rfl rfl) picks0 ?_
                obtain rfl := Option.some.inj hx
                exact ⟨rfl, rfl, rfl, trivial⟩
              · replace hx := cond_f c_45 hx
                refine JL.gYes rfl rfl rfl ?_
                refine JL.val rfl rfl (R.move rfl) ?_
                refine JL.gYes rfl rfl rfl ?_
                refine JL.val rfl rfl (R.move rfl) ?_
                refine JL.gYes rfl rfl rfl ?_
                obtain ⟨x_49, hr_50, hx⟩ := bnd_some hx
                refine JL.callL2 (vs := [_, _]) (v := .bool x_49) E9 rfl rfl (fun H_48 hle_47 hl_46 => Does.mono (law16_same_ok x_14.1 x_36.1 _ (Lent.row' 6 hl_46 R_Ptr.mono hle_47 rfl (hr_17.old R_Ptr.mono)) (Lent.row' 0 hl_46 R_Ptr.mono hle_47 rfl (hr_38.old R_Ptr.mono)) _ hr_50) (fun _ _ _ h => h.1)) rfl ?_
                refine JL.gYes rfl rfl rfl ?_
                refine JL.val rfl rfl (R.not rfl) ?_
                refine JL.val rfl rfl (R.pickF rfl rfl) ?_
                refine JL.val rfl rfl (R.move rfl) ?_
                refine JL.gSplit (t := 87) rfl (fun c_51 => ?_) (fun c_51 => ?_)
                · replace hx := cond_t c_51 hx
                  refine JL.gNo rfl rfl rfl rfl rfl ?_
                  refine JL.gNo rfl rfl rfl rfl rfl ?_
                  refine JL.gNo rfl rfl rfl rfl rfl ?_
                  refine JL.gNo rfl rfl rfl rfl rfl ?_
                  refine JL.val rfl rfl (R.pickT rfl rfl) ?_
                  refine JL.val rfl rfl (R.move rfl) ?_
                  refine JL.gNo rfl rfl rfl rfl rfl ?_
                  refine JL.gNo rfl rfl rfl rfl rfl ?_
                  refine JL.gNo rfl rfl rfl rfl rfl ?_
                  refine JL.gNo rfl rfl rfl rfl rfl ?_
                  refine JL.val rfl rfl (R.pickT rfl rfl) ?_
                  refine JL.nil ?_
                  refine JN.next ?_
                  refine JC.condT rfl ?_
                  refine JC.seq ?_
                  refine JC.region ?_
                  refine JL.val rfl rfl (R.assign rfl) ?_
                  refine JL.nil ?_
                  refine JN.next ?_
                  refine JC.ret ?_
                  refine JN.passR ?_
                  refine JN.outP (vs := [.bool false]) (K := []) (rst := [_, _, _, _, _, _, _, _]) (.inl rfl) rfl rfl (Res.tmp rfl rfl) picks0 ?_
                  obtain rfl := Option.some.inj hx
                  exact ⟨rfl, rfl, rfl, trivial⟩
                · replace hx := cond_f c_51 hx
                  refine JL.gYes rfl rfl rfl ?_
                  refine JL.val rfl rfl (R.move rfl) ?_
                  refine JL.gYes rfl rfl rfl ?_
                  refine JL.val rfl rfl (R.move rfl) ?_
                  refine JL.gYes rfl rfl rfl ?_
                  obtain ⟨x_55, hr_56, hx⟩ := bnd_some hx
                  refine JL.callL2 (vs := [_, _]) (v := .bool x_55) E9 rfl rfl (fun H_54 hle_53 hl_52 => Does.mono (law16_same_ok x_22.1 x_36.2.1 _ (Lent.row' 4 hl_52 R_Ptr.mono hle_53 rfl (hr_24.old R_Ptr.mono)) (Lent.row' 1 hl_52 R_Ptr.mono hle_53 rfl (hr_39.old R_Ptr.mono)) _ hr_56) (fun _ _ _ h => h.1)) rfl ?_
                  refine JL.gYes rfl rfl rfl ?_
                  refine JL.val rfl rfl (R.not rfl) ?_
                  refine JL.val rfl rfl (R.pickF rfl rfl) ?_
                  refine JL.val rfl rfl (R.move rfl) ?_
                  refine JL.gSplit (t := 93) rfl (fun c_57 => ?_) (fun c_57 => ?_)
                  · replace hx := cond_t c_57 hx
                    refine JL.gNo rfl rfl rfl rfl rfl ?_
                    refine JL.gNo rfl rfl rfl rfl rfl ?_
                    refine JL.gNo rfl rfl rfl rfl rfl ?_
                    refine JL.gNo rfl rfl rfl rfl rfl ?_
                    refine JL.val rfl rfl (R.pickT rfl rfl) ?_
                    refine JL.nil ?_
                    refine JN.next ?_
                    refine JC.condT rfl ?_
                    refine JC.seq ?_
                    refine JC.region ?_
                    refine JL.val rfl rfl (R.assign rfl) ?_
                    refine JL.nil ?_
                    refine JN.next ?_
                    refine JC.ret ?_
                    refine JN.passR ?_
                    refine JN.outP (vs := [.bool false]) (K := []) (rst := [_, _, _, _, _, _, _, _]) (.inl rfl) rfl rfl (Res.tmp rfl rfl) picks0 ?_
                    obtain rfl := Option.some.inj hx
                    exact ⟨rfl, rfl, rfl, trivial⟩
                  · replace hx := cond_f c_57 hx
                    refine JL.gYes rfl rfl rfl ?_
                    refine JL.val rfl rfl (R.move rfl) ?_
                    refine JL.gYes rfl rfl rfl ?_
                    refine JL.val rfl rfl (R.move rfl) ?_
                    refine JL.gYes rfl rfl rfl ?_
                    obtain ⟨x_61, hr_62, hx⟩ := bnd_some hx
                    refine JL.callL2 (vs := [_, _]) (v := .bool x_61) E9 rfl rfl (fun H_60 hle_59 hl_58 => Does.mono (law16_same_ok x_22.2.1 x_28.2.1 _ (Lent.row' 5 hl_58 R_Ptr.mono hle_59 rfl (hr_25.old R_Ptr.mono)) (Lent.row' 3 hl_58 R_Ptr.mono hle_59 rfl (hr_32.old R_Ptr.mono)) _ hr_62) (fun _ _ _ h => h.1)) rfl ?_
                    refine JL.gYes rfl rfl rfl ?_
                    refine JL.val rfl rfl (R.not rfl) ?_
                    refine JL.val rfl rfl (R.pickF rfl rfl) ?_
                    refine JL.nil ?_
                    refine JN.next ?_
                    refine JC.condB rfl (fun c_63 => ?_) (fun c_63 => ?_)
                    · replace hx := cond_t c_63 hx
                      refine JC.seq ?_
                      refine JC.region ?_
                      refine JL.val rfl rfl (R.assign rfl) ?_
                      refine JL.nil ?_
                      refine JN.next ?_
                      refine JC.ret ?_
                      refine JN.passR ?_
                      refine JN.outP (vs := [.bool false]) (K := []) (rst := [_, _, _, _, _, _, _, _]) (.inl rfl) rfl rfl (Res.tmp rfl rfl) picks0 ?_
                      obtain rfl := Option.some.inj hx
                      exact ⟨rfl, rfl, rfl, trivial⟩
                    · replace hx := cond_f c_63 hx
                      refine JC.skip ?_
                      refine JN.next ?_
                      refine JC.seq ?_
                      refine JC.region ?_
                      refine JL.val rfl rfl (R.assign rfl) ?_
                      refine JL.nil ?_
                      refine JN.next ?_
                      refine JC.seq ?_
                      refine JC.seq ?_
                      refine JC.region ?_
                      refine JL.val rfl rfl (R.move rfl) ?_
                      refine JL.val rfl rfl (R.lenL U22 rfl (IsSlice.long ha_2)) ?_
                      refine JL.val rfl rfl (R.sub_i rfl rfl) ?_
                      refine JL.val rfl rfl (R.assign rfl) ?_
                      refine JL.nil ?_
                      refine JN.next ?_
                      obtain ⟨t_64, ht_66, hx⟩ := bnd_some hx
                      refine JC.cut (fun l o g => ∃ t_64a : List Ptr, ∃ aor_71 : Option Addr, ∃ nr_71 : Nat, ∃ capr_71 : Nat, ∃ Kr_71 : Own, l = [(0, .slice aoa_2 na_2 capa_2), (7, .bool x_5), (20, .slice aor_71 nr_71 capr_71)] ∧ o = [Kr_71] ∧ H = g ∧ t_64 = .inl t_64a ∧ RowOf (New H H) R_Ptr w.heap.size 32 5 (.slice aor_71 nr_71 capr_71) t_64a Kr_71) ?_ ?_
                      · rintro _ _ _ ⟨t_64a, aor_71, nr_71, capr_71, Kr_71, rfl, rfl, rfl, rfl, hr_71⟩
                        simp only [Sum.elim_inl] at hx
                        refine JN.next ?_
                        refine JC.seq ?_
                        obtain ⟨t_72, ht_74, hx⟩ := bnd_some hx
                        refine JC.cut (fun l o g => l = [(6, .bool t_72)] ∧ o = [] ∧ H = g) ?_ ?_
                        · rintro _ _ _ ⟨rfl, rfl, rfl⟩
                          refine JN.next ?_
                          refine JC.ret ?_
                          refine JN.outP (vs := [.bool t_72]) (K := []) (rst := []) (.inl rfl) rfl rfl (Res.tmp rfl rfl) picks0 ?_
                          obtain rfl := Option.some.inj hx
                          exact ⟨rfl, rfl, rfl, trivial⟩
                        · have hxo_73 := hx; clear hx; have hx := ht_74; clear ht_74
                          refine JC.region ?_
                          refine JL.val rfl rfl (R.move rfl) ?_
                          refine JL.val rfl rfl (R.move rfl) ?_
                          refine JL.gSplit (t := 119) rfl (fun c_75 => ?_) (fun c_75 => ?_)
                          · replace hx := cond_t c_75 hx
                            refine JL.gYes rfl rfl rfl ?_
                            refine JL.val rfl rfl (R.move rfl) ?_
                            refine JL.gYes rfl rfl rfl ?_
                            refine JL.val rfl rfl (R.move rfl) ?_
                            refine JL.gYes rfl rfl rfl ?_
                            obtain ⟨x_79, hr_80, hx⟩ := bnd_some hx
                            refine JL.callL2 (vs := [_, _]) (v := .bool x_79) E9 rfl rfl (fun H_78 hle_77 hl_76 => Does.mono (law16_same_ok t_64a p_1 _ (Lent.row' 0 hl_76 R_Ptr.mono hle_77 rfl (hr_71.old R_Ptr.mono)) (IsSlice.mono R_Ptr.mono hle_77 ha_2) _ hr_80) (fun _ _ _ h => h.1)) rfl ?_
                            refine JL.val rfl rfl (R.pickT rfl rfl) ?_
                            refine JL.val rfl rfl (R.assign rfl) ?_
                            refine JL.nil ?_
                            obtain rfl := Option.some.inj hx
                            refine JN.forget 0 ?_
                            exact JN.cut ⟨rfl, rfl, rfl⟩ ⟨rfl, trivial⟩ rfl rfl
                          · replace hx := cond_f c_75 hx
                            refine JL.gNo rfl rfl rfl rfl rfl ?_
                            refine JL.gNo rfl rfl rfl rfl rfl ?_
                            refine JL.gNo rfl rfl rfl rfl rfl ?_
                            refine JL.val rfl rfl (R.pickF rfl rfl) ?_
                            refine JL.val rfl rfl (R.assign rfl) ?_
                            refine JL.nil ?_
                            obtain rfl := Option.some.inj hx
                            refine JN.forget 0 ?_
                            exact JN.cut ⟨rfl, rfl, rfl⟩ ⟨rfl, trivial⟩ rfl rfl
                      · have hxo_65 := hx; clear hx; have hx := ht_66; clear ht_66
                        refine JC.block ?_
                        refine JC.seg0 ?_
                        refine JC.forget 8 ?_
                        refine JC.forget 7 ?_
                        refine JC.forget 6 ?_
                        refine JC.forget 5 ?_
                        refine JC.forget 4 ?_
                        refine JC.forget 3 ?_
                        refine JC.forget 2 ?_
                        refine JC.forget 1 ?_
                        refine JC.loopI (fun n l o g => ∃ s_67 : List Ptr × Int, ∃ aor_70 : Option Addr, ∃ nr_70 : Nat, ∃ capr_70 : Nat, ∃ Kr_70 : Own, l = [(0, .slice aoa_2 na_2 capa_2), (7, .bool x_5), (20, .slice aor_70 nr_70 capr_70), (21, .int .i64 s_67.2)] ∧ o = [Kr_70] ∧ H = g ∧ run (law16_DeadSyncs_l1 p_1) n s_67 = some t_64 ∧ RowOf (New H H) R_Ptr w.heap.size 32 5 (.slice aor_70 nr_70 capr_70) s_67.1 Kr_70) FUEL ?_ ⟨(([] : List Ptr), w64 ((p_1.length : Int) - 1)), none, 0, 0, [], rfl, rfl, rfl, hx, (RowOf.nil _ _ _ _ _)⟩ ⟨rfl, rfl, rfl, rfl, trivial⟩ ?_
                        · rintro _ _ _ ⟨s_67, aor_70, nr_70, capr_70, Kr_70, rfl, rfl, rfl, hn_68, hr_70⟩
                          exact run_zero hn_68
                        · rintro n_69 _ _ _ ⟨s_67, aor_70, nr_70, capr_70, Kr_70, rfl, rfl, rfl, hn_68, hr_70⟩
                          clear hx; obtain ⟨oo_72, hx, hd_71⟩ := run_some hn_68
                          rw [law16_DeadSyncs_l1.eq_1] at hx
                          refine JC.seq ?_
                          refine JC.seq ?_
                          refine JC.region ?_
                          refine JL.val rfl rfl (R.move rfl) ?_
                          refine JL.val rfl rfl (R.geq_i rfl rfl) ?_
                          refine JL.nil ?_
                          refine JN.next ?_
                          refine JC.condB rfl (fun c_71 => ?_) (fun c_71 => ?_)
                          · replace hx := cond_t c_71 hx
                            refine JC.skip ?_
                            refine JN.next ?_
                            refine JC.seq ?_
                            refine JC.block ?_
                            refine JC.seq ?_
                            refine JC.region ?_
                            refine JL.val rfl rfl (R.move rfl) ?_
                            refine JL.val rfl rfl (R.move rfl) ?_
                            refine JL.val rfl rfl (R.move rfl) ?_
                            obtain ⟨y_72, hN_73, hx⟩ := idx_some hx
                            obtain ⟨b_74, o_75, cs_76, hE_77, hR_78, hl_79, hc_80⟩ := IsSlice.elem ha_2 hN_73
                            obtain rfl := hR_78
                            refine JL.val rfl rfl (R.ix U22 S32 rfl rfl hE_77) ?_
                            refine JL.val rfl rfl (R.ldHE (cs := [.int .i64 y_72.At, .int .u32 (y_72.Birth.toNat : Int), .int .u32 (y_72.Iv.toNat : Int), .int .u32 (y_72.Tag.toNat : Int), .int .u32 (y_72.Sum.toNat : Int)]) (k := 0) (vs := [.int .i64 y_72.At, .int .u32 (y_72.Birth.toNat : Int), .int .u32 (y_72.Iv.toNat : Int), .int .u32 (y_72.Tag.toNat : Int), .int .u32 (y_72.Sum.toNat : Int)]) S32 rfl hc_80 rfl rfl) ?_
                            obtain ⟨x_84, hr_85, hx⟩ := bnd_some hx
                            refine JL.callL3 (vs := [_, _]) E11 rfl rfl (fun H_83 hle_82 hl_81 => dead_Add_ok s_67.1 y_72 _ (Lent.row' 0 hl_81 R_Ptr.mono hle_82 rfl (hr_70.old R_Ptr.mono)) _ hr_85) rfl (fun _ _ _ _ hR_87 hf_88 => ?_)
                            obtain ⟨aor_86, nr_86, capr_86, Kr_86, rfl, rfl, rfl, hr_86, -, -⟩ := hR_87
                            replace hr_86 := RowOf.base (RowOf.const (H2 := New H H) R_Ptr.const hr_86) (fun p hp => hf_88 p (mem_seg 0 rfl hp))
                            refine JL.val rfl rfl (R.move rfl) ?_
                            refine JL.val rfl rfl (R.extract rfl rfl) ?_
                            refine JL.val rfl rfl (R.extract rfl rfl) ?_
                            refine JL.val rfl rfl (R.assign rfl) ?_
                            refine JL.val rfl rfl (R.assign rfl) ?_
                            refine JL.nil ?_
                            refine JN.next ?_
                            refine JC.seq ?_
                            refine JC.seq ?_
                            refine JC.region ?_
                            refine JL.val rfl rfl (R.move rfl) ?_
                            refine JL.val rfl rfl (R.neq_i rfl rfl) ?_
                            refine JL.nil ?_
                            refine JN.next ?_
                            refine JC.condB rfl (fun c_89 => ?_) (fun c_89 => ?_)
                            · replace hx := cond_t c_89 hx
                              refine JC.seq ?_
                              refine JC.region ?_
                              refine JL.val rfl rfl (R.assign rfl) ?_
                              refine JL.nil ?_
                              refine JN.next ?_
                              refine JC.ret ?_
                              refine JN.passR ?_
                              refine JN.blkR ?_
                              refine JN.passR ?_
                              obtain rfl := run_done hd_71 hx
                              refine JN.passR ?_
                              refine JN.blkR ?_
                              clear hx; have hx := hxo_65
                              simp only [Sum.elim_inl, Sum.elim_inr] at hx
                              refine JN.passR ?_
                              refine JN.passR ?_
                              refine JN.outP (vs := [.bool false]) (K := []) (rst := [_, _]) (.inl rfl) rfl rfl (Res.tmp rfl rfl) picks0 ?_
                              obtain rfl := Option.some.inj hx
                              exact ⟨rfl, rfl, rfl, trivial⟩
                            · replace hx := cond_f c_89 hx
                              refine JC.skip ?_
                              refine JN.next ?_
                              refine JC.region ?_
                              refine JL.val rfl rfl (R.move rfl) ?_
                              refine JL.val rfl rfl (R.assign rfl) ?_
                              refine JL.nil ?_
                              refine JN.blkN ?_
                              refine JN.next ?_
                              refine JC.region ?_
                              refine JL.val rfl rfl (R.move rfl) ?_
                              refine JL.val rfl rfl (R.sub_i rfl rfl) ?_
                              refine JL.val rfl rfl (R.assign rfl) ?_
                              refine JL.nil ?_
                              replace hx := run_next hd_71 hx
                              refine JN.forget 1 ?_
                              exact JN.cut ⟨(x_84.1, w64 (s_67.2 - 1)), aor_86, nr_86, capr_86, Kr_86, rfl, rfl, rfl, hx, hr_86⟩ ⟨rfl, rfl, rfl, rfl, trivial⟩ rfl rfl
                          · replace hx := cond_f c_71 hx
                            refine JC.exit ?_
                            refine JN.passX ?_
                            obtain rfl := run_done hd_71 hx
                            refine JN.passX ?_
                            refine JN.exitSame ?_
                            exact JN.cut ⟨s_67.1, aor_70, nr_70, capr_70, Kr_70, rfl, rfl, rfl, rfl, hr_70⟩ ⟨rfl, rfl, rfl, trivial⟩ rfl rfl

set_option maxHeartbeats 1000000 in
theorem ref10_None_ok (p_1 : Ptr) (H : Heaplet) (r : Bool) (hx : ref10_None p_1 = some r) :
    Does Try.prog 37 #[.agg #[.int .i64 p_1.At, .int .u32 (p_1.Birth.toNat : Int), .int .u32 (p_1.Iv.toNat : Int), .int .u32 (p_1.Tag.toNat : Int), .int .u32 (p_1.Sum.toNat : Int)]] [] H (fun u K' H' => u = .bool r ∧ K' = [] ∧ H = H' ∧ True) := by
  refine Does.enterL (vs := [.agg #[.int .i64 p_1.At, .int .u32 (p_1.Birth.toNat : Int), .int .u32 (p_1.Iv.toNat : Int), .int .u32 (p_1.Tag.toNat : Int), .int .u32 (p_1.Sum.toNat : Int)]]) (l := [(0, .agg #[.int .i64 p_1.At, .int .u32 (p_1.Birth.toNat : Int), .int .u32 (p_1.Iv.toNat : Int), .int .u32 (p_1.Tag.toNat : Int), .int .u32 (p_1.Sum.toNat : Int)])]) Try.func37 rfl rfl ⟨rfl, trivial⟩ (fun w hlt => ?_)
  rw [ref10_None.eq_1] at hx
  refine JC.seq ?_
  refine JC.region ?_
  refine JL.box rfl rfl (fun b_2 hb_2 => ?_)
  refine JL.val rfl rfl (R.assign rfl) ?_
  refine JL.nil ?_
  refine JN.next ?_
  refine JC.seq ?_
  refine JC.region ?_
  refine JL.val rfl rfl (R.ldoN 0 (vs := [.int .i64 p_1.At, .int .u32 (p_1.Birth.toNat : Int), .int .u32 (p_1.Iv.toNat : Int), .int .u32 (p_1.Tag.toNat : Int), .int .u32 (p_1.Sum.toNat : Int)]) S32 rfl rfl rfl rfl) ?_
  refine JL.val rfl rfl (R.bldP (vs := []) (cs := [.int .i64 0, .int .u32 ((0 : UInt32).toNat : Int), .int .u32 ((0 : UInt32).toNat : Int), .int .u32 ((0 : UInt32).toNat : Int), .int .u32 ((0 : UInt32).toNat : Int)]) Z32 B32 rfl rfl rfl) ?_
  refine JL.val rfl rfl (R.eqlAgg QU32 QP32 QG32 QF32 rfl rfl (EqF.i (by decide) S3 U3 rfl rfl (EqF.u32 (a := p_1.Birth) (b := (0 : UInt32)) (by decide) S30 U30 rfl rfl (EqF.u32 (a := p_1.Iv) (b := (0 : UInt32)) (by decide) S30 U30 rfl rfl (EqF.u32 (a := p_1.Tag) (b := (0 : UInt32)) (by decide) S30 U30 rfl rfl (EqF.u32 (a := p_1.Sum) (b := (0 : UInt32)) (by decide) S30 U30 rfl rfl EqF.nil)))))) ?_
  refine JL.val rfl rfl (R.assign rfl) ?_
  refine JL.nil ?_
  refine JN.next ?_
  refine JC.ret ?_
  refine JN.outP (vs := [.bool (decide (p_1.At = 0) && (decide (p_1.Birth = (0 : UInt32)) && (decide (p_1.Iv = (0 : UInt32)) && (decide (p_1.Tag = (0 : UInt32)) && (decide (p_1.Sum = (0 : UInt32)) && true)))))]) (K := []) (rst := [_]) (.inl rfl) rfl rfl (Res.tmp rfl rfl) picks0 ?_
  obtain rfl := Option.some.inj hx
  exact ⟨rfl, rfl, rfl, trivial⟩

set_option maxHeartbeats 1000000 in
theorem ref10_May_ok (p_1 : Ptr) (H : Heaplet) (r : Bool) (hx : ref10_May p_1 = some r) :
    Does Try.prog 36 #[.agg #[.int .i64 p_1.At, .int .u32 (p_1.Birth.toNat : Int), .int .u32 (p_1.Iv.toNat : Int), .int .u32 (p_1.Tag.toNat : Int), .int .u32 (p_1.Sum.toNat : Int)]] [] H (fun u K' H' => u = .bool r ∧ K' = [] ∧ H = H' ∧ True) := by
  refine Does.enterL (vs := [.agg #[.int .i64 p_1.At, .int .u32 (p_1.Birth.toNat : Int), .int .u32 (p_1.Iv.toNat : Int), .int .u32 (p_1.Tag.toNat : Int), .int .u32 (p_1.Sum.toNat : Int)]]) (l := [(0, .agg #[.int .i64 p_1.At, .int .u32 (p_1.Birth.toNat : Int), .int .u32 (p_1.Iv.toNat : Int), .int .u32 (p_1.Tag.toNat : Int), .int .u32 (p_1.Sum.toNat : Int)])]) Try.func36 rfl rfl ⟨rfl, trivial⟩ (fun w hlt => ?_)
  rw [ref10_May.eq_1] at hx
  refine JC.seq ?_
  refine JC.region ?_
  refine JL.box rfl rfl (fun b_2 hb_2 => ?_)
  refine JL.val rfl rfl (R.assign rfl) ?_
  refine JL.nil ?_
  refine JN.next ?_
  refine JC.seq ?_
  obtain ⟨t_3, ht_5, hx⟩ := bnd_some hx
  refine JC.cut (fun l o g => l = [(2, .bool t_3)] ∧ o = [] ∧ H = g) ?_ ?_
  · rintro _ _ _ ⟨rfl, rfl, rfl⟩
    refine JN.next ?_
    refine JC.ret ?_
    refine JN.outP (vs := [.bool t_3]) (K := []) (rst := []) (.inl rfl) rfl rfl (Res.tmp rfl rfl) picks0 ?_
    obtain rfl := Option.some.inj hx
    exact ⟨rfl, rfl, rfl, trivial⟩
  · have hxo_4 := hx; clear hx; have hx := ht_5; clear ht_5
    refine JC.region ?_
    refine JL.val rfl rfl (R.ldoN 0 (vs := [.int .i64 p_1.At, .int .u32 (p_1.Birth.toNat : Int), .int .u32 (p_1.Iv.toNat : Int), .int .u32 (p_1.Tag.toNat : Int), .int .u32 (p_1.Sum.toNat : Int)]) S32 rfl rfl rfl rfl) ?_
    obtain ⟨x_6, hr_7, hx⟩ := bnd_some hx
    refine JL.callC (vs := [_]) (args := [_]) (K := []) (rst := [_]) E37 rfl rfl rfl picks0 (ref10_None_ok p_1 _ _ hr_7) rfl (fun u_8 Ku_8 Hu_8 hRu_8 hleu_8 hfu_8 => ?_)
    obtain ⟨rfl, rfl, rfl, -⟩ := hRu_8
    refine JL.val rfl rfl (R.move rfl) ?_
    refine JL.gSplit (t := 5) rfl (fun c_9 => ?_) (fun c_9 => ?_)
    · replace hx := cond_t c_9 hx
      refine JL.gNo rfl rfl rfl rfl rfl ?_
      refine JL.gNo rfl rfl rfl rfl rfl ?_
      refine JL.gNo rfl rfl rfl rfl rfl ?_
      refine JL.gNo rfl rfl rfl rfl rfl ?_
      refine JL.gNoU rfl rfl rfl rfl ?_
      refine JL.gNoU rfl rfl rfl rfl ?_
      refine JL.gNoU rfl rfl rfl rfl ?_
      refine JL.gNo rfl rfl rfl rfl rfl ?_
      refine JL.gNo rfl rfl rfl rfl rfl ?_
      refine JL.gNoU rfl rfl rfl rfl ?_
      refine JL.gNoU rfl rfl rfl rfl ?_
      refine JL.gNoU rfl rfl rfl rfl ?_
      refine JL.gNo rfl rfl rfl rfl rfl ?_
      refine JL.gNo rfl rfl rfl rfl rfl ?_
      refine JL.gNoU rfl rfl rfl rfl ?_
      refine JL.gNoU rfl rfl rfl rfl ?_
      refine JL.gNoU rfl rfl rfl rfl ?_
      refine JL.gNo rfl rfl rfl rfl rfl ?_
      refine JL.val rfl rfl (R.pickT rfl rfl) ?_
      refine JL.val rfl rfl (R.assign rfl) ?_
      refine JL.nil ?_
      obtain rfl := Option.some.inj hx
      refine JN.forget 0 ?_
      exact JN.cut ⟨rfl, rfl, rfl⟩ ⟨rfl, trivial⟩ rfl rfl
    · replace hx := cond_f c_9 hx
      refine JL.gYes rfl rfl rfl ?_
      refine JL.val rfl rfl (R.fa F32_0 rfl) ?_
      refine JL.gYes rfl rfl rfl ?_
      refine JL.val rfl rfl (R.ldo 0 S3 rfl rfl rfl) ?_
      refine JL.gYes rfl rfl rfl ?_
      refine JL.val rfl rfl (R.geq_i rfl rfl) ?_
      refine JL.gYes rfl rfl rfl ?_
      refine JL.val rfl rfl (R.move rfl) ?_
      refine JL.gSplit (t := 9) rfl (fun c_10 => ?_) (fun c_10 => ?_)
      · replace hx := cond_t c_10 hx
        refine JL.gYes rfl rfl rfl ?_
        refine JL.val rfl rfl (R.fa F32_0 rfl) ?_
        refine JL.gYes rfl rfl rfl ?_
        refine JL.val rfl rfl (R.ldo 0 S3 rfl rfl rfl) ?_
        refine JL.gYes rfl rfl rfl ?_
        refine JL.val rfl rfl (R.lss_i rfl rfl) ?_
        refine JL.gYes rfl rfl rfl ?_
        refine JL.val rfl rfl (R.pickT rfl rfl) ?_
        refine JL.gYes rfl rfl rfl ?_
        refine JL.val rfl rfl (R.move rfl) ?_
        refine JL.gSplit (t := 14) rfl (fun c_11 => ?_) (fun c_11 => ?_)
        · replace hx := cond_t c_11 hx
          refine JL.gYes rfl rfl rfl ?_
          refine JL.val rfl rfl (R.fa F32_1 rfl) ?_
          refine JL.gYes rfl rfl rfl ?_
          refine JL.val rfl rfl (R.ldo 0 S30 rfl rfl rfl) ?_
          refine JL.gYes rfl rfl rfl ?_
          refine JL.val rfl rfl (R.geq32 (a := p_1.Birth) (b := (1 : UInt32)) rfl rfl) ?_
          refine JL.gYes rfl rfl rfl ?_
          refine JL.val rfl rfl (R.pickT rfl rfl) ?_
          refine JL.gYes rfl rfl rfl ?_
          refine JL.val rfl rfl (R.move rfl) ?_
          refine JL.gSplit (t := 19) rfl (fun c_12 => ?_) (fun c_12 => ?_)
          · replace hx := cond_t c_12 hx
            refine JL.gYes rfl rfl rfl ?_
            refine JL.val rfl rfl (R.fa F32_1 rfl) ?_
            refine JL.gYes rfl rfl rfl ?_
            refine JL.val rfl rfl (R.ldo 0 S30 rfl rfl rfl) ?_
            refine JL.gYes rfl rfl rfl ?_
            refine JL.val rfl rfl (R.leq32 (a := p_1.Birth) (b := (16777215 : UInt32)) rfl rfl) ?_
            refine JL.gYes rfl rfl rfl ?_
            refine JL.val rfl rfl (R.pickT rfl rfl) ?_
            refine JL.val rfl rfl (R.pickF rfl rfl) ?_
            refine JL.val rfl rfl (R.assign rfl) ?_
            refine JL.nil ?_
            obtain rfl := Option.some.inj hx
            refine JN.forget 0 ?_
            exact JN.cut ⟨rfl, rfl, rfl⟩ ⟨rfl, trivial⟩ rfl rfl
          · replace hx := cond_f c_12 hx
            refine JL.gNo rfl rfl rfl rfl rfl ?_
            refine JL.gNo rfl rfl rfl rfl rfl ?_
            refine JL.gNo rfl rfl rfl rfl rfl ?_
            refine JL.gYes rfl rfl rfl ?_
            refine JL.val rfl rfl (R.pickF rfl rfl) ?_
            refine JL.val rfl rfl (R.pickF rfl rfl) ?_
            refine JL.val rfl rfl (R.assign rfl) ?_
            refine JL.nil ?_
            obtain rfl := Option.some.inj hx
            refine JN.forget 0 ?_
            exact JN.cut ⟨rfl, rfl, rfl⟩ ⟨rfl, trivial⟩ rfl rfl
        · replace hx := cond_f c_11 hx
          refine JL.gNo rfl rfl rfl rfl rfl ?_
          refine JL.gNo rfl rfl rfl rfl rfl ?_
          refine JL.gNo rfl rfl rfl rfl rfl ?_
          refine JL.gYes rfl rfl rfl ?_
          refine JL.val rfl rfl (R.pickF rfl rfl) ?_
          refine JL.gYes rfl rfl rfl ?_
          refine JL.val rfl rfl (R.move rfl) ?_
          refine JL.gNo rfl rfl rfl rfl rfl ?_
          refine JL.gNo rfl rfl rfl rfl rfl ?_
          refine JL.gNo rfl rfl rfl rfl rfl ?_
          refine JL.gYes rfl rfl rfl ?_
          refine JL.val rfl rfl (R.pickF rfl rfl) ?_
          refine JL.val rfl rfl (R.pickF rfl rfl) ?_
          refine JL.val rfl rfl (R.assign rfl) ?_
          refine JL.nil ?_
          obtain rfl := Option.some.inj hx
          refine JN.forget 0 ?_
          exact JN.cut ⟨rfl, rfl, rfl⟩ ⟨rfl, trivial⟩ rfl rfl
      · replace hx := cond_f c_10 hx
        refine JL.gNo rfl rfl rfl rfl rfl ?_
        refine JL.gNo rfl rfl rfl rfl rfl ?_
        refine JL.gNo rfl rfl rfl rfl rfl ?_
        refine JL.gYes rfl rfl rfl ?_
        refine JL.val rfl rfl (R.pickF rfl rfl) ?_
        refine JL.gYes rfl rfl rfl ?_
        refine JL.val rfl rfl (R.move rfl) ?_
        refine JL.gNo rfl rfl rfl rfl rfl ?_
        refine JL.gNo rfl rfl rfl rfl rfl ?_
        refine JL.gNo rfl rfl rfl rfl rfl ?_
        refine JL.gYes rfl rfl rfl ?_
        refine JL.val rfl rfl (R.pickF rfl rfl) ?_
        refine JL.gYes rfl rfl rfl ?_
        refine JL.val rfl rfl (R.move rfl) ?_
        refine JL.gNo rfl rfl rfl rfl rfl ?_
        refine JL.gNo rfl rfl rfl rfl rfl ?_
        refine JL.gNo rfl rfl rfl rfl rfl ?_
        refine JL.gYes rfl rfl rfl ?_
        refine JL.val rfl rfl (R.pickF rfl rfl) ?_
        refine JL.val rfl rfl (R.pickF rfl rfl) ?_
        refine JL.val rfl rfl (R.assign rfl) ?_
        refine JL.nil ?_
        obtain rfl := Option.some.inj hx
        refine JN.forget 0 ?_
        exact JN.cut ⟨rfl, rfl, rfl⟩ ⟨rfl, trivial⟩ rfl rfl

set_option maxHeartbeats 1000000 in
theorem ref16_one_ok (p_1 : Ptr) (H : Heaplet) (r : Bool) (hx : ref16_one p_1 = some r) :
    Does Try.prog 28 #[.agg #[.int .i64 p_1.At, .int .u32 (p_1.Birth.toNat : Int), .int .u32 (p_1.Iv.toNat : Int), .int .u32 (p_1.Tag.toNat : Int), .int .u32 (p_1.Sum.toNat : Int)]] [] H (fun u K' H' => u = .bool r ∧ K' = [] ∧ H = H' ∧ True) := by
  refine Does.enterL (vs := [.agg #[.int .i64 p_1.At, .int .u32 (p_1.Birth.toNat : Int), .int .u32 (p_1.Iv.toNat : Int), .int .u32 (p_1.Tag.toNat : Int), .int .u32 (p_1.Sum.toNat : Int)]]) (l := [(0, .agg #[.int .i64 p_1.At, .int .u32 (p_1.Birth.toNat : Int), .int .u32 (p_1.Iv.toNat : Int), .int .u32 (p_1.Tag.toNat : Int), .int .u32 (p_1.Sum.toNat : Int)])]) Try.func28 rfl rfl ⟨rfl, trivial⟩ (fun w hlt => ?_)
  rw [ref16_one.eq_1] at hx
  refine JC.seq ?_
  refine JC.region ?_
  refine JL.box rfl rfl (fun b_2 hb_2 => ?_)
  refine JL.val rfl rfl (R.assign rfl) ?_
  refine JL.nil ?_
  refine JN.next ?_
  refine JC.seq ?_
  obtain ⟨t_3, ht_5, hx⟩ := bnd_some hx
  refine JC.cut (fun l o g => l = [(2, .bool t_3)] ∧ o = [] ∧ H = g) ?_ ?_
  · rintro _ _ _ ⟨rfl, rfl, rfl⟩
    refine JN.next ?_
    refine JC.ret ?_
    refine JN.outP (vs := [.bool t_3]) (K := []) (rst := []) (.inl rfl) rfl rfl (Res.tmp rfl rfl) picks0 ?_
    obtain rfl := Option.some.inj hx
    exact ⟨rfl, rfl, rfl, trivial⟩
  · have hxo_4 := hx; clear hx; have hx := ht_5; clear ht_5
    refine JC.region ?_
    refine JL.val rfl rfl (R.ldoN 0 (vs := [.int .i64 p_1.At, .int .u32 (p_1.Birth.toNat : Int), .int .u32 (p_1.Iv.toNat : Int), .int .u32 (p_1.Tag.toNat : Int), .int .u32 (p_1.Sum.toNat : Int)]) S32 rfl rfl rfl rfl) ?_
    obtain ⟨x_6, hr_7, hx⟩ := bnd_some hx
    refine JL.callC (vs := [_]) (args := [_]) (K := []) (rst := [_]) E36 rfl rfl rfl picks0 (ref10_May_ok p_1 _ _ hr_7) rfl (fun u_8 Ku_8 Hu_8 hRu_8 hleu_8 hfu_8 => ?_)
    obtain ⟨rfl, rfl, rfl, -⟩ := hRu_8
    refine JL.val rfl rfl (R.move rfl) ?_
    refine JL.gSplit (t := 5) rfl (fun c_9 => ?_) (fun c_9 => ?_)
    · replace hx := cond_t c_9 hx
      refine JL.gYes rfl rfl rfl ?_
      refine JL.val rfl rfl (R.ldoN 0 (vs := [.int .i64 p_1.At, .int .u32 (p_1.Birth.toNat : Int), .int .u32 (p_1.Iv.toNat : Int), .int .u32 (p_1.Tag.toNat : Int), .int .u32 (p_1.Sum.toNat : Int)]) S32 rfl rfl rfl rfl) ?_
      refine JL.gYes rfl rfl rfl ?_
      obtain ⟨x_10, hr_11, hx⟩ := bnd_some hx
      refine JL.callC (vs := [_]) (args := [_]) (K := []) (rst := [_]) E37 rfl rfl rfl picks0 (ref10_None_ok p_1 _ _ hr_11) rfl (fun u_12 Ku_12 Hu_12 hRu_12 hleu_12 hfu_12 => ?_)
      obtain ⟨rfl, rfl, rfl, -⟩ := hRu_12
      refine JL.gYes rfl rfl rfl ?_
      refine JL.val rfl rfl (R.not rfl) ?_
      refine JL.val rfl rfl (R.pickT rfl rfl) ?_
      refine JL.val rfl rfl (R.assign rfl) ?_
      refine JL.nil ?_
      obtain rfl := Option.some.inj hx
      refine JN.forget 0 ?_
      exact JN.cut ⟨rfl, rfl, rfl⟩ ⟨rfl, trivial⟩ rfl rfl
    · replace hx := cond_f c_9 hx
      refine JL.gNo rfl rfl rfl rfl rfl ?_
      refine JL.gNo rfl rfl rfl rfl rfl ?_
      refine JL.gNo rfl rfl rfl rfl rfl ?_
      refine JL.val rfl rfl (R.pickF rfl rfl) ?_
      refine JL.val rfl rfl (R.assign rfl) ?_
      refine JL.nil ?_
      obtain rfl := Option.some.inj hx
      refine JN.forget 0 ?_
      exact JN.cut ⟨rfl, rfl, rfl⟩ ⟨rfl, trivial⟩ rfl rfl

set_option maxHeartbeats 1000000 in
theorem ref16_May_ok (p_1 : List Ptr) (H : Heaplet) {aoa_2 : Option Addr} {na_2 : Nat} {capa_2 : Nat} (ha_2 : IsSlice H R_Ptr 5 (.slice aoa_2 na_2 capa_2) p_1) (r : Bool) (hx : ref16_May p_1 = some r) :
    Does Try.prog 27 #[.slice aoa_2 na_2 capa_2] [] H (fun u K' H' => u = .bool r ∧ K' = [] ∧ H = H' ∧ True) := by
  refine Does.enterL (vs := [.slice aoa_2 na_2 capa_2]) (l := [(0, .slice aoa_2 na_2 capa_2)]) Try.func27 rfl rfl ⟨rfl, trivial⟩ (fun w hlt => ?_)
  rw [ref16_May.eq_1] at hx
  refine JC.seq ?_
  refine JC.region ?_
  refine JL.val rfl rfl (R.assign rfl) ?_
  refine JL.nil ?_
  refine JN.next ?_
  refine JC.seq ?_
  refine JC.seq ?_
  refine JC.region ?_
  refine JL.val rfl rfl (R.move rfl) ?_
  refine JL.val rfl rfl (R.lenL U22 rfl (IsSlice.long ha_2)) ?_
  refine JL.val rfl rfl (R.gtr_i rfl rfl) ?_
  refine JL.nil ?_
  refine JN.next ?_
  refine JC.condB rfl (fun c_3 => ?_) (fun c_3 => ?_)
  · replace hx := cond_t c_3 hx
    refine JC.seq ?_
    refine JC.region ?_
    refine JL.val rfl rfl (R.assign rfl) ?_
    refine JL.nil ?_
    refine JN.next ?_
    refine JC.ret ?_
    refine JN.passR ?_
    refine JN.outP (vs := [.bool false]) (K := []) (rst := []) (.inl rfl) rfl rfl (Res.tmp rfl rfl) picks0 ?_
    obtain rfl := Option.some.inj hx
    exact ⟨rfl, rfl, rfl, trivial⟩
  · replace hx := cond_f c_3 hx
    refine JC.skip ?_
    refine JN.next ?_
    refine JC.seq ?_
    refine JC.seq ?_
    refine JC.region ?_
    refine JL.val rfl rfl (R.assign rfl) ?_
    refine JL.nil ?_
    refine JN.next ?_
    obtain ⟨t_4, ht_6, hx⟩ := bnd_some hx
    refine JC.cut (fun l o g => ∃ t_4a : Unit, l = [] ∧ o = [] ∧ H = g ∧ t_4 = .inl t_4a) ?_ ?_
    · rintro _ _ _ ⟨t_4a, rfl, rfl, rfl, rfl⟩
      simp only [Sum.elim_inl] at hx
      refine JN.next ?_
      refine JC.seq ?_
      refine JC.region ?_
      refine JL.val rfl rfl (R.assign rfl) ?_
      refine JL.nil ?_
      refine JN.next ?_
      refine JC.ret ?_
      refine JN.outP (vs := [.bool true]) (K := []) (rst := []) (.inl rfl) rfl rfl (Res.tmp rfl rfl) picks0 ?_
      obtain rfl := Option.some.inj hx
      exact ⟨rfl, rfl, rfl, trivial⟩
    · have hxo_5 := hx; clear hx; have hx := ht_6; clear ht_6
      refine JC.block ?_
      refine JC.loopI (fun n l o g => ∃ s_7 : Nat, l = [(0, .slice aoa_2 na_2 capa_2), (3, .int .i64 ((s_7 : Nat) : Int))] ∧ o = [] ∧ H = g ∧ run (ref16_May_l1 p_1) n s_7 = some t_4) FUEL ?_ ⟨0, rfl, rfl, rfl, hx⟩ ⟨rfl, rfl, trivial⟩ ?_
      · rintro _ _ _ ⟨s_7, rfl, rfl, rfl, hn_8⟩
        exact run_zero hn_8
      · rintro n_9 _ _ _ ⟨s_7, rfl, rfl, rfl, hn_8⟩
        clear hx; obtain ⟨oo_11, hx, hd_10⟩ := run_some hn_8
        rw [ref16_May_l1.eq_1] at hx
        refine JC.seq ?_
        refine JC.seq ?_
        refine JC.region ?_
        refine JL.val rfl rfl (R.move rfl) ?_
        refine JL.val rfl rfl (R.move rfl) ?_
        refine JL.val rfl rfl (R.lenL U22 rfl (IsSlice.long ha_2)) ?_
        refine JL.val rfl rfl (R.lss_i rfl rfl) ?_
        refine JL.nil ?_
        refine JN.next ?_
        refine JC.condB rfl (fun c_10 => ?_) (fun c_10 => ?_)
        · replace hx := cond_t c_10 hx
          refine JC.skip ?_
          refine JN.next ?_
          refine JC.seq ?_
          refine JC.block ?_
          refine JC.seq ?_
          refine JC.draw (so := []) 24 rfl Mixed trivial ?_
          refine JA.val ⟨by kernel_rfl, by kernel_rfl⟩ (calm_only _) (i := 0) rfl ⟨by kernel_rfl, by kernel_rfl, rfl⟩ trivial (stab_of (Hle.refl _) trivial) (R.move rfl) rfl ?_
          refine JA.val ⟨by kernel_rfl, by kernel_rfl⟩ (calm_only _) (i := 1) rfl ⟨by kernel_rfl, by kernel_rfl, rfl⟩ trivial (stab_of (Hle.refl _) trivial) (R.move rfl) rfl ?_
          obtain ⟨y_11, hN_12, hx⟩ := idx_some hx
          obtain ⟨b_13, o_14, cs_15, hE_16, hR_17, hl_18, hc_19⟩ := IsSlice.elem ha_2 hN_12
          obtain rfl := hR_17
          refine JA.val ⟨by kernel_rfl, by kernel_rfl⟩ (calm_only _) (i := 2) rfl ⟨by kernel_rfl, by kernel_rfl, rfl⟩ trivial (stab_of (Hle.refl _) trivial) (R.ix U22 S32 rfl rfl hE_16) rfl ?_
          refine JA.val ⟨by kernel_rfl, by kernel_rfl⟩ (calm_only _) (i := 3) rfl ⟨by kernel_rfl, by kernel_rfl, rfl⟩ trivial (stab_of (Hle.refl _) trivial) (R.ldHE (cs := [.int .i64 y_11.At, .int .u32 (y_11.Birth.toNat : Int), .int .u32 (y_11.Iv.toNat : Int), .int .u32 (y_11.Tag.toNat : Int), .int .u32 (y_11.Sum.toNat : Int)]) (k := 0) (vs := [.int .i64 y_11.At, .int .u32 (y_11.Birth.toNat : Int), .int .u32 (y_11.Iv.toNat : Int), .int .u32 (y_11.Tag.toNat : Int), .int .u32 (y_11.Sum.toNat : Int)]) S32 rfl hc_19 rfl rfl) rfl ?_
          refine JA.one (i := 4) (by kernel_rfl) ?_
          refine JO.step rfl trivial rfl (fun K hK => ?_)
          obtain ⟨x_20, hr_21, hx⟩ := bnd_some hx
          refine JL.callC (vs := [_]) (args := [_]) (K := []) (rst := []) E28 rfl rfl rfl picks0 (ref16_one_ok y_11 _ _ hr_21) rfl (fun u_22 Ku_22 Hu_22 hRu_22 hleu_22 hfu_22 => ?_)
          obtain ⟨rfl, rfl, rfl, -⟩ := hRu_22
          refine JL.nil ?_
          refine hK _ _ _ (stab_of (Hle.refl _) trivial) ?_
          refine JA.val ⟨by kernel_rfl, by kernel_rfl⟩ (calm_only _) (i := 5) rfl ⟨by kernel_rfl, by kernel_rfl, rfl⟩ trivial (stab_of (Hle.refl _) trivial) (R.not rfl) rfl ?_
          refine JA.val ⟨by kernel_rfl, by kernel_rfl⟩ (calm_only _) (i := 6) rfl ⟨by kernel_rfl, by kernel_rfl, rfl⟩ trivial (stab_of (Hle.refl _) trivial) (R.move rfl) rfl ?_
          refine JA.gSplit (t := 19) rfl (fun c_23 => ?_) (fun c_23 => ?_)
          · replace hx := cond_t c_23 hx
            refine JA.no ⟨by kernel_rfl, by kernel_rfl⟩ (calm_only _) (i := 7) rfl ⟨by kernel_rfl, by kernel_rfl, rfl⟩ rfl rfl rfl rfl (stab_of (Hle.refl _) trivial) rfl ?_
            refine JA.no ⟨by kernel_rfl, by kernel_rfl⟩ (calm_only _) (i := 8) rfl ⟨by kernel_rfl, by kernel_rfl, rfl⟩ rfl rfl rfl rfl (stab_of (Hle.refl _) trivial) rfl ?_
            refine JA.no ⟨by kernel_rfl, by kernel_rfl⟩ (calm_only _) (i := 9) rfl ⟨by kernel_rfl, by kernel_rfl, rfl⟩ rfl rfl rfl rfl (stab_of (Hle.refl _) trivial) rfl ?_
            refine JA.noU ⟨by kernel_rfl, by kernel_rfl⟩ (calm_only _) (i := 10) rfl ⟨by kernel_rfl, by kernel_rfl, rfl⟩ rfl rfl rfl (stab_of (Hle.refl _) trivial) rfl ?_
            refine JA.noU ⟨by kernel_rfl, by kernel_rfl⟩ (calm_only _) (i := 11) rfl ⟨by kernel_rfl, by kernel_rfl, rfl⟩ rfl rfl rfl (stab_of (Hle.refl _) trivial) rfl ?_
            refine JA.noU ⟨by kernel_rfl, by kernel_rfl⟩ (calm_only _) (i := 12) rfl ⟨by kernel_rfl, by kernel_rfl, rfl⟩ rfl rfl rfl (stab_of (Hle.refl _) trivial) rfl ?_
            refine JA.noU ⟨by kernel_rfl, by kernel_rfl⟩ (calm_only _) (i := 13) rfl ⟨by kernel_rfl, by kernel_rfl, rfl⟩ rfl rfl rfl (stab_of (Hle.refl _) trivial) rfl ?_
            refine JA.noU ⟨by kernel_rfl, by kernel_rfl⟩ (calm_only _) (i := 14) rfl ⟨by kernel_rfl, by kernel_rfl, rfl⟩ rfl rfl rfl (stab_of (Hle.refl _) trivial) rfl ?_
            refine JA.noU ⟨by kernel_rfl, by kernel_rfl⟩ (calm_only _) (i := 15) rfl ⟨by kernel_rfl, by kernel_rfl, rfl⟩ rfl rfl rfl (stab_of (Hle.refl _) trivial) rfl ?_
            refine JA.noU ⟨by kernel_rfl, by kernel_rfl⟩ (calm_only _) (i := 16) rfl ⟨by kernel_rfl, by kernel_rfl, rfl⟩ rfl rfl rfl (stab_of (Hle.refl _) trivial) rfl ?_
            refine JA.noU ⟨by kernel_rfl, by kernel_rfl⟩ (calm_only _) (i := 17) rfl ⟨by kernel_rfl, by kernel_rfl, rfl⟩ rfl rfl rfl (stab_of (Hle.refl _) trivial) rfl ?_
            refine JA.noU ⟨by kernel_rfl, by kernel_rfl⟩ (calm_only _) (i := 18) rfl ⟨by kernel_rfl, by kernel_rfl, rfl⟩ rfl rfl rfl (stab_of (Hle.refl _) trivial) rfl ?_
            refine JA.noU ⟨by kernel_rfl, by kernel_rfl⟩ (calm_only _) (i := 19) rfl ⟨by kernel_rfl, by kernel_rfl, rfl⟩ rfl rfl rfl (stab_of (Hle.refl _) trivial) rfl ?_
            refine JA.noU ⟨by kernel_rfl, by kernel_rfl⟩ (calm_only _) (i := 20) rfl ⟨by kernel_rfl, by kernel_rfl, rfl⟩ rfl rfl rfl (stab_of (Hle.refl _) trivial) rfl ?_
            refine JA.noU ⟨by kernel_rfl, by kernel_rfl⟩ (calm_only _) (i := 21) rfl ⟨by kernel_rfl, by kernel_rfl, rfl⟩ rfl rfl rfl (stab_of (Hle.refl _) trivial) rfl ?_
            refine JA.no ⟨by kernel_rfl, by kernel_rfl⟩ (calm_only _) (i := 22) rfl ⟨by kernel_rfl, by kernel_rfl, rfl⟩ rfl rfl rfl rfl (stab_of (Hle.refl _) trivial) rfl ?_
            refine JA.val ⟨by kernel_rfl, by kernel_rfl⟩ (calm_only _) (i := 23) rfl ⟨by kernel_rfl, by kernel_rfl, rfl⟩ trivial (stab_of (Hle.refl _) trivial) (R.pickT rfl rfl) rfl ?_
            refine JA.doneN (by kernel_rfl) ?_
            refine JN.next ?_
            refine JC.condT rfl ?_
            refine JC.seq ?_
            refine JC.region ?_
            refine JL.val rfl rfl (R.assign rfl) ?_
            refine JL.nil ?_
            refine JN.next ?_
            refine JC.ret ?_
            refine JN.blkR ?_
            refine JN.passR ?_
            obtain rfl := run_done hd_10 hx
            refine JN.passR ?_
            refine JN.blkR ?_
            clear hx; have hx := hxo_5
            simp only [Sum.elim_inl, Sum.elim_inr] at hx
            refine JN.passR ?_
            refine JN.passR ?_
            refine JN.outP (vs := [.bool false]) (K := []) (rst := []) (.inl rfl) rfl rfl (Res.tmp rfl rfl) picks0 ?_
            obtain rfl := Option.some.inj hx
            exact ⟨rfl, rfl, rfl, trivial⟩
          · replace hx := cond_f c_23 hx
            refine JA.val ⟨by kernel_rfl, by kernel_rfl⟩ (calm_only _) (i := 7) rfl ⟨by kernel_rfl, by kernel_rfl, rfl⟩ ⟨_, _, rfl, rfl, rfl⟩ (stab_of (Hle.refl _) trivial) (R.move rfl) rfl ?_
            refine JA.val ⟨by kernel_rfl, by kernel_rfl⟩ (calm_only _) (i := 8) rfl ⟨by kernel_rfl, by kernel_rfl, rfl⟩ ⟨_, _, rfl, rfl, rfl⟩ (stab_of (Hle.refl _) trivial) (R.gtr_i rfl rfl) rfl ?_
            refine JA.val ⟨by kernel_rfl, by kernel_rfl⟩ (calm_only _) (i := 9) rfl ⟨by kernel_rfl, by kernel_rfl, rfl⟩ ⟨_, _, rfl, rfl, rfl⟩ (stab_of (Hle.refl _) trivial) (R.move rfl) rfl ?_
            refine JA.gSplit (t := 22) rfl (fun c_24 => ?_) (fun c_24 => ?_)
            · replace hx := cond_t c_24 hx
              refine JA.val ⟨by kernel_rfl, by kernel_rfl⟩ (calm_only _) (i := 10) rfl ⟨by kernel_rfl, by kernel_rfl, rfl⟩ ⟨_, _, rfl, rfl, rfl⟩ (stab_of (Hle.refl _) trivial) (R.move rfl) rfl ?_
              refine JA.val ⟨by kernel_rfl, by kernel_rfl⟩ (calm_only _) (i := 11) rfl ⟨by kernel_rfl, by kernel_rfl, rfl⟩ ⟨_, _, rfl, rfl, rfl⟩ (stab_of (Hle.refl _) trivial) (R.move rfl) rfl ?_
              obtain ⟨y_25, hN_26, hx⟩ := idx_some hx
              obtain ⟨b_27, o_28, cs_29, hE_30, hR_31, hl_32, hc_33⟩ := IsSlice.elem ha_2 hN_26
              obtain rfl := hR_31
              refine JA.val ⟨by kernel_rfl, by kernel_rfl⟩ (calm_only _) (i := 12) rfl ⟨by kernel_rfl, by kernel_rfl, rfl⟩ ⟨_, _, rfl, rfl, rfl⟩ (stab_of (Hle.refl _) trivial) (R.ix U22 S32 rfl rfl hE_30) rfl ?_
              refine JA.val ⟨by kernel_rfl, by kernel_rfl⟩ (calm_only _) (i := 13) rfl ⟨by kernel_rfl, by kernel_rfl, rfl⟩ ⟨_, _, rfl, rfl, rfl⟩ (stab_of (Hle.refl _) trivial) (R.fa F32_0 rfl) rfl ?_
              refine JA.val ⟨by kernel_rfl, by kernel_rfl⟩ (calm_only _) (i := 14) rfl ⟨by kernel_rfl, by kernel_rfl, rfl⟩ ⟨_, _, rfl, rfl, rfl⟩ (stab_of (Hle.refl _) trivial) (R.ldH S3 rfl (hc_33 0 _ rfl)) rfl ?_
              refine JA.val ⟨by kernel_rfl, by kernel_rfl⟩ (calm_only _) (i := 15) rfl ⟨by kernel_rfl, by kernel_rfl, rfl⟩ ⟨_, _, rfl, rfl, rfl⟩ (stab_of (Hle.refl _) trivial) (R.move rfl) rfl ?_
              refine JA.val ⟨by kernel_rfl, by kernel_rfl⟩ (calm_only _) (i := 16) rfl ⟨by kernel_rfl, by kernel_rfl, rfl⟩ ⟨_, _, rfl, rfl, rfl⟩ (stab_of (Hle.refl _) trivial) (R.move rfl) rfl ?_
              refine JA.val ⟨by kernel_rfl, by kernel_rfl⟩ (calm_only _) (i := 17) rfl ⟨by kernel_rfl, by kernel_rfl, rfl⟩ ⟨_, _, rfl, rfl, rfl⟩ (stab_of (Hle.refl _) trivial) (R.sub_i rfl rfl) rfl ?_
              obtain ⟨y_34, hN_35, hx⟩ := idx_some hx
              obtain ⟨b_36, o_37, cs_38, hE_39, hR_40, hl_41, hc_42⟩ := IsSlice.elem ha_2 hN_35
              obtain rfl := hR_40
              refine JA.val ⟨by kernel_rfl, by kernel_rfl⟩ (calm_only _) (i := 18) rfl ⟨by kernel_rfl, by kernel_rfl, rfl⟩ ⟨_, _, rfl, rfl, rfl⟩ (stab_of (Hle.refl _) trivial) (R.ix U22 S32 rfl rfl hE_39) rfl ?_
              refine JA.val ⟨by kernel_rfl, by kernel_rfl⟩ (calm_only _) (i := 19) rfl ⟨by kernel_rfl, by kernel_rfl, rfl⟩ ⟨_, _, rfl, rfl, rfl⟩ (stab_of (Hle.refl _) trivial) (R.fa F32_0 rfl) rfl ?_
              refine JA.val ⟨by kernel_rfl, by kernel_rfl⟩ (calm_only _) (i := 20) rfl ⟨by kernel_rfl, by kernel_rfl, rfl⟩ ⟨_, _, rfl, rfl, rfl⟩ (stab_of (Hle.refl _) trivial) (R.ldH S3 rfl (hc_42 0 _ rfl)) rfl ?_
              refine JA.val ⟨by kernel_rfl, by kernel_rfl⟩ (calm_only _) (i := 21) rfl ⟨by kernel_rfl, by kernel_rfl, rfl⟩ ⟨_, _, rfl, rfl, rfl⟩ (stab_of (Hle.refl _) trivial) (R.leq_i rfl rfl) rfl ?_
              refine JA.val ⟨by kernel_rfl, by kernel_rfl⟩ (calm_only _) (i := 22) rfl ⟨by kernel_rfl, by kernel_rfl, rfl⟩ ⟨_, _, rfl, rfl, rfl⟩ (stab_of (Hle.refl _) trivial) (R.pickT rfl rfl) rfl ?_
              refine JA.val ⟨by kernel_rfl, by kernel_rfl⟩ (calm_only _) (i := 23) rfl ⟨by kernel_rfl, by kernel_rfl, rfl⟩ trivial (stab_of (Hle.refl _) trivial) (R.pickF rfl rfl) rfl ?_
              refine JA.doneN (by kernel_rfl) ?_
              refine JN.next ?_
              refine JC.condB rfl (fun c_43 => ?_) (fun c_43 => ?_)
              · replace hx := cond_t c_43 hx
                refine JC.seq ?_
                refine JC.region ?_
                refine JL.val rfl rfl (R.assign rfl) ?_
                refine JL.nil ?_
                refine JN.next ?_
                refine JC.ret ?_
                refine JN.blkR ?_
                refine JN.passR ?_
                obtain rfl := run_done hd_10 hx
                refine JN.passR ?_
                refine JN.blkR ?_
                clear hx; have hx := hxo_5
                simp only [Sum.elim_inl, Sum.elim_inr] at hx
                refine JN.passR ?_
                refine JN.passR ?_
                refine JN.outP (vs := [.bool false]) (K := []) (rst := []) (.inl rfl) rfl rfl (Res.tmp rfl rfl) picks0 ?_
                obtain rfl := Option.some.inj hx
                exact ⟨rfl, rfl, rfl, trivial⟩
              · replace hx := cond_f c_43 hx
                refine JC.skip ?_
                refine JN.blkN ?_
                refine JN.next ?_
                refine JC.region ?_
                refine JL.val rfl rfl (R.move rfl) ?_
                refine JL.val rfl rfl (R.inc rfl rfl (of_decide_eq_true c_10) (IsSlice.lenI ha_2)) ?_
                refine JL.val rfl rfl (R.assign rfl) ?_
                refine JL.nil ?_
                replace hx := run_next hd_10 hx
                exact JN.cut ⟨s_7 + 1, rfl, rfl, rfl, hx⟩ ⟨rfl, rfl, trivial⟩ rfl rfl
            · replace hx := cond_f c_24 hx
              refine JA.no ⟨by kernel_rfl, by kernel_rfl⟩ (calm_only _) (i := 10) rfl ⟨by kernel_rfl, by kernel_rfl, rfl⟩ rfl rfl rfl rfl (stab_of (Hle.refl _) trivial) rfl ?_
              refine JA.no ⟨by kernel_rfl, by kernel_rfl⟩ (calm_only _) (i := 11) rfl ⟨by kernel_rfl, by kernel_rfl, rfl⟩ rfl rfl rfl rfl (stab_of (Hle.refl _) trivial) rfl ?_
              refine JA.no ⟨by kernel_rfl, by kernel_rfl⟩ (calm_only _) (i := 12) rfl ⟨by kernel_rfl, by kernel_rfl, rfl⟩ rfl rfl rfl rfl (stab_of (Hle.refl _) trivial) rfl ?_
              refine JA.no ⟨by kernel_rfl, by kernel_rfl⟩ (calm_only _) (i := 13) rfl ⟨by kernel_rfl, by kernel_rfl, rfl⟩ rfl rfl rfl rfl (stab_of (Hle.refl _) trivial) rfl ?_
              refine JA.no ⟨by kernel_rfl, by kernel_rfl⟩ (calm_only _) (i := 14) rfl ⟨by kernel_rfl, by kernel_rfl, rfl⟩ rfl rfl rfl rfl (stab_of (Hle.refl _) trivial) rfl ?_
              refine JA.no ⟨by kernel_rfl, by kernel_rfl⟩ (calm_only _) (i := 15) rfl ⟨by kernel_rfl, by kernel_rfl, rfl⟩ rfl rfl rfl rfl (stab_of (Hle.refl _) trivial) rfl ?_
              refine JA.no ⟨by kernel_rfl, by kernel_rfl⟩ (calm_only _) (i := 16) rfl ⟨by kernel_rfl, by kernel_rfl, rfl⟩ rfl rfl rfl rfl (stab_of (Hle.refl _) trivial) rfl ?_
              refine JA.no ⟨by kernel_rfl, by kernel_rfl⟩ (calm_only _) (i := 17) rfl ⟨by kernel_rfl, by kernel_rfl, rfl⟩ rfl rfl rfl rfl (stab_of (Hle.refl _) trivial) rfl ?_
              refine JA.no ⟨by kernel_rfl, by kernel_rfl⟩ (calm_only _) (i := 18) rfl ⟨by kernel_rfl, by kernel_rfl, rfl⟩ rfl rfl rfl rfl (stab_of (Hle.refl _) trivial) rfl ?_
              refine JA.no ⟨by kernel_rfl, by kernel_rfl⟩ (calm_only _) (i := 19) rfl ⟨by kernel_rfl, by kernel_rfl, rfl⟩ rfl rfl rfl rfl (stab_of (Hle.refl _) trivial) rfl ?_
              refine JA.no ⟨by kernel_rfl, by kernel_rfl⟩ (calm_only _) (i := 20) rfl ⟨by kernel_rfl, by kernel_rfl, rfl⟩ rfl rfl rfl rfl (stab_of (Hle.refl _) trivial) rfl ?_
              refine JA.no ⟨by kernel_rfl, by kernel_rfl⟩ (calm_only _) (i := 21) rfl ⟨by kernel_rfl, by kernel_rfl, rfl⟩ rfl rfl rfl rfl (stab_of (Hle.refl _) trivial) rfl ?_
              refine JA.val ⟨by kernel_rfl, by kernel_rfl⟩ (calm_only _) (i := 22) rfl ⟨by kernel_rfl, by kernel_rfl, rfl⟩ ⟨_, _, rfl, rfl, rfl⟩ (stab_of (Hle.refl _) trivial) (R.pickF rfl rfl) rfl ?_
              refine JA.val ⟨by kernel_rfl, by kernel_rfl⟩ (calm_only _) (i := 23) rfl ⟨by kernel_rfl, by kernel_rfl, rfl⟩ trivial (stab_of (Hle.refl _) trivial) (R.pickF rfl rfl) rfl ?_
              refine JA.doneN (by kernel_rfl) ?_
              refine JN.next ?_
              refine JC.condF rfl ?_
              refine JC.skip ?_
              refine JN.blkN ?_
              refine JN.next ?_
              refine JC.region ?_
              refine JL.val rfl rfl (R.move rfl) ?_
              refine JL.val rfl rfl (R.inc rfl rfl (of_decide_eq_true c_10) (IsSlice.lenI ha_2)) ?_
              refine JL.val rfl rfl (R.assign rfl) ?_
              refine JL.nil ?_
              replace hx := run_next hd_10 hx
              exact JN.cut ⟨s_7 + 1, rfl, rfl, rfl, hx⟩ ⟨rfl, rfl, trivial⟩ rfl rfl
        · replace hx := cond_f c_10 hx
          refine JC.exit ?_
          refine JN.passX ?_
          obtain rfl := run_done hd_10 hx
          refine JN.passX ?_
          refine JN.exitSame ?_
          exact JN.cut ⟨(), rfl, rfl, rfl, rfl⟩ trivial rfl rfl

set_option maxHeartbeats 1000000 in
theorem ref16_Has_ok (p_1 : List Ptr) (p_3 : Int) (H : Heaplet) {aoa_2 : Option Addr} {na_2 : Nat} {capa_2 : Nat} (ha_2 : IsSlice H R_Ptr 5 (.slice aoa_2 na_2 capa_2) p_1) (r : Bool) (hx : ref16_Has p_1 p_3 = some r) :
    Does Try.prog 29 #[.slice aoa_2 na_2 capa_2, .int .i64 p_3] [] H (fun u K' H' => u = .bool r ∧ K' = [] ∧ H = H' ∧ True) := by
  refine Does.enterL (vs := [.slice aoa_2 na_2 capa_2, .int .i64 p_3]) (l := [(0, .slice aoa_2 na_2 capa_2), (1, .int .i64 p_3)]) Try.func29 rfl rfl ⟨rfl, rfl, trivial⟩ (fun w hlt => ?_)
  rw [ref16_Has.eq_1] at hx
  refine JC.seq ?_
  refine JC.region ?_
  refine JL.val rfl rfl (R.assign rfl) ?_
  refine JL.nil ?_
  refine JN.next ?_
  refine JC.seq ?_
  refine JC.seq ?_
  refine JC.region ?_
  refine JL.val rfl rfl (R.assign rfl) ?_
  refine JL.nil ?_
  refine JN.next ?_
  obtain ⟨t_4, ht_6, hx⟩ := bnd_some hx
  refine JC.cut (fun l o g => ∃ t_4a : Unit, l = [] ∧ o = [] ∧ H = g ∧ t_4 = .inl t_4a) ?_ ?_
  · rintro _ _ _ ⟨t_4a, rfl, rfl, rfl, rfl⟩
    simp only [Sum.elim_inl] at hx
    refine JN.next ?_
    refine JC.seq ?_
    refine JC.region ?_
    refine JL.val rfl rfl (R.assign rfl) ?_
    refine JL.nil ?_
    refine JN.next ?_
    refine JC.ret ?_
    refine JN.outP (vs := [.bool false]) (K := []) (rst := []) (.inl rfl) rfl rfl (Res.tmp rfl rfl) picks0 ?_
    obtain rfl := Option.some.inj hx
    exact ⟨rfl, rfl, rfl, trivial⟩
  · have hxo_5 := hx; clear hx; have hx := ht_6; clear ht_6
    refine JC.block ?_
    refine JC.loopI (fun n l o g => ∃ s_7 : Nat, l = [(0, .slice aoa_2 na_2 capa_2), (1, .int .i64 p_3), (5, .int .i64 ((s_7 : Nat) : Int))] ∧ o = [] ∧ H = g ∧ run (ref16_Has_l1 p_1 p_3) n s_7 = some t_4) FUEL ?_ ⟨0, rfl, rfl, rfl, hx⟩ ⟨rfl, rfl, rfl, trivial⟩ ?_
    · rintro _ _ _ ⟨s_7, rfl, rfl, rfl, hn_8⟩
      exact run_zero hn_8
    · rintro n_9 _ _ _ ⟨s_7, rfl, rfl, rfl, hn_8⟩
      clear hx; obtain ⟨oo_11, hx, hd_10⟩ := run_some hn_8
      rw [ref16_Has_l1.eq_1] at hx
      refine JC.seq ?_
      refine JC.seq ?_
      refine JC.region ?_
      refine JL.val rfl rfl (R.move rfl) ?_
      refine JL.val rfl rfl (R.move rfl) ?_
      refine JL.val rfl rfl (R.lenL U22 rfl (IsSlice.long ha_2)) ?_
      refine JL.val rfl rfl (R.lss_i rfl rfl) ?_
      refine JL.nil ?_
      refine JN.next ?_
      refine JC.condB rfl (fun c_10 => ?_) (fun c_10 => ?_)
      · replace hx := cond_t c_10 hx
        refine JC.skip ?_
        refine JN.next ?_
        refine JC.seq ?_
        refine JC.block ?_
        refine JC.seq ?_
        refine JC.region ?_
        refine JL.val rfl rfl (R.move rfl) ?_
        refine JL.val rfl rfl (R.move rfl) ?_
        obtain ⟨y_11, hN_12, hx⟩ := idx_some hx
        obtain ⟨b_13, o_14, cs_15, hE_16, hR_17, hl_18, hc_19⟩ := IsSlice.elem ha_2 hN_12
        obtain rfl := hR_17
        refine JL.val rfl rfl (R.ix U22 S32 rfl rfl hE_16) ?_
        refine JL.val rfl rfl (R.fa F32_0 rfl) ?_
        refine JL.val rfl rfl (R.ldH S3 rfl (hc_19 0 _ rfl)) ?_
        refine JL.val rfl rfl (R.move rfl) ?_
        refine JL.val rfl rfl (R.eql_i rfl rfl) ?_
        refine JL.nil ?_
        refine JN.next ?_
        refine JC.condB rfl (fun c_20 => ?_) (fun c_20 => ?_)
        · replace hx := cond_t c_20 hx
          refine JC.seq ?_
          refine JC.region ?_
          refine JL.val rfl rfl (R.assign rfl) ?_
          refine JL.nil ?_
          refine JN.next ?_
          refine JC.ret ?_
          refine JN.blkR ?_
          refine JN.passR ?_
          obtain rfl := run_done hd_10 hx
          refine JN.passR ?_
          refine JN.blkR ?_
          clear hx; have hx := hxo_5
          simp only [Sum.elim_inl, Sum.elim_inr] at hx
          refine JN.passR ?_
          refine JN.passR ?_
          refine JN.outP (vs := [.bool true]) (K := []) (rst := []) (.inl rfl) rfl rfl (Res.tmp rfl rfl) picks0 ?_
          obtain rfl := Option.some.inj hx
          exact ⟨rfl, rfl, rfl, trivial⟩
        · replace hx := cond_f c_20 hx
          refine JC.skip ?_
          refine JN.blkN ?_
          refine JN.next ?_
          refine JC.region ?_
          refine JL.val rfl rfl (R.move rfl) ?_
          refine JL.val rfl rfl (R.inc rfl rfl (of_decide_eq_true c_10) (IsSlice.lenI ha_2)) ?_
          refine JL.val rfl rfl (R.assign rfl) ?_
          refine JL.nil ?_
          replace hx := run_next hd_10 hx
          exact JN.cut ⟨s_7 + 1, rfl, rfl, rfl, hx⟩ ⟨rfl, rfl, rfl, trivial⟩ rfl rfl
      · replace hx := cond_f c_10 hx
        refine JC.exit ?_
        refine JN.passX ?_
        obtain rfl := run_done hd_10 hx
        refine JN.passX ?_
        refine JN.exitSame ?_
        exact JN.cut ⟨(), rfl, rfl, rfl, rfl⟩ trivial rfl rfl

set_option maxHeartbeats 1000000 in
theorem ref16_With_ok (p_1 : List Ptr) (p_3 : Ptr) (H : Heaplet) {aoa_2 : Option Addr} {na_2 : Nat} {capa_2 : Nat} (ha_2 : IsSlice H R_Ptr 5 (.slice aoa_2 na_2 capa_2) p_1) (r : List Ptr) (hx : ref16_With p_1 p_3 = some r) :
    Does Try.prog 30 #[.slice aoa_2 na_2 capa_2, .agg #[.int .i64 p_3.At, .int .u32 (p_3.Birth.toNat : Int), .int .u32 (p_3.Iv.toNat : Int), .int .u32 (p_3.Tag.toNat : Int), .int .u32 (p_3.Sum.toNat : Int)]] [] H (fun u K' H' => ∃ ao0 : Option Addr, ∃ n0 : Nat, ∃ cap0 : Nat, ∃ K0 : Own, u = .slice ao0 n0 cap0 ∧ K' = [K0] ∧ H = H' ∧ RowOf (New H H) R_Ptr 0 32 5 (.slice ao0 n0 cap0) r K0 ∧ (∀ p ∈ K0, p.1 ∉ ids (List.flatten [])) ∧ True) := by
  refine Does.enterL (vs := [.slice aoa_2 na_2 capa_2, .agg #[.int .i64 p_3.At, .int .u32 (p_3.Birth.toNat : Int), .int .u32 (p_3.Iv.toNat : Int), .int .u32 (p_3.Tag.toNat : Int), .int .u32 (p_3.Sum.toNat : Int)]]) (l := [(0, .slice aoa_2 na_2 capa_2), (1, .agg #[.int .i64 p_3.At, .int .u32 (p_3.Birth.toNat : Int), .int .u32 (p_3.Iv.toNat : Int), .int .u32 (p_3.Tag.toNat : Int), .int .u32 (p_3.Sum.toNat : Int)])]) Try.func30 rfl rfl ⟨rfl, rfl, trivial⟩ (fun w hlt => ?_)
  rw [ref16_With.eq_1] at hx
  refine JC.seq ?_
  refine JC.region ?_
  refine JL.box rfl rfl (fun b_4 hb_4 => ?_)
  refine JL.val rfl rfl (R.assign rfl) ?_
  refine JL.nil ?_
  refine JN.next ?_
  refine JC.seq ?_
  refine JC.region ?_
  refine JL.val rfl rfl (R.assign rfl) ?_
  refine JL.nil ?_
  refine JN.next ?_
  refine JC.seq ?_
  refine JC.region ?_
  refine JL.val rfl rfl (R.assign rfl) ?_
  refine JL.nil ?_
  refine JN.next ?_
  refine JC.seq ?_
  refine JC.seq ?_
  refine JC.region ?_
  refine JL.val rfl rfl (R.assign rfl) ?_
  refine JL.nil ?_
  refine JN.next ?_
  obtain ⟨t_5, ht_7, hx⟩ := bnd_some hx
  refine JC.cut (fun l o g => ∃ aor_12 : Option Addr, ∃ nr_12 : Nat, ∃ capr_12 : Nat, ∃ Kr_12 : Own, l = [(3, .pointer (some ⟨b_4, 0, none⟩)), (5, .slice aor_12 nr_12 capr_12), (6, .bool t_5.2)] ∧ o = [[(b_4, .cells #[.int .i64 p_3.At, .int .u32 (p_3.Birth.toNat : Int), .int .u32 (p_3.Iv.toNat : Int), .int .u32 (p_3.Tag.toNat : Int), .int .u32 (p_3.Sum.toNat : Int)] 32 (0, 0))], Kr_12] ∧ H = g ∧ RowOf (New H H) R_Ptr w.heap.size 32 5 (.slice aor_12 nr_12 capr_12) t_5.1 Kr_12) ?_ ?_
  · rintro _ _ _ ⟨aor_12, nr_12, capr_12, Kr_12, rfl, rfl, rfl, hr_12⟩
    refine JN.next ?_
    refine JC.seq ?_
    refine JC.seq ?_
    refine JC.region ?_
    refine JL.val rfl rfl (R.move rfl) ?_
    refine JL.val rfl rfl (R.not rfl) ?_
    refine JL.nil ?_
    refine JN.next ?_
    obtain ⟨t_13, ht_15, hx⟩ := bnd_some hx
    refine JC.cut (fun l o g => ∃ aor_22 : Option Addr, ∃ nr_22 : Nat, ∃ capr_22 : Nat, ∃ Kr_22 : Own, l = [(5, .slice aor_22 nr_22 capr_22)] ∧ o = [Kr_22] ∧ H = g ∧ RowOf (New H H) R_Ptr w.heap.size 32 5 (.slice aor_22 nr_22 capr_22) t_13 Kr_22) ?_ ?_
    · rintro _ _ _ ⟨aor_22, nr_22, capr_22, Kr_22, rfl, rfl, rfl, hr_22⟩
      refine JN.next ?_
      refine JC.seq ?_
      refine JC.region ?_
      refine JL.val rfl rfl (R.move rfl) ?_
      refine JL.val rfl rfl (R.assign rfl) ?_
      refine JL.nil ?_
      refine JN.next ?_
      refine JC.ret ?_
      refine JN.outP (vs := [.slice aor_22 nr_22 capr_22]) (K := [_]) (rst := []) (.inl rfl) rfl rfl (Res.tmp rfl rfl) (picks 0 rfl picks0) ?_
      obtain rfl := Option.some.inj hx
      exact ⟨aor_22, nr_22, capr_22, Kr_22, rfl, rfl, rfl, (RowOf.weak (Nat.zero_le _) hr_22), (new_ids hr_22 hlt), trivial⟩
    · have hxo_14 := hx; clear hx; have hx := ht_15; clear ht_15
      refine JC.condB rfl (fun c_16 => ?_) (fun c_16 => ?_)
      · replace hx := cond_t c_16 hx
        refine JC.region ?_
        refine JL.val rfl rfl (R.move rfl) ?_
        refine JL.val rfl rfl (R.ldoN 0 (vs := [.int .i64 p_3.At, .int .u32 (p_3.Birth.toNat : Int), .int .u32 (p_3.Iv.toNat : Int), .int .u32 (p_3.Tag.toNat : Int), .int .u32 (p_3.Sum.toNat : Int)]) S32 rfl rfl rfl rfl) ?_
        refine JL.bslF (HF := (New H H)) (R := R_Ptr) (ls := [p_3]) (vs := [.agg #[.int .i64 p_3.At, .int .u32 (p_3.Birth.toNat : Int), .int .u32 (p_3.Iv.toNat : Int), .int .u32 (p_3.Tag.toNat : Int), .int .u32 (p_3.Sum.toNat : Int)]]) U22 I32 rfl rfl (⟨_, _, rfl, rfl, rfl, rfl⟩) R_Ptr.one rfl rfl rfl (by simp [maxLen]) rfl (fun vr_17 Kr_17 hr_17 => ?_)
        obtain ⟨aor_17, capr_17, rfl⟩ := RowOf.val hr_17
        obtain ⟨q_18, hm_19, hl_20, hx⟩ := app_some hx
        refine JL.appF (HF := (New H H)) 2 U22 I32 rfl rfl hr_12 rfl (SrcF.row 0 U22 rfl hr_17) hm_19 hl_20 rfl (Nat.le_refl _) rfl (fun vr_21 Kr_21 hr_21 => ?_)
        obtain ⟨aor_21, capr_21, rfl⟩ := RowOf.val hr_21
        refine JL.val rfl rfl (R.assign rfl) ?_
        refine JL.nil ?_
        obtain rfl := Option.some.inj hx
        refine JN.forget 1 ?_
        refine JN.forget 0 ?_
        exact JN.cut ⟨aor_21, q_18.length, capr_21, Kr_21, rfl, rfl, rfl, hr_21⟩ ⟨rfl, trivial⟩ rfl rfl
      · replace hx := cond_f c_16 hx
        refine JC.skip ?_
        obtain rfl := Option.some.inj hx
        refine JN.forget 0 ?_
        exact JN.cut ⟨aor_12, nr_12, capr_12, Kr_12, rfl, rfl, rfl, hr_12⟩ ⟨rfl, trivial⟩ rfl rfl
  · have hxo_6 := hx; clear hx; have hx := ht_7; clear ht_7
    refine JC.block ?_
    refine JC.seg0 ?_
    refine JC.front 1 rfl ?_
    refine JC.loopI (fun n l o g => ∃ s_8 : List Ptr × Bool × Nat, ∃ aor_11 : Option Addr, ∃ nr_11 : Nat, ∃ capr_11 : Nat, ∃ Kr_11 : Own, l = [(0, .slice aoa_2 na_2 capa_2), (3, .pointer (some ⟨b_4, 0, none⟩)), (5, .slice aor_11 nr_11 capr_11), (6, .bool s_8.2.1), (7, .int .i64 ((s_8.2.2 : Nat) : Int))] ∧ o = [[(b_4, .cells #[.int .i64 p_3.At, .int .u32 (p_3.Birth.toNat : Int), .int .u32 (p_3.Iv.toNat : Int), .int .u32 (p_3.Tag.toNat : Int), .int .u32 (p_3.Sum.toNat : Int)] 32 (0, 0))], Kr_11] ∧ H = g ∧ run (ref16_With_l1 p_1 p_3) n s_8 = some t_5 ∧ RowOf (New H H) R_Ptr w.heap.size 32 5 (.slice aor_11 nr_11 capr_11) s_8.1 Kr_11) FUEL ?_ ⟨(([] : List Ptr), false, 0), none, 0, 0, [], rfl, rfl, rfl, hx, (RowOf.nil _ _ _ _ _)⟩ ⟨rfl, rfl, rfl, rfl, rfl, trivial⟩ ?_
    · rintro _ _ _ ⟨s_8, aor_11, nr_11, capr_11, Kr_11, rfl, rfl, rfl, hn_9, hr_11⟩
      exact run_zero hn_9
    · rintro n_10 _ _ _ ⟨s_8, aor_11, nr_11, capr_11, Kr_11, rfl, rfl, rfl, hn_9, hr_11⟩
      clear hx; obtain ⟨oo_13, hx, hd_12⟩ := run_some hn_9
      rw [ref16_With_l1.eq_1] at hx
      refine JC.seq ?_
      refine JC.seq ?_
      refine JC.region ?_
      refine JL.val rfl rfl (R.move rfl) ?_
      refine JL.val rfl rfl (R.move rfl) ?_
      refine JL.val rfl rfl (R.lenL U22 rfl (IsSlice.long ha_2)) ?_
      refine JL.val rfl rfl (R.lss_i rfl rfl) ?_
      refine JL.nil ?_
      refine JN.next ?_
      refine JC.condB rfl (fun c_12 => ?_) (fun c_12 => ?_)
      · replace hx := cond_t c_12 hx
        refine JC.skip ?_
        refine JN.next ?_
        refine JC.seq ?_
        refine JC.block ?_
        refine JC.seq ?_
        obtain ⟨t_13, ht_15, hx⟩ := bnd_some hx
        refine JC.cut (fun l o g => ∃ aor_32 : Option Addr, ∃ nr_32 : Nat, ∃ capr_32 : Nat, ∃ Kr_32 : Own, l = [(0, .slice aoa_2 na_2 capa_2), (3, .pointer (some ⟨b_4, 0, none⟩)), (5, .slice aor_32 nr_32 capr_32), (6, .bool t_13.2), (7, .int .i64 ((s_8.2.2 : Nat) : Int))] ∧ o = [[(b_4, .cells #[.int .i64 p_3.At, .int .u32 (p_3.Birth.toNat : Int), .int .u32 (p_3.Iv.toNat : Int), .int .u32 (p_3.Tag.toNat : Int), .int .u32 (p_3.Sum.toNat : Int)] 32 (0, 0))], Kr_32] ∧ H = g ∧ RowOf (New H H) R_Ptr w.heap.size 32 5 (.slice aor_32 nr_32 capr_32) t_13.1 Kr_32) ?_ ?_
        · rintro _ _ _ ⟨aor_32, nr_32, capr_32, Kr_32, rfl, rfl, rfl, hr_32⟩
          refine JN.next ?_
          refine JC.region ?_
          refine JL.val rfl rfl (R.move rfl) ?_
          refine JL.val rfl rfl (R.move rfl) ?_
          refine JL.val rfl rfl (R.move rfl) ?_
          obtain ⟨y_33, hN_34, hx⟩ := idx_some hx
          obtain ⟨b_35, o_36, cs_37, hE_38, hR_39, hl_40, hc_41⟩ := IsSlice.elem ha_2 hN_34
          obtain rfl := hR_39
          refine JL.val rfl rfl (R.ix U22 S32 rfl rfl hE_38) ?_
          refine JL.val rfl rfl (R.ldHE (cs := [.int .i64 y_33.At, .int .u32 (y_33.Birth.toNat : Int), .int .u32 (y_33.Iv.toNat : Int), .int .u32 (y_33.Tag.toNat : Int), .int .u32 (y_33.Sum.toNat : Int)]) (k := 0) (vs := [.int .i64 y_33.At, .int .u32 (y_33.Birth.toNat : Int), .int .u32 (y_33.Iv.toNat : Int), .int .u32 (y_33.Tag.toNat : Int), .int .u32 (y_33.Sum.toNat : Int)]) S32 rfl hc_41 rfl rfl) ?_
          refine JL.bslF (HF := (New H H)) (R := R_Ptr) (ls := [y_33]) (vs := [.agg #[.int .i64 y_33.At, .int .u32 (y_33.Birth.toNat : Int), .int .u32 (y_33.Iv.toNat : Int), .int .u32 (y_33.Tag.toNat : Int), .int .u32 (y_33.Sum.toNat : Int)]]) U22 I32 rfl rfl (⟨_, _, rfl, rfl, rfl, rfl⟩) R_Ptr.one rfl rfl rfl (by simp [maxLen]) rfl (fun vr_42 Kr_42 hr_42 => ?_)
          obtain ⟨aor_42, capr_42, rfl⟩ := RowOf.val hr_42
          obtain ⟨q_43, hm_44, hl_45, hx⟩ := app_some hx
          refine JL.appF (HF := (New H H)) 2 U22 I32 rfl rfl hr_32 rfl (SrcF.row 0 U22 rfl hr_42) hm_44 hl_45 rfl (Nat.le_refl _) rfl (fun vr_46 Kr_46 hr_46 => ?_)
          obtain ⟨aor_46, capr_46, rfl⟩ := RowOf.val hr_46
          refine JL.val rfl rfl (R.assign rfl) ?_
          refine JL.nil ?_
          refine JN.blkN ?_
          refine JN.next ?_
          refine JC.region ?_
          refine JL.val rfl rfl (R.move rfl) ?_
          refine JL.val rfl rfl (R.inc rfl rfl (of_decide_eq_true c_12) (IsSlice.lenI ha_2)) ?_
          refine JL.val rfl rfl (R.assign rfl) ?_
          refine JL.nil ?_
          replace hx := run_next hd_12 hx
          refine JN.forget 0 ?_
          refine JN.front 1 rfl ?_
          refine JN.front 1 rfl ?_
          exact JN.cut ⟨(q_43, t_13.2, s_8.2.2 + 1), aor_46, q_43.length, capr_46, Kr_46, rfl, rfl, rfl, hx, hr_46⟩ ⟨rfl, rfl, rfl, rfl, rfl, trivial⟩ rfl rfl
        · have hxo_14 := hx; clear hx; have hx := ht_15; clear ht_15
          refine JC.seq ?_
          refine JC.draw (so := [_, _]) 12 rfl Mixed ⟨⟨0, rfl⟩, ⟨1, rfl⟩, trivial⟩ ?_
          refine JA.val ⟨by kernel_rfl, by kernel_rfl⟩ (calm_only _) (i := 0) rfl ⟨by kernel_rfl, by kernel_rfl, rfl⟩ trivial (stab_of (Hle.refl _) ⟨⟨0, rfl⟩, ⟨1, rfl⟩, trivial⟩) (R.move rfl) rfl ?_
          refine JA.val ⟨by kernel_rfl, by kernel_rfl⟩ (calm_only _) (i := 1) rfl ⟨by kernel_rfl, by kernel_rfl, rfl⟩ trivial (stab_of (Hle.refl _) ⟨⟨0, rfl⟩, ⟨1, rfl⟩, trivial⟩) (R.not rfl) rfl ?_
          refine JA.val ⟨by kernel_rfl, by kernel_rfl⟩ (calm_only _) (i := 2) rfl ⟨by kernel_rfl, by kernel_rfl, rfl⟩ trivial (stab_of (Hle.refl _) ⟨⟨0, rfl⟩, ⟨1, rfl⟩, trivial⟩) (R.move rfl) rfl ?_
          refine JA.gSplit (t := 16) rfl (fun c_16 => ?_) (fun c_16 => ?_)
          · replace hx := cond_t c_16 hx
            refine JA.val ⟨by kernel_rfl, by kernel_rfl⟩ (calm_only _) (i := 3) rfl ⟨by kernel_rfl, by kernel_rfl, rfl⟩ ⟨_, _, rfl, rfl, rfl⟩ (stab_of (Hle.refl _) ⟨⟨0, rfl⟩, ⟨1, rfl⟩, trivial⟩) (R.move rfl) rfl ?_
            refine JA.val ⟨by kernel_rfl, by kernel_rfl⟩ (calm_only _) (i := 4) rfl ⟨by kernel_rfl, by kernel_rfl, rfl⟩ ⟨_, _, rfl, rfl, rfl⟩ (stab_of (Hle.refl _) ⟨⟨0, rfl⟩, ⟨1, rfl⟩, trivial⟩) (R.move rfl) rfl ?_
            obtain ⟨y_17, hN_18, hx⟩ := idx_some hx
            obtain ⟨b_19, o_20, cs_21, hE_22, hR_23, hl_24, hc_25⟩ := IsSlice.elem ha_2 hN_18
            obtain rfl := hR_23
            refine JA.val ⟨by kernel_rfl, by kernel_rfl⟩ (calm_only _) (i := 5) rfl ⟨by kernel_rfl, by kernel_rfl, rfl⟩ ⟨_, _, rfl, rfl, rfl⟩ (stab_of (Hle.refl _) ⟨⟨0, rfl⟩, ⟨1, rfl⟩, trivial⟩) (R.ix U22 S32 rfl rfl hE_22) rfl ?_
            refine JA.val ⟨by kernel_rfl, by kernel_rfl⟩ (calm_only _) (i := 6) rfl ⟨by kernel_rfl, by kernel_rfl, rfl⟩ ⟨_, _, rfl, rfl, rfl⟩ (stab_of (Hle.refl _) ⟨⟨0, rfl⟩, ⟨1, rfl⟩, trivial⟩) (R.fa F32_0 rfl) rfl ?_
            refine JA.val ⟨by kernel_rfl, by kernel_rfl⟩ (calm_only _) (i := 7) rfl ⟨by kernel_rfl, by kernel_rfl, rfl⟩ ⟨_, _, rfl, rfl, rfl⟩ (stab_of (Hle.refl _) ⟨⟨0, rfl⟩, ⟨1, rfl⟩, trivial⟩) (R.ldH S3 rfl (hc_25 0 _ rfl)) rfl ?_
            refine JA.val ⟨by kernel_rfl, by kernel_rfl⟩ (calm_only _) (i := 8) rfl ⟨by kernel_rfl, by kernel_rfl, rfl⟩ ⟨_, _, rfl, rfl, rfl⟩ (stab_of (Hle.refl _) ⟨⟨0, rfl⟩, ⟨1, rfl⟩, trivial⟩) (R.fa F32_0 rfl) rfl ?_
            refine JA.val ⟨by kernel_rfl, by kernel_rfl⟩ (calm_only _) (i := 9) rfl ⟨by kernel_rfl, by kernel_rfl, rfl⟩ ⟨_, _, rfl, rfl, rfl⟩ (stab_of (Hle.refl _) ⟨⟨0, rfl⟩, ⟨1, rfl⟩, trivial⟩) (R.ldo 0 S3 rfl rfl rfl) rfl ?_
            refine JA.val ⟨by kernel_rfl, by kernel_rfl⟩ (calm_only _) (i := 10) rfl ⟨by kernel_rfl, by kernel_rfl, rfl⟩ ⟨_, _, rfl, rfl, rfl⟩ (stab_of (Hle.refl _) ⟨⟨0, rfl⟩, ⟨1, rfl⟩, trivial⟩) (R.gtr_i rfl rfl) rfl ?_
            refine JA.val ⟨by kernel_rfl, by kernel_rfl⟩ (calm_only _) (i := 11) rfl ⟨by kernel_rfl, by kernel_rfl, rfl⟩ trivial (stab_of (Hle.refl _) ⟨⟨0, rfl⟩, ⟨1, rfl⟩, trivial⟩) (R.pickT rfl rfl) rfl ?_
            refine JA.doneN (by kernel_rfl) ?_
            refine JN.next ?_
            refine JC.condB rfl (fun c_26 => ?_) (fun c_26 => ?_)
            · replace hx := cond_t c_26 hx
              refine JC.seq ?_
              refine JC.region ?_
              refine JL.val rfl rfl (R.move rfl) ?_
              refine JL.val rfl rfl (R.ldoN 0 (vs := [.int .i64 p_3.At, .int .u32 (p_3.Birth.toNat : Int), .int .u32 (p_3.Iv.toNat : Int), .int .u32 (p_3.Tag.toNat : Int), .int .u32 (p_3.Sum.toNat : Int)]) S32 rfl rfl rfl rfl) ?_
              refine JL.bslF (HF := (New H H)) (R := R_Ptr) (ls := [p_3]) (vs := [.agg #[.int .i64 p_3.At, .int .u32 (p_3.Birth.toNat : Int), .int .u32 (p_3.Iv.toNat : Int), .int .u32 (p_3.Tag.toNat : Int), .int .u32 (p_3.Sum.toNat : Int)]]) U22 I32 rfl rfl (⟨_, _, rfl, rfl, rfl, rfl⟩) R_Ptr.one rfl rfl rfl (by simp [maxLen]) rfl (fun vr_27 Kr_27 hr_27 => ?_)
              obtain ⟨aor_27, capr_27, rfl⟩ := RowOf.val hr_27
              obtain ⟨q_28, hm_29, hl_30, hx⟩ := app_some hx
              refine JL.appF (HF := (New H H)) 2 U22 I32 rfl rfl hr_11 rfl (SrcF.row 0 U22 rfl hr_27) hm_29 hl_30 rfl (Nat.le_refl _) rfl (fun vr_31 Kr_31 hr_31 => ?_)
              obtain ⟨aor_31, capr_31, rfl⟩ := RowOf.val hr_31
              refine JL.val rfl rfl (R.assign rfl) ?_
              refine JL.nil ?_
              refine JN.next ?_
              refine JC.region ?_
              refine JL.val rfl rfl (R.assign rfl) ?_
              refine JL.nil ?_
              obtain rfl := Option.some.inj hx
              refine JN.forget 0 ?_
              refine JN.front 1 rfl ?_
              refine JN.front 1 rfl ?_
              exact JN.cut ⟨aor_31, q_28.length, capr_31, Kr_31, rfl, rfl, rfl, hr_31⟩ ⟨rfl, rfl, rfl, rfl, rfl, trivial⟩ rfl rfl
            · replace hx := cond_f c_26 hx
              refine JC.skip ?_
              obtain rfl := Option.some.inj hx
              refine JN.front 1 rfl ?_
              refine JN.front 1 rfl ?_
              exact JN.cut ⟨aor_11, nr_11, capr_11, Kr_11, rfl, rfl, rfl, hr_11⟩ ⟨rfl, rfl, rfl, rfl, rfl, trivial⟩ rfl rfl
          · replace hx := cond_f c_16 hx
            refine JA.no ⟨by kernel_rfl, by kernel_rfl⟩ (calm_only _) (i := 3) rfl ⟨by kernel_rfl, by kernel_rfl, rfl⟩ rfl rfl rfl rfl (stab_of (Hle.refl _) ⟨⟨0, rfl⟩, ⟨1, rfl⟩, trivial⟩) rfl ?_
            refine JA.no ⟨by kernel_rfl, by kernel_rfl⟩ (calm_only _) (i := 4) rfl ⟨by kernel_rfl, by kernel_rfl, rfl⟩ rfl rfl rfl rfl (stab_of (Hle.refl _) ⟨⟨0, rfl⟩, ⟨1, rfl⟩, trivial⟩) rfl ?_
            refine JA.no ⟨by kernel_rfl, by kernel_rfl⟩ (calm_only _) (i := 5) rfl ⟨by kernel_rfl, by kernel_rfl, rfl⟩ rfl rfl rfl rfl (stab_of (Hle.refl _) ⟨⟨0, rfl⟩, ⟨1, rfl⟩, trivial⟩) rfl ?_
            refine JA.no ⟨by kernel_rfl, by kernel_rfl⟩ (calm_only _) (i := 6) rfl ⟨by kernel_rfl, by kernel_rfl, rfl⟩ rfl rfl rfl rfl (stab_of (Hle.refl _) ⟨⟨0, rfl⟩, ⟨1, rfl⟩, trivial⟩) rfl ?_
            refine JA.no ⟨by kernel_rfl, by kernel_rfl⟩ (calm_only _) (i := 7) rfl ⟨by kernel_rfl, by kernel_rfl, rfl⟩ rfl rfl rfl rfl (stab_of (Hle.refl _) ⟨⟨0, rfl⟩, ⟨1, rfl⟩, trivial⟩) rfl ?_
            refine JA.no ⟨by kernel_rfl, by kernel_rfl⟩ (calm_only _) (i := 8) rfl ⟨by kernel_rfl, by kernel_rfl, rfl⟩ rfl rfl rfl rfl (stab_of (Hle.refl _) ⟨⟨0, rfl⟩, ⟨1, rfl⟩, trivial⟩) rfl ?_
            refine JA.no ⟨by kernel_rfl, by kernel_rfl⟩ (calm_only _) (i := 9) rfl ⟨by kernel_rfl, by kernel_rfl, rfl⟩ rfl rfl rfl rfl (stab_of (Hle.refl _) ⟨⟨0, rfl⟩, ⟨1, rfl⟩, trivial⟩) rfl ?_
            refine JA.no ⟨by kernel_rfl, by kernel_rfl⟩ (calm_only _) (i := 10) rfl ⟨by kernel_rfl, by kernel_rfl, rfl⟩ rfl rfl rfl rfl (stab_of (Hle.refl _) ⟨⟨0, rfl⟩, ⟨1, rfl⟩, trivial⟩) rfl ?_
            refine JA.val ⟨by kernel_rfl, by kernel_rfl⟩ (calm_only _) (i := 11) rfl ⟨by kernel_rfl, by kernel_rfl, rfl⟩ trivial (stab_of (Hle.refl _) ⟨⟨0, rfl⟩, ⟨1, rfl⟩, trivial⟩) (R.pickF rfl rfl) rfl ?_
            refine JA.doneN (by kernel_rfl) ?_
            refine JN.next ?_
            refine JC.condF rfl ?_
            refine JC.skip ?_
            obtain rfl := Option.some.inj hx
            refine JN.front 1 rfl ?_
            refine JN.front 1 rfl ?_
            exact JN.cut ⟨aor_11, nr_11, capr_11, Kr_11, rfl, rfl, rfl, hr_11⟩ ⟨rfl, rfl, rfl, rfl, rfl, trivial⟩ rfl rfl
      · replace hx := cond_f c_12 hx
        refine JC.exit ?_
        refine JN.passX ?_
        obtain rfl := run_done hd_12 hx
        refine JN.passX ?_
        refine JN.exitSame ?_
        refine JN.front 1 rfl ?_
        refine JN.front 1 rfl ?_
        exact JN.cut ⟨aor_11, nr_11, capr_11, Kr_11, rfl, rfl, rfl, hr_11⟩ ⟨rfl, rfl, rfl, trivial⟩ rfl rfl

set_option maxHeartbeats 1000000 in
theorem ref16_Add_ok (p_1 : List Ptr) (p_3 : Ptr) (H : Heaplet) {aoa_2 : Option Addr} {na_2 : Nat} {capa_2 : Nat} (ha_2 : IsSlice H R_Ptr 5 (.slice aoa_2 na_2 capa_2) p_1) (r : List Ptr × Int) (hx : ref16_Add p_1 p_3 = some r) :
    Does Try.prog 12 #[.slice aoa_2 na_2 capa_2, .agg #[.int .i64 p_3.At, .int .u32 (p_3.Birth.toNat : Int), .int .u32 (p_3.Iv.toNat : Int), .int .u32 (p_3.Tag.toNat : Int), .int .u32 (p_3.Sum.toNat : Int)]] [] H (fun u K' H' => ∃ ao0 : Option Addr, ∃ n0 : Nat, ∃ cap0 : Nat, ∃ K0 : Own, u = .tuple #[.slice ao0 n0 cap0, .int .i64 r.2] ∧ K' = [K0] ∧ H = H' ∧ RowOf (New H H) R_Ptr 0 32 5 (.slice ao0 n0 cap0) r.1 K0 ∧ (∀ p ∈ K0, p.1 ∉ ids (List.flatten [])) ∧ True) := by
  refine Does.enterL (vs := [.slice aoa_2 na_2 capa_2, .agg #[.int .i64 p_3.At, .int .u32 (p_3.Birth.toNat : Int), .int .u32 (p_3.Iv.toNat : Int), .int .u32 (p_3.Tag.toNat : Int), .int .u32 (p_3.Sum.toNat : Int)]]) (l := [(0, .slice aoa_2 na_2 capa_2), (1, .agg #[.int .i64 p_3.At, .int .u32 (p_3.Birth.toNat : Int), .int .u32 (p_3.Iv.toNat : Int), .int .u32 (p_3.Tag.toNat : Int), .int .u32 (p_3.Sum.toNat : Int)])]) Try.func12 rfl rfl ⟨rfl, rfl, trivial⟩ (fun w hlt => ?_)
  rw [ref16_Add.eq_1] at hx
  refine JC.seq ?_
  refine JC.region ?_
  refine JL.box rfl rfl (fun b_4 hb_4 => ?_)
  refine JL.val rfl rfl (R.assign rfl) ?_
  refine JL.val rfl rfl (R.assign rfl) ?_
  refine JL.nil ?_
  refine JN.next ?_
  refine JC.seq ?_
  refine JC.seq ?_
  refine JC.region ?_
  refine JL.val rfl rfl (R.move rfl) ?_
  obtain ⟨x_5, hr_6, hx⟩ := bnd_some hx
  refine JL.callC (vs := [_]) (args := [_]) (K := []) (rst := [_]) E27 rfl rfl rfl picks0 (ref16_May_ok p_1 _ ha_2 _ hr_6) rfl (fun u_7 Ku_7 Hu_7 hRu_7 hleu_7 hfu_7 => ?_)
  obtain ⟨rfl, rfl, rfl, -⟩ := hRu_7
  refine JL.val rfl rfl (R.not rfl) ?_
  refine JL.val rfl rfl (R.move rfl) ?_
  refine JL.gSplit (t := 9) rfl (fun c_8 => ?_) (fun c_8 => ?_)
  · replace hx := cond_t c_8 hx
    refine JL.gNo rfl rfl rfl rfl rfl ?_
    refine JL.gNo rfl rfl rfl rfl rfl ?_
    refine JL.gNo rfl rfl rfl rfl rfl ?_
    refine JL.val rfl rfl (R.pickT rfl rfl) ?_
    refine JL.nil ?_
    refine JN.next ?_
    refine JC.condT rfl ?_
    refine JC.seq ?_
    refine JC.region ?_
    refine JL.val rfl rfl (R.assign rfl) ?_
    refine JL.val rfl rfl (R.assign rfl) ?_
    refine JL.nil ?_
    refine JN.next ?_
    refine JC.ret ?_
    refine JN.passR ?_
    refine JN.seg0 ?_
    refine JN.outP (vs := [.slice none 0 0, .int .i64 8]) (K := [_]) (rst := [_]) (.inl rfl) rfl rfl (Res.tmp rfl (Res.tmp rfl rfl)) (picks 0 rfl picks0) ?_
    obtain rfl := Option.some.inj hx
    exact ⟨none, 0, 0, [], rfl, rfl, rfl, (RowOf.nil _ _ _ _ _), (fun p hp => by cases hp), trivial⟩
  · replace hx := cond_f c_8 hx
    refine JL.gYes rfl rfl rfl ?_
    refine JL.val rfl rfl (R.ldoN 0 (vs := [.int .i64 p_3.At, .int .u32 (p_3.Birth.toNat : Int), .int .u32 (p_3.Iv.toNat : Int), .int .u32 (p_3.Tag.toNat : Int), .int .u32 (p_3.Sum.toNat : Int)]) S32 rfl rfl rfl rfl) ?_
    refine JL.gYes rfl rfl rfl ?_
    obtain ⟨x_9, hr_10, hx⟩ := bnd_some hx
    refine JL.callC (vs := [_]) (args := [_]) (K := []) (rst := [_]) E28 rfl rfl rfl picks0 (ref16_one_ok p_3 _ _ hr_10) rfl (fun u_11 Ku_11 Hu_11 hRu_11 hleu_11 hfu_11 => ?_)
    obtain ⟨rfl, rfl, rfl, -⟩ := hRu_11
    refine JL.gYes rfl rfl rfl ?_
    refine JL.val rfl rfl (R.not rfl) ?_
    refine JL.val rfl rfl (R.pickF rfl rfl) ?_
    refine JL.nil ?_
    refine JN.next ?_
    refine JC.condB rfl (fun c_12 => ?_) (fun c_12 => ?_)
    · replace hx := cond_t c_12 hx
      refine JC.seq ?_
      refine JC.region ?_
      refine JL.val rfl rfl (R.assign rfl) ?_
      refine JL.val rfl rfl (R.assign rfl) ?_
      refine JL.nil ?_
      refine JN.next ?_
      refine JC.ret ?_
      refine JN.passR ?_
      refine JN.seg0 ?_
      refine JN.outP (vs := [.slice none 0 0, .int .i64 8]) (K := [_]) (rst := [_]) (.inl rfl) rfl rfl (Res.tmp rfl (Res.tmp rfl rfl)) (picks 0 rfl picks0) ?_
      obtain rfl := Option.some.inj hx
      exact ⟨none, 0, 0, [], rfl, rfl, rfl, (RowOf.nil _ _ _ _ _), (fun p hp => by cases hp), trivial⟩
    · replace hx := cond_f c_12 hx
      refine JC.skip ?_
      refine JN.next ?_
      refine JC.seq ?_
      refine JC.seq ?_
      refine JC.region ?_
      refine JL.val rfl rfl (R.move rfl) ?_
      refine JL.val rfl rfl (R.fa F32_0 rfl) ?_
      refine JL.val rfl rfl (R.ldo 0 S3 rfl rfl rfl) ?_
      obtain ⟨x_13, hr_14, hx⟩ := bnd_some hx
      refine JL.callC (vs := [_, _]) (args := [_, _]) (K := []) (rst := [_]) E29 rfl rfl rfl picks0 (ref16_Has_ok p_1 p_3.At _ ha_2 _ hr_14) rfl (fun u_15 Ku_15 Hu_15 hRu_15 hleu_15 hfu_15 => ?_)
      obtain ⟨rfl, rfl, rfl, -⟩ := hRu_15
      refine JL.nil ?_
      refine JN.next ?_
      refine JC.condB rfl (fun c_16 => ?_) (fun c_16 => ?_)
      · replace hx := cond_t c_16 hx
        refine JC.seq ?_
        refine JC.region ?_
        refine JL.val rfl rfl (R.assign rfl) ?_
        refine JL.val rfl rfl (R.assign rfl) ?_
        refine JL.nil ?_
        refine JN.next ?_
        refine JC.ret ?_
        refine JN.passR ?_
        refine JN.seg0 ?_
        refine JN.outP (vs := [.slice none 0 0, .int .i64 2]) (K := [_]) (rst := [_]) (.inl rfl) rfl rfl (Res.tmp rfl (Res.tmp rfl rfl)) (picks 0 rfl picks0) ?_
        obtain rfl := Option.some.inj hx
        exact ⟨none, 0, 0, [], rfl, rfl, rfl, (RowOf.nil _ _ _ _ _), (fun p hp => by cases hp), trivial⟩
      · replace hx := cond_f c_16 hx
        refine JC.skip ?_
        refine JN.next ?_
        refine JC.seq ?_
        refine JC.seq ?_
        refine JC.region ?_
        refine JL.val rfl rfl (R.move rfl) ?_
        refine JL.val rfl rfl (R.lenL U22 rfl (IsSlice.long ha_2)) ?_
        refine JL.val rfl rfl (R.geq_i rfl rfl) ?_
        refine JL.nil ?_
        refine JN.next ?_
        refine JC.condB rfl (fun c_17 => ?_) (fun c_17 => ?_)
        · replace hx := cond_t c_17 hx
          refine JC.seq ?_
          refine JC.region ?_
          refine JL.val rfl rfl (R.assign rfl) ?_
          refine JL.val rfl rfl (R.assign rfl) ?_
          refine JL.nil ?_
          refine JN.next ?_
          refine JC.ret ?_
          refine JN.passR ?_
          refine JN.seg0 ?_
          refine JN.outP (vs := [.slice none 0 0, .int .i64 9]) (K := [_]) (rst := [_]) (.inl rfl) rfl rfl (Res.tmp rfl (Res.tmp rfl rfl)) (picks 0 rfl picks0) ?_
          obtain rfl := Option.some.inj hx
          exact ⟨none, 0, 0, [], rfl, rfl, rfl, (RowOf.nil _ _ _ _ _), (fun p hp => by cases hp), trivial⟩
        · replace hx := cond_f c_17 hx
          refine JC.skip ?_
          refine JN.next ?_
          refine JC.seq ?_
          refine JC.region ?_
          refine JL.val rfl rfl (R.move rfl) ?_
          refine JL.val rfl rfl (R.ldoN 0 (vs := [.int .i64 p_3.At, .int .u32 (p_3.Birth.toNat : Int), .int .u32 (p_3.Iv.toNat : Int), .int .u32 (p_3.Tag.toNat : Int), .int .u32 (p_3.Sum.toNat : Int)]) S32 rfl rfl rfl rfl) ?_
          obtain ⟨x_18, hr_19, hx⟩ := bnd_some hx
          refine JL.callC (vs := [_, _]) (args := [_, _]) (K := []) (rst := [_]) E30 rfl rfl rfl picks0 (ref16_With_ok p_1 p_3 _ ha_2 _ hr_19) rfl (fun u_20 Ku_20 Hu_20 hRu_20 hleu_20 hfu_20 => ?_)
          obtain ⟨aor_21, nr_21, capr_21, Kr_21, rfl, rfl, rfl, hr_21, hnewr_21, -⟩ := hRu_20
          replace hr_21 := (RowOf.base (RowOf.const (H2 := New H H) R_Ptr.const hr_21) (fun p hp => (hfu_20 p (mem_seg 0 rfl hp)).resolve_left (hnewr_21 p hp)))
          refine JL.val rfl rfl (R.assign rfl) ?_
          refine JL.val rfl rfl (R.assign rfl) ?_
          refine JL.nil ?_
          refine JN.next ?_
          refine JC.ret ?_
          refine JN.outP (vs := [.slice aor_21 nr_21 capr_21, .int .i64 0]) (K := [_]) (rst := [_]) (.inl rfl) rfl rfl (Res.tmp rfl (Res.tmp rfl rfl)) (picks 0 rfl picks0) ?_
          obtain rfl := Option.some.inj hx
          exact ⟨aor_21, nr_21, capr_21, Kr_21, rfl, rfl, rfl, (RowOf.weak (Nat.zero_le _) hr_21), (new_ids hr_21 hlt), trivial⟩

set_option maxHeartbeats 1000000 in
theorem ref16_Parts_ok (p_1 : List Ptr) (p_3 : UInt32) (H : Heaplet) {aoa_2 : Option Addr} {na_2 : Nat} {capa_2 : Nat} (ha_2 : IsSlice H R_Ptr 5 (.slice aoa_2 na_2 capa_2) p_1) (r : List Ptr × List Ptr) (hx : ref16_Parts p_1 p_3 = some r) :
    Does Try.prog 31 #[.slice aoa_2 na_2 capa_2, .int .u32 (p_3.toNat : Int)] [] H (fun u K' H' => ∃ ao0 : Option Addr, ∃ n0 : Nat, ∃ cap0 : Nat, ∃ K0 : Own, ∃ ao1 : Option Addr, ∃ n1 : Nat, ∃ cap1 : Nat, ∃ K1 : Own, u = .tuple #[.slice ao0 n0 cap0, .slice ao1 n1 cap1] ∧ K' = [K0, K1] ∧ H = H' ∧ RowOf (New H H) R_Ptr 0 32 5 (.slice ao0 n0 cap0) r.1 K0 ∧ (∀ p ∈ K0, p.1 ∉ ids (List.flatten [])) ∧ RowOf (New H H) R_Ptr 0 32 5 (.slice ao1 n1 cap1) r.2 K1 ∧ (∀ p ∈ K1, p.1 ∉ ids (List.flatten [])) ∧ True) := by
  refine Does.enterL (vs := [.slice aoa_2 na_2 capa_2, .int .u32 (p_3.toNat : Int)]) (l := [(0, .slice aoa_2 na_2 capa_2), (1, .int .u32 (p_3.toNat : Int))]) Try.func31 rfl rfl ⟨rfl, rfl, trivial⟩ (fun w hlt => ?_)
  rw [ref16_Parts.eq_1] at hx
  refine JC.seq ?_
  refine JC.region ?_
  refine JL.val rfl rfl (R.assign rfl) ?_
  refine JL.val rfl rfl (R.assign rfl) ?_
  refine JL.nil ?_
  refine JN.next ?_
  refine JC.seq ?_
  refine JC.region ?_
  refine JL.val rfl rfl (R.assign rfl) ?_
  refine JL.val rfl rfl (R.assign rfl) ?_
  refine JL.nil ?_
  refine JN.next ?_
  refine JC.seq ?_
  refine JC.seq ?_
  refine JC.region ?_
  refine JL.val rfl rfl (R.assign rfl) ?_
  refine JL.nil ?_
  refine JN.next ?_
  obtain ⟨t_4, ht_6, hx⟩ := bnd_some hx
  refine JC.cut (fun l o g => ∃ aor_12 : Option Addr, ∃ nr_12 : Nat, ∃ capr_12 : Nat, ∃ Kr_12 : Own, ∃ aor_13 : Option Addr, ∃ nr_13 : Nat, ∃ capr_13 : Nat, ∃ Kr_13 : Own, l = [(6, .slice aor_12 nr_12 capr_12), (7, .slice aor_13 nr_13 capr_13)] ∧ o = [Kr_12, Kr_13] ∧ H = g ∧ RowOf (New H H) R_Ptr w.heap.size 32 5 (.slice aor_12 nr_12 capr_12) t_4.1 Kr_12 ∧ RowOf (New H H) R_Ptr w.heap.size 32 5 (.slice aor_13 nr_13 capr_13) t_4.2 Kr_13) ?_ ?_
  · rintro _ _ _ ⟨aor_12, nr_12, capr_12, Kr_12, aor_13, nr_13, capr_13, Kr_13, rfl, rfl, rfl, hr_12, hr_13⟩
    refine JN.next ?_
    refine JC.seq ?_
    refine JC.region ?_
    refine JL.val rfl rfl (R.move rfl) ?_
    refine JL.val rfl rfl (R.move rfl) ?_
    refine JL.val rfl rfl (R.assign rfl) ?_
    refine JL.val rfl rfl (R.assign rfl) ?_
    refine JL.nil ?_
    refine JN.next ?_
    refine JC.ret ?_
    refine JN.outP (vs := [.slice aor_12 nr_12 capr_12, .slice aor_13 nr_13 capr_13]) (K := [_, _]) (rst := []) (.inl rfl) rfl rfl (Res.tmp rfl (Res.tmp rfl rfl)) (picks 0 rfl (picks 0 rfl picks0)) ?_
    obtain rfl := Option.some.inj hx
    exact ⟨aor_12, nr_12, capr_12, Kr_12, aor_13, nr_13, capr_13, Kr_13, rfl, rfl, rfl, (RowOf.weak (Nat.zero_le _) hr_12), (new_ids hr_12 hlt), (RowOf.weak (Nat.zero_le _) hr_13), (new_ids hr_13 hlt), trivial⟩
  · have hxo_5 := hx; clear hx; have hx := ht_6; clear ht_6
    refine JC.block ?_
    refine JC.seg0 ?_
    refine JC.seg0 ?_
    refine JC.front 1 rfl ?_
    refine JC.loopI (fun n l o g => ∃ s_7 : List Ptr × List Ptr × Nat, ∃ aor_10 : Option Addr, ∃ nr_10 : Nat, ∃ capr_10 : Nat, ∃ Kr_10 : Own, ∃ aor_11 : Option Addr, ∃ nr_11 : Nat, ∃ capr_11 : Nat, ∃ Kr_11 : Own, l = [(0, .slice aoa_2 na_2 capa_2), (1, .int .u32 (p_3.toNat : Int)), (6, .slice aor_10 nr_10 capr_10), (7, .slice aor_11 nr_11 capr_11), (8, .int .i64 ((s_7.2.2 : Nat) : Int))] ∧ o = [Kr_10, Kr_11] ∧ H = g ∧ run (ref16_Parts_l1 p_1 p_3) n s_7 = some t_4 ∧ RowOf (New H H) R_Ptr w.heap.size 32 5 (.slice aor_10 nr_10 capr_10) s_7.1 Kr_10 ∧ RowOf (New H H) R_Ptr w.heap.size 32 5 (.slice aor_11 nr_11 capr_11) s_7.2.1 Kr_11) FUEL ?_ ⟨(([] : List Ptr), ([] : List Ptr), 0), none, 0, 0, [], none, 0, 0, [], rfl, rfl, rfl, hx, (RowOf.nil _ _ _ _ _), (RowOf.nil _ _ _ _ _)⟩ ⟨rfl, rfl, rfl, rfl, rfl, trivial⟩ ?_
    · rintro _ _ _ ⟨s_7, aor_10, nr_10, capr_10, Kr_10, aor_11, nr_11, capr_11, Kr_11, rfl, rfl, rfl, hn_8, hr_10, hr_11⟩
      exact run_zero hn_8
    · rintro n_9 _ _ _ ⟨s_7, aor_10, nr_10, capr_10, Kr_10, aor_11, nr_11, capr_11, Kr_11, rfl, rfl, rfl, hn_8, hr_10, hr_11⟩
      clear hx; obtain ⟨oo_13, hx, hd_12⟩ := run_some hn_8
      rw [ref16_Parts_l1.eq_1] at hx
      refine JC.seq ?_
      refine JC.seq ?_
      refine JC.region ?_
      refine JL.val rfl rfl (R.move rfl) ?_
      refine JL.val rfl rfl (R.move rfl) ?_
      refine JL.val rfl rfl (R.lenL U22 rfl (IsSlice.long ha_2)) ?_
      refine JL.val rfl rfl (R.lss_i rfl rfl) ?_
      refine JL.nil ?_
      refine JN.next ?_
      refine JC.condB rfl (fun c_12 => ?_) (fun c_12 => ?_)
      · replace hx := cond_t c_12 hx
        refine JC.skip ?_
        refine JN.next ?_
        refine JC.seq ?_
        refine JC.block ?_
        refine JC.seq ?_
        refine JC.region ?_
        refine JL.val rfl rfl (R.move rfl) ?_
        refine JL.val rfl rfl (R.move rfl) ?_
        obtain ⟨y_13, hN_14, hx⟩ := idx_some hx
        obtain ⟨b_15, o_16, cs_17, hE_18, hR_19, hl_20, hc_21⟩ := IsSlice.elem ha_2 hN_14
        obtain rfl := hR_19
        refine JL.val rfl rfl (R.ix U22 S32 rfl rfl hE_18) ?_
        refine JL.val rfl rfl (R.fa F32_1 rfl) ?_
        refine JL.val rfl rfl (R.ldH S30 rfl (hc_21 1 _ rfl)) ?_
        refine JL.val rfl rfl (R.move rfl) ?_
        refine JL.val rfl rfl (R.leq32 (a := y_13.Birth) (b := p_3) rfl rfl) ?_
        refine JL.nil ?_
        refine JN.next ?_
        refine JC.condB rfl (fun c_22 => ?_) (fun c_22 => ?_)
        · replace hx := cond_t c_22 hx
          refine JC.region ?_
          refine JL.val rfl rfl (R.move rfl) ?_
          refine JL.val rfl rfl (R.move rfl) ?_
          refine JL.val rfl rfl (R.move rfl) ?_
          obtain ⟨y_23, hN_24, hx⟩ := idx_some hx
          obtain ⟨b_25, o_26, cs_27, hE_28, hR_29, hl_30, hc_31⟩ := IsSlice.elem ha_2 hN_24
          obtain rfl := hR_29
          refine JL.val rfl rfl (R.ix U22 S32 rfl rfl hE_28) ?_
          refine JL.val rfl rfl (R.ldHE (cs := [.int .i64 y_23.At, .int .u32 (y_23.Birth.toNat : Int), .int .u32 (y_23.Iv.toNat : Int), .int .u32 (y_23.Tag.toNat : Int), .int .u32 (y_23.Sum.toNat : Int)]) (k := 0) (vs := [.int .i64 y_23.At, .int .u32 (y_23.Birth.toNat : Int), .int .u32 (y_23.Iv.toNat : Int), .int .u32 (y_23.Tag.toNat : Int), .int .u32 (y_23.Sum.toNat : Int)]) S32 rfl hc_31 rfl rfl) ?_
          refine JL.bslF (HF := (New H H)) (R := R_Ptr) (ls := [y_23]) (vs := [.agg #[.int .i64 y_23.At, .int .u32 (y_23.Birth.toNat : Int), .int .u32 (y_23.Iv.toNat : Int), .int .u32 (y_23.Tag.toNat : Int), .int .u32 (y_23.Sum.toNat : Int)]]) U22 I32 rfl rfl (⟨_, _, rfl, rfl, rfl, rfl⟩) R_Ptr.one rfl rfl rfl (by simp [maxLen]) rfl (fun vr_32 Kr_32 hr_32 => ?_)
          obtain ⟨aor_32, capr_32, rfl⟩ := RowOf.val hr_32
          obtain ⟨q_33, hm_34, hl_35, hx⟩ := app_some hx
          refine JL.appF (HF := (New H H)) 1 U22 I32 rfl rfl hr_10 rfl (SrcF.row 0 U22 rfl hr_32) hm_34 hl_35 rfl (Nat.le_refl _) rfl (fun vr_36 Kr_36 hr_36 => ?_)
          obtain ⟨aor_36, capr_36, rfl⟩ := RowOf.val hr_36
          refine JL.val rfl rfl (R.assign rfl) ?_
          refine JL.nil ?_
          refine JN.blkN ?_
          refine JN.next ?_
          refine JC.region ?_
          refine JL.val rfl rfl (R.move rfl) ?_
          refine JL.val rfl rfl (R.inc rfl rfl (of_decide_eq_true c_12) (IsSlice.lenI ha_2)) ?_
          refine JL.val rfl rfl (R.assign rfl) ?_
          refine JL.nil ?_
          replace hx := run_next hd_12 hx
          refine JN.forget 0 ?_
          refine JN.front 1 rfl ?_
          refine JN.front 1 rfl ?_
          exact JN.cut ⟨(q_33, s_7.2.1, s_7.2.2 + 1), aor_36, q_33.length, capr_36, Kr_36, aor_11, nr_11, capr_11, Kr_11, rfl, rfl, rfl, hx, hr_36, hr_11⟩ ⟨rfl, rfl, rfl, rfl, rfl, trivial⟩ rfl rfl
        · replace hx := cond_f c_22 hx
          refine JC.region ?_
          refine JL.val rfl rfl (R.move rfl) ?_
          refine JL.val rfl rfl (R.move rfl) ?_
          refine JL.val rfl rfl (R.move rfl) ?_
          obtain ⟨y_37, hN_38, hx⟩ := idx_some hx
          obtain ⟨b_39, o_40, cs_41, hE_42, hR_43, hl_44, hc_45⟩ := IsSlice.elem ha_2 hN_38
          obtain rfl := hR_43
          refine JL.val rfl rfl (R.ix U22 S32 rfl rfl hE_42) ?_
          refine JL.val rfl rfl (R.ldHE (cs := [.int .i64 y_37.At, .int .u32 (y_37.Birth.toNat : Int), .int .u32 (y_37.Iv.toNat : Int), .int .u32 (y_37.Tag.toNat : Int), .int .u32 (y_37.Sum.toNat : Int)]) (k := 0) (vs := [.int .i64 y_37.At, .int .u32 (y_37.Birth.toNat : Int), .int .u32 (y_37.Iv.toNat : Int), .int .u32 (y_37.Tag.toNat : Int), .int .u32 (y_37.Sum.toNat : Int)]) S32 rfl hc_45 rfl rfl) ?_
          refine JL.bslF (HF := (New H H)) (R := R_Ptr) (ls := [y_37]) (vs := [.agg #[.int .i64 y_37.At, .int .u32 (y_37.Birth.toNat : Int), .int .u32 (y_37.Iv.toNat : Int), .int .u32 (y_37.Tag.toNat : Int), .int .u32 (y_37.Sum.toNat : Int)]]) U22 I32 rfl rfl (⟨_, _, rfl, rfl, rfl, rfl⟩) R_Ptr.one rfl rfl rfl (by simp [maxLen]) rfl (fun vr_46 Kr_46 hr_46 => ?_)
          obtain ⟨aor_46, capr_46, rfl⟩ := RowOf.val hr_46
          obtain ⟨q_47, hm_48, hl_49, hx⟩ := app_some hx
          refine JL.appF (HF := (New H H)) 2 U22 I32 rfl rfl hr_11 rfl (SrcF.row 0 U22 rfl hr_46) hm_48 hl_49 rfl (Nat.le_refl _) rfl (fun vr_50 Kr_50 hr_50 => ?_)
          obtain ⟨aor_50, capr_50, rfl⟩ := RowOf.val hr_50
          refine JL.val rfl rfl (R.assign rfl) ?_
          refine JL.nil ?_
          refine JN.blkN ?_
          refine JN.next ?_
          refine JC.region ?_
          refine JL.val rfl rfl (R.move rfl) ?_
          refine JL.val rfl rfl (R.inc rfl rfl (of_decide_eq_true c_12) (IsSlice.lenI ha_2)) ?_
          refine JL.val rfl rfl (R.assign rfl) ?_
          refine JL.nil ?_
          replace hx := run_next hd_12 hx
          refine JN.forget 0 ?_
          refine JN.front 1 rfl ?_
          refine JN.front 1 rfl ?_
          exact JN.cut ⟨(s_7.1, q_47, s_7.2.2 + 1), aor_10, nr_10, capr_10, Kr_10, aor_50, q_47.length, capr_50, Kr_50, rfl, rfl, rfl, hx, hr_10, hr_50⟩ ⟨rfl, rfl, rfl, rfl, rfl, trivial⟩ rfl rfl
      · replace hx := cond_f c_12 hx
        refine JC.exit ?_
        refine JN.passX ?_
        obtain rfl := run_done hd_12 hx
        refine JN.passX ?_
        refine JN.exitSame ?_
        refine JN.front 1 rfl ?_
        refine JN.front 1 rfl ?_
        exact JN.cut ⟨aor_10, nr_10, capr_10, Kr_10, aor_11, nr_11, capr_11, Kr_11, rfl, rfl, rfl, hr_10, hr_11⟩ ⟨rfl, rfl, trivial⟩ rfl rfl

set_option maxHeartbeats 1000000 in
theorem ref16_Split_ok (p_1 : List Ptr) (p_3 : UInt32) (H : Heaplet) {aoa_2 : Option Addr} {na_2 : Nat} {capa_2 : Nat} (ha_2 : IsSlice H R_Ptr 5 (.slice aoa_2 na_2 capa_2) p_1) (r : List Ptr × List Ptr × Int) (hx : ref16_Split p_1 p_3 = some r) :
    Does Try.prog 14 #[.slice aoa_2 na_2 capa_2, .int .u32 (p_3.toNat : Int)] [] H (fun u K' H' => ∃ ao0 : Option Addr, ∃ n0 : Nat, ∃ cap0 : Nat, ∃ K0 : Own, ∃ ao1 : Option Addr, ∃ n1 : Nat, ∃ cap1 : Nat, ∃ K1 : Own, u = .tuple #[.slice ao0 n0 cap0, .slice ao1 n1 cap1, .int .i64 r.2.2] ∧ K' = [K0, K1] ∧ H = H' ∧ RowOf (New H H) R_Ptr 0 32 5 (.slice ao0 n0 cap0) r.1 K0 ∧ (∀ p ∈ K0, p.1 ∉ ids (List.flatten [])) ∧ RowOf (New H H) R_Ptr 0 32 5 (.slice ao1 n1 cap1) r.2.1 K1 ∧ (∀ p ∈ K1, p.1 ∉ ids (List.flatten [])) ∧ True) := by
  refine Does.enterL (vs := [.slice aoa_2 na_2 capa_2, .int .u32 (p_3.toNat : Int)]) (l := [(0, .slice aoa_2 na_2 capa_2), (1, .int .u32 (p_3.toNat : Int))]) Try.func14 rfl rfl ⟨rfl, rfl, trivial⟩ (fun w hlt => ?_)
  rw [ref16_Split.eq_1] at hx
  refine JC.seq ?_
  refine JC.region ?_
  refine JL.val rfl rfl (R.assign rfl) ?_
  refine JL.val rfl rfl (R.assign rfl) ?_
  refine JL.val rfl rfl (R.assign rfl) ?_
  refine JL.nil ?_
  refine JN.next ?_
  refine JC.seq ?_
  refine JC.seq ?_
  refine JC.region ?_
  refine JL.val rfl rfl (R.move rfl) ?_
  obtain ⟨x_4, hr_5, hx⟩ := bnd_some hx
  refine JL.callC (vs := [_]) (args := [_]) (K := []) (rst := []) E27 rfl rfl rfl picks0 (ref16_May_ok p_1 _ ha_2 _ hr_5) rfl (fun u_6 Ku_6 Hu_6 hRu_6 hleu_6 hfu_6 => ?_)
  obtain ⟨rfl, rfl, rfl, -⟩ := hRu_6
  refine JL.val rfl rfl (R.not rfl) ?_
  refine JL.nil ?_
  refine JN.next ?_
  refine JC.condB rfl (fun c_7 => ?_) (fun c_7 => ?_)
  · replace hx := cond_t c_7 hx
    refine JC.seq ?_
    refine JC.region ?_
    refine JL.val rfl rfl (R.assign rfl) ?_
    refine JL.val rfl rfl (R.assign rfl) ?_
    refine JL.val rfl rfl (R.assign rfl) ?_
    refine JL.nil ?_
    refine JN.next ?_
    refine JC.ret ?_
    refine JN.passR ?_
    refine JN.seg0 ?_
    refine JN.seg0 ?_
    refine JN.outP (vs := [.slice none 0 0, .slice none 0 0, .int .i64 8]) (K := [_, _]) (rst := []) (.inl rfl) rfl rfl (Res.tmp rfl (Res.tmp rfl (Res.tmp rfl rfl))) (picks 0 rfl (picks 0 rfl picks0)) ?_
    obtain rfl := Option.some.inj hx
    exact ⟨none, 0, 0, [], none, 0, 0, [], rfl, rfl, rfl, (RowOf.nil _ _ _ _ _), (fun p hp => by cases hp), (RowOf.nil _ _ _ _ _), (fun p hp => by cases hp), trivial⟩
  · replace hx := cond_f c_7 hx
    refine JC.skip ?_
    refine JN.next ?_
    refine JC.seq ?_
    refine JC.region ?_
    refine JL.val rfl rfl (R.move rfl) ?_
    refine JL.val rfl rfl (R.move rfl) ?_
    obtain ⟨x_8, hr_9, hx⟩ := bnd_some hx
    refine JL.callC (vs := [_, _]) (args := [_, _]) (K := []) (rst := []) E31 rfl rfl rfl picks0 (ref16_Parts_ok p_1 p_3 _ ha_2 _ hr_9) rfl (fun u_10 Ku_10 Hu_10 hRu_10 hleu_10 hfu_10 => ?_)
    obtain ⟨aor_11, nr_11, capr_11, Kr_11, aor_12, nr_12, capr_12, Kr_12, rfl, rfl, rfl, hr_11, hnewr_11, hr_12, hnewr_12, -⟩ := hRu_10
    replace hr_11 := (RowOf.base (RowOf.const (H2 := New H H) R_Ptr.const hr_11) (fun p hp => (hfu_10 p (mem_seg 0 rfl hp)).resolve_left (hnewr_11 p hp)))
    replace hr_12 := (RowOf.base (RowOf.const (H2 := New H H) R_Ptr.const hr_12) (fun p hp => (hfu_10 p (mem_seg 1 rfl hp)).resolve_left (hnewr_12 p hp)))
    refine JL.val rfl rfl (R.move rfl) ?_
    refine JL.val rfl rfl (R.extract rfl rfl) ?_
    refine JL.val rfl rfl (R.extract rfl rfl) ?_
    refine JL.val rfl rfl (R.assign rfl) ?_
    refine JL.val rfl rfl (R.assign rfl) ?_
    refine JL.nil ?_
    refine JN.next ?_
    refine JC.seq ?_
    refine JC.region ?_
    refine JL.val rfl rfl (R.move rfl) ?_
    refine JL.val rfl rfl (R.move rfl) ?_
    refine JL.val rfl rfl (R.assign rfl) ?_
    refine JL.val rfl rfl (R.assign rfl) ?_
    refine JL.val rfl rfl (R.assign rfl) ?_
    refine JL.nil ?_
    refine JN.next ?_
    refine JC.ret ?_
    refine JN.outP (vs := [.slice aor_11 nr_11 capr_11, .slice aor_12 nr_12 capr_12, .int .i64 0]) (K := [_, _]) (rst := []) (.inl rfl) rfl rfl (Res.tmp rfl (Res.tmp rfl (Res.tmp rfl rfl))) (picks 0 rfl (picks 0 rfl picks0)) ?_
    obtain rfl := Option.some.inj hx
    exact ⟨aor_11, nr_11, capr_11, Kr_11, aor_12, nr_12, capr_12, Kr_12, rfl, rfl, rfl, (RowOf.weak (Nat.zero_le _) hr_11), (new_ids hr_11 hlt), (RowOf.weak (Nat.zero_le _) hr_12), (new_ids hr_12 hlt), trivial⟩

set_option maxHeartbeats 1000000 in
theorem ref16_Join_ok (p_1 : List Ptr) (p_3 : List Ptr) (H : Heaplet) {aoa_2 : Option Addr} {na_2 : Nat} {capa_2 : Nat} {aoa_4 : Option Addr} {na_4 : Nat} {capa_4 : Nat} (ha_2 : IsSlice H R_Ptr 5 (.slice aoa_2 na_2 capa_2) p_1) (ha_4 : IsSlice H R_Ptr 5 (.slice aoa_4 na_4 capa_4) p_3) (r : List Ptr × Int) (hx : ref16_Join p_1 p_3 = some r) :
    Does Try.prog 15 #[.slice aoa_2 na_2 capa_2, .slice aoa_4 na_4 capa_4] [] H (fun u K' H' => ∃ ao0 : Option Addr, ∃ n0 : Nat, ∃ cap0 : Nat, ∃ K0 : Own, u = .tuple #[.slice ao0 n0 cap0, .int .i64 r.2] ∧ K' = [K0] ∧ H = H' ∧ RowOf (New H H) R_Ptr 0 32 5 (.slice ao0 n0 cap0) r.1 K0 ∧ (∀ p ∈ K0, p.1 ∉ ids (List.flatten [])) ∧ True) := by
  refine Does.enterL (vs := [.slice aoa_2 na_2 capa_2, .slice aoa_4 na_4 capa_4]) (l := [(0, .slice aoa_2 na_2 capa_2), (1, .slice aoa_4 na_4 capa_4)]) Try.func15 rfl rfl ⟨rfl, rfl, trivial⟩ (fun w hlt => ?_)
  rw [ref16_Join.eq_1] at hx
  refine JC.seq ?_
  refine JC.region ?_
  refine JL.val rfl rfl (R.assign rfl) ?_
  refine JL.val rfl rfl (R.assign rfl) ?_
  refine JL.nil ?_
  refine JN.next ?_
  refine JC.seq ?_
  refine JC.seq ?_
  refine JC.region ?_
  refine JL.val rfl rfl (R.move rfl) ?_
  obtain ⟨x_5, hr_6, hx⟩ := bnd_some hx
  refine JL.callC (vs := [_]) (args := [_]) (K := []) (rst := []) E27 rfl rfl rfl picks0 (ref16_May_ok p_1 _ ha_2 _ hr_6) rfl (fun u_7 Ku_7 Hu_7 hRu_7 hleu_7 hfu_7 => ?_)
  obtain ⟨rfl, rfl, rfl, -⟩ := hRu_7
  refine JL.val rfl rfl (R.not rfl) ?_
  refine JL.val rfl rfl (R.move rfl) ?_
  refine JL.gSplit (t := 11) rfl (fun c_8 => ?_) (fun c_8 => ?_)
  · replace hx := cond_t c_8 hx
    refine JL.gNo rfl rfl rfl rfl rfl ?_
    refine JL.gNo rfl rfl rfl rfl rfl ?_
    refine JL.gNo rfl rfl rfl rfl rfl ?_
    refine JL.val rfl rfl (R.pickT rfl rfl) ?_
    refine JL.nil ?_
    refine JN.next ?_
    refine JC.condT rfl ?_
    refine JC.seq ?_
    refine JC.region ?_
    refine JL.val rfl rfl (R.assign rfl) ?_
    refine JL.val rfl rfl (R.assign rfl) ?_
    refine JL.nil ?_
    refine JN.next ?_
    refine JC.ret ?_
    refine JN.passR ?_
    refine JN.seg0 ?_
    refine JN.outP (vs := [.slice none 0 0, .int .i64 8]) (K := [_]) (rst := []) (.inl rfl) rfl rfl (Res.tmp rfl (Res.tmp rfl rfl)) (picks 0 rfl picks0) ?_
    obtain rfl := Option.some.inj hx
    exact ⟨none, 0, 0, [], rfl, rfl, rfl, (RowOf.nil _ _ _ _ _), (fun p hp => by cases hp), trivial⟩
  · replace hx := cond_f c_8 hx
    refine JL.gYes rfl rfl rfl ?_
    refine JL.val rfl rfl (R.move rfl) ?_
    refine JL.gYes rfl rfl rfl ?_
    obtain ⟨x_9, hr_10, hx⟩ := bnd_some hx
    refine JL.callC (vs := [_]) (args := [_]) (K := []) (rst := []) E27 rfl rfl rfl picks0 (ref16_May_ok p_3 _ ha_4 _ hr_10) rfl (fun u_11 Ku_11 Hu_11 hRu_11 hleu_11 hfu_11 => ?_)
    obtain ⟨rfl, rfl, rfl, -⟩ := hRu_11
    refine JL.gYes rfl rfl rfl ?_
    refine JL.val rfl rfl (R.not rfl) ?_
    refine JL.val rfl rfl (R.pickF rfl rfl) ?_
    refine JL.nil ?_
    refine JN.next ?_
    refine JC.condB rfl (fun c_12 => ?_) (fun c_12 => ?_)
    · replace hx := cond_t c_12 hx
      refine JC.seq ?_
      refine JC.region ?_
      refine JL.val rfl rfl (R.assign rfl) ?_
      refine JL.val rfl rfl (R.assign rfl) ?_
      refine JL.nil ?_
      refine JN.next ?_
      refine JC.ret ?_
      refine JN.passR ?_
      refine JN.seg0 ?_
      refine JN.outP (vs := [.slice none 0 0, .int .i64 8]) (K := [_]) (rst := []) (.inl rfl) rfl rfl (Res.tmp rfl (Res.tmp rfl rfl)) (picks 0 rfl picks0) ?_
      obtain rfl := Option.some.inj hx
      exact ⟨none, 0, 0, [], rfl, rfl, rfl, (RowOf.nil _ _ _ _ _), (fun p hp => by cases hp), trivial⟩
    · replace hx := cond_f c_12 hx
      refine JC.skip ?_
      refine JN.next ?_
      refine JC.seq ?_
      refine JC.region ?_
      refine JL.val rfl rfl (R.move rfl) ?_
      refine JL.seg0 ?_
      obtain ⟨q_14, hm_15, hl_16, hx⟩ := app_some hx
      refine JL.appF (HF := (New H H)) 0 U22 I32 rfl rfl (RowOf.nil _ R_Ptr _ _ _) rfl (SrcF.sliceC R_Ptr.const R_Ptr.one U22 ha_2) hm_15 hl_16 rfl (Nat.le_refl _) rfl (fun vr_17 Kr_17 hr_17 => ?_)
      obtain ⟨aor_17, capr_17, rfl⟩ := RowOf.val hr_17
      refine JL.val rfl rfl (R.assign rfl) ?_
      refine JL.nil ?_
      refine JN.next ?_
      refine JC.seq ?_
      refine JC.seq ?_
      refine JC.region ?_
      refine JL.val rfl rfl (R.assign rfl) ?_
      refine JL.nil ?_
      refine JN.next ?_
      obtain ⟨t_18, ht_20, hx⟩ := bnd_some hx
      refine JC.cut (fun l o g => ∃ t_18a : List Ptr, ∃ aor_25 : Option Addr, ∃ nr_25 : Nat, ∃ capr_25 : Nat, ∃ Kr_25 : Own, l = [(6, .slice aor_25 nr_25 capr_25)] ∧ o = [Kr_25] ∧ H = g ∧ t_18 = .inl t_18a ∧ RowOf (New H H) R_Ptr w.heap.size 32 5 (.slice aor_25 nr_25 capr_25) t_18a Kr_25) ?_ ?_
      · rintro _ _ _ ⟨t_18a, aor_25, nr_25, capr_25, Kr_25, rfl, rfl, rfl, rfl, hr_25⟩
        simp only [Sum.elim_inl] at hx
        refine JN.next ?_
        refine JC.seq ?_
        refine JC.seq ?_
        refine JC.region ?_
        refine JL.val rfl rfl (R.move rfl) ?_
        refine JL.val rfl rfl (R.lenL U22 rfl (RowOf.long hr_25)) ?_
        refine JL.val rfl rfl (R.gtr_i rfl rfl) ?_
        refine JL.nil ?_
        refine JN.next ?_
        refine JC.condB rfl (fun c_26 => ?_) (fun c_26 => ?_)
        · replace hx := cond_t c_26 hx
          refine JC.seq ?_
          refine JC.region ?_
          refine JL.val rfl rfl (R.assign rfl) ?_
          refine JL.val rfl rfl (R.assign rfl) ?_
          refine JL.nil ?_
          refine JN.next ?_
          refine JC.ret ?_
          refine JN.passR ?_
          refine JN.seg0 ?_
          refine JN.outP (vs := [.slice none 0 0, .int .i64 9]) (K := [_]) (rst := [_]) (.inl rfl) rfl rfl (Res.tmp rfl (Res.tmp rfl rfl)) (picks 0 rfl picks0) ?_
          obtain rfl := Option.some.inj hx
          exact ⟨none, 0, 0, [], rfl, rfl, rfl, (RowOf.nil _ _ _ _ _), (fun p hp => by cases hp), trivial⟩
        · replace hx := cond_f c_26 hx
          refine JC.skip ?_
          refine JN.next ?_
          refine JC.seq ?_
          refine JC.region ?_
          refine JL.val rfl rfl (R.move rfl) ?_
          refine JL.val rfl rfl (R.assign rfl) ?_
          refine JL.val rfl rfl (R.assign rfl) ?_
          refine JL.nil ?_
          refine JN.next ?_
          refine JC.ret ?_
          refine JN.outP (vs := [.slice aor_25 nr_25 capr_25, .int .i64 0]) (K := [_]) (rst := []) (.inl rfl) rfl rfl (Res.tmp rfl (Res.tmp rfl rfl)) (picks 0 rfl picks0) ?_
          obtain rfl := Option.some.inj hx
          exact ⟨aor_25, nr_25, capr_25, Kr_25, rfl, rfl, rfl, (RowOf.weak (Nat.zero_le _) hr_25), (new_ids hr_25 hlt), trivial⟩
      · have hxo_19 := hx; clear hx; have hx := ht_20; clear ht_20
        refine JC.block ?_
        refine JC.loopI (fun n l o g => ∃ s_21 : List Ptr × Nat, ∃ aor_24 : Option Addr, ∃ nr_24 : Nat, ∃ capr_24 : Nat, ∃ Kr_24 : Own, l = [(0, .slice aoa_2 na_2 capa_2), (1, .slice aoa_4 na_4 capa_4), (6, .slice aor_24 nr_24 capr_24), (7, .int .i64 ((s_21.2 : Nat) : Int))] ∧ o = [Kr_24] ∧ H = g ∧ run (ref16_Join_l1 p_1 p_3) n s_21 = some t_18 ∧ RowOf (New H H) R_Ptr w.heap.size 32 5 (.slice aor_24 nr_24 capr_24) s_21.1 Kr_24) FUEL ?_ ⟨(q_14, 0), aor_17, q_14.length, capr_17, Kr_17, rfl, rfl, rfl, hx, hr_17⟩ ⟨rfl, rfl, rfl, rfl, trivial⟩ ?_
        · rintro _ _ _ ⟨s_21, aor_24, nr_24, capr_24, Kr_24, rfl, rfl, rfl, hn_22, hr_24⟩
          exact run_zero hn_22
        · rintro n_23 _ _ _ ⟨s_21, aor_24, nr_24, capr_24, Kr_24, rfl, rfl, rfl, hn_22, hr_24⟩
          clear hx; obtain ⟨oo_26, hx, hd_25⟩ := run_some hn_22
          rw [ref16_Join_l1.eq_1] at hx
          refine JC.seq ?_
          refine JC.seq ?_
          refine JC.region ?_
          refine JL.val rfl rfl (R.move rfl) ?_
          refine JL.val rfl rfl (R.move rfl) ?_
          refine JL.val rfl rfl (R.lenL U22 rfl (IsSlice.long ha_4)) ?_
          refine JL.val rfl rfl (R.lss_i rfl rfl) ?_
          refine JL.nil ?_
          refine JN.next ?_
          refine JC.condB rfl (fun c_25 => ?_) (fun c_25 => ?_)
          · replace hx := cond_t c_25 hx
            refine JC.skip ?_
            refine JN.next ?_
            refine JC.seq ?_
            refine JC.block ?_
            refine JC.seq ?_
            refine JC.seq ?_
            refine JC.region ?_
            refine JL.val rfl rfl (R.move rfl) ?_
            refine JL.val rfl rfl (R.move rfl) ?_
            refine JL.val rfl rfl (R.move rfl) ?_
            obtain ⟨y_26, hN_27, hx⟩ := idx_some hx
            obtain ⟨b_28, o_29, cs_30, hE_31, hR_32, hl_33, hc_34⟩ := IsSlice.elem ha_4 hN_27
            obtain rfl := hR_32
            refine JL.val rfl rfl (R.ix U22 S32 rfl rfl hE_31) ?_
            refine JL.val rfl rfl (R.fa F32_0 rfl) ?_
            refine JL.val rfl rfl (R.ldH S3 rfl (hc_34 0 _ rfl)) ?_
            obtain ⟨x_35, hr_36, hx⟩ := bnd_some hx
            refine JL.callC (vs := [_, _]) (args := [_, _]) (K := []) (rst := [_]) E29 rfl rfl rfl picks0 (ref16_Has_ok p_1 y_26.At _ ha_2 _ hr_36) rfl (fun u_37 Ku_37 Hu_37 hRu_37 hleu_37 hfu_37 => ?_)
            obtain ⟨rfl, rfl, rfl, -⟩ := hRu_37
            refine JL.nil ?_
            refine JN.next ?_
            refine JC.condB rfl (fun c_38 => ?_) (fun c_38 => ?_)
            · replace hx := cond_t c_38 hx
              refine JC.seq ?_
              refine JC.region ?_
              refine JL.val rfl rfl (R.assign rfl) ?_
              refine JL.val rfl rfl (R.assign rfl) ?_
              refine JL.nil ?_
              refine JN.next ?_
              refine JC.ret ?_
              refine JN.passR ?_
              refine JN.blkR ?_
              refine JN.passR ?_
              obtain rfl := run_done hd_25 hx
              refine JN.passR ?_
              refine JN.blkR ?_
              clear hx; have hx := hxo_19
              simp only [Sum.elim_inl, Sum.elim_inr] at hx
              refine JN.passR ?_
              refine JN.passR ?_
              refine JN.seg0 ?_
              refine JN.outP (vs := [.slice none 0 0, .int .i64 2]) (K := [_]) (rst := [_]) (.inl rfl) rfl rfl (Res.tmp rfl (Res.tmp rfl rfl)) (picks 0 rfl picks0) ?_
              obtain rfl := Option.some.inj hx
              exact ⟨none, 0, 0, [], rfl, rfl, rfl, (RowOf.nil _ _ _ _ _), (fun p hp => by cases hp), trivial⟩
            · replace hx := cond_f c_38 hx
              refine JC.skip ?_
              refine JN.next ?_
              refine JC.region ?_
              refine JL.val rfl rfl (R.move rfl) ?_
              refine JL.val rfl rfl (R.move rfl) ?_
              refine JL.val rfl rfl (R.move rfl) ?_
              obtain ⟨y_39, hN_40, hx⟩ := idx_some hx
              obtain ⟨b_41, o_42, cs_43, hE_44, hR_45, hl_46, hc_47⟩ := IsSlice.elem ha_4 hN_40
              obtain rfl := hR_45
              refine JL.val rfl rfl (R.ix U22 S32 rfl rfl hE_44) ?_
              refine JL.val rfl rfl (R.ldHE (cs := [.int .i64 y_39.At, .int .u32 (y_39.Birth.toNat : Int), .int .u32 (y_39.Iv.toNat : Int), .int .u32 (y_39.Tag.toNat : Int), .int .u32 (y_39.Sum.toNat : Int)]) (k := 0) (vs := [.int .i64 y_39.At, .int .u32 (y_39.Birth.toNat : Int), .int .u32 (y_39.Iv.toNat : Int), .int .u32 (y_39.Tag.toNat : Int), .int .u32 (y_39.Sum.toNat : Int)]) S32 rfl hc_47 rfl rfl) ?_
              obtain ⟨x_51, hr_52, hx⟩ := bnd_some hx
              refine JL.callL3 (vs := [_, _]) E30 rfl rfl (fun H_50 hle_49 hl_48 => ref16_With_ok s_21.1 y_39 _ (Lent.row' 0 hl_48 R_Ptr.mono hle_49 rfl (hr_24.old R_Ptr.mono)) _ hr_52) rfl (fun _ _ _ _ hR_54 hf_55 => ?_)
              obtain ⟨aor_53, nr_53, capr_53, Kr_53, rfl, rfl, rfl, hr_53, -, -⟩ := hR_54
              replace hr_53 := RowOf.base (RowOf.const (H2 := New H H) R_Ptr.const hr_53) (fun p hp => hf_55 p (mem_seg 0 rfl hp))
              refine JL.val rfl rfl (R.assign rfl) ?_
              refine JL.nil ?_
              refine JN.blkN ?_
              refine JN.next ?_
              refine JC.region ?_
              refine JL.val rfl rfl (R.move rfl) ?_
              refine JL.val rfl rfl (R.inc rfl rfl (of_decide_eq_true c_25) (IsSlice.lenI ha_4)) ?_
              refine JL.val rfl rfl (R.assign rfl) ?_
              refine JL.nil ?_
              replace hx := run_next hd_25 hx
              refine JN.forget 1 ?_
              exact JN.cut ⟨(x_51, s_21.2 + 1), aor_53, nr_53, capr_53, Kr_53, rfl, rfl, rfl, hx, hr_53⟩ ⟨rfl, rfl, rfl, rfl, trivial⟩ rfl rfl
          · replace hx := cond_f c_25 hx
            refine JC.exit ?_
            refine JN.passX ?_
            obtain rfl := run_done hd_25 hx
            refine JN.passX ?_
            refine JN.exitSame ?_
            exact JN.cut ⟨s_21.1, aor_24, nr_24, capr_24, Kr_24, rfl, rfl, rfl, rfl, hr_24⟩ ⟨rfl, trivial⟩ rfl rfl

set_option maxHeartbeats 1000000 in
theorem ref10_Same_ok (p_1 : List Ptr) (p_3 : List Ptr) (H : Heaplet) {aoa_2 : Option Addr} {na_2 : Nat} {capa_2 : Nat} {aoa_4 : Option Addr} {na_4 : Nat} {capa_4 : Nat} (ha_2 : IsSlice H R_Ptr 5 (.slice aoa_2 na_2 capa_2) p_1) (ha_4 : IsSlice H R_Ptr 5 (.slice aoa_4 na_4 capa_4) p_3) (r : Bool) (hx : ref10_Same p_1 p_3 = some r) :
    Does Try.prog 16 #[.slice aoa_2 na_2 capa_2, .slice aoa_4 na_4 capa_4] [] H (fun u K' H' => u = .bool r ∧ K' = [] ∧ H = H' ∧ True) := by
  refine Does.enterL (vs := [.slice aoa_2 na_2 capa_2, .slice aoa_4 na_4 capa_4]) (l := [(0, .slice aoa_2 na_2 capa_2), (1, .slice aoa_4 na_4 capa_4)]) Try.func16 rfl rfl ⟨rfl, rfl, trivial⟩ (fun w hlt => ?_)
  rw [ref10_Same.eq_1] at hx
  refine JC.seq ?_
  refine JC.region ?_
  refine JL.val rfl rfl (R.assign rfl) ?_
  refine JL.nil ?_
  refine JN.next ?_
  refine JC.seq ?_
  refine JC.seq ?_
  refine JC.region ?_
  refine JL.val rfl rfl (R.move rfl) ?_
  refine JL.val rfl rfl (R.lenL U22 rfl (IsSlice.long ha_2)) ?_
  refine JL.val rfl rfl (R.move rfl) ?_
  refine JL.val rfl rfl (R.lenL U22 rfl (IsSlice.long ha_4)) ?_
  refine JL.val rfl rfl (R.neq_i rfl rfl) ?_
  refine JL.nil ?_
  refine JN.next ?_
  refine JC.condB rfl (fun c_5 => ?_) (fun c_5 => ?_)
  · replace hx := cond_t c_5 hx
    refine JC.seq ?_
    refine JC.region ?_
    refine JL.val rfl rfl (R.assign rfl) ?_
    refine JL.nil ?_
    refine JN.next ?_
    refine JC.ret ?_
    refine JN.passR ?_
    refine JN.outP (vs := [.bool false]) (K := []) (rst := []) (.inl rfl) rfl rfl (Res.tmp rfl rfl) picks0 ?_
    obtain rfl := Option.some.inj hx
    exact ⟨rfl, rfl, rfl, trivial⟩
  · replace hx := cond_f c_5 hx
    refine JC.skip ?_
    refine JN.next ?_
    refine JC.seq ?_
    refine JC.seq ?_
    refine JC.region ?_
    refine JL.val rfl rfl (R.assign rfl) ?_
    refine JL.nil ?_
    refine JN.next ?_
    obtain ⟨t_6, ht_8, hx⟩ := bnd_some hx
    refine JC.cut (fun l o g => ∃ t_6a : Unit, l = [] ∧ o = [] ∧ H = g ∧ t_6 = .inl t_6a) ?_ ?_
    · rintro _ _ _ ⟨t_6a, rfl, rfl, rfl, rfl⟩
      simp only [Sum.elim_inl] at hx
      refine JN.next ?_
      refine JC.seq ?_
      refine JC.region ?_
      refine JL.val rfl rfl (R.assign rfl) ?_
      refine JL.nil ?_
      refine JN.next ?_
      refine JC.ret ?_
      refine JN.outP (vs := [.bool true]) (K := []) (rst := []) (.inl rfl) rfl rfl (Res.tmp rfl rfl) picks0 ?_
      obtain rfl := Option.some.inj hx
      exact ⟨rfl, rfl, rfl, trivial⟩
    · have hxo_7 := hx; clear hx; have hx := ht_8; clear ht_8
      refine JC.block ?_
      refine JC.loopI (fun n l o g => ∃ s_9 : Nat, l = [(0, .slice aoa_2 na_2 capa_2), (1, .slice aoa_4 na_4 capa_4), (5, .int .i64 ((s_9 : Nat) : Int))] ∧ o = [] ∧ H = g ∧ run (ref10_Same_l1 p_1 p_3) n s_9 = some t_6) FUEL ?_ ⟨0, rfl, rfl, rfl, hx⟩ ⟨rfl, rfl, rfl, trivial⟩ ?_
      · rintro _ _ _ ⟨s_9, rfl, rfl, rfl, hn_10⟩
        exact run_zero hn_10
      · rintro n_11 _ _ _ ⟨s_9, rfl, rfl, rfl, hn_10⟩
        clear hx; obtain ⟨oo_13, hx, hd_12⟩ := run_some hn_10
        rw [ref10_Same_l1.eq_1] at hx
        refine JC.seq ?_
        refine JC.seq ?_
        refine JC.region ?_
        refine JL.val rfl rfl (R.move rfl) ?_
        refine JL.val rfl rfl (R.move rfl) ?_
        refine JL.val rfl rfl (R.lenL U22 rfl (IsSlice.long ha_2)) ?_
        refine JL.val rfl rfl (R.lss_i rfl rfl) ?_
        refine JL.nil ?_
        refine JN.next ?_
        refine JC.condB rfl (fun c_12 => ?_) (fun c_12 => ?_)
        · replace hx := cond_t c_12 hx
          refine JC.skip ?_
          refine JN.next ?_
          refine JC.seq ?_
          refine JC.block ?_
          refine JC.seq ?_
          refine JC.draw (so := []) 9 rfl Mixed trivial ?_
          refine JA.val ⟨by kernel_rfl, by kernel_rfl⟩ (calm_only _) (i := 0) rfl ⟨by kernel_rfl, by kernel_rfl, rfl⟩ trivial (stab_of (Hle.refl _) trivial) (R.move rfl) rfl ?_
          refine JA.val ⟨by kernel_rfl, by kernel_rfl⟩ (calm_only _) (i := 1) rfl ⟨by kernel_rfl, by kernel_rfl, rfl⟩ trivial (stab_of (Hle.refl _) trivial) (R.move rfl) rfl ?_
          obtain ⟨y_13, hN_14, hx⟩ := idx_some hx
          obtain ⟨b_15, o_16, cs_17, hE_18, hR_19, hl_20, hc_21⟩ := IsSlice.elem ha_2 hN_14
          obtain rfl := hR_19
          refine JA.val ⟨by kernel_rfl, by kernel_rfl⟩ (calm_only _) (i := 2) rfl ⟨by kernel_rfl, by kernel_rfl, rfl⟩ trivial (stab_of (Hle.refl _) trivial) (R.ix U22 S32 rfl rfl hE_18) rfl ?_
          refine JA.val ⟨by kernel_rfl, by kernel_rfl⟩ (calm_only _) (i := 3) rfl ⟨by kernel_rfl, by kernel_rfl, rfl⟩ trivial (stab_of (Hle.refl _) trivial) (R.ldHE (cs := [.int .i64 y_13.At, .int .u32 (y_13.Birth.toNat : Int), .int .u32 (y_13.Iv.toNat : Int), .int .u32 (y_13.Tag.toNat : Int), .int .u32 (y_13.Sum.toNat : Int)]) (k := 0) (vs := [.int .i64 y_13.At, .int .u32 (y_13.Birth.toNat : Int), .int .u32 (y_13.Iv.toNat : Int), .int .u32 (y_13.Tag.toNat : Int), .int .u32 (y_13.Sum.toNat : Int)]) S32 rfl hc_21 rfl rfl) rfl ?_
          refine JA.val ⟨by kernel_rfl, by kernel_rfl⟩ (calm_only _) (i := 4) rfl ⟨by kernel_rfl, by kernel_rfl, rfl⟩ trivial (stab_of (Hle.refl _) trivial) (R.move rfl) rfl ?_
          refine JA.val ⟨by kernel_rfl, by kernel_rfl⟩ (calm_only _) (i := 5) rfl ⟨by kernel_rfl, by kernel_rfl, rfl⟩ trivial (stab_of (Hle.refl _) trivial) (R.move rfl) rfl ?_
          obtain ⟨y_22, hN_23, hx⟩ := idx_some hx
          obtain ⟨b_24, o_25, cs_26, hE_27, hR_28, hl_29, hc_30⟩ := IsSlice.elem ha_4 hN_23
          obtain rfl := hR_28
          refine JA.val ⟨by kernel_rfl, by kernel_rfl⟩ (calm_only _) (i := 6) rfl ⟨by kernel_rfl, by kernel_rfl, rfl⟩ trivial (stab_of (Hle.refl _) trivial) (R.ix U22 S32 rfl rfl hE_27) rfl ?_
          refine JA.val ⟨by kernel_rfl, by kernel_rfl⟩ (calm_only _) (i := 7) rfl ⟨by kernel_rfl, by kernel_rfl, rfl⟩ trivial (stab_of (Hle.refl _) trivial) (R.ldHE (cs := [.int .i64 y_22.At, .int .u32 (y_22.Birth.toNat : Int), .int .u32 (y_22.Iv.toNat : Int), .int .u32 (y_22.Tag.toNat : Int), .int .u32 (y_22.Sum.toNat : Int)]) (k := 0) (vs := [.int .i64 y_22.At, .int .u32 (y_22.Birth.toNat : Int), .int .u32 (y_22.Iv.toNat : Int), .int .u32 (y_22.Tag.toNat : Int), .int .u32 (y_22.Sum.toNat : Int)]) S32 rfl hc_30 rfl rfl) rfl ?_
          refine JA.val ⟨by kernel_rfl, by kernel_rfl⟩ (calm_only _) (i := 8) rfl ⟨by kernel_rfl, by kernel_rfl, rfl⟩ trivial (stab_of (Hle.refl _) trivial) (R.neqAgg QU32 QP32 QG32 QF32 rfl rfl (EqF.i (by decide) S3 U3 rfl rfl (EqF.u32 (a := y_13.Birth) (b := y_22.Birth) (by decide) S30 U30 rfl rfl (EqF.u32 (a := y_13.Iv) (b := y_22.Iv) (by decide) S30 U30 rfl rfl (EqF.u32 (a := y_13.Tag) (b := y_22.Tag) (by decide) S30 U30 rfl rfl (EqF.u32 (a := y_13.Sum) (b := y_22.Sum) (by decide) S30 U30 rfl rfl EqF.nil)))))) rfl ?_
          refine JA.doneN (by kernel_rfl) ?_
          refine JN.next ?_
          refine JC.condB rfl (fun c_31 => ?_) (fun c_31 => ?_)
          · replace hx := cond_t c_31 hx
            refine JC.seq ?_
            refine JC.region ?_
            refine JL.val rfl rfl (R.assign rfl) ?_
            refine JL.nil ?_
            refine JN.next ?_
            refine JC.ret ?_
            refine JN.blkR ?_
            refine JN.passR ?_
            obtain rfl := run_done hd_12 hx
            refine JN.passR ?_
            refine JN.blkR ?_
            clear hx; have hx := hxo_7
            simp only [Sum.elim_inl, Sum.elim_inr] at hx
            refine JN.passR ?_
            refine JN.passR ?_
            refine JN.outP (vs := [.bool false]) (K := []) (rst := []) (.inl rfl) rfl rfl (Res.tmp rfl rfl) picks0 ?_
            obtain rfl := Option.some.inj hx
            exact ⟨rfl, rfl, rfl, trivial⟩
          · replace hx := cond_f c_31 hx
            refine JC.skip ?_
            refine JN.blkN ?_
            refine JN.next ?_
            refine JC.region ?_
            refine JL.val rfl rfl (R.move rfl) ?_
            refine JL.val rfl rfl (R.inc rfl rfl (of_decide_eq_true c_12) (IsSlice.lenI ha_2)) ?_
            refine JL.val rfl rfl (R.assign rfl) ?_
            refine JL.nil ?_
            replace hx := run_next hd_12 hx
            exact JN.cut ⟨s_9 + 1, rfl, rfl, rfl, hx⟩ ⟨rfl, rfl, rfl, trivial⟩ rfl rfl
        · replace hx := cond_f c_12 hx
          refine JC.exit ?_
          refine JN.passX ?_
          obtain rfl := run_done hd_12 hx
          refine JN.passX ?_
          refine JN.exitSame ?_
          exact JN.cut ⟨(), rfl, rfl, rfl, rfl⟩ trivial rfl rfl

set_option maxHeartbeats 1000000 in
theorem ref16_Check_ok (p_1 : List Ptr) (H : Heaplet) {aoa_2 : Option Addr} {na_2 : Nat} {capa_2 : Nat} (ha_2 : IsSlice H R_Ptr 5 (.slice aoa_2 na_2 capa_2) p_1) (r : Int) (hx : ref16_Check p_1 = some r) :
    Does Try.prog 17 #[.slice aoa_2 na_2 capa_2] [] H (fun u K' H' => u = .int .i64 r ∧ K' = [] ∧ H = H' ∧ True) := by
  refine Does.enterL (vs := [.slice aoa_2 na_2 capa_2]) (l := [(0, .slice aoa_2 na_2 capa_2)]) Try.func17 rfl rfl ⟨rfl, trivial⟩ (fun w hlt => ?_)
  rw [ref16_Check.eq_1] at hx
  refine JC.seq ?_
  refine JC.region ?_
  refine JL.val rfl rfl (R.assign rfl) ?_
  refine JL.nil ?_
  refine JN.next ?_
  refine JC.seq ?_
  refine JC.seq ?_
  refine JC.region ?_
  refine JL.val rfl rfl (R.move rfl) ?_
  obtain ⟨x_3, hr_4, hx⟩ := bnd_some hx
  refine JL.callC (vs := [_]) (args := [_]) (K := []) (rst := []) E27 rfl rfl rfl picks0 (ref16_May_ok p_1 _ ha_2 _ hr_4) rfl (fun u_5 Ku_5 Hu_5 hRu_5 hleu_5 hfu_5 => ?_)
  obtain ⟨rfl, rfl, rfl, -⟩ := hRu_5
  refine JL.val rfl rfl (R.not rfl) ?_
  refine JL.nil ?_
  refine JN.next ?_
  refine JC.condB rfl (fun c_6 => ?_) (fun c_6 => ?_)
  · replace hx := cond_t c_6 hx
    refine JC.seq ?_
    refine JC.region ?_
    refine JL.val rfl rfl (R.assign rfl) ?_
    refine JL.nil ?_
    refine JN.next ?_
    refine JC.ret ?_
    refine JN.passR ?_
    refine JN.outP (vs := [.int .i64 8]) (K := []) (rst := []) (.inl rfl) rfl rfl (Res.tmp rfl rfl) picks0 ?_
    obtain rfl := Option.some.inj hx
    exact ⟨rfl, rfl, rfl, trivial⟩
  · replace hx := cond_f c_6 hx
    refine JC.skip ?_
    refine JN.next ?_
    refine JC.seq ?_
    refine JC.region ?_
    refine JL.val rfl rfl (R.assign rfl) ?_
    refine JL.nil ?_
    refine JN.next ?_
    refine JC.ret ?_
    refine JN.outP (vs := [.int .i64 0]) (K := []) (rst := []) (.inl rfl) rfl rfl (Res.tmp rfl rfl) picks0 ?_
    obtain rfl := Option.some.inj hx
    exact ⟨rfl, rfl, rfl, trivial⟩

set_option maxHeartbeats 1000000 in
theorem law16_spoil_ok (p_1 : List Ptr) (H : Heaplet) {aor_2 : Option Addr} {nr_2 : Nat} {capr_2 : Nat} {Kr_2 : Own} (hr_2 : RowOf H R_Ptr 0 32 5 (.slice aor_2 nr_2 capr_2) p_1 Kr_2) (r : Unit) (hx : law16_spoil p_1 = some r) :
    Does Try.prog 18 #[.slice aor_2 nr_2 capr_2] [Kr_2] H (fun u K' H' => u = .tuple #[] ∧ K' = [] ∧ H = H' ∧ True) := by
  refine Does.enterL (vs := [.slice aor_2 nr_2 capr_2]) (l := [(0, .slice aor_2 nr_2 capr_2)]) Try.func18 rfl rfl ⟨rfl, trivial⟩ (fun w hlt => ?_)
  replace hr_2 := RowOf.const (H2 := New H H) R_Ptr.const hr_2
  rw [law16_spoil.eq_1] at hx
  refine JC.seq ?_
  refine JC.region ?_
  refine JL.val rfl rfl (R.assign rfl) ?_
  refine JL.nil ?_
  refine JN.next ?_
  obtain ⟨t_3, ht_5, hx⟩ := bnd_some hx
  refine JC.cut (fun l o g => l = [] ∧ o = [] ∧ H = g) ?_ ?_
  · rintro _ _ _ ⟨rfl, rfl, rfl⟩
    refine JN.outP (vs := []) (K := []) (rst := []) (.inr rfl) rfl rfl rfl picks0 ?_
    obtain rfl := Option.some.inj hx
    exact ⟨rfl, rfl, rfl, trivial⟩
  · have hxo_4 := hx; clear hx; have hx := ht_5; clear ht_5
    refine JC.block ?_
    refine JC.loopI (fun n l o g => ∃ s_6 : List Ptr × Nat, ∃ Kr_9 : Own, l = [(0, .slice aor_2 nr_2 capr_2), (2, .int .i64 ((s_6.2 : Nat) : Int))] ∧ o = [Kr_9] ∧ H = g ∧ run law16_spoil_l1 n s_6 = some t_3 ∧ RowOf (New H H) R_Ptr 0 32 5 (.slice aor_2 nr_2 capr_2) s_6.1 Kr_9) FUEL ?_ ⟨(p_1, 0), Kr_2, rfl, rfl, rfl, hx, hr_2⟩ ⟨rfl, rfl, trivial⟩ ?_
    · rintro _ _ _ ⟨s_6, Kr_9, rfl, rfl, rfl, hn_7, hr_9⟩
      exact run_zero hn_7
    · rintro n_8 _ _ _ ⟨s_6, Kr_9, rfl, rfl, rfl, hn_7, hr_9⟩
      clear hx; obtain ⟨oo_11, hx, hd_10⟩ := run_some hn_7
      rw [law16_spoil_l1.eq_1] at hx
      refine JC.seq ?_
      refine JC.seq ?_
      refine JC.region ?_
      refine JL.val rfl rfl (R.move rfl) ?_
      refine JL.val rfl rfl (R.move rfl) ?_
      refine JL.val rfl rfl (R.lenL U22 rfl (RowOf.long hr_9)) ?_
      refine JL.val rfl rfl (R.lss_i rfl rfl) ?_
      refine JL.nil ?_
      refine JN.next ?_
      refine JC.condB rfl (fun c_10 => ?_) (fun c_10 => ?_)
      · replace hx := cond_t c_10 hx
        refine JC.skip ?_
        refine JN.next ?_
        refine JC.seq ?_
        refine JC.block ?_
        refine JC.region ?_
        refine JL.val rfl rfl (R.move rfl) ?_
        refine JL.val rfl rfl (R.move rfl) ?_
        obtain ⟨y_11, hN_12, hx⟩ := idx_some hx
        obtain ⟨b_13, o_14, cs_15, cur_20, hK_21, hE_16, hR_17, hl_18, hc_19⟩ := RowOf.elem hr_9 hN_12
        subst hK_21
        obtain rfl := hR_17
        refine JL.val rfl rfl (R.ix U22 S32 rfl rfl hE_16) ?_
        refine JL.val rfl rfl (R.fa F32_0 rfl) ?_
        obtain ⟨m_22, hm_23, hi_24, hx⟩ := setI_some hx
        refine JL.stP 0 0 (j := ((s_6.2 : Nat) : Int)) (y' := Ptr.mk 0 y_11.Birth y_11.Iv y_11.Tag y_11.Sum) (cs := [.int .i64 y_11.At, .int .u32 (y_11.Birth.toNat : Int), .int .u32 (y_11.Iv.toNat : Int), .int .u32 (y_11.Tag.toNat : Int), .int .u32 (y_11.Sum.toNat : Int)]) S3 rfl hr_9 rfl hE_16 rfl rfl hc_19 rfl (rfl) R_Ptr.one (Nat.le_of_ble_eq_true rfl) hm_23 (fun Kr_25 hr_25 hlr_25 => ?_)
        refine JL.nil ?_
        refine JN.blkN ?_
        refine JN.next ?_
        refine JC.region ?_
        refine JL.val rfl rfl (R.move rfl) ?_
        refine JL.val rfl rfl (R.inc rfl rfl (of_decide_eq_true c_10) (RowOf.lenI hr_9)) ?_
        refine JL.val rfl rfl (R.assign rfl) ?_
        refine JL.nil ?_
        replace hx := run_next hd_10 hx
        exact JN.cut ⟨(m_22, s_6.2 + 1), Kr_25, rfl, rfl, rfl, hx, hr_25⟩ ⟨rfl, rfl, trivial⟩ rfl rfl
      · replace hx := cond_f c_10 hx
        refine JC.exit ?_
        refine JN.passX ?_
        obtain rfl := run_done hd_10 hx
        refine JN.passX ?_
        refine JN.exitSame ?_
        refine JN.forget 0 ?_
        exact JN.cut ⟨rfl, rfl, rfl⟩ trivial rfl rfl

set_option maxHeartbeats 1000000 in
theorem law16_DeadLists_ok (p_1 : List Ptr) (p_3 : List Ptr) (p_5 : Ptr) (p_6 : UInt32) (H : Heaplet) {aoa_2 : Option Addr} {na_2 : Nat} {capa_2 : Nat} {aoa_4 : Option Addr} {na_4 : Nat} {capa_4 : Nat} (ha_2 : IsSlice H R_Ptr 5 (.slice aoa_2 na_2 capa_2) p_1) (ha_4 : IsSlice H R_Ptr 5 (.slice aoa_4 na_4 capa_4) p_3) (r : Bool) (hx : law16_DeadLists p_1 p_3 p_5 p_6 = some r) :
    Does Try.prog 4 #[.slice aoa_2 na_2 capa_2, .slice aoa_4 na_4 capa_4, .agg #[.int .i64 p_5.At, .int .u32 (p_5.Birth.toNat : Int), .int .u32 (p_5.Iv.toNat : Int), .int .u32 (p_5.Tag.toNat : Int), .int .u32 (p_5.Sum.toNat : Int)], .int .u32 (p_6.toNat : Int)] [] H (fun u K' H' => u = .bool r ∧ K' = [] ∧ H = H' ∧ True) := by
  refine Does.enterL (vs := [.slice aoa_2 na_2 capa_2, .slice aoa_4 na_4 capa_4, .agg #[.int .i64 p_5.At, .int .u32 (p_5.Birth.toNat : Int), .int .u32 (p_5.Iv.toNat : Int), .int .u32 (p_5.Tag.toNat : Int), .int .u32 (p_5.Sum.toNat : Int)], .int .u32 (p_6.toNat : Int)]) (l := [(0, .slice aoa_2 na_2 capa_2), (1, .slice aoa_4 na_4 capa_4), (2, .agg #[.int .i64 p_5.At, .int .u32 (p_5.Birth.toNat : Int), .int .u32 (p_5.Iv.toNat : Int), .int .u32 (p_5.Tag.toNat : Int), .int .u32 (p_5.Sum.toNat : Int)]), (3, .int .u32 (p_6.toNat : Int))]) Try.func4 rfl rfl ⟨rfl, rfl, rfl, rfl, trivial⟩ (fun w hlt => ?_)
  rw [law16_DeadLists.eq_1] at hx
  refine JC.seq ?_
  refine JC.region ?_
  refine JL.box rfl rfl (fun b_7 hb_7 => ?_)
  refine JL.val rfl rfl (R.assign rfl) ?_
  refine JL.nil ?_
  refine JN.next ?_
  refine JC.seq ?_
  refine JC.seq ?_
  refine JC.region ?_
  refine JL.val rfl rfl (R.move rfl) ?_
  refine JL.val rfl rfl (R.lenL U22 rfl (IsSlice.long ha_2)) ?_
  refine JL.val rfl rfl (R.gtr_i rfl rfl) ?_
  refine JL.val rfl rfl (R.move rfl) ?_
  refine JL.gSplit (t := 28) rfl (fun c_8 => ?_) (fun c_8 => ?_)
  · replace hx := cond_t c_8 hx
    refine JL.gNo rfl rfl rfl rfl rfl ?_
    refine JL.gNo rfl rfl rfl rfl rfl ?_
    refine JL.gNo rfl rfl rfl rfl rfl ?_
    refine JL.val rfl rfl (R.pickT rfl rfl) ?_
    refine JL.nil ?_
    refine JN.next ?_
    refine JC.condT rfl ?_
    refine JC.seq ?_
    refine JC.region ?_
    refine JL.val rfl rfl (R.assign rfl) ?_
    refine JL.nil ?_
    refine JN.next ?_
    refine JC.ret ?_
    refine JN.passR ?_
    refine JN.outP (vs := [.bool true]) (K := []) (rst := [_]) (.inl rfl) rfl rfl (Res.tmp rfl rfl) picks0 ?_
    obtain rfl := Option.some.inj hx
    exact ⟨rfl, rfl, rfl, trivial⟩
  · replace hx := cond_f c_8 hx
    refine JL.gYes rfl rfl rfl ?_
    refine JL.val rfl rfl (R.move rfl) ?_
    refine JL.gYes rfl rfl rfl ?_
    refine JL.val rfl rfl (R.lenL U22 rfl (IsSlice.long ha_4)) ?_
    refine JL.gYes rfl rfl rfl ?_
    refine JL.val rfl rfl (R.gtr_i rfl rfl) ?_
    refine JL.val rfl rfl (R.pickF rfl rfl) ?_
    refine JL.nil ?_
    refine JN.next ?_
    refine JC.condB rfl (fun c_9 => ?_) (fun c_9 => ?_)
    · replace hx := cond_t c_9 hx
      refine JC.seq ?_
      refine JC.region ?_
      refine JL.val rfl rfl (R.assign rfl) ?_
      refine JL.nil ?_
      refine JN.next ?_
      refine JC.ret ?_
      refine JN.passR ?_
      refine JN.outP (vs := [.bool true]) (K := []) (rst := [_]) (.inl rfl) rfl rfl (Res.tmp rfl rfl) picks0 ?_
      obtain rfl := Option.some.inj hx
      exact ⟨rfl, rfl, rfl, trivial⟩
    · replace hx := cond_f c_9 hx
      refine JC.skip ?_
      refine JN.next ?_
      refine JC.seq ?_
      refine JC.region ?_
      refine JL.val rfl rfl (R.move rfl) ?_
      refine JL.seg0 ?_
      obtain ⟨q_11, hm_12, hl_13, hx⟩ := app_some hx
      refine JL.appF (HF := (New H H)) 0 U22 I32 rfl rfl (RowOf.nil _ R_Ptr _ _ _) rfl (SrcF.sliceC R_Ptr.const R_Ptr.one U22 ha_2) hm_12 hl_13 rfl (Nat.le_refl _) rfl (fun vr_14 Kr_14 hr_14 => ?_)
      obtain ⟨aor_14, capr_14, rfl⟩ := RowOf.val hr_14
      refine JL.val rfl rfl (R.move rfl) ?_
      refine JL.seg0 ?_
      obtain ⟨q_16, hm_17, hl_18, hx⟩ := app_some hx
      refine JL.appF (HF := (New H H)) 0 U22 I32 rfl rfl (RowOf.nil _ R_Ptr _ _ _) rfl (SrcF.sliceC R_Ptr.const R_Ptr.one U22 ha_4) hm_17 hl_18 rfl (Nat.le_refl _) rfl (fun vr_19 Kr_19 hr_19 => ?_)
      obtain ⟨aor_19, capr_19, rfl⟩ := RowOf.val hr_19
      refine JL.val rfl rfl (R.assign rfl) ?_
      refine JL.val rfl rfl (R.assign rfl) ?_
      refine JL.nil ?_
      refine JN.next ?_
      refine JC.seq ?_
      refine JC.region ?_
      refine JL.val rfl rfl (R.move rfl) ?_
      refine JL.val rfl rfl (R.ldoN 2 (vs := [.int .i64 p_5.At, .int .u32 (p_5.Birth.toNat : Int), .int .u32 (p_5.Iv.toNat : Int), .int .u32 (p_5.Tag.toNat : Int), .int .u32 (p_5.Sum.toNat : Int)]) S32 rfl rfl rfl rfl) ?_
      obtain ⟨x_23, hr_24, hx⟩ := bnd_some hx
      refine JL.callL3 (vs := [_, _]) E11 rfl rfl (fun H_22 hle_21 hl_20 => dead_Add_ok q_11 p_5 _ (Lent.row' 1 hl_20 R_Ptr.mono hle_21 rfl (hr_14.old R_Ptr.mono)) _ hr_24) rfl (fun _ _ _ _ hR_26 hf_27 => ?_)
      obtain ⟨aor_25, nr_25, capr_25, Kr_25, rfl, rfl, rfl, hr_25, -, -⟩ := hR_26
      replace hr_25 := RowOf.base (RowOf.const (H2 := New H H) R_Ptr.const hr_25) (fun p hp => hf_27 p (mem_seg 0 rfl hp))
      refine JL.val rfl rfl (R.move rfl) ?_
      refine JL.val rfl rfl (R.extract rfl rfl) ?_
      refine JL.val rfl rfl (R.extract rfl rfl) ?_
      refine JL.val rfl rfl (R.assign rfl) ?_
      refine JL.val rfl rfl (R.assign rfl) ?_
      refine JL.nil ?_
      refine JN.next ?_
      refine JC.seq ?_
      refine JC.region ?_
      refine JL.val rfl rfl (R.move rfl) ?_
      refine JL.val rfl rfl (R.ldoN 3 (vs := [.int .i64 p_5.At, .int .u32 (p_5.Birth.toNat : Int), .int .u32 (p_5.Iv.toNat : Int), .int .u32 (p_5.Tag.toNat : Int), .int .u32 (p_5.Sum.toNat : Int)]) S32 rfl rfl rfl rfl) ?_
      obtain ⟨x_28, hr_29, hx⟩ := bnd_some hx
      refine JL.callC (vs := [_, _]) (args := [_, _]) (K := []) (rst := [_, _, _, _]) E12 rfl rfl rfl picks0 (ref16_Add_ok p_1 p_5 _ ha_2 _ hr_29) rfl (fun u_30 Ku_30 Hu_30 hRu_30 hleu_30 hfu_30 => ?_)
      obtain ⟨aor_31, nr_31, capr_31, Kr_31, rfl, rfl, rfl, hr_31, hnewr_31, -⟩ := hRu_30
      replace hr_31 := (RowOf.base (RowOf.const (H2 := New H H) R_Ptr.const hr_31) (fun p hp => (hfu_30 p (mem_seg 0 rfl hp)).resolve_left (hnewr_31 p hp)))
      refine JL.val rfl rfl (R.move rfl) ?_
      refine JL.val rfl rfl (R.extract rfl rfl) ?_
      refine JL.val rfl rfl (R.extract rfl rfl) ?_
      refine JL.val rfl rfl (R.assign rfl) ?_
      refine JL.val rfl rfl (R.assign rfl) ?_
      refine JL.nil ?_
      refine JN.next ?_
      refine JC.seq ?_
      refine JC.region ?_
      refine JL.val rfl rfl (R.move rfl) ?_
      refine JL.val rfl rfl (R.move rfl) ?_
      obtain ⟨x_35, hr_36, hx⟩ := bnd_some hx
      refine JL.callL3 (vs := [_, _]) E13 rfl rfl (fun H_34 hle_33 hl_32 => dead_Split_ok q_11 p_6 _ (Lent.row' 3 hl_32 R_Ptr.mono hle_33 rfl (hr_14.old R_Ptr.mono)) _ hr_36) rfl (fun _ _ _ _ hR_39 hf_40 => ?_)
      obtain ⟨aor_37, nr_37, capr_37, Kr_37, aor_38, nr_38, capr_38, Kr_38, rfl, rfl, rfl, hr_37, -, hr_38, -, -⟩ := hR_39
      replace hr_37 := RowOf.base (RowOf.const (H2 := New H H) R_Ptr.const hr_37) (fun p hp => hf_40 p (mem_seg 0 rfl hp))
      replace hr_38 := RowOf.base (RowOf.const (H2 := New H H) R_Ptr.const hr_38) (fun p hp => hf_40 p (mem_seg 1 rfl hp))
      refine JL.val rfl rfl (R.move rfl) ?_
      refine JL.val rfl rfl (R.extract rfl rfl) ?_
      refine JL.val rfl rfl (R.extract rfl rfl) ?_
      refine JL.val rfl rfl (R.extract rfl rfl) ?_
      refine JL.val rfl rfl (R.assign rfl) ?_
      refine JL.val rfl rfl (R.assign rfl) ?_
      refine JL.val rfl rfl (R.assign rfl) ?_
      refine JL.nil ?_
      refine JN.next ?_
      refine JC.seq ?_
      refine JC.region ?_
      refine JL.val rfl rfl (R.move rfl) ?_
      refine JL.val rfl rfl (R.move rfl) ?_
      obtain ⟨x_41, hr_42, hx⟩ := bnd_some hx
      refine JL.callC (vs := [_, _]) (args := [_, _]) (K := []) (rst := [_, _, _, _, _, _, _]) E14 rfl rfl rfl picks0 (ref16_Split_ok p_1 p_6 _ ha_2 _ hr_42) rfl (fun u_43 Ku_43 Hu_43 hRu_43 hleu_43 hfu_43 => ?_)
      obtain ⟨aor_44, nr_44, capr_44, Kr_44, aor_45, nr_45, capr_45, Kr_45, rfl, rfl, rfl, hr_44, hnewr_44, hr_45, hnewr_45, -⟩ := hRu_43
      replace hr_44 := (RowOf.base (RowOf.const (H2 := New H H) R_Ptr.const hr_44) (fun p hp => (hfu_43 p (mem_seg 0 rfl hp)).resolve_left (hnewr_44 p hp)))
      replace hr_45 := (RowOf.base (RowOf.const (H2 := New H H) R_Ptr.const hr_45) (fun p hp => (hfu_43 p (mem_seg 1 rfl hp)).resolve_left (hnewr_45 p hp)))
      refine JL.val rfl rfl (R.move rfl) ?_
      refine JL.val rfl rfl (R.extract rfl rfl) ?_
      refine JL.val rfl rfl (R.extract rfl rfl) ?_
      refine JL.val rfl rfl (R.extract rfl rfl) ?_
      refine JL.val rfl rfl (R.assign rfl) ?_
      refine JL.val rfl rfl (R.assign rfl) ?_
      refine JL.val rfl rfl (R.assign rfl) ?_
      refine JL.nil ?_
      refine JN.next ?_
      refine JC.seq ?_
      refine JC.region ?_
      refine JL.val rfl rfl (R.move rfl) ?_
      refine JL.val rfl rfl (R.move rfl) ?_
      obtain ⟨x_49, hr_50, hx⟩ := bnd_some hx
      refine JL.callL3 (vs := [_, _]) E8 rfl rfl (fun H_48 hle_47 hl_46 => dead_Join_ok q_11 q_16 _ (Lent.row' 7 hl_46 R_Ptr.mono hle_47 rfl (hr_14.old R_Ptr.mono)) (Lent.row' 6 hl_46 R_Ptr.mono hle_47 rfl (hr_19.old R_Ptr.mono)) _ hr_50) rfl (fun _ _ _ _ hR_52 hf_53 => ?_)
      obtain ⟨aor_51, nr_51, capr_51, Kr_51, rfl, rfl, rfl, hr_51, -, -⟩ := hR_52
      replace hr_51 := RowOf.base (RowOf.const (H2 := New H H) R_Ptr.const hr_51) (fun p hp => hf_53 p (mem_seg 0 rfl hp))
      refine JL.val rfl rfl (R.move rfl) ?_
      refine JL.val rfl rfl (R.extract rfl rfl) ?_
      refine JL.val rfl rfl (R.extract rfl rfl) ?_
      refine JL.val rfl rfl (R.assign rfl) ?_
      refine JL.val rfl rfl (R.assign rfl) ?_
      refine JL.nil ?_
      refine JN.next ?_
      refine JC.seq ?_
      refine JC.region ?_
      refine JL.val rfl rfl (R.move rfl) ?_
      refine JL.val rfl rfl (R.move rfl) ?_
      obtain ⟨x_54, hr_55, hx⟩ := bnd_some hx
      refine JL.callC (vs := [_, _]) (args := [_, _]) (K := []) (rst := [_, _, _, _, _, _, _, _, _, _]) E15 rfl rfl rfl picks0 (ref16_Join_ok p_1 p_3 _ ha_2 ha_4 _ hr_55) rfl (fun u_56 Ku_56 Hu_56 hRu_56 hleu_56 hfu_56 => ?_)
      obtain ⟨aor_57, nr_57, capr_57, Kr_57, rfl, rfl, rfl, hr_57, hnewr_57, -⟩ := hRu_56
      replace hr_57 := (RowOf.base (RowOf.const (H2 := New H H) R_Ptr.const hr_57) (fun p hp => (hfu_56 p (mem_seg 0 rfl hp)).resolve_left (hnewr_57 p hp)))
      refine JL.val rfl rfl (R.move rfl) ?_
      refine JL.val rfl rfl (R.extract rfl rfl) ?_
      refine JL.val rfl rfl (R.extract rfl rfl) ?_
      refine JL.val rfl rfl (R.assign rfl) ?_
      refine JL.val rfl rfl (R.assign rfl) ?_
      refine JL.nil ?_
      refine JN.next ?_
      refine JC.seq ?_
      refine JC.seq ?_
      refine JC.region ?_
      refine JL.val rfl rfl (R.move rfl) ?_
      refine JL.val rfl rfl (R.move rfl) ?_
      obtain ⟨x_61, hr_62, hx⟩ := bnd_some hx
      refine JL.callL2 (vs := [_, _]) (v := .bool x_61) E16 rfl rfl (fun H_60 hle_59 hl_58 => Does.mono (ref10_Same_ok x_23.1 x_28.1 _ (Lent.row' 7 hl_58 R_Ptr.mono hle_59 rfl (hr_25.old R_Ptr.mono)) (Lent.row' 6 hl_58 R_Ptr.mono hle_59 rfl (hr_31.old R_Ptr.mono)) _ hr_62) (fun _ _ _ h => h.1)) rfl ?_
      refine JL.val rfl rfl (R.not rfl) ?_
      refine JL.val rfl rfl (R.move rfl) ?_
      refine JL.gSplit (t := 79) rfl (fun c_63 => ?_) (fun c_63 => ?_)
      · replace hx := cond_t c_63 hx
        refine JL.gNo rfl rfl rfl rfl rfl ?_
        refine JL.gNo rfl rfl rfl rfl rfl ?_
        refine JL.gNo rfl rfl rfl rfl rfl ?_
        refine JL.val rfl rfl (R.pickT rfl rfl) ?_
        refine JL.val rfl rfl (R.move rfl) ?_
        refine JL.gNo rfl rfl rfl rfl rfl ?_
        refine JL.gNo rfl rfl rfl rfl rfl ?_
        refine JL.gNo rfl rfl rfl rfl rfl ?_
        refine JL.gNo rfl rfl rfl rfl rfl ?_
        refine JL.val rfl rfl (R.pickT rfl rfl) ?_
        refine JL.val rfl rfl (R.move rfl) ?_
        refine JL.gNo rfl rfl rfl rfl rfl ?_
        refine JL.gNo rfl rfl rfl rfl rfl ?_
        refine JL.gNo rfl rfl rfl rfl rfl ?_
        refine JL.gNo rfl rfl rfl rfl rfl ?_
        refine JL.val rfl rfl (R.pickT rfl rfl) ?_
        refine JL.val rfl rfl (R.move rfl) ?_
        refine JL.gNo rfl rfl rfl rfl rfl ?_
        refine JL.gNo rfl rfl rfl rfl rfl ?_
        refine JL.gNo rfl rfl rfl rfl rfl ?_
        refine JL.val rfl rfl (R.pickT rfl rfl) ?_
        refine JL.val rfl rfl (R.move rfl) ?_
        refine JL.gNo rfl rfl rfl rfl rfl ?_
        refine JL.gNo rfl rfl rfl rfl rfl ?_
        refine JL.gNo rfl rfl rfl rfl rfl ?_
        refine JL.gNo rfl rfl rfl rfl rfl ?_
        refine JL.val rfl rfl (R.pickT rfl rfl) ?_
        refine JL.val rfl rfl (R.move rfl) ?_
        refine JL.gNo rfl rfl rfl rfl rfl ?_
        refine JL.gNo rfl rfl rfl rfl rfl ?_
        refine JL.gNo rfl rfl rfl rfl rfl ?_
        refine JL.val rfl rfl (R.pickT rfl rfl) ?_
        refine JL.val rfl rfl (R.move rfl) ?_
        refine JL.gNo rfl rfl rfl rfl rfl ?_
        refine JL.gNo rfl rfl rfl rfl rfl ?_
        refine JL.gNo rfl rfl rfl rfl rfl ?_
        refine JL.gNo rfl rfl rfl rfl rfl ?_
        refine JL.gNo rfl rfl rfl rfl rfl ?_
        refine JL.val rfl rfl (R.pickT rfl rfl) ?_
        refine JL.nil ?_
        refine JN.next ?_
        refine JC.condT rfl ?_
        refine JC.seq ?_
        refine JC.region ?_
        refine JL.val rfl rfl (R.assign rfl) ?_
        refine JL.nil ?_
        refine JN.next ?_
        refine JC.ret ?_
        refine JN.passR ?_
        refine JN.outP (vs := [.bool false]) (K := []) (rst := [_, _, _, _, _, _, _, _, _, _, _]) (.inl rfl) rfl rfl (Res.tmp rfl rfl) picks0 ?_
        obtain rfl := Option.some.inj hx
        exact ⟨rfl, rfl, rfl, trivial⟩
      · replace hx := cond_f c_63 hx
        refine JL.gYes rfl rfl rfl ?_
        refine JL.val rfl rfl (R.move rfl) ?_
        refine JL.gYes rfl rfl rfl ?_
        refine JL.val rfl rfl (R.move rfl) ?_
        refine JL.gYes rfl rfl rfl ?_
        refine JL.val rfl rfl (R.neq_i rfl rfl) ?_
        refine JL.val rfl rfl (R.pickF rfl rfl) ?_
        refine JL.val rfl rfl (R.move rfl) ?_
        refine JL.gSplit (t := 84) rfl (fun c_64 => ?_) (fun c_64 => ?_)
        · replace hx := cond_t c_64 hx
          refine JL.gNo rfl rfl rfl rfl rfl ?_
          refine JL.gNo rfl rfl rfl rfl rfl ?_
          refine JL.gNo rfl rfl rfl rfl rfl ?_
          refine JL.gNo rfl rfl rfl rfl rfl ?_
          refine JL.val rfl rfl (R.pickT rfl rfl) ?_
          refine JL.val rfl rfl (R.move rfl) ?_
          refine JL.gNo rfl rfl rfl rfl rfl ?_
          refine JL.gNo rfl rfl rfl rfl rfl ?_
          refine JL.gNo rfl rfl rfl rfl rfl ?_
          refine JL.gNo rfl rfl rfl rfl rfl ?_
          refine JL.val rfl rfl (R.pickT rfl rfl) ?_
          refine JL.val rfl rfl (R.move rfl) ?_
          refine JL.gNo rfl rfl rfl rfl rfl ?_
          refine JL.gNo rfl rfl rfl rfl rfl ?_
          refine JL.gNo rfl rfl rfl rfl rfl ?_
          refine JL.val rfl rfl (R.pickT rfl rfl) ?_
          refine JL.val rfl rfl (R.move rfl) ?_
          refine JL.gNo rfl rfl rfl rfl rfl ?_
          refine JL.gNo rfl rfl rfl rfl rfl ?_
          refine JL.gNo rfl rfl rfl rfl rfl ?_
          refine JL.gNo rfl rfl rfl rfl rfl ?_
          refine JL.val rfl rfl (R.pickT rfl rfl) ?_
          refine JL.val rfl rfl (R.move rfl) ?_
          refine JL.gNo rfl rfl rfl rfl rfl ?_
          refine JL.gNo rfl rfl rfl rfl rfl ?_
          refine JL.gNo rfl rfl rfl rfl rfl ?_
          refine JL.val rfl rfl (R.pickT rfl rfl) ?_
          refine JL.val rfl rfl (R.move rfl) ?_
          refine JL.gNo rfl rfl rfl rfl rfl ?_
          refine JL.gNo rfl rfl rfl rfl rfl ?_
          refine JL.gNo rfl rfl rfl rfl rfl ?_
          refine JL.gNo rfl rfl rfl rfl rfl ?_
          refine JL.gNo rfl rfl rfl rfl rfl ?_
          refine JL.val rfl rfl (R.pickT rfl rfl) ?_
          refine JL.nil ?_
          refine JN.next ?_
          refine JC.condT rfl ?_
          refine JC.seq ?_
          refine JC.region ?_
          refine JL.val rfl rfl (R.assign rfl) ?_
          refine JL.nil ?_
          refine JN.next ?_
          refine JC.ret ?_
          refine JN.passR ?_
          refine JN.outP (vs := [.bool false]) (K := []) (rst := [_, _, _, _, _, _, _, _, _, _, _]) (.inl rfl) rfl rfl (Res.tmp rfl rfl) picks0 ?_
          obtain rfl := Option.some.inj hx
          exact ⟨rfl, rfl, rfl, trivial⟩
        · replace hx := cond_f c_64 hx
          refine JL.gYes rfl rfl rfl ?_
          refine JL.val rfl rfl (R.move rfl) ?_
          refine JL.gYes rfl rfl rfl ?_
          refine JL.val rfl rfl (R.move rfl) ?_
          refine JL.gYes rfl rfl rfl ?_
          obtain ⟨x_68, hr_69, hx⟩ := bnd_some hx
          refine JL.callL2 (vs := [_, _]) (v := .bool x_68) E16 rfl rfl (fun H_67 hle_66 hl_65 => Does.mono (ref10_Same_ok x_35.1 x_41.1 _ (Lent.row' 4 hl_65 R_Ptr.mono hle_66 rfl (hr_37.old R_Ptr.mono)) (Lent.row' 2 hl_65 R_Ptr.mono hle_66 rfl (hr_44.old R_Ptr.mono)) _ hr_69) (fun _ _ _ h => h.1)) rfl ?_
          refine JL.gYes rfl rfl rfl ?_
          refine JL.val rfl rfl (R.not rfl) ?_
          refine JL.val rfl rfl (R.pickF rfl rfl) ?_
          refine JL.val rfl rfl (R.move rfl) ?_
          refine JL.gSplit (t := 90) rfl (fun c_70 => ?_) (fun c_70 => ?_)
          · replace hx := cond_t c_70 hx
            refine JL.gNo rfl rfl rfl rfl rfl ?_
            refine JL.gNo rfl rfl rfl rfl rfl ?_
            refine JL.gNo rfl rfl rfl rfl rfl ?_
            refine JL.gNo rfl rfl rfl rfl rfl ?_
            refine JL.val rfl rfl (R.pickT rfl rfl) ?_
            refine JL.val rfl rfl (R.move rfl) ?_
            refine JL.gNo rfl rfl rfl rfl rfl ?_
            refine JL.gNo rfl rfl rfl rfl rfl ?_
            refine JL.gNo rfl rfl rfl rfl rfl ?_
            refine JL.val rfl rfl (R.pickT rfl rfl) ?_
            refine JL.val rfl rfl (R.move rfl) ?_
            refine JL.gNo rfl rfl rfl rfl rfl ?_
            refine JL.gNo rfl rfl rfl rfl rfl ?_
            refine JL.gNo rfl rfl rfl rfl rfl ?_
            refine JL.gNo rfl rfl rfl rfl rfl ?_
            refine JL.val rfl rfl (R.pickT rfl rfl) ?_
            refine JL.val rfl rfl (R.move rfl) ?_
            refine JL.gNo rfl rfl rfl rfl rfl ?_
            refine JL.gNo rfl rfl rfl rfl rfl ?_
            refine JL.gNo rfl rfl rfl rfl rfl ?_
            refine JL.val rfl rfl (R.pickT rfl rfl) ?_
            refine JL.val rfl rfl (R.move rfl) ?_
            refine JL.gNo rfl rfl rfl rfl rfl ?_
            refine JL.gNo rfl rfl rfl rfl rfl ?_
            refine JL.gNo rfl rfl rfl rfl rfl ?_
            refine JL.gNo rfl rfl rfl rfl rfl ?_
            refine JL.gNo rfl rfl rfl rfl rfl ?_
            refine JL.val rfl rfl (R.pickT rfl rfl) ?_
            refine JL.nil ?_
            refine JN.next ?_
            refine JC.condT rfl ?_
            refine JC.seq ?_
            refine JC.region ?_
            refine JL.val rfl rfl (R.assign rfl) ?_
            refine JL.nil ?_
            refine JN.next ?_
            refine JC.ret ?_
            refine JN.passR ?_
            refine JN.outP (vs := [.bool false]) (K := []) (rst := [_, _, _, _, _, _, _, _, _, _, _]) (.inl rfl) rfl rfl (Res.tmp rfl rfl) picks0 ?_
            obtain rfl := Option.some.inj hx
            exact ⟨rfl, rfl, rfl, trivial⟩
          · replace hx := cond_f c_70 hx
            refine JL.gYes rfl rfl rfl ?_
            refine JL.val rfl rfl (R.move rfl) ?_
            refine JL.gYes rfl rfl rfl ?_
            refine JL.val rfl rfl (R.move rfl) ?_
            refine JL.gYes rfl rfl rfl ?_
            obtain ⟨x_74, hr_75, hx⟩ := bnd_some hx
            refine JL.callL2 (vs := [_, _]) (v := .bool x_74) E16 rfl rfl (fun H_73 hle_72 hl_71 => Does.mono (ref10_Same_ok x_35.2.1 x_41.2.1 _ (Lent.row' 5 hl_71 R_Ptr.mono hle_72 rfl (hr_38.old R_Ptr.mono)) (Lent.row' 3 hl_71 R_Ptr.mono hle_72 rfl (hr_45.old R_Ptr.mono)) _ hr_75) (fun _ _ _ h => h.1)) rfl ?_
            refine JL.gYes rfl rfl rfl ?_
            refine JL.val rfl rfl (R.not rfl) ?_
            refine JL.val rfl rfl (R.pickF rfl rfl) ?_
            refine JL.val rfl rfl (R.move rfl) ?_
            refine JL.gSplit (t := 96) rfl (fun c_76 => ?_) (fun c_76 => ?_)
            · replace hx := cond_t c_76 hx
              refine JL.gNo rfl rfl rfl rfl rfl ?_
              refine JL.gNo rfl rfl rfl rfl rfl ?_
              refine JL.gNo rfl rfl rfl rfl rfl ?_
              refine JL.val rfl rfl (R.pickT rfl rfl) ?_
              refine JL.val rfl rfl (R.move rfl) ?_
              refine JL.gNo rfl rfl rfl rfl rfl ?_
              refine JL.gNo rfl rfl rfl rfl rfl ?_
              refine JL.gNo rfl rfl rfl rfl rfl ?_
              refine JL.gNo rfl rfl rfl rfl rfl ?_
              refine JL.val rfl rfl (R.pickT rfl rfl) ?_
              refine JL.val rfl rfl (R.move rfl) ?_
              refine JL.gNo rfl rfl rfl rfl rfl ?_
              refine JL.gNo rfl rfl rfl rfl rfl ?_
              refine JL.gNo rfl rfl rfl rfl rfl ?_
              refine JL.val rfl rfl (R.pickT rfl rfl) ?_
              refine JL.val rfl rfl (R.move rfl) ?_
              refine JL.gNo rfl rfl rfl rfl rfl ?_
              refine JL.gNo rfl rfl rfl rfl rfl ?_
              refine JL.gNo rfl rfl rfl rfl rfl ?_
              refine JL.gNo rfl rfl rfl rfl rfl ?_
              refine JL.gNo rfl rfl rfl rfl rfl ?_
              refine JL.val rfl rfl (R.pickT rfl rfl) ?_
              refine JL.nil ?_
              refine JN.next ?_
              refine JC.condT rfl ?_
              refine JC.seq ?_
              refine JC.region ?_
              refine JL.val rfl rfl (R.assign rfl) ?_
              refine JL.nil ?_
              refine JN.next ?_
              refine JC.ret ?_
              refine JN.passR ?_
              refine JN.outP (vs := [.bool false]) (K := []) (rst := [_, _, _, _, _, _, _, _, _, _, _]) (.inl rfl) rfl rfl (Res.tmp rfl rfl) picks0 ?_
              obtain rfl := Option.some.inj hx
              exact ⟨rfl, rfl, rfl, trivial⟩
            · replace hx := cond_f c_76 hx
              refine JL.gYes rfl rfl rfl ?_
              refine JL.val rfl rfl (R.move rfl) ?_
              refine JL.gYes rfl rfl rfl ?_
              refine JL.val rfl rfl (R.move rfl) ?_
              refine JL.gYes rfl rfl rfl ?_
              refine JL.val rfl rfl (R.neq_i rfl rfl) ?_
              refine JL.val rfl rfl (R.pickF rfl rfl) ?_
              refine JL.val rfl rfl (R.move rfl) ?_
              refine JL.gSplit (t := 101) rfl (fun c_77 => ?_) (fun c_77 => ?_)
              · replace hx := cond_t c_77 hx
                refine JL.gNo rfl rfl rfl rfl rfl ?_
                refine JL.gNo rfl rfl rfl rfl rfl ?_
                refine JL.gNo rfl rfl rfl rfl rfl ?_
                refine JL.gNo rfl rfl rfl rfl rfl ?_
                refine JL.val rfl rfl (R.pickT rfl rfl) ?_
                refine JL.val rfl rfl (R.move rfl) ?_
                refine JL.gNo rfl rfl rfl rfl rfl ?_
                refine JL.gNo rfl rfl rfl rfl rfl ?_
                refine JL.gNo rfl rfl rfl rfl rfl ?_
                refine JL.val rfl rfl (R.pickT rfl rfl) ?_
                refine JL.val rfl rfl (R.move rfl) ?_
                refine JL.gNo rfl rfl rfl rfl rfl ?_
                refine JL.gNo rfl rfl rfl rfl rfl ?_
                refine JL.gNo rfl rfl rfl rfl rfl ?_
                refine JL.gNo rfl rfl rfl rfl rfl ?_
                refine JL.gNo rfl rfl rfl rfl rfl ?_
                refine JL.val rfl rfl (R.pickT rfl rfl) ?_
                refine JL.nil ?_
                refine JN.next ?_
                refine JC.condT rfl ?_
                refine JC.seq ?_
                refine JC.region ?_
                refine JL.val rfl rfl (R.assign rfl) ?_
                refine JL.nil ?_
                refine JN.next ?_
                refine JC.ret ?_
                refine JN.passR ?_
                refine JN.outP (vs := [.bool false]) (K := []) (rst := [_, _, _, _, _, _, _, _, _, _, _]) (.inl rfl) rfl rfl (Res.tmp rfl rfl) picks0 ?_
                obtain rfl := Option.some.inj hx
                exact ⟨rfl, rfl, rfl, trivial⟩
              · replace hx := cond_f c_77 hx
                refine JL.gYes rfl rfl rfl ?_
                refine JL.val rfl rfl (R.move rfl) ?_
                refine JL.gYes rfl rfl rfl ?_
                refine JL.val rfl rfl (R.move rfl) ?_
                refine JL.gYes rfl rfl rfl ?_
                obtain ⟨x_81, hr_82, hx⟩ := bnd_some hx
                refine JL.callL2 (vs := [_, _]) (v := .bool x_81) E16 rfl rfl (fun H_80 hle_79 hl_78 => Does.mono (ref10_Same_ok x_49.1 x_54.1 _ (Lent.row' 1 hl_78 R_Ptr.mono hle_79 rfl (hr_51.old R_Ptr.mono)) (Lent.row' 0 hl_78 R_Ptr.mono hle_79 rfl (hr_57.old R_Ptr.mono)) _ hr_82) (fun _ _ _ h => h.1)) rfl ?_
                refine JL.gYes rfl rfl rfl ?_
                refine JL.val rfl rfl (R.not rfl) ?_
                refine JL.val rfl rfl (R.pickF rfl rfl) ?_
                refine JL.val rfl rfl (R.move rfl) ?_
                refine JL.gSplit (t := 107) rfl (fun c_83 => ?_) (fun c_83 => ?_)
                · replace hx := cond_t c_83 hx
                  refine JL.gNo rfl rfl rfl rfl rfl ?_
                  refine JL.gNo rfl rfl rfl rfl rfl ?_
                  refine JL.gNo rfl rfl rfl rfl rfl ?_
                  refine JL.val rfl rfl (R.pickT rfl rfl) ?_
                  refine JL.val rfl rfl (R.move rfl) ?_
                  refine JL.gNo rfl rfl rfl rfl rfl ?_
                  refine JL.gNo rfl rfl rfl rfl rfl ?_
                  refine JL.gNo rfl rfl rfl rfl rfl ?_
                  refine JL.gNo rfl rfl rfl rfl rfl ?_
                  refine JL.gNo rfl rfl rfl rfl rfl ?_
                  refine JL.val rfl rfl (R.pickT rfl rfl) ?_
                  refine JL.nil ?_
                  refine JN.next ?_
                  refine JC.condT rfl ?_
                  refine JC.seq ?_
                  refine JC.region ?_
                  refine JL.val rfl rfl (R.assign rfl) ?_
                  refine JL.nil ?_
                  refine JN.next ?_
                  refine JC.ret ?_
                  refine JN.passR ?_
                  refine JN.outP (vs := [.bool false]) (K := []) (rst := [_, _, _, _, _, _, _, _, _, _, _]) (.inl rfl) rfl rfl (Res.tmp rfl rfl) picks0 ?_
                  obtain rfl := Option.some.inj hx
                  exact ⟨rfl, rfl, rfl, trivial⟩
                · replace hx := cond_f c_83 hx
                  refine JL.gYes rfl rfl rfl ?_
                  refine JL.val rfl rfl (R.move rfl) ?_
                  refine JL.gYes rfl rfl rfl ?_
                  refine JL.val rfl rfl (R.move rfl) ?_
                  refine JL.gYes rfl rfl rfl ?_
                  refine JL.val rfl rfl (R.neq_i rfl rfl) ?_
                  refine JL.val rfl rfl (R.pickF rfl rfl) ?_
                  refine JL.val rfl rfl (R.move rfl) ?_
                  refine JL.gSplit (t := 112) rfl (fun c_84 => ?_) (fun c_84 => ?_)
                  · replace hx := cond_t c_84 hx
                    refine JL.gNo rfl rfl rfl rfl rfl ?_
                    refine JL.gNo rfl rfl rfl rfl rfl ?_
                    refine JL.gNo rfl rfl rfl rfl rfl ?_
                    refine JL.gNo rfl rfl rfl rfl rfl ?_
                    refine JL.gNo rfl rfl rfl rfl rfl ?_
                    refine JL.val rfl rfl (R.pickT rfl rfl) ?_
                    refine JL.nil ?_
                    refine JN.next ?_
                    refine JC.condT rfl ?_
                    refine JC.seq ?_
                    refine JC.region ?_
                    refine JL.val rfl rfl (R.assign rfl) ?_
                    refine JL.nil ?_
                    refine JN.next ?_
                    refine JC.ret ?_
                    refine JN.passR ?_
                    refine JN.outP (vs := [.bool false]) (K := []) (rst := [_, _, _, _, _, _, _, _, _, _, _]) (.inl rfl) rfl rfl (Res.tmp rfl rfl) picks0 ?_
                    obtain rfl := Option.some.inj hx
                    exact ⟨rfl, rfl, rfl, trivial⟩
                  · replace hx := cond_f c_84 hx
                    refine JL.gYes rfl rfl rfl ?_
                    refine JL.val rfl rfl (R.move rfl) ?_
                    refine JL.gYes rfl rfl rfl ?_
                    obtain ⟨x_88, hr_89, hx⟩ := bnd_some hx
                    refine JL.callL2 (vs := [_]) (v := .int .i64 x_88) E10 rfl rfl (fun H_87 hle_86 hl_85 => Does.mono (dead_Check_ok q_11 _ (Lent.row' 9 hl_85 R_Ptr.mono hle_86 rfl (hr_14.old R_Ptr.mono)) _ hr_89) (fun _ _ _ h => h.1)) rfl ?_
                    refine JL.gYes rfl rfl rfl ?_
                    refine JL.val rfl rfl (R.move rfl) ?_
                    refine JL.gYes rfl rfl rfl ?_
                    obtain ⟨x_90, hr_91, hx⟩ := bnd_some hx
                    refine JL.callC (vs := [_]) (args := [_]) (K := []) (rst := [_, _, _, _, _, _, _, _, _, _, _]) E17 rfl rfl rfl picks0 (ref16_Check_ok p_1 _ ha_2 _ hr_91) rfl (fun u_92 Ku_92 Hu_92 hRu_92 hleu_92 hfu_92 => ?_)
                    obtain ⟨rfl, rfl, rfl, -⟩ := hRu_92
                    refine JL.gYes rfl rfl rfl ?_
                    refine JL.val rfl rfl (R.neq_i rfl rfl) ?_
                    refine JL.val rfl rfl (R.pickF rfl rfl) ?_
                    refine JL.nil ?_
                    refine JN.next ?_
                    refine JC.condB rfl (fun c_93 => ?_) (fun c_93 => ?_)
                    · replace hx := cond_t c_93 hx
                      refine JC.seq ?_
                      refine JC.region ?_
                      refine JL.val rfl rfl (R.assign rfl) ?_
                      refine JL.nil ?_
                      refine JN.next ?_
                      refine JC.ret ?_
                      refine JN.passR ?_
                      refine JN.outP (vs := [.bool false]) (K := []) (rst := [_, _, _, _, _, _, _, _, _, _, _]) (.inl rfl) rfl rfl (Res.tmp rfl rfl) picks0 ?_
                      obtain rfl := Option.some.inj hx
                      exact ⟨rfl, rfl, rfl, trivial⟩
                    · replace hx := cond_f c_93 hx
                      refine JC.skip ?_
                      refine JN.next ?_
                      refine JC.seq ?_
                      refine JC.region ?_
                      refine JL.val rfl rfl (R.move rfl) ?_
                      obtain ⟨x_94, hr_95, hx⟩ := bnd_some hx
                      refine JL.callC (vs := [_]) (args := [_]) (K := [_]) (rst := [_, _, _, _, _, _, _, _, _, _]) E18 rfl rfl rfl (picks 7 rfl picks0) (law16_spoil_ok x_23.1 _ (RowOf.weak (Nat.zero_le _) (RowOf.const R_Ptr.const hr_25)) _ hr_95) rfl (fun u_96 Ku_96 Hu_96 hRu_96 hleu_96 hfu_96 => ?_)
                      obtain ⟨rfl, rfl, rfl, -⟩ := hRu_96
                      refine JL.nil ?_
                      refine JN.next ?_
                      refine JC.seq ?_
                      refine JC.region ?_
                      refine JL.val rfl rfl (R.move rfl) ?_
                      obtain ⟨x_97, hr_98, hx⟩ := bnd_some hx
                      refine JL.callC (vs := [_]) (args := [_]) (K := [_]) (rst := [_, _, _, _, _, _, _, _, _]) E18 rfl rfl rfl (picks 4 rfl picks0) (law16_spoil_ok x_35.1 _ (RowOf.weak (Nat.zero_le _) (RowOf.const R_Ptr.const hr_37)) _ hr_98) rfl (fun u_99 Ku_99 Hu_99 hRu_99 hleu_99 hfu_99 => ?_)
                      obtain ⟨rfl, rfl, rfl, -⟩ := hRu_99
                      refine JL.nil ?_
                      refine JN.next ?_
                      refine JC.seq ?_
                      refine JC.region ?_
                      refine JL.val rfl rfl (R.move rfl) ?_
                      obtain ⟨x_100, hr_101, hx⟩ := bnd_some hx
                      refine JL.callC (vs := [_]) (args := [_]) (K := [_]) (rst := [_, _, _, _, _, _, _, _]) E18 rfl rfl rfl (picks 4 rfl picks0) (law16_spoil_ok x_35.2.1 _ (RowOf.weak (Nat.zero_le _) (RowOf.const R_Ptr.const hr_38)) _ hr_101) rfl (fun u_102 Ku_102 Hu_102 hRu_102 hleu_102 hfu_102 => ?_)
                      obtain ⟨rfl, rfl, rfl, -⟩ := hRu_102
                      refine JL.nil ?_
                      refine JN.next ?_
                      refine JC.seq ?_
                      refine JC.region ?_
                      refine JL.val rfl rfl (R.move rfl) ?_
                      obtain ⟨x_103, hr_104, hx⟩ := bnd_some hx
                      refine JL.callC (vs := [_]) (args := [_]) (K := [_]) (rst := [_, _, _, _, _, _, _]) E18 rfl rfl rfl (picks 1 rfl picks0) (law16_spoil_ok x_49.1 _ (RowOf.weak (Nat.zero_le _) (RowOf.const R_Ptr.const hr_51)) _ hr_104) rfl (fun u_105 Ku_105 Hu_105 hRu_105 hleu_105 hfu_105 => ?_)
                      obtain ⟨rfl, rfl, rfl, -⟩ := hRu_105
                      refine JL.nil ?_
                      refine JN.next ?_
                      refine JC.seq ?_
                      obtain ⟨t_106, ht_108, hx⟩ := bnd_some hx
                      refine JC.cut (fun l o g => l = [(8, .bool t_106)] ∧ o = [] ∧ H = g) ?_ ?_
                      · rintro _ _ _ ⟨rfl, rfl, rfl⟩
                        refine JN.next ?_
                        refine JC.ret ?_
                        refine JN.outP (vs := [.bool t_106]) (K := []) (rst := []) (.inl rfl) rfl rfl (Res.tmp rfl rfl) picks0 ?_
                        obtain rfl := Option.some.inj hx
                        exact ⟨rfl, rfl, rfl, trivial⟩
                      · have hxo_107 := hx; clear hx; have hx := ht_108; clear ht_108
                        refine JC.region ?_
                        refine JL.val rfl rfl (R.move rfl) ?_
                        refine JL.val rfl rfl (R.move rfl) ?_
                        obtain ⟨x_112, hr_113, hx⟩ := bnd_some hx
                        refine JL.callL2 (vs := [_, _]) (v := .bool x_112) E16 rfl rfl (fun H_111 hle_110 hl_109 => Does.mono (ref10_Same_ok q_11 p_1 _ (Lent.row' 5 hl_109 R_Ptr.mono hle_110 rfl (hr_14.old R_Ptr.mono)) (IsSlice.mono R_Ptr.mono hle_110 ha_2) _ hr_113) (fun _ _ _ h => h.1)) rfl ?_
                        refine JL.val rfl rfl (R.move rfl) ?_
                        refine JL.gSplit (t := 130) rfl (fun c_114 => ?_) (fun c_114 => ?_)
                        · replace hx := cond_t c_114 hx
                          refine JL.gYes rfl rfl rfl ?_
                          refine JL.val rfl rfl (R.move rfl) ?_
                          refine JL.gYes rfl rfl rfl ?_
                          refine JL.val rfl rfl (R.move rfl) ?_
                          refine JL.gYes rfl rfl rfl ?_
                          obtain ⟨x_118, hr_119, hx⟩ := bnd_some hx
                          refine JL.callL2 (vs := [_, _]) (v := .bool x_118) E16 rfl rfl (fun H_117 hle_116 hl_115 => Does.mono (ref10_Same_ok q_16 p_3 _ (Lent.row' 4 hl_115 R_Ptr.mono hle_116 rfl (hr_19.old R_Ptr.mono)) (IsSlice.mono R_Ptr.mono hle_116 ha_4) _ hr_119) (fun _ _ _ h => h.1)) rfl ?_
                          refine JL.val rfl rfl (R.pickT rfl rfl) ?_
                          refine JL.val rfl rfl (R.assign rfl) ?_
                          refine JL.nil ?_
                          obtain rfl := Option.some.inj hx
                          refine JN.forget 6 ?_
                          refine JN.forget 5 ?_
                          refine JN.forget 4 ?_
                          refine JN.forget 3 ?_
                          refine JN.forget 2 ?_
                          refine JN.forget 1 ?_
                          refine JN.forget 0 ?_
                          exact JN.cut ⟨rfl, rfl, rfl⟩ ⟨rfl, trivial⟩ rfl rfl
                        · replace hx := cond_f c_114 hx
                          refine JL.gNo rfl rfl rfl rfl rfl ?_
                          refine JL.gNo rfl rfl rfl rfl rfl ?_
                          refine JL.gNo rfl rfl rfl rfl rfl ?_
                          refine JL.val rfl rfl (R.pickF rfl rfl) ?_
                          refine JL.val rfl rfl (R.assign rfl) ?_
                          refine JL.nil ?_
                          obtain rfl := Option.some.inj hx
                          refine JN.forget 6 ?_
                          refine JN.forget 5 ?_
                          refine JN.forget 4 ?_
                          refine JN.forget 3 ?_
                          refine JN.forget 2 ?_
                          refine JN.forget 1 ?_
                          refine JN.forget 0 ?_
                          exact JN.cut ⟨rfl, rfl, rfl⟩ ⟨rfl, trivial⟩ rfl rfl
end Go.Proofs.Ytbdmdhfphnklbaa
