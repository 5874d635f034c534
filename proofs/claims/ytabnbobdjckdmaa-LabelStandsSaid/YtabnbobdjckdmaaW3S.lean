/- walks: what the code computes, function by function. -/
import Derived.Test.YtabnbobdjckdmaaW2p1
namespace Go.Proofs.Ytabnbobdjckdmaa
open Go.Ow Go.RowKit Go.Proofs
set_option linter.unusedVariables false
set_option linter.unusedSimpArgs false
set_option maxHeartbeats 1000000 in
theorem law11_LabelStands_ok (p_1 : Disk) (p_4 : Label) (H : Heaplet) {aoa_2 : Option Addr} {na_2 : Nat} {capa_2 : Nat} {aoa_3 : Option Addr} {na_3 : Nat} {capa_3 : Nat} (ha_2 : IsSlice H (RSl RU8 1) 1 (.slice aoa_2 na_2 capa_2) p_1.Blocks) (ha_3 : IsSlice H R_Write 2 (.slice aoa_3 na_3 capa_3) p_1.Waits) (r : Bool) (hx : law11_LabelStands p_1 p_4 = some r) :
    Does Try.prog 5 #[.agg #[.slice aoa_2 na_2 capa_2, .slice aoa_3 na_3 capa_3], .agg #[.int .u32 (p_4.Gen.toNat : Int), .int .u32 (p_4.Epoch.toNat : Int), .int .i64 p_4.Root.At, .int .u32 (p_4.Root.Birth.toNat : Int), .int .u32 (p_4.Root.Iv.toNat : Int), .int .u32 (p_4.Root.Tag.toNat : Int), .int .u32 (p_4.Root.Sum.toNat : Int)]] [] H (fun u K' H' => u = .bool r ∧ K' = [] ∧ True) := by
  refine Does.enterL (vs := [.agg #[.slice aoa_2 na_2 capa_2, .slice aoa_3 na_3 capa_3], .agg #[.int .u32 (p_4.Gen.toNat : Int), .int .u32 (p_4.Epoch.toNat : Int), .int .i64 p_4.Root.At, .int .u32 (p_4.Root.Birth.toNat : Int), .int .u32 (p_4.Root.Iv.toNat : Int), .int .u32 (p_4.Root.Tag.toNat : Int), .int .u32 (p_4.Root.Sum.toNat : Int)]]) (l := [(0, .agg #[.slice aoa_2 na_2 capa_2, .slice aoa_3 na_3 capa_3]), (1, .agg #[.int .u32 (p_4.Gen.toNat : Int), .int .u32 (p_4.Epoch.toNat : Int), .int .i64 p_4.Root.At, .int .u32 (p_4.Root.Birth.toNat : Int), .int .u32 (p_4.Root.Iv.toNat : Int), .int .u32 (p_4.Root.Tag.toNat : Int), .int .u32 (p_4.Root.Sum.toNat : Int)])]) Try.func5 rfl rfl ⟨rfl, rfl, trivial⟩ (fun w hlt => ?_)
  rw [law11_LabelStands.eq_1] at hx
  refine JC.seq ?_
  refine JC.region ?_
  refine JL.box rfl rfl (fun b_5 hb_5 => ?_)
  refine JL.box rfl rfl (fun b_6 hb_6 => ?_)
  refine JL.val rfl rfl (R.assign rfl) ?_
  refine JL.nil ?_
  refine JN.next ?_
  refine JC.seq ?_
  refine JC.region ?_
  obtain ⟨x_7, hr_8, hx⟩ := bnd_some hx
  refine JL.callC (vs := []) (args := []) (K := []) (rst := [_, _]) E17 rfl rfl rfl picks0 (law11_alive_ok _ _ hr_8) rfl (fun u_9 Ku_9 Hu_9 hRu_9 hleu_9 hfu_9 => ?_)
  obtain ⟨rfl, rfl, -⟩ := hRu_9
  refine JL.val rfl rfl (R.assign rfl) ?_
  refine JL.nil ?_
  refine JN.next ?_
  refine JC.seq ?_
  refine JC.seq ?_
  refine JC.region ?_
  refine JL.val rfl rfl (R.move rfl) ?_
  refine JL.val rfl rfl (R.not rfl) ?_
  refine JL.nil ?_
  refine JN.next ?_
  refine JC.condB rfl (fun c_10 => ?_) (fun c_10 => ?_)
  · replace hx := cond_t c_10 hx
    refine JC.seq ?_
    refine JC.region ?_
    refine JL.val rfl rfl (R.assign rfl) ?_
    refine JL.nil ?_
    refine JN.next ?_
    refine JC.ret ?_
    refine JN.passR ?_
    refine JN.outP (vs := [.bool false]) (K := []) (rst := [_, _]) (.inl rfl) rfl rfl (Res.tmp rfl rfl) picks0 ?_
    obtain rfl := Option.some.inj hx
    exact ⟨rfl, rfl, trivial⟩
  · replace hx := cond_f c_10 hx
    refine JC.skip ?_
    refine JN.next ?_
    refine JC.seq ?_
    refine JC.region ?_
    refine JL.val rfl rfl (R.ldoN 1 (vs := [.slice aoa_2 na_2 capa_2, .slice aoa_3 na_3 capa_3]) S25 rfl rfl rfl rfl) ?_
    obtain ⟨x_11, hr_12, hx⟩ := bnd_some hx
    refine JL.callC (vs := [_]) (args := [_]) (K := []) (rst := [_, _]) E12 rfl rfl rfl picks0 (label_Find_ok p_1 _ (ha_2.mono (RSl.mono RU8.mono) hleu_9) (ha_3.mono R_Write.mono hleu_9) _ hr_12) rfl (fun u_13 Ku_13 Hu_13 hRu_13 hleu_13 hfu_13 => ?_)
    obtain ⟨aor_14, nr_14, capr_14, Kr_14, rfl, rfl, hr_14, hnewr_14, -⟩ := hRu_13
    replace hr_14 := (RowOf.base (RowOf.const (H2 := New H Hu_13) R_Label.const hr_14) (fun p hp => (hfu_13 p (mem_seg 0 rfl hp)).resolve_left (hnewr_14 p hp)))
    refine JL.val rfl rfl (R.move rfl) ?_
    refine JL.val rfl rfl (R.extract rfl rfl) ?_
    refine JL.val rfl rfl (R.extract rfl rfl) ?_
    refine JL.val rfl rfl (R.assign rfl) ?_
    refine JL.val rfl rfl (R.assign rfl) ?_
    refine JL.nil ?_
    refine JN.next ?_
    refine JC.seq ?_
    refine JC.seq ?_
    refine JC.region ?_
    refine JL.val rfl rfl (R.ldoN 2 (vs := [.slice aoa_2 na_2 capa_2, .slice aoa_3 na_3 capa_3]) S25 rfl rfl rfl rfl) ?_
    obtain ⟨x_15, hr_16, hx⟩ := bnd_some hx
    refine JL.callC (vs := [_]) (args := [_]) (K := []) (rst := [_, _, _]) E8 rfl rfl rfl picks0 (ref09_Great_ok p_1 _ (ha_2.mono (RSl.mono RU8.mono) (hleu_9.trans hleu_13)) (ha_3.mono R_Write.mono (hleu_9.trans hleu_13)) _ hr_16) rfl (fun u_17 Ku_17 Hu_17 hRu_17 hleu_17 hfu_17 => ?_)
    obtain ⟨rfl, rfl, rfl, -⟩ := hRu_17
    refine JL.val rfl rfl (R.move rfl) ?_
    refine JL.gSplit (t := 30) rfl (fun c_18 => ?_) (fun c_18 => ?_)
    · replace hx := cond_t c_18 hx
      refine JL.gNo rfl rfl rfl rfl rfl ?_
      refine JL.gNo rfl rfl rfl rfl rfl ?_
      refine JL.val rfl rfl (R.pickT rfl rfl) ?_
      refine JL.nil ?_
      refine JN.next ?_
      refine JC.condT rfl ?_
      refine JC.seq ?_
      obtain ⟨t_19, ht_21, hx⟩ := bnd_some hx
      refine JC.cut (fun l o g => l = [(4, .bool t_19)] ∧ o = [] ∧ Hu_13 = g) ?_ ?_
      · rintro _ _ _ ⟨rfl, rfl, rfl⟩
        refine JN.next ?_
        refine JC.ret ?_
        refine JN.passR ?_
        refine JN.outP (vs := [.bool t_19]) (K := []) (rst := []) (.inl rfl) rfl rfl (Res.tmp rfl rfl) picks0 ?_
        obtain rfl := Option.some.inj hx
        exact ⟨rfl, rfl, trivial⟩
      · have hxo_20 := hx; clear hx; have hx := ht_21; clear ht_21
        refine JC.region ?_
        refine JL.val rfl rfl (R.move rfl) ?_
        refine JL.val rfl rfl (R.move rfl) ?_
        refine JL.gSplit (t := 35) rfl (fun c_22 => ?_) (fun c_22 => ?_)
        · replace hx := cond_t c_22 hx
          refine JL.gYes rfl rfl rfl ?_
          refine JL.val rfl rfl (R.move rfl) ?_
          refine JL.gYes rfl rfl rfl ?_
          refine JL.val rfl rfl (R.eql_i rfl rfl) ?_
          refine JL.gYes rfl rfl rfl ?_
          refine JL.val rfl rfl (R.move rfl) ?_
          refine JL.gSplit (t := 38) rfl (fun c_23 => ?_) (fun c_23 => ?_)
          · replace hx := cond_t c_23 hx
            refine JL.gNo rfl rfl rfl rfl rfl ?_
            refine JL.gNo rfl rfl rfl rfl rfl ?_
            refine JL.gNo rfl rfl rfl rfl rfl ?_
            refine JL.gYes rfl rfl rfl ?_
            refine JL.val rfl rfl (R.pickT rfl rfl) ?_
            refine JL.val rfl rfl (R.pickT rfl rfl) ?_
            refine JL.val rfl rfl (R.assign rfl) ?_
            refine JL.nil ?_
            obtain rfl := Option.some.inj hx
            refine JN.forget 2 ?_
            refine JN.forget 1 ?_
            refine JN.forget 0 ?_
            exact JN.cut ⟨rfl, rfl, rfl⟩ ⟨rfl, trivial⟩ rfl rfl
          · replace hx := cond_f c_23 hx
            refine JL.gYes rfl rfl rfl ?_
            refine JL.val rfl rfl (R.move rfl) ?_
            refine JL.gYes rfl rfl rfl ?_
            refine JL.val rfl rfl (R.lenL U38 rfl (RowOf.long hr_14)) ?_
            refine JL.gYes rfl rfl rfl ?_
            refine JL.val rfl rfl (R.eql_i rfl rfl) ?_
            refine JL.gYes rfl rfl rfl ?_
            refine JL.val rfl rfl (R.pickF rfl rfl) ?_
            refine JL.val rfl rfl (R.pickT rfl rfl) ?_
            refine JL.val rfl rfl (R.assign rfl) ?_
            refine JL.nil ?_
            obtain rfl := Option.some.inj hx
            refine JN.forget 2 ?_
            refine JN.forget 1 ?_
            refine JN.forget 0 ?_
            exact JN.cut ⟨rfl, rfl, rfl⟩ ⟨rfl, trivial⟩ rfl rfl
        · replace hx := cond_f c_22 hx
          refine JL.gNo rfl rfl rfl rfl rfl ?_
          refine JL.gNo rfl rfl rfl rfl rfl ?_
          refine JL.gNo rfl rfl rfl rfl rfl ?_
          refine JL.gNoU rfl rfl rfl rfl ?_
          refine JL.gNoU rfl rfl rfl rfl ?_
          refine JL.gNoU rfl rfl rfl rfl ?_
          refine JL.gNo rfl rfl rfl rfl rfl ?_
          refine JL.val rfl rfl (R.pickF rfl rfl) ?_
          refine JL.val rfl rfl (R.assign rfl) ?_
          refine JL.nil ?_
          obtain rfl := Option.some.inj hx
          refine JN.forget 2 ?_
          refine JN.forget 1 ?_
          refine JN.forget 0 ?_
          exact JN.cut ⟨rfl, rfl, rfl⟩ ⟨rfl, trivial⟩ rfl rfl
    · replace hx := cond_f c_18 hx
      refine JL.gYes rfl rfl rfl ?_
      refine JL.val rfl rfl (R.move rfl) ?_
      refine JL.gYes rfl rfl rfl ?_
      refine JL.val rfl rfl (R.neq_i rfl rfl) ?_
      refine JL.val rfl rfl (R.pickF rfl rfl) ?_
      refine JL.nil ?_
      refine JN.next ?_
      refine JC.condB rfl (fun c_24 => ?_) (fun c_24 => ?_)
      · replace hx := cond_t c_24 hx
        refine JC.seq ?_
        obtain ⟨t_25, ht_27, hx⟩ := bnd_some hx
        refine JC.cut (fun l o g => l = [(4, .bool t_25)] ∧ o = [] ∧ Hu_13 = g) ?_ ?_
        · rintro _ _ _ ⟨rfl, rfl, rfl⟩
          refine JN.next ?_
          refine JC.ret ?_
          refine JN.passR ?_
          refine JN.outP (vs := [.bool t_25]) (K := []) (rst := []) (.inl rfl) rfl rfl (Res.tmp rfl rfl) picks0 ?_
          obtain rfl := Option.some.inj hx
          exact ⟨rfl, rfl, trivial⟩
        · have hxo_26 := hx; clear hx; have hx := ht_27; clear ht_27
          refine JC.region ?_
          refine JL.val rfl rfl (R.move rfl) ?_
          refine JL.val rfl rfl (R.move rfl) ?_
          refine JL.gSplit (t := 35) rfl (fun c_28 => ?_) (fun c_28 => ?_)
          · replace hx := cond_t c_28 hx
            refine JL.gYes rfl rfl rfl ?_
            refine JL.val rfl rfl (R.move rfl) ?_
            refine JL.gYes rfl rfl rfl ?_
            refine JL.val rfl rfl (R.eql_i rfl rfl) ?_
            refine JL.gYes rfl rfl rfl ?_
            refine JL.val rfl rfl (R.move rfl) ?_
            refine JL.gSplit (t := 38) rfl (fun c_29 => ?_) (fun c_29 => ?_)
            · replace hx := cond_t c_29 hx
              refine JL.gNo rfl rfl rfl rfl rfl ?_
              refine JL.gNo rfl rfl rfl rfl rfl ?_
              refine JL.gNo rfl rfl rfl rfl rfl ?_
              refine JL.gYes rfl rfl rfl ?_
              refine JL.val rfl rfl (R.pickT rfl rfl) ?_
              refine JL.val rfl rfl (R.pickT rfl rfl) ?_
              refine JL.val rfl rfl (R.assign rfl) ?_
              refine JL.nil ?_
              obtain rfl := Option.some.inj hx
              refine JN.forget 2 ?_
              refine JN.forget 1 ?_
              refine JN.forget 0 ?_
              exact JN.cut ⟨rfl, rfl, rfl⟩ ⟨rfl, trivial⟩ rfl rfl
            · replace hx := cond_f c_29 hx
              refine JL.gYes rfl rfl rfl ?_
              refine JL.val rfl rfl (R.move rfl) ?_
              refine JL.gYes rfl rfl rfl ?_
              refine JL.val rfl rfl (R.lenL U38 rfl (RowOf.long hr_14)) ?_
              refine JL.gYes rfl rfl rfl ?_
              refine JL.val rfl rfl (R.eql_i rfl rfl) ?_
              refine JL.gYes rfl rfl rfl ?_
              refine JL.val rfl rfl (R.pickF rfl rfl) ?_
              refine JL.val rfl rfl (R.pickT rfl rfl) ?_
              refine JL.val rfl rfl (R.assign rfl) ?_
              refine JL.nil ?_
              obtain rfl := Option.some.inj hx
              refine JN.forget 2 ?_
              refine JN.forget 1 ?_
              refine JN.forget 0 ?_
              exact JN.cut ⟨rfl, rfl, rfl⟩ ⟨rfl, trivial⟩ rfl rfl
          · replace hx := cond_f c_28 hx
            refine JL.gNo rfl rfl rfl rfl rfl ?_
            refine JL.gNo rfl rfl rfl rfl rfl ?_
            refine JL.gNo rfl rfl rfl rfl rfl ?_
            refine JL.gNoU rfl rfl rfl rfl ?_
            refine JL.gNoU rfl rfl rfl rfl ?_
            refine JL.gNoU rfl rfl rfl rfl ?_
            refine JL.gNo rfl rfl rfl rfl rfl ?_
            refine JL.val rfl rfl (R.pickF rfl rfl) ?_
            refine JL.val rfl rfl (R.assign rfl) ?_
            refine JL.nil ?_
            obtain rfl := Option.some.inj hx
            refine JN.forget 2 ?_
            refine JN.forget 1 ?_
            refine JN.forget 0 ?_
            exact JN.cut ⟨rfl, rfl, rfl⟩ ⟨rfl, trivial⟩ rfl rfl
      · replace hx := cond_f c_24 hx
        refine JC.skip ?_
        refine JN.next ?_
        refine JC.seq ?_
        refine JC.seq ?_
        refine JC.region ?_
        refine JL.val rfl rfl (R.assign rfl) ?_
        refine JL.nil ?_
        refine JN.next ?_
        obtain ⟨t_30, ht_32, hx⟩ := bnd_some hx
        refine JC.cut (fun l o g => ∃ t_30a : Unit, l = [(2, .pointer (some ⟨b_5, 0, none⟩)), (3, .pointer (some ⟨b_6, 0, none⟩)), (5, .bool x_7), (6, .slice aor_14 nr_14 capr_14)] ∧ o = [[(b_5, .cells #[.slice aoa_2 na_2 capa_2, .slice aoa_3 na_3 capa_3] 25 (0, 0))], [(b_6, .cells #[.int .u32 (p_4.Gen.toNat : Int), .int .u32 (p_4.Epoch.toNat : Int), .int .i64 p_4.Root.At, .int .u32 (p_4.Root.Birth.toNat : Int), .int .u32 (p_4.Root.Iv.toNat : Int), .int .u32 (p_4.Root.Tag.toNat : Int), .int .u32 (p_4.Root.Sum.toNat : Int)] 30 (0, 0))], Kr_14] ∧ Hu_13 = g ∧ t_30 = .inl t_30a) ?_ ?_
        · rintro _ _ _ ⟨t_30a, rfl, rfl, rfl, rfl⟩
          simp only [Sum.elim_inl] at hx
          refine JN.next ?_
          refine JC.seq ?_
          refine JC.region ?_
          refine JL.val rfl rfl (R.ldoN 0 (vs := [.slice aoa_2 na_2 capa_2, .slice aoa_3 na_3 capa_3]) S25 rfl rfl rfl rfl) ?_
          refine JL.val rfl rfl (R.ldoN 1 (vs := [.int .u32 (p_4.Gen.toNat : Int), .int .u32 (p_4.Epoch.toNat : Int), .int .i64 p_4.Root.At, .int .u32 (p_4.Root.Birth.toNat : Int), .int .u32 (p_4.Root.Iv.toNat : Int), .int .u32 (p_4.Root.Tag.toNat : Int), .int .u32 (p_4.Root.Sum.toNat : Int)]) S30 rfl rfl rfl rfl) ?_
          obtain ⟨x_36, hr_37, hx⟩ := bnd_some hx
          refine JL.callC (vs := [_, _]) (args := [_, _]) (K := []) (rst := [_, _, _]) E10 rfl rfl rfl picks0 (label_Put_ok p_1 p_4 _ (ha_2.mono (RSl.mono RU8.mono) (hleu_9.trans hleu_13)) (ha_3.mono R_Write.mono (hleu_9.trans hleu_13)) _ hr_37) rfl (fun u_38 Ku_38 Hu_38 hRu_38 hleu_38 hfu_38 => ?_)
          obtain ⟨aoz_39, nz_39, capz_39, aor_40, nr_40, capr_40, Kr_40, rfl, rfl, hz_39, hr_40, hnewr_40, -⟩ := hRu_38
          replace hr_40 := (RowOf.base (RowOf.mono R_Write.mono (New.call (hleu_9.trans hleu_13)) hr_40) (fun p hp => (hfu_38 p (mem_seg 0 rfl hp)).resolve_left (hnewr_40 p hp)))
          replace hz_39 := IsSlice.mono (RSl.mono RU8.mono) (New.call (hleu_9.trans hleu_13)) hz_39
          refine JL.val rfl rfl (R.move rfl) ?_
          refine JL.val rfl rfl (R.extract rfl rfl) ?_
          refine JL.val rfl rfl (R.extract rfl rfl) ?_
          refine JL.alloc Z25 rfl (fun b_41 hb_41 => ?_)
          refine JL.store 0 S25 rfl rfl rfl rfl rfl (Nat.le_of_ble_eq_true rfl) ?_
          refine JL.val rfl rfl (R.assign rfl) ?_
          refine JL.nil ?_
          refine JN.next ?_
          refine JC.seq ?_
          refine JC.seq ?_
          refine JC.region ?_
          refine JL.val rfl rfl (R.move rfl) ?_
          refine JL.val rfl rfl (R.neq_i rfl rfl) ?_
          refine JL.val rfl rfl (R.move rfl) ?_
          refine JL.gSplit (t := 99) rfl (fun c_42 => ?_) (fun c_42 => ?_)
          · replace hx := cond_t c_42 hx
            refine JL.gNo rfl rfl rfl rfl rfl ?_
            refine JL.gNo rfl rfl rfl rfl rfl ?_
            refine JL.gNo rfl rfl rfl rfl rfl ?_
            refine JL.val rfl rfl (R.pickT rfl rfl) ?_
            refine JL.nil ?_
            refine JN.next ?_
            refine JC.condT rfl ?_
            refine JC.seq ?_
            obtain ⟨t_43, ht_45, hx⟩ := bnd_some hx
            refine JC.cut (fun l o g => l = [(4, .bool t_43)] ∧ o = [] ∧ Hu_38 = g) ?_ ?_
            · rintro _ _ _ ⟨rfl, rfl, rfl⟩
              refine JN.next ?_
              refine JC.ret ?_
              refine JN.passR ?_
              refine JN.outP (vs := [.bool t_43]) (K := []) (rst := []) (.inl rfl) rfl rfl (Res.tmp rfl rfl) picks0 ?_
              obtain rfl := Option.some.inj hx
              exact ⟨rfl, rfl, trivial⟩
            · have hxo_44 := hx; clear hx; have hx := ht_45; clear ht_45
              refine JC.region ?_
              refine JL.val rfl rfl (R.move rfl) ?_
              refine JL.val rfl rfl (R.move rfl) ?_
              refine JL.gSplit (t := 105) rfl (fun c_46 => ?_) (fun c_46 => ?_)
              · replace hx := cond_t c_46 hx
                refine JL.gYes rfl rfl rfl ?_
                refine JL.val rfl rfl (R.move rfl) ?_
                refine JL.gYes rfl rfl rfl ?_
                refine JL.val rfl rfl (R.lenL U38 rfl (RowOf.long hr_14)) ?_
                refine JL.gYes rfl rfl rfl ?_
                refine JL.val rfl rfl (R.leq_i rfl rfl) ?_
                refine JL.val rfl rfl (R.pickT rfl rfl) ?_
                refine JL.val rfl rfl (R.assign rfl) ?_
                refine JL.nil ?_
                obtain rfl := Option.some.inj hx
                refine JN.forget 4 ?_
                refine JN.forget 3 ?_
                refine JN.forget 2 ?_
                refine JN.forget 1 ?_
                refine JN.forget 0 ?_
                exact JN.cut ⟨rfl, rfl, rfl⟩ ⟨rfl, trivial⟩ rfl rfl
              · replace hx := cond_f c_46 hx
                refine JL.gNo rfl rfl rfl rfl rfl ?_
                refine JL.gNo rfl rfl rfl rfl rfl ?_
                refine JL.gNo rfl rfl rfl rfl rfl ?_
                refine JL.val rfl rfl (R.pickF rfl rfl) ?_
                refine JL.val rfl rfl (R.assign rfl) ?_
                refine JL.nil ?_
                obtain rfl := Option.some.inj hx
                refine JN.forget 4 ?_
                refine JN.forget 3 ?_
                refine JN.forget 2 ?_
                refine JN.forget 1 ?_
                refine JN.forget 0 ?_
                exact JN.cut ⟨rfl, rfl, rfl⟩ ⟨rfl, trivial⟩ rfl rfl
          · replace hx := cond_f c_42 hx
            refine JL.gYes rfl rfl rfl ?_
            refine JL.val rfl rfl (R.move rfl) ?_
            refine JL.gYes rfl rfl rfl ?_
            refine JL.val rfl rfl (R.lenL U38 rfl (RowOf.long hr_14)) ?_
            refine JL.gYes rfl rfl rfl ?_
            refine JL.val rfl rfl (R.gtr_i rfl rfl) ?_
            refine JL.val rfl rfl (R.pickF rfl rfl) ?_
            refine JL.nil ?_
            refine JN.next ?_
            refine JC.condB rfl (fun c_47 => ?_) (fun c_47 => ?_)
            · replace hx := cond_t c_47 hx
              refine JC.seq ?_
              obtain ⟨t_48, ht_50, hx⟩ := bnd_some hx
              refine JC.cut (fun l o g => l = [(4, .bool t_48)] ∧ o = [] ∧ Hu_38 = g) ?_ ?_
              · rintro _ _ _ ⟨rfl, rfl, rfl⟩
                refine JN.next ?_
                refine JC.ret ?_
                refine JN.passR ?_
                refine JN.outP (vs := [.bool t_48]) (K := []) (rst := []) (.inl rfl) rfl rfl (Res.tmp rfl rfl) picks0 ?_
                obtain rfl := Option.some.inj hx
                exact ⟨rfl, rfl, trivial⟩
              · have hxo_49 := hx; clear hx; have hx := ht_50; clear ht_50
                refine JC.region ?_
                refine JL.val rfl rfl (R.move rfl) ?_
                refine JL.val rfl rfl (R.move rfl) ?_
                refine JL.gSplit (t := 105) rfl (fun c_51 => ?_) (fun c_51 => ?_)
                · replace hx := cond_t c_51 hx
                  refine JL.gYes rfl rfl rfl ?_
                  refine JL.val rfl rfl (R.move rfl) ?_
                  refine JL.gYes rfl rfl rfl ?_
                  refine JL.val rfl rfl (R.lenL U38 rfl (RowOf.long hr_14)) ?_
                  refine JL.gYes rfl rfl rfl ?_
                  refine JL.val rfl rfl (R.leq_i rfl rfl) ?_
                  refine JL.val rfl rfl (R.pickT rfl rfl) ?_
                  refine JL.val rfl rfl (R.assign rfl) ?_
                  refine JL.nil ?_
                  obtain rfl := Option.some.inj hx
                  refine JN.forget 4 ?_
                  refine JN.forget 3 ?_
                  refine JN.forget 2 ?_
                  refine JN.forget 1 ?_
                  refine JN.forget 0 ?_
                  exact JN.cut ⟨rfl, rfl, rfl⟩ ⟨rfl, trivial⟩ rfl rfl
                · replace hx := cond_f c_51 hx
                  refine JL.gNo rfl rfl rfl rfl rfl ?_
                  refine JL.gNo rfl rfl rfl rfl rfl ?_
                  refine JL.gNo rfl rfl rfl rfl rfl ?_
                  refine JL.val rfl rfl (R.pickF rfl rfl) ?_
                  refine JL.val rfl rfl (R.assign rfl) ?_
                  refine JL.nil ?_
                  obtain rfl := Option.some.inj hx
                  refine JN.forget 4 ?_
                  refine JN.forget 3 ?_
                  refine JN.forget 2 ?_
                  refine JN.forget 1 ?_
                  refine JN.forget 0 ?_
                  exact JN.cut ⟨rfl, rfl, rfl⟩ ⟨rfl, trivial⟩ rfl rfl
            · replace hx := cond_f c_47 hx
              refine JC.skip ?_
              refine JN.next ?_
              refine JC.seq ?_
              refine JC.region ?_
              refine JL.val rfl rfl (R.ldoN 0 (vs := [.slice aoz_39 nz_39 capz_39, .slice aor_40 nr_40 capr_40]) S25 rfl rfl rfl rfl) ?_
              obtain ⟨x_55, hr_56, hx⟩ := bnd_some hx
              refine JL.callL3 (vs := [_]) E12 rfl rfl (fun H_54 hle_53 hl_52 => label_Find_ok x_36.1 _ (IsSlice.mono (RSl.mono RU8.mono) hle_53 (hz_39.old (RSl.mono RU8.mono))) (Lent.row' 1 hl_52 R_Write.mono hle_53 rfl (hr_40.old R_Write.mono)) _ hr_56) rfl (fun _ _ _ _ hR_58 hf_59 => ?_)
              obtain ⟨aor_57, nr_57, capr_57, Kr_57, rfl, rfl, hr_57, -, -⟩ := hR_58
              replace hr_57 := RowOf.base (RowOf.const (H2 := New H Hu_38) R_Label.const hr_57) (fun p hp => hf_59 p (mem_seg 0 rfl hp))
              refine JL.val rfl rfl (R.move rfl) ?_
              refine JL.val rfl rfl (R.extract rfl rfl) ?_
              refine JL.val rfl rfl (R.extract rfl rfl) ?_
              refine JL.val rfl rfl (R.assign rfl) ?_
              refine JL.val rfl rfl (R.assign rfl) ?_
              refine JL.nil ?_
              refine JN.next ?_
              refine JC.seq ?_
              refine JC.seq ?_
              refine JC.region ?_
              refine JL.val rfl rfl (R.move rfl) ?_
              refine JL.val rfl rfl (R.neq_i rfl rfl) ?_
              refine JL.val rfl rfl (R.move rfl) ?_
              refine JL.gSplit (t := 117) rfl (fun c_60 => ?_) (fun c_60 => ?_)
              · replace hx := cond_t c_60 hx
                refine JL.gNo rfl rfl rfl rfl rfl ?_
                refine JL.gNo rfl rfl rfl rfl rfl ?_
                refine JL.gNo rfl rfl rfl rfl rfl ?_
                refine JL.val rfl rfl (R.pickT rfl rfl) ?_
                refine JL.nil ?_
                refine JN.next ?_
                refine JC.condT rfl ?_
                refine JC.seq ?_
                refine JC.region ?_
                refine JL.val rfl rfl (R.assign rfl) ?_
                refine JL.nil ?_
                refine JN.next ?_
                refine JC.ret ?_
                refine JN.passR ?_
                refine JN.outP (vs := [.bool false]) (K := []) (rst := [_, _, _, _, _, _]) (.inl rfl) rfl rfl (Res.tmp rfl rfl) picks0 ?_
                obtain rfl := Option.some.inj hx
                exact ⟨rfl, rfl, trivial⟩
              · replace hx := cond_f c_60 hx
                refine JL.gYes rfl rfl rfl ?_
                refine JL.val rfl rfl (R.move rfl) ?_
                refine JL.gYes rfl rfl rfl ?_
                refine JL.val rfl rfl (R.lenL U38 rfl (RowOf.long hr_57)) ?_
                refine JL.gYes rfl rfl rfl ?_
                refine JL.val rfl rfl (R.eql_i rfl rfl) ?_
                refine JL.val rfl rfl (R.pickF rfl rfl) ?_
                refine JL.nil ?_
                refine JN.next ?_
                refine JC.condB rfl (fun c_61 => ?_) (fun c_61 => ?_)
                · replace hx := cond_t c_61 hx
                  refine JC.seq ?_
                  refine JC.region ?_
                  refine JL.val rfl rfl (R.assign rfl) ?_
                  refine JL.nil ?_
                  refine JN.next ?_
                  refine JC.ret ?_
                  refine JN.passR ?_
                  refine JN.outP (vs := [.bool false]) (K := []) (rst := [_, _, _, _, _, _]) (.inl rfl) rfl rfl (Res.tmp rfl rfl) picks0 ?_
                  obtain rfl := Option.some.inj hx
                  exact ⟨rfl, rfl, trivial⟩
                · replace hx := cond_f c_61 hx
                  refine JC.skip ?_
                  refine JN.next ?_
                  refine JC.seq ?_
                  refine JC.region ?_
                  refine JL.val rfl rfl (R.assign rfl) ?_
                  refine JL.val rfl rfl (R.assign rfl) ?_
                  refine JL.val rfl rfl (R.assign rfl) ?_
                  refine JL.nil ?_
                  refine JN.next ?_
                  refine JC.seq ?_
                  refine JC.seq ?_
                  refine JC.region ?_
                  refine JL.val rfl rfl (R.assign rfl) ?_
                  refine JL.nil ?_
                  refine JN.next ?_
                  obtain ⟨t_62, ht_64, hx⟩ := bnd_some hx
                  refine JC.cut (fun l o g => ∃ t_62a : Bool × Int, l = [(3, .pointer (some ⟨b_6, 0, none⟩)), (5, .bool x_7), (11, .slice aor_57 nr_57 capr_57), (13, .bool t_62a.1), (14, .bool false), (15, .int .i64 t_62a.2)] ∧ o = [[(b_6, .cells #[.int .u32 (p_4.Gen.toNat : Int), .int .u32 (p_4.Epoch.toNat : Int), .int .i64 p_4.Root.At, .int .u32 (p_4.Root.Birth.toNat : Int), .int .u32 (p_4.Root.Iv.toNat : Int), .int .u32 (p_4.Root.Tag.toNat : Int), .int .u32 (p_4.Root.Sum.toNat : Int)] 30 (0, 0))], Kr_57] ∧ Hu_38 = g ∧ t_62 = .inl t_62a) ?_ ?_
                  · rintro _ _ _ ⟨t_62a, rfl, rfl, rfl, rfl⟩
                    simp only [Sum.elim_inl] at hx
                    refine JN.next ?_
                    refine JC.seq ?_
                    refine JC.seq ?_
                    refine JC.region ?_
                    refine JL.val rfl rfl (R.assign rfl) ?_
                    refine JL.nil ?_
                    refine JN.next ?_
                    obtain ⟨t_68, ht_70, hx⟩ := bnd_some hx
                    refine JC.cut (fun l o g => l = [(3, .pointer (some ⟨b_6, 0, none⟩)), (5, .bool x_7), (11, .slice aor_57 nr_57 capr_57), (13, .bool t_62a.1), (14, .bool t_68), (15, .int .i64 t_62a.2)] ∧ o = [[(b_6, .cells #[.int .u32 (p_4.Gen.toNat : Int), .int .u32 (p_4.Epoch.toNat : Int), .int .i64 p_4.Root.At, .int .u32 (p_4.Root.Birth.toNat : Int), .int .u32 (p_4.Root.Iv.toNat : Int), .int .u32 (p_4.Root.Tag.toNat : Int), .int .u32 (p_4.Root.Sum.toNat : Int)] 30 (0, 0))], Kr_57] ∧ Hu_38 = g) ?_ ?_
                    · rintro _ _ _ ⟨rfl, rfl, rfl⟩
                      refine JN.next ?_
                      refine JC.seq ?_
                      obtain ⟨t_74, ht_76, hx⟩ := bnd_some hx
                      refine JC.cut (fun l o g => l = [(4, .bool t_74)] ∧ o = [] ∧ Hu_38 = g) ?_ ?_
                      · rintro _ _ _ ⟨rfl, rfl, rfl⟩
                        refine JN.next ?_
                        refine JC.ret ?_
                        refine JN.outP (vs := [.bool t_74]) (K := []) (rst := []) (.inl rfl) rfl rfl (Res.tmp rfl rfl) picks0 ?_
                        obtain rfl := Option.some.inj hx
                        exact ⟨rfl, rfl, trivial⟩
                      · have hxo_75 := hx; clear hx; have hx := ht_76; clear ht_76
                        refine JC.draw (so := [_, _]) 23 rfl Mixed ⟨⟨0, rfl⟩, ⟨1, rfl⟩, trivial⟩ ?_
                        refine JA.val ⟨by kernel_rfl, by kernel_rfl⟩ (calm_only _) (i := 0) rfl ⟨by kernel_rfl, by kernel_rfl, rfl⟩ trivial (stab_of (Hle.refl _) ⟨⟨0, rfl⟩, ⟨1, rfl⟩, trivial⟩) (R.move rfl) rfl ?_
                        refine JA.val ⟨by kernel_rfl, by kernel_rfl⟩ (calm_only _) (i := 1) rfl ⟨by kernel_rfl, by kernel_rfl, rfl⟩ trivial (stab_of (Hle.refl _) ⟨⟨0, rfl⟩, ⟨1, rfl⟩, trivial⟩) (R.move rfl) rfl ?_
                        refine JA.gSplit (t := 184) rfl (fun c_77 => ?_) (fun c_77 => ?_)
                        · replace hx := cond_t c_77 hx
                          refine JA.val ⟨by kernel_rfl, by kernel_rfl⟩ (calm_only _) (i := 2) rfl ⟨by kernel_rfl, by kernel_rfl, rfl⟩ ⟨_, _, rfl, rfl, rfl⟩ (stab_of (Hle.refl _) ⟨⟨0, rfl⟩, ⟨1, rfl⟩, trivial⟩) (R.move rfl) rfl ?_
                          refine JA.val ⟨by kernel_rfl, by kernel_rfl⟩ (calm_only _) (i := 3) rfl ⟨by kernel_rfl, by kernel_rfl, rfl⟩ trivial (stab_of (Hle.refl _) ⟨⟨0, rfl⟩, ⟨1, rfl⟩, trivial⟩) (R.pickT rfl rfl) rfl ?_
                          refine JA.val ⟨by kernel_rfl, by kernel_rfl⟩ (calm_only _) (i := 4) rfl ⟨by kernel_rfl, by kernel_rfl, rfl⟩ trivial (stab_of (Hle.refl _) ⟨⟨0, rfl⟩, ⟨1, rfl⟩, trivial⟩) (R.move rfl) rfl ?_
                          refine JA.gSplit (t := 187) rfl (fun c_78 => ?_) (fun c_78 => ?_)
                          · replace hx := cond_t c_78 hx
                            refine JA.val ⟨by kernel_rfl, by kernel_rfl⟩ (calm_only _) (i := 5) rfl ⟨by kernel_rfl, by kernel_rfl, rfl⟩ ⟨_, _, rfl, rfl, rfl⟩ (stab_of (Hle.refl _) ⟨⟨0, rfl⟩, ⟨1, rfl⟩, trivial⟩) (R.move rfl) rfl ?_
                            refine JA.val ⟨by kernel_rfl, by kernel_rfl⟩ (calm_only _) (i := 6) rfl ⟨by kernel_rfl, by kernel_rfl, rfl⟩ ⟨_, _, rfl, rfl, rfl⟩ (stab_of (Hle.refl _) ⟨⟨0, rfl⟩, ⟨1, rfl⟩, trivial⟩) (R.lenL U38 rfl (RowOf.long hr_57)) rfl ?_
                            refine JA.val ⟨by kernel_rfl, by kernel_rfl⟩ (calm_only _) (i := 7) rfl ⟨by kernel_rfl, by kernel_rfl, rfl⟩ ⟨_, _, rfl, rfl, rfl⟩ (stab_of (Hle.refl _) ⟨⟨0, rfl⟩, ⟨1, rfl⟩, trivial⟩) (R.move rfl) rfl ?_
                            refine JA.val ⟨by kernel_rfl, by kernel_rfl⟩ (calm_only _) (i := 8) rfl ⟨by kernel_rfl, by kernel_rfl, rfl⟩ ⟨_, _, rfl, rfl, rfl⟩ (stab_of (Hle.refl _) ⟨⟨0, rfl⟩, ⟨1, rfl⟩, trivial⟩) (R.add_i rfl rfl) rfl ?_
                            refine JA.val ⟨by kernel_rfl, by kernel_rfl⟩ (calm_only _) (i := 9) rfl ⟨by kernel_rfl, by kernel_rfl, rfl⟩ ⟨_, _, rfl, rfl, rfl⟩ (stab_of (Hle.refl _) ⟨⟨0, rfl⟩, ⟨1, rfl⟩, trivial⟩) (R.eql_i rfl rfl) rfl ?_
                            refine JA.val ⟨by kernel_rfl, by kernel_rfl⟩ (calm_only _) (i := 10) rfl ⟨by kernel_rfl, by kernel_rfl, rfl⟩ trivial (stab_of (Hle.refl _) ⟨⟨0, rfl⟩, ⟨1, rfl⟩, trivial⟩) (R.pickT rfl rfl) rfl ?_
                            refine JA.val ⟨by kernel_rfl, by kernel_rfl⟩ (calm_only _) (i := 11) rfl ⟨by kernel_rfl, by kernel_rfl, rfl⟩ trivial (stab_of (Hle.refl _) ⟨⟨0, rfl⟩, ⟨1, rfl⟩, trivial⟩) (R.move rfl) rfl ?_
                            refine JA.gSplit (t := 194) rfl (fun c_79 => ?_) (fun c_79 => ?_)
                            · replace hx := cond_t c_79 hx
                              refine JA.val ⟨by kernel_rfl, by kernel_rfl⟩ (calm_only _) (i := 12) rfl ⟨by kernel_rfl, by kernel_rfl, rfl⟩ ⟨_, _, rfl, rfl, rfl⟩ (stab_of (Hle.refl _) ⟨⟨0, rfl⟩, ⟨1, rfl⟩, trivial⟩) (R.move rfl) rfl ?_
                              refine JA.val ⟨by kernel_rfl, by kernel_rfl⟩ (calm_only _) (i := 13) rfl ⟨by kernel_rfl, by kernel_rfl, rfl⟩ ⟨_, _, rfl, rfl, rfl⟩ (stab_of (Hle.refl _) ⟨⟨0, rfl⟩, ⟨1, rfl⟩, trivial⟩) (R.not rfl) rfl ?_
                              refine JA.val ⟨by kernel_rfl, by kernel_rfl⟩ (calm_only _) (i := 14) rfl ⟨by kernel_rfl, by kernel_rfl, rfl⟩ ⟨_, _, rfl, rfl, rfl⟩ (stab_of (Hle.refl _) ⟨⟨0, rfl⟩, ⟨1, rfl⟩, trivial⟩) (R.move rfl) rfl ?_
                              refine JA.gSplit (t := 197) rfl (fun c_80 => ?_) (fun c_80 => ?_)
                              · replace hx := cond_t c_80 hx
                                refine JA.no ⟨by kernel_rfl, by kernel_rfl⟩ (calm_only _) (i := 15) rfl ⟨by kernel_rfl, by kernel_rfl, rfl⟩ rfl rfl rfl rfl (stab_of (Hle.refl _) ⟨⟨0, rfl⟩, ⟨1, rfl⟩, trivial⟩) rfl ?_
                                refine JA.no ⟨by kernel_rfl, by kernel_rfl⟩ (calm_only _) (i := 16) rfl ⟨by kernel_rfl, by kernel_rfl, rfl⟩ rfl rfl rfl rfl (stab_of (Hle.refl _) ⟨⟨0, rfl⟩, ⟨1, rfl⟩, trivial⟩) rfl ?_
                                refine JA.no ⟨by kernel_rfl, by kernel_rfl⟩ (calm_only _) (i := 17) rfl ⟨by kernel_rfl, by kernel_rfl, rfl⟩ rfl rfl rfl rfl (stab_of (Hle.refl _) ⟨⟨0, rfl⟩, ⟨1, rfl⟩, trivial⟩) rfl ?_
                                refine JA.no ⟨by kernel_rfl, by kernel_rfl⟩ (calm_only _) (i := 18) rfl ⟨by kernel_rfl, by kernel_rfl, rfl⟩ rfl rfl rfl rfl (stab_of (Hle.refl _) ⟨⟨0, rfl⟩, ⟨1, rfl⟩, trivial⟩) rfl ?_
                                refine JA.no ⟨by kernel_rfl, by kernel_rfl⟩ (calm_only _) (i := 19) rfl ⟨by kernel_rfl, by kernel_rfl, rfl⟩ rfl rfl rfl rfl (stab_of (Hle.refl _) ⟨⟨0, rfl⟩, ⟨1, rfl⟩, trivial⟩) rfl ?_
                                refine JA.val ⟨by kernel_rfl, by kernel_rfl⟩ (calm_only _) (i := 20) rfl ⟨by kernel_rfl, by kernel_rfl, rfl⟩ ⟨_, _, rfl, rfl, rfl⟩ (stab_of (Hle.refl _) ⟨⟨0, rfl⟩, ⟨1, rfl⟩, trivial⟩) (R.pickT rfl rfl) rfl ?_
                                refine JA.val ⟨by kernel_rfl, by kernel_rfl⟩ (calm_only _) (i := 21) rfl ⟨by kernel_rfl, by kernel_rfl, rfl⟩ trivial (stab_of (Hle.refl _) ⟨⟨0, rfl⟩, ⟨1, rfl⟩, trivial⟩) (R.pickT rfl rfl) rfl ?_
                                refine JA.val ⟨by kernel_rfl, by kernel_rfl⟩ (calm_only _) (i := 22) rfl ⟨by kernel_rfl, by kernel_rfl, rfl⟩ trivial (stab_of (Hle.refl _) ⟨⟨0, rfl⟩, ⟨1, rfl⟩, trivial⟩) (R.assign rfl) rfl ?_
                                refine JA.doneN (by kernel_rfl) ?_
                                obtain rfl := Option.some.inj hx
                                refine JN.forget 1 ?_
                                refine JN.forget 0 ?_
                                exact JN.cut ⟨rfl, rfl, rfl⟩ ⟨rfl, trivial⟩ rfl rfl
                              · replace hx := cond_f c_80 hx
                                refine JA.val ⟨by kernel_rfl, by kernel_rfl⟩ (calm_only _) (i := 15) rfl ⟨by kernel_rfl, by kernel_rfl, rfl⟩ ⟨_, _, rfl, rfl, rfl⟩ (stab_of (Hle.refl _) ⟨⟨0, rfl⟩, ⟨1, rfl⟩, trivial⟩) (R.move rfl) rfl ?_
                                obtain ⟨y_81, hN_82, hx⟩ := idx_some hx
                                obtain ⟨b_83, o_84, cs_85, cur_90, hK_91, hE_86, hR_87, hl_88, hc_89⟩ := RowOf.elem hr_57 hN_82
                                subst hK_91
                                obtain rfl := hR_87
                                refine JA.val ⟨by kernel_rfl, by kernel_rfl⟩ (calm_only _) (i := 16) rfl ⟨by kernel_rfl, by kernel_rfl, rfl⟩ ⟨_, _, rfl, rfl, rfl⟩ (stab_of (Hle.refl _) ⟨⟨0, rfl⟩, ⟨1, rfl⟩, trivial⟩) (R.ix U38 S30 rfl rfl hE_86) rfl ?_
                                refine JA.val ⟨by kernel_rfl, by kernel_rfl⟩ (calm_only _) (i := 17) rfl ⟨by kernel_rfl, by kernel_rfl, rfl⟩ ⟨_, _, rfl, rfl, rfl⟩ (stab_of (Hle.refl _) ⟨⟨0, rfl⟩, ⟨1, rfl⟩, trivial⟩) (R.ldoE 1 (cs := [.int .u32 (y_81.Gen.toNat : Int), .int .u32 (y_81.Epoch.toNat : Int), .int .i64 y_81.Root.At, .int .u32 (y_81.Root.Birth.toNat : Int), .int .u32 (y_81.Root.Iv.toNat : Int), .int .u32 (y_81.Root.Tag.toNat : Int), .int .u32 (y_81.Root.Sum.toNat : Int)]) (k := 0) (vs := [.int .u32 (y_81.Gen.toNat : Int), .int .u32 (y_81.Epoch.toNat : Int), .int .i64 y_81.Root.At, .int .u32 (y_81.Root.Birth.toNat : Int), .int .u32 (y_81.Root.Iv.toNat : Int), .int .u32 (y_81.Root.Tag.toNat : Int), .int .u32 (y_81.Root.Sum.toNat : Int)]) S30 rfl rfl hc_89 rfl rfl) rfl ?_
                                refine JA.val ⟨by kernel_rfl, by kernel_rfl⟩ (calm_only _) (i := 18) rfl ⟨by kernel_rfl, by kernel_rfl, rfl⟩ ⟨_, _, rfl, rfl, rfl⟩ (stab_of (Hle.refl _) ⟨⟨0, rfl⟩, ⟨1, rfl⟩, trivial⟩) (R.ldoN 0 (vs := [.int .u32 (p_4.Gen.toNat : Int), .int .u32 (p_4.Epoch.toNat : Int), .int .i64 p_4.Root.At, .int .u32 (p_4.Root.Birth.toNat : Int), .int .u32 (p_4.Root.Iv.toNat : Int), .int .u32 (p_4.Root.Tag.toNat : Int), .int .u32 (p_4.Root.Sum.toNat : Int)]) S30 rfl rfl rfl rfl) rfl ?_
                                refine JA.val ⟨by kernel_rfl, by kernel_rfl⟩ (calm_only _) (i := 19) rfl ⟨by kernel_rfl, by kernel_rfl, rfl⟩ ⟨_, _, rfl, rfl, rfl⟩ (stab_of (Hle.refl _) ⟨⟨0, rfl⟩, ⟨1, rfl⟩, trivial⟩) (R.eqlAgg QU30 QP30 QG30 QF30 rfl rfl (EqF.u32 (a := y_81.Gen) (b := p_4.Gen) (by decide) S26 U26 rfl rfl (EqF.u32 (a := y_81.Epoch) (b := p_4.Epoch) (by decide) S26 U26 rfl rfl (EqF.s (by decide) S28 QU28 QP28 QF28 rfl rfl (EqF.i (by decide) S3 U3 rfl rfl (EqF.u32 (a := y_81.Root.Birth) (b := p_4.Root.Birth) (by decide) S26 U26 rfl rfl (EqF.u32 (a := y_81.Root.Iv) (b := p_4.Root.Iv) (by decide) S26 U26 rfl rfl (EqF.u32 (a := y_81.Root.Tag) (b := p_4.Root.Tag) (by decide) S26 U26 rfl rfl (EqF.u32 (a := y_81.Root.Sum) (b := p_4.Root.Sum) (by decide) S26 U26 rfl rfl EqF.nil))))) EqF.nil)))) rfl ?_
                                refine JA.val ⟨by kernel_rfl, by kernel_rfl⟩ (calm_only _) (i := 20) rfl ⟨by kernel_rfl, by kernel_rfl, rfl⟩ ⟨_, _, rfl, rfl, rfl⟩ (stab_of (Hle.refl _) ⟨⟨0, rfl⟩, ⟨1, rfl⟩, trivial⟩) (R.pickF rfl rfl) rfl ?_
                                refine JA.val ⟨by kernel_rfl, by kernel_rfl⟩ (calm_only _) (i := 21) rfl ⟨by kernel_rfl, by kernel_rfl, rfl⟩ trivial (stab_of (Hle.refl _) ⟨⟨0, rfl⟩, ⟨1, rfl⟩, trivial⟩) (R.pickT rfl rfl) rfl ?_
                                refine JA.val ⟨by kernel_rfl, by kernel_rfl⟩ (calm_only _) (i := 22) rfl ⟨by kernel_rfl, by kernel_rfl, rfl⟩ trivial (stab_of (Hle.refl _) ⟨⟨0, rfl⟩, ⟨1, rfl⟩, trivial⟩) (R.assign rfl) rfl ?_
                                refine JA.doneN (by kernel_rfl) ?_
                                obtain rfl := Option.some.inj hx
                                refine JN.forget 1 ?_
                                refine JN.forget 0 ?_
                                exact JN.cut ⟨rfl, rfl, rfl⟩ ⟨rfl, trivial⟩ rfl rfl
                            · replace hx := cond_f c_79 hx
                              refine JA.no ⟨by kernel_rfl, by kernel_rfl⟩ (calm_only _) (i := 12) rfl ⟨by kernel_rfl, by kernel_rfl, rfl⟩ rfl rfl rfl rfl (stab_of (Hle.refl _) ⟨⟨0, rfl⟩, ⟨1, rfl⟩, trivial⟩) rfl ?_
                              refine JA.no ⟨by kernel_rfl, by kernel_rfl⟩ (calm_only _) (i := 13) rfl ⟨by kernel_rfl, by kernel_rfl, rfl⟩ rfl rfl rfl rfl (stab_of (Hle.refl _) ⟨⟨0, rfl⟩, ⟨1, rfl⟩, trivial⟩) rfl ?_
                              refine JA.no ⟨by kernel_rfl, by kernel_rfl⟩ (calm_only _) (i := 14) rfl ⟨by kernel_rfl, by kernel_rfl, rfl⟩ rfl rfl rfl rfl (stab_of (Hle.refl _) ⟨⟨0, rfl⟩, ⟨1, rfl⟩, trivial⟩) rfl ?_
                              refine JA.noU ⟨by kernel_rfl, by kernel_rfl⟩ (calm_only _) (i := 15) rfl ⟨by kernel_rfl, by kernel_rfl, rfl⟩ rfl rfl rfl (stab_of (Hle.refl _) ⟨⟨0, rfl⟩, ⟨1, rfl⟩, trivial⟩) rfl ?_
                              refine JA.noU ⟨by kernel_rfl, by kernel_rfl⟩ (calm_only _) (i := 16) rfl ⟨by kernel_rfl, by kernel_rfl, rfl⟩ rfl rfl rfl (stab_of (Hle.refl _) ⟨⟨0, rfl⟩, ⟨1, rfl⟩, trivial⟩) rfl ?_
                              refine JA.noU ⟨by kernel_rfl, by kernel_rfl⟩ (calm_only _) (i := 17) rfl ⟨by kernel_rfl, by kernel_rfl, rfl⟩ rfl rfl rfl (stab_of (Hle.refl _) ⟨⟨0, rfl⟩, ⟨1, rfl⟩, trivial⟩) rfl ?_
                              refine JA.noU ⟨by kernel_rfl, by kernel_rfl⟩ (calm_only _) (i := 18) rfl ⟨by kernel_rfl, by kernel_rfl, rfl⟩ rfl rfl rfl (stab_of (Hle.refl _) ⟨⟨0, rfl⟩, ⟨1, rfl⟩, trivial⟩) rfl ?_
                              refine JA.noU ⟨by kernel_rfl, by kernel_rfl⟩ (calm_only _) (i := 19) rfl ⟨by kernel_rfl, by kernel_rfl, rfl⟩ rfl rfl rfl (stab_of (Hle.refl _) ⟨⟨0, rfl⟩, ⟨1, rfl⟩, trivial⟩) rfl ?_
                              refine JA.no ⟨by kernel_rfl, by kernel_rfl⟩ (calm_only _) (i := 20) rfl ⟨by kernel_rfl, by kernel_rfl, rfl⟩ rfl rfl rfl rfl (stab_of (Hle.refl _) ⟨⟨0, rfl⟩, ⟨1, rfl⟩, trivial⟩) rfl ?_
                              refine JA.val ⟨by kernel_rfl, by kernel_rfl⟩ (calm_only _) (i := 21) rfl ⟨by kernel_rfl, by kernel_rfl, rfl⟩ trivial (stab_of (Hle.refl _) ⟨⟨0, rfl⟩, ⟨1, rfl⟩, trivial⟩) (R.pickF rfl rfl) rfl ?_
                              refine JA.val ⟨by kernel_rfl, by kernel_rfl⟩ (calm_only _) (i := 22) rfl ⟨by kernel_rfl, by kernel_rfl, rfl⟩ trivial (stab_of (Hle.refl _) ⟨⟨0, rfl⟩, ⟨1, rfl⟩, trivial⟩) (R.assign rfl) rfl ?_
                              refine JA.doneN (by kernel_rfl) ?_
                              obtain rfl := Option.some.inj hx
                              refine JN.forget 1 ?_
                              refine JN.forget 0 ?_
                              exact JN.cut ⟨rfl, rfl, rfl⟩ ⟨rfl, trivial⟩ rfl rfl
                          · replace hx := cond_f c_78 hx
                            refine JA.no ⟨by kernel_rfl, by kernel_rfl⟩ (calm_only _) (i := 5) rfl ⟨by kernel_rfl, by kernel_rfl, rfl⟩ rfl rfl rfl rfl (stab_of (Hle.refl _) ⟨⟨0, rfl⟩, ⟨1, rfl⟩, trivial⟩) rfl ?_
                            refine JA.no ⟨by kernel_rfl, by kernel_rfl⟩ (calm_only _) (i := 6) rfl ⟨by kernel_rfl, by kernel_rfl, rfl⟩ rfl rfl rfl rfl (stab_of (Hle.refl _) ⟨⟨0, rfl⟩, ⟨1, rfl⟩, trivial⟩) rfl ?_
                            refine JA.no ⟨by kernel_rfl, by kernel_rfl⟩ (calm_only _) (i := 7) rfl ⟨by kernel_rfl, by kernel_rfl, rfl⟩ rfl rfl rfl rfl (stab_of (Hle.refl _) ⟨⟨0, rfl⟩, ⟨1, rfl⟩, trivial⟩) rfl ?_
                            refine JA.no ⟨by kernel_rfl, by kernel_rfl⟩ (calm_only _) (i := 8) rfl ⟨by kernel_rfl, by kernel_rfl, rfl⟩ rfl rfl rfl rfl (stab_of (Hle.refl _) ⟨⟨0, rfl⟩, ⟨1, rfl⟩, trivial⟩) rfl ?_
                            refine JA.no ⟨by kernel_rfl, by kernel_rfl⟩ (calm_only _) (i := 9) rfl ⟨by kernel_rfl, by kernel_rfl, rfl⟩ rfl rfl rfl rfl (stab_of (Hle.refl _) ⟨⟨0, rfl⟩, ⟨1, rfl⟩, trivial⟩) rfl ?_
                            refine JA.val ⟨by kernel_rfl, by kernel_rfl⟩ (calm_only _) (i := 10) rfl ⟨by kernel_rfl, by kernel_rfl, rfl⟩ trivial (stab_of (Hle.refl _) ⟨⟨0, rfl⟩, ⟨1, rfl⟩, trivial⟩) (R.pickF rfl rfl) rfl ?_
                            refine JA.val ⟨by kernel_rfl, by kernel_rfl⟩ (calm_only _) (i := 11) rfl ⟨by kernel_rfl, by kernel_rfl, rfl⟩ trivial (stab_of (Hle.refl _) ⟨⟨0, rfl⟩, ⟨1, rfl⟩, trivial⟩) (R.move rfl) rfl ?_
                            refine JA.no ⟨by kernel_rfl, by kernel_rfl⟩ (calm_only _) (i := 12) rfl ⟨by kernel_rfl, by kernel_rfl, rfl⟩ rfl rfl rfl rfl (stab_of (Hle.refl _) ⟨⟨0, rfl⟩, ⟨1, rfl⟩, trivial⟩) rfl ?_
                            refine JA.no ⟨by kernel_rfl, by kernel_rfl⟩ (calm_only _) (i := 13) rfl ⟨by kernel_rfl, by kernel_rfl, rfl⟩ rfl rfl rfl rfl (stab_of (Hle.refl _) ⟨⟨0, rfl⟩, ⟨1, rfl⟩, trivial⟩) rfl ?_
                            refine JA.no ⟨by kernel_rfl, by kernel_rfl⟩ (calm_only _) (i := 14) rfl ⟨by kernel_rfl, by kernel_rfl, rfl⟩ rfl rfl rfl rfl (stab_of (Hle.refl _) ⟨⟨0, rfl⟩, ⟨1, rfl⟩, trivial⟩) rfl ?_
                            refine JA.noU ⟨by kernel_rfl, by kernel_rfl⟩ (calm_only _) (i := 15) rfl ⟨by kernel_rfl, by kernel_rfl, rfl⟩ rfl rfl rfl (stab_of (Hle.refl _) ⟨⟨0, rfl⟩, ⟨1, rfl⟩, trivial⟩) rfl ?_
                            refine JA.noU ⟨by kernel_rfl, by kernel_rfl⟩ (calm_only _) (i := 16) rfl ⟨by kernel_rfl, by kernel_rfl, rfl⟩ rfl rfl rfl (stab_of (Hle.refl _) ⟨⟨0, rfl⟩, ⟨1, rfl⟩, trivial⟩) rfl ?_
                            refine JA.noU ⟨by kernel_rfl, by kernel_rfl⟩ (calm_only _) (i := 17) rfl ⟨by kernel_rfl, by kernel_rfl, rfl⟩ rfl rfl rfl (stab_of (Hle.refl _) ⟨⟨0, rfl⟩, ⟨1, rfl⟩, trivial⟩) rfl ?_
                            refine JA.noU ⟨by kernel_rfl, by kernel_rfl⟩ (calm_only _) (i := 18) rfl ⟨by kernel_rfl, by kernel_rfl, rfl⟩ rfl rfl rfl (stab_of (Hle.refl _) ⟨⟨0, rfl⟩, ⟨1, rfl⟩, trivial⟩) rfl ?_
                            refine JA.noU ⟨by kernel_rfl, by kernel_rfl⟩ (calm_only _) (i := 19) rfl ⟨by kernel_rfl, by kernel_rfl, rfl⟩ rfl rfl rfl (stab_of (Hle.refl _) ⟨⟨0, rfl⟩, ⟨1, rfl⟩, trivial⟩) rfl ?_
                            refine JA.no ⟨by kernel_rfl, by kernel_rfl⟩ (calm_only _) (i := 20) rfl ⟨by kernel_rfl, by kernel_rfl, rfl⟩ rfl rfl rfl rfl (stab_of (Hle.refl _) ⟨⟨0, rfl⟩, ⟨1, rfl⟩, trivial⟩) rfl ?_
                            refine JA.val ⟨by kernel_rfl, by kernel_rfl⟩ (calm_only _) (i := 21) rfl ⟨by kernel_rfl, by kernel_rfl, rfl⟩ trivial (stab_of (Hle.refl _) ⟨⟨0, rfl⟩, ⟨1, rfl⟩, trivial⟩) (R.pickF rfl rfl) rfl ?_
                            refine JA.val ⟨by kernel_rfl, by kernel_rfl⟩ (calm_only _) (i := 22) rfl ⟨by kernel_rfl, by kernel_rfl, rfl⟩ trivial (stab_of (Hle.refl _) ⟨⟨0, rfl⟩, ⟨1, rfl⟩, trivial⟩) (R.assign rfl) rfl ?_
                            refine JA.doneN (by kernel_rfl) ?_
                            obtain rfl := Option.some.inj hx
                            refine JN.forget 1 ?_
                            refine JN.forget 0 ?_
                            exact JN.cut ⟨rfl, rfl, rfl⟩ ⟨rfl, trivial⟩ rfl rfl
                        · replace hx := cond_f c_77 hx
                          refine JA.no ⟨by kernel_rfl, by kernel_rfl⟩ (calm_only _) (i := 2) rfl ⟨by kernel_rfl, by kernel_rfl, rfl⟩ rfl rfl rfl rfl (stab_of (Hle.refl _) ⟨⟨0, rfl⟩, ⟨1, rfl⟩, trivial⟩) rfl ?_
                          refine JA.val ⟨by kernel_rfl, by kernel_rfl⟩ (calm_only _) (i := 3) rfl ⟨by kernel_rfl, by kernel_rfl, rfl⟩ trivial (stab_of (Hle.refl _) ⟨⟨0, rfl⟩, ⟨1, rfl⟩, trivial⟩) (R.pickF rfl rfl) rfl ?_
                          refine JA.val ⟨by kernel_rfl, by kernel_rfl⟩ (calm_only _) (i := 4) rfl ⟨by kernel_rfl, by kernel_rfl, rfl⟩ trivial (stab_of (Hle.refl _) ⟨⟨0, rfl⟩, ⟨1, rfl⟩, trivial⟩) (R.move rfl) rfl ?_
                          refine JA.no ⟨by kernel_rfl, by kernel_rfl⟩ (calm_only _) (i := 5) rfl ⟨by kernel_rfl, by kernel_rfl, rfl⟩ rfl rfl rfl rfl (stab_of (Hle.refl _) ⟨⟨0, rfl⟩, ⟨1, rfl⟩, trivial⟩) rfl ?_
                          refine JA.no ⟨by kernel_rfl, by kernel_rfl⟩ (calm_only _) (i := 6) rfl ⟨by kernel_rfl, by kernel_rfl, rfl⟩ rfl rfl rfl rfl (stab_of (Hle.refl _) ⟨⟨0, rfl⟩, ⟨1, rfl⟩, trivial⟩) rfl ?_
                          refine JA.no ⟨by kernel_rfl, by kernel_rfl⟩ (calm_only _) (i := 7) rfl ⟨by kernel_rfl, by kernel_rfl, rfl⟩ rfl rfl rfl rfl (stab_of (Hle.refl _) ⟨⟨0, rfl⟩, ⟨1, rfl⟩, trivial⟩) rfl ?_
                          refine JA.no ⟨by kernel_rfl, by kernel_rfl⟩ (calm_only _) (i := 8) rfl ⟨by kernel_rfl, by kernel_rfl, rfl⟩ rfl rfl rfl rfl (stab_of (Hle.refl _) ⟨⟨0, rfl⟩, ⟨1, rfl⟩, trivial⟩) rfl ?_
                          refine JA.no ⟨by kernel_rfl, by kernel_rfl⟩ (calm_only _) (i := 9) rfl ⟨by kernel_rfl, by kernel_rfl, rfl⟩ rfl rfl rfl rfl (stab_of (Hle.refl _) ⟨⟨0, rfl⟩, ⟨1, rfl⟩, trivial⟩) rfl ?_
                          refine JA.val ⟨by kernel_rfl, by kernel_rfl⟩ (calm_only _) (i := 10) rfl ⟨by kernel_rfl, by kernel_rfl, rfl⟩ trivial (stab_of (Hle.refl _) ⟨⟨0, rfl⟩, ⟨1, rfl⟩, trivial⟩) (R.pickF rfl rfl) rfl ?_
                          refine JA.val ⟨by kernel_rfl, by kernel_rfl⟩ (calm_only _) (i := 11) rfl ⟨by kernel_rfl, by kernel_rfl, rfl⟩ trivial (stab_of (Hle.refl _) ⟨⟨0, rfl⟩, ⟨1, rfl⟩, trivial⟩) (R.move rfl) rfl ?_
                          refine JA.no ⟨by kernel_rfl, by kernel_rfl⟩ (calm_only _) (i := 12) rfl ⟨by kernel_rfl, by kernel_rfl, rfl⟩ rfl rfl rfl rfl (stab_of (Hle.refl _) ⟨⟨0, rfl⟩, ⟨1, rfl⟩, trivial⟩) rfl ?_
                          refine JA.no ⟨by kernel_rfl, by kernel_rfl⟩ (calm_only _) (i := 13) rfl ⟨by kernel_rfl, by kernel_rfl, rfl⟩ rfl rfl rfl rfl (stab_of (Hle.refl _) ⟨⟨0, rfl⟩, ⟨1, rfl⟩, trivial⟩) rfl ?_
                          refine JA.no ⟨by kernel_rfl, by kernel_rfl⟩ (calm_only _) (i := 14) rfl ⟨by kernel_rfl, by kernel_rfl, rfl⟩ rfl rfl rfl rfl (stab_of (Hle.refl _) ⟨⟨0, rfl⟩, ⟨1, rfl⟩, trivial⟩) rfl ?_
                          refine JA.noU ⟨by kernel_rfl, by kernel_rfl⟩ (calm_only _) (i := 15) rfl ⟨by kernel_rfl, by kernel_rfl, rfl⟩ rfl rfl rfl (stab_of (Hle.refl _) ⟨⟨0, rfl⟩, ⟨1, rfl⟩, trivial⟩) rfl ?_
                          refine JA.noU ⟨by kernel_rfl, by kernel_rfl⟩ (calm_only _) (i := 16) rfl ⟨by kernel_rfl, by kernel_rfl, rfl⟩ rfl rfl rfl (stab_of (Hle.refl _) ⟨⟨0, rfl⟩, ⟨1, rfl⟩, trivial⟩) rfl ?_
                          refine JA.noU ⟨by kernel_rfl, by kernel_rfl⟩ (calm_only _) (i := 17) rfl ⟨by kernel_rfl, by kernel_rfl, rfl⟩ rfl rfl rfl (stab_of (Hle.refl _) ⟨⟨0, rfl⟩, ⟨1, rfl⟩, trivial⟩) rfl ?_
                          refine JA.noU ⟨by kernel_rfl, by kernel_rfl⟩ (calm_only _) (i := 18) rfl ⟨by kernel_rfl, by kernel_rfl, rfl⟩ rfl rfl rfl (stab_of (Hle.refl _) ⟨⟨0, rfl⟩, ⟨1, rfl⟩, trivial⟩) rfl ?_
                          refine JA.noU ⟨by kernel_rfl, by kernel_rfl⟩ (calm_only _) (i := 19) rfl ⟨by kernel_rfl, by kernel_rfl, rfl⟩ rfl rfl rfl (stab_of (Hle.refl _) ⟨⟨0, rfl⟩, ⟨1, rfl⟩, trivial⟩) rfl ?_
                          refine JA.no ⟨by kernel_rfl, by kernel_rfl⟩ (calm_only _) (i := 20) rfl ⟨by kernel_rfl, by kernel_rfl, rfl⟩ rfl rfl rfl rfl (stab_of (Hle.refl _) ⟨⟨0, rfl⟩, ⟨1, rfl⟩, trivial⟩) rfl ?_
                          refine JA.val ⟨by kernel_rfl, by kernel_rfl⟩ (calm_only _) (i := 21) rfl ⟨by kernel_rfl, by kernel_rfl, rfl⟩ trivial (stab_of (Hle.refl _) ⟨⟨0, rfl⟩, ⟨1, rfl⟩, trivial⟩) (R.pickF rfl rfl) rfl ?_
                          refine JA.val ⟨by kernel_rfl, by kernel_rfl⟩ (calm_only _) (i := 22) rfl ⟨by kernel_rfl, by kernel_rfl, rfl⟩ trivial (stab_of (Hle.refl _) ⟨⟨0, rfl⟩, ⟨1, rfl⟩, trivial⟩) (R.assign rfl) rfl ?_
                          refine JA.doneN (by kernel_rfl) ?_
                          obtain rfl := Option.some.inj hx
                          refine JN.forget 1 ?_
                          refine JN.forget 0 ?_
                          exact JN.cut ⟨rfl, rfl, rfl⟩ ⟨rfl, trivial⟩ rfl rfl
                    · have hxo_69 := hx; clear hx; have hx := ht_70; clear ht_70
                      refine JC.block ?_
                      refine JC.front 1 rfl ?_
                      refine JC.front 1 rfl ?_
                      refine JC.loopI (fun n l o g => ∃ s_71 : Bool × Nat, l = [(3, .pointer (some ⟨b_6, 0, none⟩)), (5, .bool x_7), (11, .slice aor_57 nr_57 capr_57), (13, .bool t_62a.1), (14, .bool s_71.1), (15, .int .i64 t_62a.2), (19, .int .i64 ((s_71.2 : Nat) : Int))] ∧ o = [[(b_6, .cells #[.int .u32 (p_4.Gen.toNat : Int), .int .u32 (p_4.Epoch.toNat : Int), .int .i64 p_4.Root.At, .int .u32 (p_4.Root.Birth.toNat : Int), .int .u32 (p_4.Root.Iv.toNat : Int), .int .u32 (p_4.Root.Tag.toNat : Int), .int .u32 (p_4.Root.Sum.toNat : Int)] 30 (0, 0))], Kr_57] ∧ Hu_38 = g ∧ run (law11_LabelStands_l4 p_4 x_55) n s_71 = some t_68) FUEL ?_ ⟨(false, 0), rfl, rfl, rfl, hx⟩ ⟨rfl, rfl, rfl, rfl, rfl, rfl, rfl, trivial⟩ ?_
                      · rintro _ _ _ ⟨s_71, rfl, rfl, rfl, hn_72⟩
                        exact run_zero hn_72
                      · rintro n_73 _ _ _ ⟨s_71, rfl, rfl, rfl, hn_72⟩
                        clear hx; obtain ⟨oo_75, hx, hd_74⟩ := run_some hn_72
                        rw [law11_LabelStands_l4.eq_1] at hx
                        refine JC.seq ?_
                        refine JC.seq ?_
                        refine JC.region ?_
                        refine JL.val rfl rfl (R.move rfl) ?_
                        refine JL.val rfl rfl (R.move rfl) ?_
                        refine JL.val rfl rfl (R.lenL U38 rfl (RowOf.long hr_57)) ?_
                        refine JL.val rfl rfl (R.lss_i rfl rfl) ?_
                        refine JL.nil ?_
                        refine JN.next ?_
                        refine JC.condB rfl (fun c_74 => ?_) (fun c_74 => ?_)
                        · replace hx := cond_t c_74 hx
                          refine JC.skip ?_
                          refine JN.next ?_
                          refine JC.seq ?_
                          refine JC.block ?_
                          refine JC.draw (so := [_, _]) 10 rfl Mixed ⟨⟨0, rfl⟩, ⟨1, rfl⟩, trivial⟩ ?_
                          refine JA.val ⟨by kernel_rfl, by kernel_rfl⟩ (calm_only _) (i := 0) rfl ⟨by kernel_rfl, by kernel_rfl, rfl⟩ trivial (stab_of (Hle.refl _) ⟨⟨0, rfl⟩, ⟨1, rfl⟩, trivial⟩) (R.move rfl) rfl ?_
                          refine JA.val ⟨by kernel_rfl, by kernel_rfl⟩ (calm_only _) (i := 1) rfl ⟨by kernel_rfl, by kernel_rfl, rfl⟩ trivial (stab_of (Hle.refl _) ⟨⟨0, rfl⟩, ⟨1, rfl⟩, trivial⟩) (R.move rfl) rfl ?_
                          refine JA.gSplit (t := 175) rfl (fun c_75 => ?_) (fun c_75 => ?_)
                          · replace hx := cond_t c_75 hx
                            refine JA.no ⟨by kernel_rfl, by kernel_rfl⟩ (calm_only _) (i := 2) rfl ⟨by kernel_rfl, by kernel_rfl, rfl⟩ rfl rfl rfl rfl (stab_of (Hle.refl _) ⟨⟨0, rfl⟩, ⟨1, rfl⟩, trivial⟩) rfl ?_
                            refine JA.no ⟨by kernel_rfl, by kernel_rfl⟩ (calm_only _) (i := 3) rfl ⟨by kernel_rfl, by kernel_rfl, rfl⟩ rfl rfl rfl rfl (stab_of (Hle.refl _) ⟨⟨0, rfl⟩, ⟨1, rfl⟩, trivial⟩) rfl ?_
                            refine JA.no ⟨by kernel_rfl, by kernel_rfl⟩ (calm_only _) (i := 4) rfl ⟨by kernel_rfl, by kernel_rfl, rfl⟩ rfl rfl rfl rfl (stab_of (Hle.refl _) ⟨⟨0, rfl⟩, ⟨1, rfl⟩, trivial⟩) rfl ?_
                            refine JA.no ⟨by kernel_rfl, by kernel_rfl⟩ (calm_only _) (i := 5) rfl ⟨by kernel_rfl, by kernel_rfl, rfl⟩ rfl rfl rfl rfl (stab_of (Hle.refl _) ⟨⟨0, rfl⟩, ⟨1, rfl⟩, trivial⟩) rfl ?_
                            refine JA.no ⟨by kernel_rfl, by kernel_rfl⟩ (calm_only _) (i := 6) rfl ⟨by kernel_rfl, by kernel_rfl, rfl⟩ rfl rfl rfl rfl (stab_of (Hle.refl _) ⟨⟨0, rfl⟩, ⟨1, rfl⟩, trivial⟩) rfl ?_
                            refine JA.no ⟨by kernel_rfl, by kernel_rfl⟩ (calm_only _) (i := 7) rfl ⟨by kernel_rfl, by kernel_rfl, rfl⟩ rfl rfl rfl rfl (stab_of (Hle.refl _) ⟨⟨0, rfl⟩, ⟨1, rfl⟩, trivial⟩) rfl ?_
                            refine JA.val ⟨by kernel_rfl, by kernel_rfl⟩ (calm_only _) (i := 8) rfl ⟨by kernel_rfl, by kernel_rfl, rfl⟩ trivial (stab_of (Hle.refl _) ⟨⟨0, rfl⟩, ⟨1, rfl⟩, trivial⟩) (R.pickT rfl rfl) rfl ?_
                            refine JA.val ⟨by kernel_rfl, by kernel_rfl⟩ (calm_only _) (i := 9) rfl ⟨by kernel_rfl, by kernel_rfl, rfl⟩ trivial (stab_of (Hle.refl _) ⟨⟨0, rfl⟩, ⟨1, rfl⟩, trivial⟩) (R.assign rfl) rfl ?_
                            refine JA.doneN (by kernel_rfl) ?_
                            refine JN.blkN ?_
                            refine JN.next ?_
                            refine JC.region ?_
                            refine JL.val rfl rfl (R.move rfl) ?_
                            refine JL.val rfl rfl (R.inc rfl rfl (of_decide_eq_true c_74) (RowOf.lenI hr_57)) ?_
                            refine JL.val rfl rfl (R.assign rfl) ?_
                            refine JL.nil ?_
                            replace hx := run_next hd_74 hx
                            refine JN.front 1 rfl ?_
                            refine JN.front 1 rfl ?_
                            exact JN.cut ⟨(true, s_71.2 + 1), rfl, rfl, rfl, hx⟩ ⟨rfl, rfl, rfl, rfl, rfl, rfl, rfl, trivial⟩ rfl rfl
                          · replace hx := cond_f c_75 hx
                            refine JA.val ⟨by kernel_rfl, by kernel_rfl⟩ (calm_only _) (i := 2) rfl ⟨by kernel_rfl, by kernel_rfl, rfl⟩ ⟨_, _, rfl, rfl, rfl⟩ (stab_of (Hle.refl _) ⟨⟨0, rfl⟩, ⟨1, rfl⟩, trivial⟩) (R.move rfl) rfl ?_
                            refine JA.val ⟨by kernel_rfl, by kernel_rfl⟩ (calm_only _) (i := 3) rfl ⟨by kernel_rfl, by kernel_rfl, rfl⟩ ⟨_, _, rfl, rfl, rfl⟩ (stab_of (Hle.refl _) ⟨⟨0, rfl⟩, ⟨1, rfl⟩, trivial⟩) (R.move rfl) rfl ?_
                            obtain ⟨y_76, hN_77, hx⟩ := idx_some hx
                            obtain ⟨b_78, o_79, cs_80, cur_85, hK_86, hE_81, hR_82, hl_83, hc_84⟩ := RowOf.elem hr_57 hN_77
                            subst hK_86
                            obtain rfl := hR_82
                            refine JA.val ⟨by kernel_rfl, by kernel_rfl⟩ (calm_only _) (i := 4) rfl ⟨by kernel_rfl, by kernel_rfl, rfl⟩ ⟨_, _, rfl, rfl, rfl⟩ (stab_of (Hle.refl _) ⟨⟨0, rfl⟩, ⟨1, rfl⟩, trivial⟩) (R.ix U38 S30 rfl rfl hE_81) rfl ?_
                            refine JA.val ⟨by kernel_rfl, by kernel_rfl⟩ (calm_only _) (i := 5) rfl ⟨by kernel_rfl, by kernel_rfl, rfl⟩ ⟨_, _, rfl, rfl, rfl⟩ (stab_of (Hle.refl _) ⟨⟨0, rfl⟩, ⟨1, rfl⟩, trivial⟩) (R.ldoE 1 (cs := [.int .u32 (y_76.Gen.toNat : Int), .int .u32 (y_76.Epoch.toNat : Int), .int .i64 y_76.Root.At, .int .u32 (y_76.Root.Birth.toNat : Int), .int .u32 (y_76.Root.Iv.toNat : Int), .int .u32 (y_76.Root.Tag.toNat : Int), .int .u32 (y_76.Root.Sum.toNat : Int)]) (k := 0) (vs := [.int .u32 (y_76.Gen.toNat : Int), .int .u32 (y_76.Epoch.toNat : Int), .int .i64 y_76.Root.At, .int .u32 (y_76.Root.Birth.toNat : Int), .int .u32 (y_76.Root.Iv.toNat : Int), .int .u32 (y_76.Root.Tag.toNat : Int), .int .u32 (y_76.Root.Sum.toNat : Int)]) S30 rfl rfl hc_84 rfl rfl) rfl ?_
                            refine JA.val ⟨by kernel_rfl, by kernel_rfl⟩ (calm_only _) (i := 6) rfl ⟨by kernel_rfl, by kernel_rfl, rfl⟩ ⟨_, _, rfl, rfl, rfl⟩ (stab_of (Hle.refl _) ⟨⟨0, rfl⟩, ⟨1, rfl⟩, trivial⟩) (R.ldoN 0 (vs := [.int .u32 (p_4.Gen.toNat : Int), .int .u32 (p_4.Epoch.toNat : Int), .int .i64 p_4.Root.At, .int .u32 (p_4.Root.Birth.toNat : Int), .int .u32 (p_4.Root.Iv.toNat : Int), .int .u32 (p_4.Root.Tag.toNat : Int), .int .u32 (p_4.Root.Sum.toNat : Int)]) S30 rfl rfl rfl rfl) rfl ?_
                            refine JA.val ⟨by kernel_rfl, by kernel_rfl⟩ (calm_only _) (i := 7) rfl ⟨by kernel_rfl, by kernel_rfl, rfl⟩ ⟨_, _, rfl, rfl, rfl⟩ (stab_of (Hle.refl _) ⟨⟨0, rfl⟩, ⟨1, rfl⟩, trivial⟩) (R.eqlAgg QU30 QP30 QG30 QF30 rfl rfl (EqF.u32 (a := y_76.Gen) (b := p_4.Gen) (by decide) S26 U26 rfl rfl (EqF.u32 (a := y_76.Epoch) (b := p_4.Epoch) (by decide) S26 U26 rfl rfl (EqF.s (by decide) S28 QU28 QP28 QF28 rfl rfl (EqF.i (by decide) S3 U3 rfl rfl (EqF.u32 (a := y_76.Root.Birth) (b := p_4.Root.Birth) (by decide) S26 U26 rfl rfl (EqF.u32 (a := y_76.Root.Iv) (b := p_4.Root.Iv) (by decide) S26 U26 rfl rfl (EqF.u32 (a := y_76.Root.Tag) (b := p_4.Root.Tag) (by decide) S26 U26 rfl rfl (EqF.u32 (a := y_76.Root.Sum) (b := p_4.Root.Sum) (by decide) S26 U26 rfl rfl EqF.nil))))) EqF.nil)))) rfl ?_
                            refine JA.val ⟨by kernel_rfl, by kernel_rfl⟩ (calm_only _) (i := 8) rfl ⟨by kernel_rfl, by kernel_rfl, rfl⟩ trivial (stab_of (Hle.refl _) ⟨⟨0, rfl⟩, ⟨1, rfl⟩, trivial⟩) (R.pickF rfl rfl) rfl ?_
                            refine JA.val ⟨by kernel_rfl, by kernel_rfl⟩ (calm_only _) (i := 9) rfl ⟨by kernel_rfl, by kernel_rfl, rfl⟩ trivial (stab_of (Hle.refl _) ⟨⟨0, rfl⟩, ⟨1, rfl⟩, trivial⟩) (R.assign rfl) rfl ?_
                            refine JA.doneN (by kernel_rfl) ?_
                            refine JN.blkN ?_
                            refine JN.next ?_
                            refine JC.region ?_
                            refine JL.val rfl rfl (R.move rfl) ?_
                            refine JL.val rfl rfl (R.inc rfl rfl (of_decide_eq_true c_74) (RowOf.lenI hr_57)) ?_
                            refine JL.val rfl rfl (R.assign rfl) ?_
                            refine JL.nil ?_
                            replace hx := run_next hd_74 hx
                            refine JN.front 1 rfl ?_
                            refine JN.front 1 rfl ?_
                            exact JN.cut ⟨(decide (y_76.Gen = p_4.Gen) && (decide (y_76.Epoch = p_4.Epoch) && ((decide (y_76.Root.At = p_4.Root.At) && (decide (y_76.Root.Birth = p_4.Root.Birth) && (decide (y_76.Root.Iv = p_4.Root.Iv) && (decide (y_76.Root.Tag = p_4.Root.Tag) && (decide (y_76.Root.Sum = p_4.Root.Sum) && true))))) && true)), s_71.2 + 1), rfl, rfl, rfl, hx⟩ ⟨rfl, rfl, rfl, rfl, rfl, rfl, rfl, trivial⟩ rfl rfl
                        · replace hx := cond_f c_74 hx
                          refine JC.exit ?_
                          refine JN.passX ?_
                          obtain rfl := run_done hd_74 hx
                          refine JN.passX ?_
                          refine JN.exitSame ?_
                          refine JN.front 1 rfl ?_
                          refine JN.front 1 rfl ?_
                          exact JN.cut ⟨rfl, rfl, rfl⟩ ⟨rfl, rfl, rfl, rfl, rfl, rfl, trivial⟩ rfl rfl
                  · have hxo_63 := hx; clear hx; have hx := ht_64; clear ht_64
                    refine JC.block ?_
                    refine JC.forget 3 ?_
                    refine JC.forget 2 ?_
                    refine JC.forget 1 ?_
                    refine JC.front 2 rfl ?_
                    refine JC.front 2 rfl ?_
                    refine JC.loopI (fun n l o g => ∃ s_65 : Bool × Int × Nat, l = [(3, .pointer (some ⟨b_6, 0, none⟩)), (5, .bool x_7), (6, .slice aor_14 nr_14 capr_14), (11, .slice aor_57 nr_57 capr_57), (13, .bool s_65.1), (14, .bool false), (15, .int .i64 s_65.2.1), (16, .int .i64 ((s_65.2.2 : Nat) : Int))] ∧ o = [[(b_6, .cells #[.int .u32 (p_4.Gen.toNat : Int), .int .u32 (p_4.Epoch.toNat : Int), .int .i64 p_4.Root.At, .int .u32 (p_4.Root.Birth.toNat : Int), .int .u32 (p_4.Root.Iv.toNat : Int), .int .u32 (p_4.Root.Tag.toNat : Int), .int .u32 (p_4.Root.Sum.toNat : Int)] 30 (0, 0))], Kr_14, Kr_57] ∧ Hu_38 = g ∧ run (law11_LabelStands_l3 p_4 x_11 x_55) n s_65 = some t_62) FUEL ?_ ⟨(true, 0, 0), rfl, rfl, rfl, hx⟩ ⟨rfl, rfl, rfl, rfl, rfl, rfl, rfl, rfl, trivial⟩ ?_
                    · rintro _ _ _ ⟨s_65, rfl, rfl, rfl, hn_66⟩
                      exact run_zero hn_66
                    · rintro n_67 _ _ _ ⟨s_65, rfl, rfl, rfl, hn_66⟩
                      clear hx; obtain ⟨oo_69, hx, hd_68⟩ := run_some hn_66
                      rw [law11_LabelStands_l3.eq_1] at hx
                      refine JC.seq ?_
                      refine JC.seq ?_
                      refine JC.region ?_
                      refine JL.val rfl rfl (R.move rfl) ?_
                      refine JL.val rfl rfl (R.move rfl) ?_
                      refine JL.val rfl rfl (R.lenL U38 rfl (RowOf.long hr_14)) ?_
                      refine JL.val rfl rfl (R.lss_i rfl rfl) ?_
                      refine JL.nil ?_
                      refine JN.next ?_
                      refine JC.condB rfl (fun c_68 => ?_) (fun c_68 => ?_)
                      · replace hx := cond_t c_68 hx
                        refine JC.skip ?_
                        refine JN.next ?_
                        refine JC.seq ?_
                        refine JC.block ?_
                        refine JC.seq ?_
                        refine JC.seq ?_
                        refine JC.draw (so := [_, _, _]) 8 rfl Mixed ⟨⟨0, rfl⟩, ⟨1, rfl⟩, ⟨2, rfl⟩, trivial⟩ ?_
                        refine JA.val ⟨by kernel_rfl, by kernel_rfl⟩ (calm_only _) (i := 0) rfl ⟨by kernel_rfl, by kernel_rfl, rfl⟩ trivial (stab_of (Hle.refl _) ⟨⟨0, rfl⟩, ⟨1, rfl⟩, ⟨2, rfl⟩, trivial⟩) (R.move rfl) rfl ?_
                        refine JA.val ⟨by kernel_rfl, by kernel_rfl⟩ (calm_only _) (i := 1) rfl ⟨by kernel_rfl, by kernel_rfl, rfl⟩ trivial (stab_of (Hle.refl _) ⟨⟨0, rfl⟩, ⟨1, rfl⟩, ⟨2, rfl⟩, trivial⟩) (R.move rfl) rfl ?_
                        obtain ⟨y_69, hN_70, hx⟩ := idx_some hx
                        obtain ⟨b_71, o_72, cs_73, cur_78, hK_79, hE_74, hR_75, hl_76, hc_77⟩ := RowOf.elem (hr_14.mono R_Label.mono (New.mono hleu_38)) hN_70
                        subst hK_79
                        obtain rfl := hR_75
                        refine JA.val ⟨by kernel_rfl, by kernel_rfl⟩ (calm_only _) (i := 2) rfl ⟨by kernel_rfl, by kernel_rfl, rfl⟩ trivial (stab_of (Hle.refl _) ⟨⟨0, rfl⟩, ⟨1, rfl⟩, ⟨2, rfl⟩, trivial⟩) (R.ix U38 S30 rfl rfl hE_74) rfl ?_
                        refine JA.val ⟨by kernel_rfl, by kernel_rfl⟩ (calm_only _) (i := 3) rfl ⟨by kernel_rfl, by kernel_rfl, rfl⟩ trivial (stab_of (Hle.refl _) ⟨⟨0, rfl⟩, ⟨1, rfl⟩, ⟨2, rfl⟩, trivial⟩) (R.fa F30_0 rfl) rfl ?_
                        refine JA.val ⟨by kernel_rfl, by kernel_rfl⟩ (calm_only _) (i := 4) rfl ⟨by kernel_rfl, by kernel_rfl, rfl⟩ trivial (stab_of (Hle.refl _) ⟨⟨0, rfl⟩, ⟨1, rfl⟩, ⟨2, rfl⟩, trivial⟩) (R.ldo 1 S26 rfl rfl (hc_77 0 _ rfl)) rfl ?_
                        refine JA.val ⟨by kernel_rfl, by kernel_rfl⟩ (calm_only _) (i := 5) rfl ⟨by kernel_rfl, by kernel_rfl, rfl⟩ trivial (stab_of (Hle.refl _) ⟨⟨0, rfl⟩, ⟨1, rfl⟩, ⟨2, rfl⟩, trivial⟩) (R.fa F30_0 rfl) rfl ?_
                        refine JA.val ⟨by kernel_rfl, by kernel_rfl⟩ (calm_only _) (i := 6) rfl ⟨by kernel_rfl, by kernel_rfl, rfl⟩ trivial (stab_of (Hle.refl _) ⟨⟨0, rfl⟩, ⟨1, rfl⟩, ⟨2, rfl⟩, trivial⟩) (R.ldo 0 S26 rfl rfl rfl) rfl ?_
                        refine JA.val ⟨by kernel_rfl, by kernel_rfl⟩ (calm_only _) (i := 7) rfl ⟨by kernel_rfl, by kernel_rfl, rfl⟩ trivial (stab_of (Hle.refl _) ⟨⟨0, rfl⟩, ⟨1, rfl⟩, ⟨2, rfl⟩, trivial⟩) (R.geq32 (a := y_69.Gen) (b := p_4.Gen) rfl rfl) rfl ?_
                        refine JA.doneN (by kernel_rfl) ?_
                        refine JN.next ?_
                        obtain ⟨t_80, ht_82, hx⟩ := bnd_some hx
                        refine JC.cut (fun l o g => l = [(3, .pointer (some ⟨b_6, 0, none⟩)), (5, .bool x_7), (6, .slice aor_14 nr_14 capr_14), (11, .slice aor_57 nr_57 capr_57), (13, .bool t_80), (14, .bool false), (15, .int .i64 s_65.2.1), (16, .int .i64 ((s_65.2.2 : Nat) : Int))] ∧ o = [[(b_6, .cells #[.int .u32 (p_4.Gen.toNat : Int), .int .u32 (p_4.Epoch.toNat : Int), .int .i64 p_4.Root.At, .int .u32 (p_4.Root.Birth.toNat : Int), .int .u32 (p_4.Root.Iv.toNat : Int), .int .u32 (p_4.Root.Tag.toNat : Int), .int .u32 (p_4.Root.Sum.toNat : Int)] 30 (0, 0))], [(b_71, .cells cur_78 30 (0, 0))], Kr_57] ∧ Hu_38 = g) ?_ ?_
                        · rintro _ _ _ ⟨rfl, rfl, rfl⟩
                          refine JN.next ?_
                          refine JC.seq ?_
                          refine JC.seq ?_
                          refine JC.draw (so := [_, _, _]) 10 rfl Mixed ⟨⟨0, rfl⟩, ⟨1, rfl⟩, ⟨2, rfl⟩, trivial⟩ ?_
                          refine JA.val ⟨by kernel_rfl, by kernel_rfl⟩ (calm_only _) (i := 0) rfl ⟨by kernel_rfl, by kernel_rfl, rfl⟩ trivial (stab_of (Hle.refl _) ⟨⟨0, rfl⟩, ⟨1, rfl⟩, ⟨2, rfl⟩, trivial⟩) (R.move rfl) rfl ?_
                          refine JA.val ⟨by kernel_rfl, by kernel_rfl⟩ (calm_only _) (i := 1) rfl ⟨by kernel_rfl, by kernel_rfl, rfl⟩ trivial (stab_of (Hle.refl _) ⟨⟨0, rfl⟩, ⟨1, rfl⟩, ⟨2, rfl⟩, trivial⟩) (R.move rfl) rfl ?_
                          obtain ⟨y_84, hN_85, hx⟩ := idx_some hx
                          obtain ⟨b_86, o_87, cs_88, cur_93, hK_94, hE_89, hR_90, hl_91, hc_92⟩ := RowOf.elem (hr_14.mono R_Label.mono (New.mono hleu_38)) hN_85
                          obtain ⟨rfl, rfl⟩ : b_71 = b_86 ∧ cur_78 = cur_93 := by simpa using hK_94
                          obtain rfl := hR_90
                          refine JA.val ⟨by kernel_rfl, by kernel_rfl⟩ (calm_only _) (i := 2) rfl ⟨by kernel_rfl, by kernel_rfl, rfl⟩ trivial (stab_of (Hle.refl _) ⟨⟨0, rfl⟩, ⟨1, rfl⟩, ⟨2, rfl⟩, trivial⟩) (R.ix U38 S30 rfl rfl hE_89) rfl ?_
                          refine JA.val ⟨by kernel_rfl, by kernel_rfl⟩ (calm_only _) (i := 3) rfl ⟨by kernel_rfl, by kernel_rfl, rfl⟩ trivial (stab_of (Hle.refl _) ⟨⟨0, rfl⟩, ⟨1, rfl⟩, ⟨2, rfl⟩, trivial⟩) (R.fa F30_0 rfl) rfl ?_
                          refine JA.val ⟨by kernel_rfl, by kernel_rfl⟩ (calm_only _) (i := 4) rfl ⟨by kernel_rfl, by kernel_rfl, rfl⟩ trivial (stab_of (Hle.refl _) ⟨⟨0, rfl⟩, ⟨1, rfl⟩, ⟨2, rfl⟩, trivial⟩) (R.ldo 1 S26 rfl rfl (hc_92 0 _ rfl)) rfl ?_
                          refine JA.val ⟨by kernel_rfl, by kernel_rfl⟩ (calm_only _) (i := 6) rfl ⟨by kernel_rfl, by kernel_rfl, rfl⟩ trivial (stab_of (Hle.refl _) ⟨⟨0, rfl⟩, ⟨1, rfl⟩, ⟨2, rfl⟩, trivial⟩) (R.fa F30_0 rfl) rfl ?_
                          refine JA.val ⟨by kernel_rfl, by kernel_rfl⟩ (calm_only _) (i := 7) rfl ⟨by kernel_rfl, by kernel_rfl, rfl⟩ trivial (stab_of (Hle.refl _) ⟨⟨0, rfl⟩, ⟨1, rfl⟩, ⟨2, rfl⟩, trivial⟩) (R.ldo 0 S26 rfl rfl rfl) rfl ?_
                          refine JA.one (i := 5) (by kernel_rfl) ?_
                          refine JO.step rfl trivial rfl (fun K hK => ?_)
                          obtain ⟨x_95, hr_96, hx⟩ := bnd_some hx
                          refine JL.callC (vs := [_]) (args := [_]) (K := []) (rst := [_, _, _]) E15 rfl rfl rfl picks0 (label_Slot_ok y_84.Gen _ _ hr_96) rfl (fun u_97 Ku_97 Hu_97 hRu_97 hleu_97 hfu_97 => ?_)
                          obtain ⟨rfl, rfl, rfl, -⟩ := hRu_97
                          refine JL.nil ?_
                          refine hK _ _ _ (stab_of (Hle.refl _) ⟨⟨0, rfl⟩, ⟨1, rfl⟩, ⟨2, rfl⟩, trivial⟩) ?_
                          refine JA.one (i := 8) (by kernel_rfl) ?_
                          refine JO.step rfl trivial rfl (fun K hK => ?_)
                          obtain ⟨x_98, hr_99, hx⟩ := bnd_some hx
                          refine JL.callC (vs := [_]) (args := [_]) (K := []) (rst := [_, _, _]) E15 rfl rfl rfl picks0 (label_Slot_ok p_4.Gen _ _ hr_99) rfl (fun u_100 Ku_100 Hu_100 hRu_100 hleu_100 hfu_100 => ?_)
                          obtain ⟨rfl, rfl, rfl, -⟩ := hRu_100
                          refine JL.nil ?_
                          refine hK _ _ _ (stab_of (Hle.refl _) ⟨⟨0, rfl⟩, ⟨1, rfl⟩, ⟨2, rfl⟩, trivial⟩) ?_
                          refine JA.val ⟨by kernel_rfl, by kernel_rfl⟩ (calm_only _) (i := 9) rfl ⟨by kernel_rfl, by kernel_rfl, rfl⟩ trivial (stab_of (Hle.refl _) ⟨⟨0, rfl⟩, ⟨1, rfl⟩, ⟨2, rfl⟩, trivial⟩) (R.eql_i rfl rfl) rfl ?_
                          refine JA.doneN (by kernel_rfl) ?_
                          refine JN.next ?_
                          refine JC.condB rfl (fun c_101 => ?_) (fun c_101 => ?_)
                          · replace hx := cond_t c_101 hx
                            refine JC.exit ?_
                            refine JN.passX ?_
                            refine JN.exitSame ?_
                            refine JN.next ?_
                            refine JC.region ?_
                            refine JL.val rfl rfl (R.move rfl) ?_
                            refine JL.val rfl rfl (R.inc rfl rfl (of_decide_eq_true c_68) (RowOf.lenI hr_14)) ?_
                            refine JL.val rfl rfl (R.assign rfl) ?_
                            refine JL.nil ?_
                            replace hx := run_next hd_68 hx
                            refine JN.front 2 rfl ?_
                            refine JN.front 2 rfl ?_
                            refine JN.front 2 rfl ?_
                            exact JN.cut ⟨(t_80, s_65.2.1, s_65.2.2 + 1), rfl, rfl, rfl, hx⟩ ⟨rfl, rfl, rfl, rfl, rfl, rfl, rfl, rfl, trivial⟩ rfl rfl
                          · replace hx := cond_f c_101 hx
                            refine JC.skip ?_
                            refine JN.next ?_
                            refine JC.seq ?_
                            refine JC.region ?_
                            refine JL.val rfl rfl (R.move rfl) ?_
                            refine JL.val rfl rfl (R.add_i rfl rfl) ?_
                            refine JL.val rfl rfl (R.assign rfl) ?_
                            refine JL.nil ?_
                            refine JN.next ?_
                            refine JC.seq ?_
                            refine JC.region ?_
                            refine JL.val rfl rfl (R.assign rfl) ?_
                            refine JL.nil ?_
                            refine JN.next ?_
                            refine JC.seq ?_
                            refine JC.seq ?_
                            refine JC.region ?_
                            refine JL.val rfl rfl (R.assign rfl) ?_
                            refine JL.nil ?_
                            refine JN.next ?_
                            obtain ⟨t_102, ht_104, hx⟩ := bnd_some hx
                            refine JC.cut (fun l o g => l = [(3, .pointer (some ⟨b_6, 0, none⟩)), (5, .bool x_7), (6, .slice aor_14 nr_14 capr_14), (11, .slice aor_57 nr_57 capr_57), (13, .bool t_80), (14, .bool false), (15, .int .i64 (w64 (s_65.2.1 + 1))), (16, .int .i64 ((s_65.2.2 : Nat) : Int)), (17, .bool t_102)] ∧ o = [[(b_6, .cells #[.int .u32 (p_4.Gen.toNat : Int), .int .u32 (p_4.Epoch.toNat : Int), .int .i64 p_4.Root.At, .int .u32 (p_4.Root.Birth.toNat : Int), .int .u32 (p_4.Root.Iv.toNat : Int), .int .u32 (p_4.Root.Tag.toNat : Int), .int .u32 (p_4.Root.Sum.toNat : Int)] 30 (0, 0))], [(b_71, .cells cur_78 30 (0, 0))], Kr_57] ∧ Hu_38 = g) ?_ ?_
                            · rintro _ _ _ ⟨rfl, rfl, rfl⟩
                              refine JN.next ?_
                              refine JC.seq ?_
                              refine JC.region ?_
                              refine JL.val rfl rfl (R.move rfl) ?_
                              refine JL.val rfl rfl (R.not rfl) ?_
                              refine JL.nil ?_
                              refine JN.next ?_
                              refine JC.condB rfl (fun c_108 => ?_) (fun c_108 => ?_)
                              · replace hx := cond_t c_108 hx
                                refine JC.seq ?_
                                refine JC.region ?_
                                refine JL.val rfl rfl (R.assign rfl) ?_
                                refine JL.nil ?_
                                refine JN.next ?_
                                refine JC.ret ?_
                                refine JN.blkR ?_
                                refine JN.passR ?_
                                obtain rfl := run_done hd_68 hx
                                refine JN.passR ?_
                                refine JN.blkR ?_
                                clear hx; have hx := hxo_63
                                simp only [Sum.elim_inl, Sum.elim_inr] at hx
                                refine JN.passR ?_
                                refine JN.passR ?_
                                refine JN.outP (vs := [.bool false]) (K := []) (rst := [_, _, _]) (.inl rfl) rfl rfl (Res.tmp rfl rfl) picks0 ?_
                                obtain rfl := Option.some.inj hx
                                exact ⟨rfl, rfl, trivial⟩
                              · replace hx := cond_f c_108 hx
                                refine JC.skip ?_
                                refine JN.blkN ?_
                                refine JN.next ?_
                                refine JC.region ?_
                                refine JL.val rfl rfl (R.move rfl) ?_
                                refine JL.val rfl rfl (R.inc rfl rfl (of_decide_eq_true c_68) (RowOf.lenI hr_14)) ?_
                                refine JL.val rfl rfl (R.assign rfl) ?_
                                refine JL.nil ?_
                                replace hx := run_next hd_68 hx
                                refine JN.front 2 rfl ?_
                                refine JN.front 2 rfl ?_
                                refine JN.front 2 rfl ?_
                                exact JN.cut ⟨(t_80, w64 (s_65.2.1 + 1), s_65.2.2 + 1), rfl, rfl, rfl, hx⟩ ⟨rfl, rfl, rfl, rfl, rfl, rfl, rfl, rfl, trivial⟩ rfl rfl
                            · have hxo_103 := hx; clear hx; have hx := ht_104; clear ht_104
                              refine JC.block ?_
                              refine JC.front 2 rfl ?_
                              refine JC.front 2 rfl ?_
                              refine JC.front 2 rfl ?_
                              refine JC.loopI (fun n l o g => ∃ s_105 : Bool × Nat, l = [(3, .pointer (some ⟨b_6, 0, none⟩)), (5, .bool x_7), (6, .slice aor_14 nr_14 capr_14), (11, .slice aor_57 nr_57 capr_57), (13, .bool t_80), (14, .bool false), (15, .int .i64 (w64 (s_65.2.1 + 1))), (16, .int .i64 ((s_65.2.2 : Nat) : Int)), (17, .bool s_105.1), (18, .int .i64 ((s_105.2 : Nat) : Int))] ∧ o = [[(b_6, .cells #[.int .u32 (p_4.Gen.toNat : Int), .int .u32 (p_4.Epoch.toNat : Int), .int .i64 p_4.Root.At, .int .u32 (p_4.Root.Birth.toNat : Int), .int .u32 (p_4.Root.Iv.toNat : Int), .int .u32 (p_4.Root.Tag.toNat : Int), .int .u32 (p_4.Root.Sum.toNat : Int)] 30 (0, 0))], [(b_71, .cells cur_78 30 (0, 0))], Kr_57] ∧ Hu_38 = g ∧ run (law11_LabelStands_l2 x_11 x_55 s_65) n s_105 = some t_102) FUEL ?_ ⟨(false, 0), rfl, rfl, rfl, hx⟩ ⟨rfl, rfl, rfl, rfl, rfl, rfl, rfl, rfl, rfl, rfl, trivial⟩ ?_
                              · rintro _ _ _ ⟨s_105, rfl, rfl, rfl, hn_106⟩
                                exact run_zero hn_106
                              · rintro n_107 _ _ _ ⟨s_105, rfl, rfl, rfl, hn_106⟩
                                clear hx; obtain ⟨oo_109, hx, hd_108⟩ := run_some hn_106
                                rw [law11_LabelStands_l2.eq_1] at hx
                                refine JC.seq ?_
                                refine JC.seq ?_
                                refine JC.region ?_
                                refine JL.val rfl rfl (R.move rfl) ?_
                                refine JL.val rfl rfl (R.move rfl) ?_
                                refine JL.val rfl rfl (R.lenL U38 rfl (RowOf.long hr_57)) ?_
                                refine JL.val rfl rfl (R.lss_i rfl rfl) ?_
                                refine JL.nil ?_
                                refine JN.next ?_
                                refine JC.condB rfl (fun c_108 => ?_) (fun c_108 => ?_)
                                · replace hx := cond_t c_108 hx
                                  refine JC.skip ?_
                                  refine JN.next ?_
                                  refine JC.seq ?_
                                  refine JC.block ?_
                                  refine JC.draw (so := [_, _, _]) 13 rfl Mixed ⟨⟨0, rfl⟩, ⟨1, rfl⟩, ⟨2, rfl⟩, trivial⟩ ?_
                                  refine JA.val ⟨by kernel_rfl, by kernel_rfl⟩ (calm_only _) (i := 0) rfl ⟨by kernel_rfl, by kernel_rfl, rfl⟩ trivial (stab_of (Hle.refl _) ⟨⟨0, rfl⟩, ⟨1, rfl⟩, ⟨2, rfl⟩, trivial⟩) (R.move rfl) rfl ?_
                                  refine JA.val ⟨by kernel_rfl, by kernel_rfl⟩ (calm_only _) (i := 1) rfl ⟨by kernel_rfl, by kernel_rfl, rfl⟩ trivial (stab_of (Hle.refl _) ⟨⟨0, rfl⟩, ⟨1, rfl⟩, ⟨2, rfl⟩, trivial⟩) (R.move rfl) rfl ?_
                                  refine JA.gSplit (t := 155) rfl (fun c_109 => ?_) (fun c_109 => ?_)
                                  · replace hx := cond_t c_109 hx
                                    refine JA.no ⟨by kernel_rfl, by kernel_rfl⟩ (calm_only _) (i := 2) rfl ⟨by kernel_rfl, by kernel_rfl, rfl⟩ rfl rfl rfl rfl (stab_of (Hle.refl _) ⟨⟨0, rfl⟩, ⟨1, rfl⟩, ⟨2, rfl⟩, trivial⟩) rfl ?_
                                    refine JA.no ⟨by kernel_rfl, by kernel_rfl⟩ (calm_only _) (i := 3) rfl ⟨by kernel_rfl, by kernel_rfl, rfl⟩ rfl rfl rfl rfl (stab_of (Hle.refl _) ⟨⟨0, rfl⟩, ⟨1, rfl⟩, ⟨2, rfl⟩, trivial⟩) rfl ?_
                                    refine JA.no ⟨by kernel_rfl, by kernel_rfl⟩ (calm_only _) (i := 4) rfl ⟨by kernel_rfl, by kernel_rfl, rfl⟩ rfl rfl rfl rfl (stab_of (Hle.refl _) ⟨⟨0, rfl⟩, ⟨1, rfl⟩, ⟨2, rfl⟩, trivial⟩) rfl ?_
                                    refine JA.no ⟨by kernel_rfl, by kernel_rfl⟩ (calm_only _) (i := 5) rfl ⟨by kernel_rfl, by kernel_rfl, rfl⟩ rfl rfl rfl rfl (stab_of (Hle.refl _) ⟨⟨0, rfl⟩, ⟨1, rfl⟩, ⟨2, rfl⟩, trivial⟩) rfl ?_
                                    refine JA.no ⟨by kernel_rfl, by kernel_rfl⟩ (calm_only _) (i := 6) rfl ⟨by kernel_rfl, by kernel_rfl, rfl⟩ rfl rfl rfl rfl (stab_of (Hle.refl _) ⟨⟨0, rfl⟩, ⟨1, rfl⟩, ⟨2, rfl⟩, trivial⟩) rfl ?_
                                    refine JA.no ⟨by kernel_rfl, by kernel_rfl⟩ (calm_only _) (i := 7) rfl ⟨by kernel_rfl, by kernel_rfl, rfl⟩ rfl rfl rfl rfl (stab_of (Hle.refl _) ⟨⟨0, rfl⟩, ⟨1, rfl⟩, ⟨2, rfl⟩, trivial⟩) rfl ?_
                                    refine JA.no ⟨by kernel_rfl, by kernel_rfl⟩ (calm_only _) (i := 8) rfl ⟨by kernel_rfl, by kernel_rfl, rfl⟩ rfl rfl rfl rfl (stab_of (Hle.refl _) ⟨⟨0, rfl⟩, ⟨1, rfl⟩, ⟨2, rfl⟩, trivial⟩) rfl ?_
                                    refine JA.no ⟨by kernel_rfl, by kernel_rfl⟩ (calm_only _) (i := 9) rfl ⟨by kernel_rfl, by kernel_rfl, rfl⟩ rfl rfl rfl rfl (stab_of (Hle.refl _) ⟨⟨0, rfl⟩, ⟨1, rfl⟩, ⟨2, rfl⟩, trivial⟩) rfl ?_
                                    refine JA.no ⟨by kernel_rfl, by kernel_rfl⟩ (calm_only _) (i := 10) rfl ⟨by kernel_rfl, by kernel_rfl, rfl⟩ rfl rfl rfl rfl (stab_of (Hle.refl _) ⟨⟨0, rfl⟩, ⟨1, rfl⟩, ⟨2, rfl⟩, trivial⟩) rfl ?_
                                    refine JA.val ⟨by kernel_rfl, by kernel_rfl⟩ (calm_only _) (i := 11) rfl ⟨by kernel_rfl, by kernel_rfl, rfl⟩ trivial (stab_of (Hle.refl _) ⟨⟨0, rfl⟩, ⟨1, rfl⟩, ⟨2, rfl⟩, trivial⟩) (R.pickT rfl rfl) rfl ?_
                                    refine JA.val ⟨by kernel_rfl, by kernel_rfl⟩ (calm_only _) (i := 12) rfl ⟨by kernel_rfl, by kernel_rfl, rfl⟩ trivial (stab_of (Hle.refl _) ⟨⟨0, rfl⟩, ⟨1, rfl⟩, ⟨2, rfl⟩, trivial⟩) (R.assign rfl) rfl ?_
                                    refine JA.doneN (by kernel_rfl) ?_
                                    refine JN.blkN ?_
                                    refine JN.next ?_
                                    refine JC.region ?_
                                    refine JL.val rfl rfl (R.move rfl) ?_
                                    refine JL.val rfl rfl (R.inc rfl rfl (of_decide_eq_true c_108) (RowOf.lenI hr_57)) ?_
                                    refine JL.val rfl rfl (R.assign rfl) ?_
                                    refine JL.nil ?_
                                    replace hx := run_next hd_108 hx
                                    refine JN.front 2 rfl ?_
                                    refine JN.front 2 rfl ?_
                                    refine JN.front 2 rfl ?_
                                    exact JN.cut ⟨(true, s_105.2 + 1), rfl, rfl, rfl, hx⟩ ⟨rfl, rfl, rfl, rfl, rfl, rfl, rfl, rfl, rfl, rfl, trivial⟩ rfl rfl
                                  · replace hx := cond_f c_109 hx
                                    refine JA.val ⟨by kernel_rfl, by kernel_rfl⟩ (calm_only _) (i := 2) rfl ⟨by kernel_rfl, by kernel_rfl, rfl⟩ ⟨_, _, rfl, rfl, rfl⟩ (stab_of (Hle.refl _) ⟨⟨0, rfl⟩, ⟨1, rfl⟩, ⟨2, rfl⟩, trivial⟩) (R.move rfl) rfl ?_
                                    refine JA.val ⟨by kernel_rfl, by kernel_rfl⟩ (calm_only _) (i := 3) rfl ⟨by kernel_rfl, by kernel_rfl, rfl⟩ ⟨_, _, rfl, rfl, rfl⟩ (stab_of (Hle.refl _) ⟨⟨0, rfl⟩, ⟨1, rfl⟩, ⟨2, rfl⟩, trivial⟩) (R.move rfl) rfl ?_
                                    obtain ⟨y_110, hN_111, hx⟩ := idx_some hx
                                    obtain ⟨b_112, o_113, cs_114, cur_119, hK_120, hE_115, hR_116, hl_117, hc_118⟩ := RowOf.elem hr_57 hN_111
                                    subst hK_120
                                    obtain rfl := hR_116
                                    refine JA.val ⟨by kernel_rfl, by kernel_rfl⟩ (calm_only _) (i := 4) rfl ⟨by kernel_rfl, by kernel_rfl, rfl⟩ ⟨_, _, rfl, rfl, rfl⟩ (stab_of (Hle.refl _) ⟨⟨0, rfl⟩, ⟨1, rfl⟩, ⟨2, rfl⟩, trivial⟩) (R.ix U38 S30 rfl rfl hE_115) rfl ?_
                                    refine JA.val ⟨by kernel_rfl, by kernel_rfl⟩ (calm_only _) (i := 5) rfl ⟨by kernel_rfl, by kernel_rfl, rfl⟩ ⟨_, _, rfl, rfl, rfl⟩ (stab_of (Hle.refl _) ⟨⟨0, rfl⟩, ⟨1, rfl⟩, ⟨2, rfl⟩, trivial⟩) (R.ldoE 2 (cs := [.int .u32 (y_110.Gen.toNat : Int), .int .u32 (y_110.Epoch.toNat : Int), .int .i64 y_110.Root.At, .int .u32 (y_110.Root.Birth.toNat : Int), .int .u32 (y_110.Root.Iv.toNat : Int), .int .u32 (y_110.Root.Tag.toNat : Int), .int .u32 (y_110.Root.Sum.toNat : Int)]) (k := 0) (vs := [.int .u32 (y_110.Gen.toNat : Int), .int .u32 (y_110.Epoch.toNat : Int), .int .i64 y_110.Root.At, .int .u32 (y_110.Root.Birth.toNat : Int), .int .u32 (y_110.Root.Iv.toNat : Int), .int .u32 (y_110.Root.Tag.toNat : Int), .int .u32 (y_110.Root.Sum.toNat : Int)]) S30 rfl rfl hc_118 rfl rfl) rfl ?_
                                    refine JA.val ⟨by kernel_rfl, by kernel_rfl⟩ (calm_only _) (i := 6) rfl ⟨by kernel_rfl, by kernel_rfl, rfl⟩ ⟨_, _, rfl, rfl, rfl⟩ (stab_of (Hle.refl _) ⟨⟨0, rfl⟩, ⟨1, rfl⟩, ⟨2, rfl⟩, trivial⟩) (R.move rfl) rfl ?_
                                    refine JA.val ⟨by kernel_rfl, by kernel_rfl⟩ (calm_only _) (i := 7) rfl ⟨by kernel_rfl, by kernel_rfl, rfl⟩ ⟨_, _, rfl, rfl, rfl⟩ (stab_of (Hle.refl _) ⟨⟨0, rfl⟩, ⟨1, rfl⟩, ⟨2, rfl⟩, trivial⟩) (R.move rfl) rfl ?_
                                    obtain ⟨y_121, hN_122, hx⟩ := idx_some hx
                                    obtain ⟨b_123, o_124, cs_125, cur_130, hK_131, hE_126, hR_127, hl_128, hc_129⟩ := RowOf.elem (hr_14.mono R_Label.mono (New.mono hleu_38)) hN_122
                                    obtain ⟨rfl, rfl⟩ : b_71 = b_123 ∧ cur_78 = cur_130 := by simpa using hK_131
                                    obtain rfl := hR_127
                                    refine JA.val ⟨by kernel_rfl, by kernel_rfl⟩ (calm_only _) (i := 8) rfl ⟨by kernel_rfl, by kernel_rfl, rfl⟩ ⟨_, _, rfl, rfl, rfl⟩ (stab_of (Hle.refl _) ⟨⟨0, rfl⟩, ⟨1, rfl⟩, ⟨2, rfl⟩, trivial⟩) (R.ix U38 S30 rfl rfl hE_126) rfl ?_
                                    refine JA.val ⟨by kernel_rfl, by kernel_rfl⟩ (calm_only _) (i := 9) rfl ⟨by kernel_rfl, by kernel_rfl, rfl⟩ ⟨_, _, rfl, rfl, rfl⟩ (stab_of (Hle.refl _) ⟨⟨0, rfl⟩, ⟨1, rfl⟩, ⟨2, rfl⟩, trivial⟩) (R.ldoE 1 (cs := [.int .u32 (y_121.Gen.toNat : Int), .int .u32 (y_121.Epoch.toNat : Int), .int .i64 y_121.Root.At, .int .u32 (y_121.Root.Birth.toNat : Int), .int .u32 (y_121.Root.Iv.toNat : Int), .int .u32 (y_121.Root.Tag.toNat : Int), .int .u32 (y_121.Root.Sum.toNat : Int)]) (k := 0) (vs := [.int .u32 (y_121.Gen.toNat : Int), .int .u32 (y_121.Epoch.toNat : Int), .int .i64 y_121.Root.At, .int .u32 (y_121.Root.Birth.toNat : Int), .int .u32 (y_121.Root.Iv.toNat : Int), .int .u32 (y_121.Root.Tag.toNat : Int), .int .u32 (y_121.Root.Sum.toNat : Int)]) S30 rfl rfl hc_129 rfl rfl) rfl ?_
                                    refine JA.val ⟨by kernel_rfl, by kernel_rfl⟩ (calm_only _) (i := 10) rfl ⟨by kernel_rfl, by kernel_rfl, rfl⟩ ⟨_, _, rfl, rfl, rfl⟩ (stab_of (Hle.refl _) ⟨⟨0, rfl⟩, ⟨1, rfl⟩, ⟨2, rfl⟩, trivial⟩) (R.eqlAgg QU30 QP30 QG30 QF30 rfl rfl (EqF.u32 (a := y_110.Gen) (b := y_121.Gen) (by decide) S26 U26 rfl rfl (EqF.u32 (a := y_110.Epoch) (b := y_121.Epoch) (by decide) S26 U26 rfl rfl (EqF.s (by decide) S28 QU28 QP28 QF28 rfl rfl (EqF.i (by decide) S3 U3 rfl rfl (EqF.u32 (a := y_110.Root.Birth) (b := y_121.Root.Birth) (by decide) S26 U26 rfl rfl (EqF.u32 (a := y_110.Root.Iv) (b := y_121.Root.Iv) (by decide) S26 U26 rfl rfl (EqF.u32 (a := y_110.Root.Tag) (b := y_121.Root.Tag) (by decide) S26 U26 rfl rfl (EqF.u32 (a := y_110.Root.Sum) (b := y_121.Root.Sum) (by decide) S26 U26 rfl rfl EqF.nil))))) EqF.nil)))) rfl ?_
                                    refine JA.val ⟨by kernel_rfl, by kernel_rfl⟩ (calm_only _) (i := 11) rfl ⟨by kernel_rfl, by kernel_rfl, rfl⟩ trivial (stab_of (Hle.refl _) ⟨⟨0, rfl⟩, ⟨1, rfl⟩, ⟨2, rfl⟩, trivial⟩) (R.pickF rfl rfl) rfl ?_
                                    refine JA.val ⟨by kernel_rfl, by kernel_rfl⟩ (calm_only _) (i := 12) rfl ⟨by kernel_rfl, by kernel_rfl, rfl⟩ trivial (stab_of (Hle.refl _) ⟨⟨0, rfl⟩, ⟨1, rfl⟩, ⟨2, rfl⟩, trivial⟩) (R.assign rfl) rfl ?_
                                    refine JA.doneN (by kernel_rfl) ?_
                                    refine JN.blkN ?_
                                    refine JN.next ?_
                                    refine JC.region ?_
                                    refine JL.val rfl rfl (R.move rfl) ?_
                                    refine JL.val rfl rfl (R.inc rfl rfl (of_decide_eq_true c_108) (RowOf.lenI hr_57)) ?_
                                    refine JL.val rfl rfl (R.assign rfl) ?_
                                    refine JL.nil ?_
                                    replace hx := run_next hd_108 hx
                                    refine JN.front 2 rfl ?_
                                    refine JN.front 2 rfl ?_
                                    refine JN.front 2 rfl ?_
                                    exact JN.cut ⟨(decide (y_110.Gen = y_121.Gen) && (decide (y_110.Epoch = y_121.Epoch) && ((decide (y_110.Root.At = y_121.Root.At) && (decide (y_110.Root.Birth = y_121.Root.Birth) && (decide (y_110.Root.Iv = y_121.Root.Iv) && (decide (y_110.Root.Tag = y_121.Root.Tag) && (decide (y_110.Root.Sum = y_121.Root.Sum) && true))))) && true)), s_105.2 + 1), rfl, rfl, rfl, hx⟩ ⟨rfl, rfl, rfl, rfl, rfl, rfl, rfl, rfl, rfl, rfl, trivial⟩ rfl rfl
                                · replace hx := cond_f c_108 hx
                                  refine JC.exit ?_
                                  refine JN.passX ?_
                                  obtain rfl := run_done hd_108 hx
                                  refine JN.passX ?_
                                  refine JN.exitSame ?_
                                  refine JN.front 2 rfl ?_
                                  refine JN.front 2 rfl ?_
                                  refine JN.front 2 rfl ?_
                                  exact JN.cut ⟨rfl, rfl, rfl⟩ ⟨rfl, rfl, rfl, rfl, rfl, rfl, rfl, rfl, rfl, trivial⟩ rfl rfl
                        · have hxo_81 := hx; clear hx; have hx := ht_82; clear ht_82
                          refine JC.condB rfl (fun c_83 => ?_) (fun c_83 => ?_)
                          · replace hx := cond_t c_83 hx
                            refine JC.region ?_
                            refine JL.val rfl rfl (R.assign rfl) ?_
                            refine JL.nil ?_
                            obtain rfl := Option.some.inj hx
                            refine JN.front 2 rfl ?_
                            refine JN.front 2 rfl ?_
                            refine JN.front 2 rfl ?_
                            exact JN.cut ⟨rfl, rfl, rfl⟩ ⟨rfl, rfl, rfl, rfl, rfl, rfl, rfl, rfl, trivial⟩ rfl rfl
                          · replace hx := cond_f c_83 hx
                            refine JC.skip ?_
                            obtain rfl := Option.some.inj hx
                            refine JN.front 2 rfl ?_
                            refine JN.front 2 rfl ?_
                            refine JN.front 2 rfl ?_
                            exact JN.cut ⟨rfl, rfl, rfl⟩ ⟨rfl, rfl, rfl, rfl, rfl, rfl, rfl, rfl, trivial⟩ rfl rfl
                      · replace hx := cond_f c_68 hx
                        refine JC.exit ?_
                        refine JN.passX ?_
                        obtain rfl := run_done hd_68 hx
                        refine JN.passX ?_
                        refine JN.exitSame ?_
                        refine JN.forget 1 ?_
                        refine JN.front 1 rfl ?_
                        refine JN.front 1 rfl ?_
                        exact JN.cut ⟨(s_65.1, s_65.2.1), rfl, rfl, rfl, rfl⟩ ⟨rfl, rfl, rfl, rfl, rfl, rfl, trivial⟩ rfl rfl
        · have hxo_31 := hx; clear hx; have hx := ht_32; clear ht_32
          refine JC.block ?_
          refine JC.front 1 rfl ?_
          refine JC.front 2 rfl ?_
          refine JC.loopI (fun n l o g => ∃ s_33 : Nat, l = [(2, .pointer (some ⟨b_5, 0, none⟩)), (3, .pointer (some ⟨b_6, 0, none⟩)), (5, .bool x_7), (6, .slice aor_14 nr_14 capr_14), (8, .int .i64 ((s_33 : Nat) : Int))] ∧ o = [[(b_5, .cells #[.slice aoa_2 na_2 capa_2, .slice aoa_3 na_3 capa_3] 25 (0, 0))], [(b_6, .cells #[.int .u32 (p_4.Gen.toNat : Int), .int .u32 (p_4.Epoch.toNat : Int), .int .i64 p_4.Root.At, .int .u32 (p_4.Root.Birth.toNat : Int), .int .u32 (p_4.Root.Iv.toNat : Int), .int .u32 (p_4.Root.Tag.toNat : Int), .int .u32 (p_4.Root.Sum.toNat : Int)] 30 (0, 0))], Kr_14] ∧ Hu_13 = g ∧ run (law11_LabelStands_l1 x_11) n s_33 = some t_30) FUEL ?_ ⟨0, rfl, rfl, rfl, hx⟩ ⟨rfl, rfl, rfl, rfl, rfl, trivial⟩ ?_
          · rintro _ _ _ ⟨s_33, rfl, rfl, rfl, hn_34⟩
            exact run_zero hn_34
          · rintro n_35 _ _ _ ⟨s_33, rfl, rfl, rfl, hn_34⟩
            clear hx; obtain ⟨oo_37, hx, hd_36⟩ := run_some hn_34
            rw [law11_LabelStands_l1.eq_1] at hx
            refine JC.seq ?_
            refine JC.seq ?_
            refine JC.region ?_
            refine JL.val rfl rfl (R.move rfl) ?_
            refine JL.val rfl rfl (R.move rfl) ?_
            refine JL.val rfl rfl (R.lenL U38 rfl (RowOf.long hr_14)) ?_
            refine JL.val rfl rfl (R.lss_i rfl rfl) ?_
            refine JL.nil ?_
            refine JN.next ?_
            refine JC.condB rfl (fun c_36 => ?_) (fun c_36 => ?_)
            · replace hx := cond_t c_36 hx
              refine JC.skip ?_
              refine JN.next ?_
              refine JC.seq ?_
              refine JC.block ?_
              refine JC.seq ?_
              refine JC.draw (so := [_, _, _]) 41 rfl Mixed ⟨⟨0, rfl⟩, ⟨1, rfl⟩, ⟨2, rfl⟩, trivial⟩ ?_
              refine JA.val ⟨by kernel_rfl, by kernel_rfl⟩ (calm_only _) (i := 0) rfl ⟨by kernel_rfl, by kernel_rfl, rfl⟩ trivial (stab_of (Hle.refl _) ⟨⟨0, rfl⟩, ⟨1, rfl⟩, ⟨2, rfl⟩, trivial⟩) (R.move rfl) rfl ?_
              refine JA.val ⟨by kernel_rfl, by kernel_rfl⟩ (calm_only _) (i := 1) rfl ⟨by kernel_rfl, by kernel_rfl, rfl⟩ trivial (stab_of (Hle.refl _) ⟨⟨0, rfl⟩, ⟨1, rfl⟩, ⟨2, rfl⟩, trivial⟩) (R.move rfl) rfl ?_
              obtain ⟨y_37, hN_38, hx⟩ := idx_some hx
              obtain ⟨b_39, o_40, cs_41, cur_46, hK_47, hE_42, hR_43, hl_44, hc_45⟩ := RowOf.elem hr_14 hN_38
              subst hK_47
              obtain rfl := hR_43
              refine JA.val ⟨by kernel_rfl, by kernel_rfl⟩ (calm_only _) (i := 2) rfl ⟨by kernel_rfl, by kernel_rfl, rfl⟩ trivial (stab_of (Hle.refl _) ⟨⟨0, rfl⟩, ⟨1, rfl⟩, ⟨2, rfl⟩, trivial⟩) (R.ix U38 S30 rfl rfl hE_42) rfl ?_
              refine JA.val ⟨by kernel_rfl, by kernel_rfl⟩ (calm_only _) (i := 3) rfl ⟨by kernel_rfl, by kernel_rfl, rfl⟩ trivial (stab_of (Hle.refl _) ⟨⟨0, rfl⟩, ⟨1, rfl⟩, ⟨2, rfl⟩, trivial⟩) (R.fa F30_0 rfl) rfl ?_
              refine JA.val ⟨by kernel_rfl, by kernel_rfl⟩ (calm_only _) (i := 4) rfl ⟨by kernel_rfl, by kernel_rfl, rfl⟩ trivial (stab_of (Hle.refl _) ⟨⟨0, rfl⟩, ⟨1, rfl⟩, ⟨2, rfl⟩, trivial⟩) (R.ldo 2 S26 rfl rfl (hc_45 0 _ rfl)) rfl ?_
              refine JA.val ⟨by kernel_rfl, by kernel_rfl⟩ (calm_only _) (i := 5) rfl ⟨by kernel_rfl, by kernel_rfl, rfl⟩ trivial (stab_of (Hle.refl _) ⟨⟨0, rfl⟩, ⟨1, rfl⟩, ⟨2, rfl⟩, trivial⟩) (R.lss32 (a := y_37.Gen) (b := (1 : UInt32)) rfl rfl) rfl ?_
              refine JA.val ⟨by kernel_rfl, by kernel_rfl⟩ (calm_only _) (i := 6) rfl ⟨by kernel_rfl, by kernel_rfl, rfl⟩ trivial (stab_of (Hle.refl _) ⟨⟨0, rfl⟩, ⟨1, rfl⟩, ⟨2, rfl⟩, trivial⟩) (R.move rfl) rfl ?_
              refine JA.gSplit (t := 56) rfl (fun c_48 => ?_) (fun c_48 => ?_)
              · replace hx := cond_t c_48 hx
                refine JA.no ⟨by kernel_rfl, by kernel_rfl⟩ (calm_only _) (i := 7) rfl ⟨by kernel_rfl, by kernel_rfl, rfl⟩ rfl rfl rfl rfl (stab_of (Hle.refl _) ⟨⟨0, rfl⟩, ⟨1, rfl⟩, ⟨2, rfl⟩, trivial⟩) rfl ?_
                refine JA.no ⟨by kernel_rfl, by kernel_rfl⟩ (calm_only _) (i := 8) rfl ⟨by kernel_rfl, by kernel_rfl, rfl⟩ rfl rfl rfl rfl (stab_of (Hle.refl _) ⟨⟨0, rfl⟩, ⟨1, rfl⟩, ⟨2, rfl⟩, trivial⟩) rfl ?_
                refine JA.no ⟨by kernel_rfl, by kernel_rfl⟩ (calm_only _) (i := 9) rfl ⟨by kernel_rfl, by kernel_rfl, rfl⟩ rfl rfl rfl rfl (stab_of (Hle.refl _) ⟨⟨0, rfl⟩, ⟨1, rfl⟩, ⟨2, rfl⟩, trivial⟩) rfl ?_
                refine JA.no ⟨by kernel_rfl, by kernel_rfl⟩ (calm_only _) (i := 10) rfl ⟨by kernel_rfl, by kernel_rfl, rfl⟩ rfl rfl rfl rfl (stab_of (Hle.refl _) ⟨⟨0, rfl⟩, ⟨1, rfl⟩, ⟨2, rfl⟩, trivial⟩) rfl ?_
                refine JA.no ⟨by kernel_rfl, by kernel_rfl⟩ (calm_only _) (i := 11) rfl ⟨by kernel_rfl, by kernel_rfl, rfl⟩ rfl rfl rfl rfl (stab_of (Hle.refl _) ⟨⟨0, rfl⟩, ⟨1, rfl⟩, ⟨2, rfl⟩, trivial⟩) rfl ?_
                refine JA.no ⟨by kernel_rfl, by kernel_rfl⟩ (calm_only _) (i := 12) rfl ⟨by kernel_rfl, by kernel_rfl, rfl⟩ rfl rfl rfl rfl (stab_of (Hle.refl _) ⟨⟨0, rfl⟩, ⟨1, rfl⟩, ⟨2, rfl⟩, trivial⟩) rfl ?_
                refine JA.val ⟨by kernel_rfl, by kernel_rfl⟩ (calm_only _) (i := 13) rfl ⟨by kernel_rfl, by kernel_rfl, rfl⟩ trivial (stab_of (Hle.refl _) ⟨⟨0, rfl⟩, ⟨1, rfl⟩, ⟨2, rfl⟩, trivial⟩) (R.pickT rfl rfl) rfl ?_
                refine JA.val ⟨by kernel_rfl, by kernel_rfl⟩ (calm_only _) (i := 14) rfl ⟨by kernel_rfl, by kernel_rfl, rfl⟩ trivial (stab_of (Hle.refl _) ⟨⟨0, rfl⟩, ⟨1, rfl⟩, ⟨2, rfl⟩, trivial⟩) (R.move rfl) rfl ?_
                refine JA.no ⟨by kernel_rfl, by kernel_rfl⟩ (calm_only _) (i := 15) rfl ⟨by kernel_rfl, by kernel_rfl, rfl⟩ rfl rfl rfl rfl (stab_of (Hle.refl _) ⟨⟨0, rfl⟩, ⟨1, rfl⟩, ⟨2, rfl⟩, trivial⟩) rfl ?_
                refine JA.no ⟨by kernel_rfl, by kernel_rfl⟩ (calm_only _) (i := 16) rfl ⟨by kernel_rfl, by kernel_rfl, rfl⟩ rfl rfl rfl rfl (stab_of (Hle.refl _) ⟨⟨0, rfl⟩, ⟨1, rfl⟩, ⟨2, rfl⟩, trivial⟩) rfl ?_
                refine JA.no ⟨by kernel_rfl, by kernel_rfl⟩ (calm_only _) (i := 17) rfl ⟨by kernel_rfl, by kernel_rfl, rfl⟩ rfl rfl rfl rfl (stab_of (Hle.refl _) ⟨⟨0, rfl⟩, ⟨1, rfl⟩, ⟨2, rfl⟩, trivial⟩) rfl ?_
                refine JA.no ⟨by kernel_rfl, by kernel_rfl⟩ (calm_only _) (i := 18) rfl ⟨by kernel_rfl, by kernel_rfl, rfl⟩ rfl rfl rfl rfl (stab_of (Hle.refl _) ⟨⟨0, rfl⟩, ⟨1, rfl⟩, ⟨2, rfl⟩, trivial⟩) rfl ?_
                refine JA.no ⟨by kernel_rfl, by kernel_rfl⟩ (calm_only _) (i := 19) rfl ⟨by kernel_rfl, by kernel_rfl, rfl⟩ rfl rfl rfl rfl (stab_of (Hle.refl _) ⟨⟨0, rfl⟩, ⟨1, rfl⟩, ⟨2, rfl⟩, trivial⟩) rfl ?_
                refine JA.no ⟨by kernel_rfl, by kernel_rfl⟩ (calm_only _) (i := 20) rfl ⟨by kernel_rfl, by kernel_rfl, rfl⟩ rfl rfl rfl rfl (stab_of (Hle.refl _) ⟨⟨0, rfl⟩, ⟨1, rfl⟩, ⟨2, rfl⟩, trivial⟩) rfl ?_
                refine JA.no ⟨by kernel_rfl, by kernel_rfl⟩ (calm_only _) (i := 21) rfl ⟨by kernel_rfl, by kernel_rfl, rfl⟩ rfl rfl rfl rfl (stab_of (Hle.refl _) ⟨⟨0, rfl⟩, ⟨1, rfl⟩, ⟨2, rfl⟩, trivial⟩) rfl ?_
                refine JA.val ⟨by kernel_rfl, by kernel_rfl⟩ (calm_only _) (i := 22) rfl ⟨by kernel_rfl, by kernel_rfl, rfl⟩ trivial (stab_of (Hle.refl _) ⟨⟨0, rfl⟩, ⟨1, rfl⟩, ⟨2, rfl⟩, trivial⟩) (R.pickT rfl rfl) rfl ?_
                refine JA.val ⟨by kernel_rfl, by kernel_rfl⟩ (calm_only _) (i := 23) rfl ⟨by kernel_rfl, by kernel_rfl, rfl⟩ trivial (stab_of (Hle.refl _) ⟨⟨0, rfl⟩, ⟨1, rfl⟩, ⟨2, rfl⟩, trivial⟩) (R.move rfl) rfl ?_
                refine JA.no ⟨by kernel_rfl, by kernel_rfl⟩ (calm_only _) (i := 24) rfl ⟨by kernel_rfl, by kernel_rfl, rfl⟩ rfl rfl rfl rfl (stab_of (Hle.refl _) ⟨⟨0, rfl⟩, ⟨1, rfl⟩, ⟨2, rfl⟩, trivial⟩) rfl ?_
                refine JA.no ⟨by kernel_rfl, by kernel_rfl⟩ (calm_only _) (i := 25) rfl ⟨by kernel_rfl, by kernel_rfl, rfl⟩ rfl rfl rfl rfl (stab_of (Hle.refl _) ⟨⟨0, rfl⟩, ⟨1, rfl⟩, ⟨2, rfl⟩, trivial⟩) rfl ?_
                refine JA.no ⟨by kernel_rfl, by kernel_rfl⟩ (calm_only _) (i := 26) rfl ⟨by kernel_rfl, by kernel_rfl, rfl⟩ rfl rfl rfl rfl (stab_of (Hle.refl _) ⟨⟨0, rfl⟩, ⟨1, rfl⟩, ⟨2, rfl⟩, trivial⟩) rfl ?_
                refine JA.noU ⟨by kernel_rfl, by kernel_rfl⟩ (calm_only _) (i := 27) rfl ⟨by kernel_rfl, by kernel_rfl, rfl⟩ rfl rfl rfl (stab_of (Hle.refl _) ⟨⟨0, rfl⟩, ⟨1, rfl⟩, ⟨2, rfl⟩, trivial⟩) rfl ?_
                refine JA.noU ⟨by kernel_rfl, by kernel_rfl⟩ (calm_only _) (i := 28) rfl ⟨by kernel_rfl, by kernel_rfl, rfl⟩ rfl rfl rfl (stab_of (Hle.refl _) ⟨⟨0, rfl⟩, ⟨1, rfl⟩, ⟨2, rfl⟩, trivial⟩) rfl ?_
                refine JA.noU ⟨by kernel_rfl, by kernel_rfl⟩ (calm_only _) (i := 29) rfl ⟨by kernel_rfl, by kernel_rfl, rfl⟩ rfl rfl rfl (stab_of (Hle.refl _) ⟨⟨0, rfl⟩, ⟨1, rfl⟩, ⟨2, rfl⟩, trivial⟩) rfl ?_
                refine JA.noU ⟨by kernel_rfl, by kernel_rfl⟩ (calm_only _) (i := 30) rfl ⟨by kernel_rfl, by kernel_rfl, rfl⟩ rfl rfl rfl (stab_of (Hle.refl _) ⟨⟨0, rfl⟩, ⟨1, rfl⟩, ⟨2, rfl⟩, trivial⟩) rfl ?_
                refine JA.noU ⟨by kernel_rfl, by kernel_rfl⟩ (calm_only _) (i := 31) rfl ⟨by kernel_rfl, by kernel_rfl, rfl⟩ rfl rfl rfl (stab_of (Hle.refl _) ⟨⟨0, rfl⟩, ⟨1, rfl⟩, ⟨2, rfl⟩, trivial⟩) rfl ?_
                refine JA.noU ⟨by kernel_rfl, by kernel_rfl⟩ (calm_only _) (i := 32) rfl ⟨by kernel_rfl, by kernel_rfl, rfl⟩ rfl rfl rfl (stab_of (Hle.refl _) ⟨⟨0, rfl⟩, ⟨1, rfl⟩, ⟨2, rfl⟩, trivial⟩) rfl ?_
                refine JA.noU ⟨by kernel_rfl, by kernel_rfl⟩ (calm_only _) (i := 33) rfl ⟨by kernel_rfl, by kernel_rfl, rfl⟩ rfl rfl rfl (stab_of (Hle.refl _) ⟨⟨0, rfl⟩, ⟨1, rfl⟩, ⟨2, rfl⟩, trivial⟩) rfl ?_
                refine JA.noU ⟨by kernel_rfl, by kernel_rfl⟩ (calm_only _) (i := 34) rfl ⟨by kernel_rfl, by kernel_rfl, rfl⟩ rfl rfl rfl (stab_of (Hle.refl _) ⟨⟨0, rfl⟩, ⟨1, rfl⟩, ⟨2, rfl⟩, trivial⟩) rfl ?_
                refine JA.noU ⟨by kernel_rfl, by kernel_rfl⟩ (calm_only _) (i := 35) rfl ⟨by kernel_rfl, by kernel_rfl, rfl⟩ rfl rfl rfl (stab_of (Hle.refl _) ⟨⟨0, rfl⟩, ⟨1, rfl⟩, ⟨2, rfl⟩, trivial⟩) rfl ?_
                refine JA.noU ⟨by kernel_rfl, by kernel_rfl⟩ (calm_only _) (i := 36) rfl ⟨by kernel_rfl, by kernel_rfl, rfl⟩ rfl rfl rfl (stab_of (Hle.refl _) ⟨⟨0, rfl⟩, ⟨1, rfl⟩, ⟨2, rfl⟩, trivial⟩) rfl ?_
                refine JA.noU ⟨by kernel_rfl, by kernel_rfl⟩ (calm_only _) (i := 37) rfl ⟨by kernel_rfl, by kernel_rfl, rfl⟩ rfl rfl rfl (stab_of (Hle.refl _) ⟨⟨0, rfl⟩, ⟨1, rfl⟩, ⟨2, rfl⟩, trivial⟩) rfl ?_
                refine JA.noU ⟨by kernel_rfl, by kernel_rfl⟩ (calm_only _) (i := 38) rfl ⟨by kernel_rfl, by kernel_rfl, rfl⟩ rfl rfl rfl (stab_of (Hle.refl _) ⟨⟨0, rfl⟩, ⟨1, rfl⟩, ⟨2, rfl⟩, trivial⟩) rfl ?_
                refine JA.no ⟨by kernel_rfl, by kernel_rfl⟩ (calm_only _) (i := 39) rfl ⟨by kernel_rfl, by kernel_rfl, rfl⟩ rfl rfl rfl rfl (stab_of (Hle.refl _) ⟨⟨0, rfl⟩, ⟨1, rfl⟩, ⟨2, rfl⟩, trivial⟩) rfl ?_
                refine JA.val ⟨by kernel_rfl, by kernel_rfl⟩ (calm_only _) (i := 40) rfl ⟨by kernel_rfl, by kernel_rfl, rfl⟩ trivial (stab_of (Hle.refl _) ⟨⟨0, rfl⟩, ⟨1, rfl⟩, ⟨2, rfl⟩, trivial⟩) (R.pickT rfl rfl) rfl ?_
                refine JA.doneN (by kernel_rfl) ?_
                refine JN.next ?_
                refine JC.condT rfl ?_
                refine JC.seq ?_
                refine JC.region ?_
                refine JL.val rfl rfl (R.assign rfl) ?_
                refine JL.nil ?_
                refine JN.next ?_
                refine JC.ret ?_
                refine JN.blkR ?_
                refine JN.passR ?_
                obtain rfl := run_done hd_36 hx
                refine JN.passR ?_
                refine JN.blkR ?_
                clear hx; have hx := hxo_31
                simp only [Sum.elim_inl, Sum.elim_inr] at hx
                refine JN.passR ?_
                refine JN.passR ?_
                refine JN.outP (vs := [.bool false]) (K := []) (rst := [_, _, _]) (.inl rfl) rfl rfl (Res.tmp rfl rfl) picks0 ?_
                obtain rfl := Option.some.inj hx
                exact ⟨rfl, rfl, trivial⟩
              · replace hx := cond_f c_48 hx
                refine JA.val ⟨by kernel_rfl, by kernel_rfl⟩ (calm_only _) (i := 7) rfl ⟨by kernel_rfl, by kernel_rfl, rfl⟩ ⟨_, _, rfl, rfl, rfl⟩ (stab_of (Hle.refl _) ⟨⟨0, rfl⟩, ⟨1, rfl⟩, ⟨2, rfl⟩, trivial⟩) (R.move rfl) rfl ?_
                refine JA.val ⟨by kernel_rfl, by kernel_rfl⟩ (calm_only _) (i := 8) rfl ⟨by kernel_rfl, by kernel_rfl, rfl⟩ ⟨_, _, rfl, rfl, rfl⟩ (stab_of (Hle.refl _) ⟨⟨0, rfl⟩, ⟨1, rfl⟩, ⟨2, rfl⟩, trivial⟩) (R.move rfl) rfl ?_
                obtain ⟨y_49, hN_50, hx⟩ := idx_some hx
                obtain ⟨b_51, o_52, cs_53, cur_58, hK_59, hE_54, hR_55, hl_56, hc_57⟩ := RowOf.elem hr_14 hN_50
                obtain ⟨rfl, rfl⟩ : b_39 = b_51 ∧ cur_46 = cur_58 := by simpa using hK_59
                obtain rfl := hR_55
                refine JA.val ⟨by kernel_rfl, by kernel_rfl⟩ (calm_only _) (i := 9) rfl ⟨by kernel_rfl, by kernel_rfl, rfl⟩ ⟨_, _, rfl, rfl, rfl⟩ (stab_of (Hle.refl _) ⟨⟨0, rfl⟩, ⟨1, rfl⟩, ⟨2, rfl⟩, trivial⟩) (R.ix U38 S30 rfl rfl hE_54) rfl ?_
                refine JA.val ⟨by kernel_rfl, by kernel_rfl⟩ (calm_only _) (i := 10) rfl ⟨by kernel_rfl, by kernel_rfl, rfl⟩ ⟨_, _, rfl, rfl, rfl⟩ (stab_of (Hle.refl _) ⟨⟨0, rfl⟩, ⟨1, rfl⟩, ⟨2, rfl⟩, trivial⟩) (R.fa F30_1 rfl) rfl ?_
                refine JA.val ⟨by kernel_rfl, by kernel_rfl⟩ (calm_only _) (i := 11) rfl ⟨by kernel_rfl, by kernel_rfl, rfl⟩ ⟨_, _, rfl, rfl, rfl⟩ (stab_of (Hle.refl _) ⟨⟨0, rfl⟩, ⟨1, rfl⟩, ⟨2, rfl⟩, trivial⟩) (R.ldo 2 S26 rfl rfl (hc_57 1 _ rfl)) rfl ?_
                refine JA.val ⟨by kernel_rfl, by kernel_rfl⟩ (calm_only _) (i := 12) rfl ⟨by kernel_rfl, by kernel_rfl, rfl⟩ ⟨_, _, rfl, rfl, rfl⟩ (stab_of (Hle.refl _) ⟨⟨0, rfl⟩, ⟨1, rfl⟩, ⟨2, rfl⟩, trivial⟩) (R.lss32 (a := y_49.Epoch) (b := (1 : UInt32)) rfl rfl) rfl ?_
                refine JA.val ⟨by kernel_rfl, by kernel_rfl⟩ (calm_only _) (i := 13) rfl ⟨by kernel_rfl, by kernel_rfl, rfl⟩ trivial (stab_of (Hle.refl _) ⟨⟨0, rfl⟩, ⟨1, rfl⟩, ⟨2, rfl⟩, trivial⟩) (R.pickF rfl rfl) rfl ?_
                refine JA.val ⟨by kernel_rfl, by kernel_rfl⟩ (calm_only _) (i := 14) rfl ⟨by kernel_rfl, by kernel_rfl, rfl⟩ trivial (stab_of (Hle.refl _) ⟨⟨0, rfl⟩, ⟨1, rfl⟩, ⟨2, rfl⟩, trivial⟩) (R.move rfl) rfl ?_
                refine JA.gSplit (t := 64) rfl (fun c_60 => ?_) (fun c_60 => ?_)
                · replace hx := cond_t c_60 hx
                  refine JA.no ⟨by kernel_rfl, by kernel_rfl⟩ (calm_only _) (i := 15) rfl ⟨by kernel_rfl, by kernel_rfl, rfl⟩ rfl rfl rfl rfl (stab_of (Hle.refl _) ⟨⟨0, rfl⟩, ⟨1, rfl⟩, ⟨2, rfl⟩, trivial⟩) rfl ?_
                  refine JA.no ⟨by kernel_rfl, by kernel_rfl⟩ (calm_only _) (i := 16) rfl ⟨by kernel_rfl, by kernel_rfl, rfl⟩ rfl rfl rfl rfl (stab_of (Hle.refl _) ⟨⟨0, rfl⟩, ⟨1, rfl⟩, ⟨2, rfl⟩, trivial⟩) rfl ?_
                  refine JA.no ⟨by kernel_rfl, by kernel_rfl⟩ (calm_only _) (i := 17) rfl ⟨by kernel_rfl, by kernel_rfl, rfl⟩ rfl rfl rfl rfl (stab_of (Hle.refl _) ⟨⟨0, rfl⟩, ⟨1, rfl⟩, ⟨2, rfl⟩, trivial⟩) rfl ?_
                  refine JA.no ⟨by kernel_rfl, by kernel_rfl⟩ (calm_only _) (i := 18) rfl ⟨by kernel_rfl, by kernel_rfl, rfl⟩ rfl rfl rfl rfl (stab_of (Hle.refl _) ⟨⟨0, rfl⟩, ⟨1, rfl⟩, ⟨2, rfl⟩, trivial⟩) rfl ?_
                  refine JA.no ⟨by kernel_rfl, by kernel_rfl⟩ (calm_only _) (i := 19) rfl ⟨by kernel_rfl, by kernel_rfl, rfl⟩ rfl rfl rfl rfl (stab_of (Hle.refl _) ⟨⟨0, rfl⟩, ⟨1, rfl⟩, ⟨2, rfl⟩, trivial⟩) rfl ?_
                  refine JA.no ⟨by kernel_rfl, by kernel_rfl⟩ (calm_only _) (i := 20) rfl ⟨by kernel_rfl, by kernel_rfl, rfl⟩ rfl rfl rfl rfl (stab_of (Hle.refl _) ⟨⟨0, rfl⟩, ⟨1, rfl⟩, ⟨2, rfl⟩, trivial⟩) rfl ?_
                  refine JA.no ⟨by kernel_rfl, by kernel_rfl⟩ (calm_only _) (i := 21) rfl ⟨by kernel_rfl, by kernel_rfl, rfl⟩ rfl rfl rfl rfl (stab_of (Hle.refl _) ⟨⟨0, rfl⟩, ⟨1, rfl⟩, ⟨2, rfl⟩, trivial⟩) rfl ?_
                  refine JA.val ⟨by kernel_rfl, by kernel_rfl⟩ (calm_only _) (i := 22) rfl ⟨by kernel_rfl, by kernel_rfl, rfl⟩ trivial (stab_of (Hle.refl _) ⟨⟨0, rfl⟩, ⟨1, rfl⟩, ⟨2, rfl⟩, trivial⟩) (R.pickT rfl rfl) rfl ?_
                  refine JA.val ⟨by kernel_rfl, by kernel_rfl⟩ (calm_only _) (i := 23) rfl ⟨by kernel_rfl, by kernel_rfl, rfl⟩ trivial (stab_of (Hle.refl _) ⟨⟨0, rfl⟩, ⟨1, rfl⟩, ⟨2, rfl⟩, trivial⟩) (R.move rfl) rfl ?_
                  refine JA.no ⟨by kernel_rfl, by kernel_rfl⟩ (calm_only _) (i := 24) rfl ⟨by kernel_rfl, by kernel_rfl, rfl⟩ rfl rfl rfl rfl (stab_of (Hle.refl _) ⟨⟨0, rfl⟩, ⟨1, rfl⟩, ⟨2, rfl⟩, trivial⟩) rfl ?_
                  refine JA.no ⟨by kernel_rfl, by kernel_rfl⟩ (calm_only _) (i := 25) rfl ⟨by kernel_rfl, by kernel_rfl, rfl⟩ rfl rfl rfl rfl (stab_of (Hle.refl _) ⟨⟨0, rfl⟩, ⟨1, rfl⟩, ⟨2, rfl⟩, trivial⟩) rfl ?_
                  refine JA.no ⟨by kernel_rfl, by kernel_rfl⟩ (calm_only _) (i := 26) rfl ⟨by kernel_rfl, by kernel_rfl, rfl⟩ rfl rfl rfl rfl (stab_of (Hle.refl _) ⟨⟨0, rfl⟩, ⟨1, rfl⟩, ⟨2, rfl⟩, trivial⟩) rfl ?_
                  refine JA.noU ⟨by kernel_rfl, by kernel_rfl⟩ (calm_only _) (i := 27) rfl ⟨by kernel_rfl, by kernel_rfl, rfl⟩ rfl rfl rfl (stab_of (Hle.refl _) ⟨⟨0, rfl⟩, ⟨1, rfl⟩, ⟨2, rfl⟩, trivial⟩) rfl ?_
                  refine JA.noU ⟨by kernel_rfl, by kernel_rfl⟩ (calm_only _) (i := 28) rfl ⟨by kernel_rfl, by kernel_rfl, rfl⟩ rfl rfl rfl (stab_of (Hle.refl _) ⟨⟨0, rfl⟩, ⟨1, rfl⟩, ⟨2, rfl⟩, trivial⟩) rfl ?_
                  refine JA.noU ⟨by kernel_rfl, by kernel_rfl⟩ (calm_only _) (i := 29) rfl ⟨by kernel_rfl, by kernel_rfl, rfl⟩ rfl rfl rfl (stab_of (Hle.refl _) ⟨⟨0, rfl⟩, ⟨1, rfl⟩, ⟨2, rfl⟩, trivial⟩) rfl ?_
                  refine JA.noU ⟨by kernel_rfl, by kernel_rfl⟩ (calm_only _) (i := 30) rfl ⟨by kernel_rfl, by kernel_rfl, rfl⟩ rfl rfl rfl (stab_of (Hle.refl _) ⟨⟨0, rfl⟩, ⟨1, rfl⟩, ⟨2, rfl⟩, trivial⟩) rfl ?_
                  refine JA.noU ⟨by kernel_rfl, by kernel_rfl⟩ (calm_only _) (i := 31) rfl ⟨by kernel_rfl, by kernel_rfl, rfl⟩ rfl rfl rfl (stab_of (Hle.refl _) ⟨⟨0, rfl⟩, ⟨1, rfl⟩, ⟨2, rfl⟩, trivial⟩) rfl ?_
                  refine JA.noU ⟨by kernel_rfl, by kernel_rfl⟩ (calm_only _) (i := 32) rfl ⟨by kernel_rfl, by kernel_rfl, rfl⟩ rfl rfl rfl (stab_of (Hle.refl _) ⟨⟨0, rfl⟩, ⟨1, rfl⟩, ⟨2, rfl⟩, trivial⟩) rfl ?_
                  refine JA.noU ⟨by kernel_rfl, by kernel_rfl⟩ (calm_only _) (i := 33) rfl ⟨by kernel_rfl, by kernel_rfl, rfl⟩ rfl rfl rfl (stab_of (Hle.refl _) ⟨⟨0, rfl⟩, ⟨1, rfl⟩, ⟨2, rfl⟩, trivial⟩) rfl ?_
                  refine JA.noU ⟨by kernel_rfl, by kernel_rfl⟩ (calm_only _) (i := 34) rfl ⟨by kernel_rfl, by kernel_rfl, rfl⟩ rfl rfl rfl (stab_of (Hle.refl _) ⟨⟨0, rfl⟩, ⟨1, rfl⟩, ⟨2, rfl⟩, trivial⟩) rfl ?_
                  refine JA.noU ⟨by kernel_rfl, by kernel_rfl⟩ (calm_only _) (i := 35) rfl ⟨by kernel_rfl, by kernel_rfl, rfl⟩ rfl rfl rfl (stab_of (Hle.refl _) ⟨⟨0, rfl⟩, ⟨1, rfl⟩, ⟨2, rfl⟩, trivial⟩) rfl ?_
                  refine JA.noU ⟨by kernel_rfl, by kernel_rfl⟩ (calm_only _) (i := 36) rfl ⟨by kernel_rfl, by kernel_rfl, rfl⟩ rfl rfl rfl (stab_of (Hle.refl _) ⟨⟨0, rfl⟩, ⟨1, rfl⟩, ⟨2, rfl⟩, trivial⟩) rfl ?_
                  refine JA.noU ⟨by kernel_rfl, by kernel_rfl⟩ (calm_only _) (i := 37) rfl ⟨by kernel_rfl, by kernel_rfl, rfl⟩ rfl rfl rfl (stab_of (Hle.refl _) ⟨⟨0, rfl⟩, ⟨1, rfl⟩, ⟨2, rfl⟩, trivial⟩) rfl ?_
                  refine JA.noU ⟨by kernel_rfl, by kernel_rfl⟩ (calm_only _) (i := 38) rfl ⟨by kernel_rfl, by kernel_rfl, rfl⟩ rfl rfl rfl (stab_of (Hle.refl _) ⟨⟨0, rfl⟩, ⟨1, rfl⟩, ⟨2, rfl⟩, trivial⟩) rfl ?_
                  refine JA.no ⟨by kernel_rfl, by kernel_rfl⟩ (calm_only _) (i := 39) rfl ⟨by kernel_rfl, by kernel_rfl, rfl⟩ rfl rfl rfl rfl (stab_of (Hle.refl _) ⟨⟨0, rfl⟩, ⟨1, rfl⟩, ⟨2, rfl⟩, trivial⟩) rfl ?_
                  refine JA.val ⟨by kernel_rfl, by kernel_rfl⟩ (calm_only _) (i := 40) rfl ⟨by kernel_rfl, by kernel_rfl, rfl⟩ trivial (stab_of (Hle.refl _) ⟨⟨0, rfl⟩, ⟨1, rfl⟩, ⟨2, rfl⟩, trivial⟩) (R.pickT rfl rfl) rfl ?_
                  refine JA.doneN (by kernel_rfl) ?_
                  refine JN.next ?_
                  refine JC.condT rfl ?_
                  refine JC.seq ?_
                  refine JC.region ?_
                  refine JL.val rfl rfl (R.assign rfl) ?_
                  refine JL.nil ?_
                  refine JN.next ?_
                  refine JC.ret ?_
                  refine JN.blkR ?_
                  refine JN.passR ?_
                  obtain rfl := run_done hd_36 hx
                  refine JN.passR ?_
                  refine JN.blkR ?_
                  clear hx; have hx := hxo_31
                  simp only [Sum.elim_inl, Sum.elim_inr] at hx
                  refine JN.passR ?_
                  refine JN.passR ?_
                  refine JN.outP (vs := [.bool false]) (K := []) (rst := [_, _, _]) (.inl rfl) rfl rfl (Res.tmp rfl rfl) picks0 ?_
                  obtain rfl := Option.some.inj hx
                  exact ⟨rfl, rfl, trivial⟩
                · replace hx := cond_f c_60 hx
                  refine JA.val ⟨by kernel_rfl, by kernel_rfl⟩ (calm_only _) (i := 15) rfl ⟨by kernel_rfl, by kernel_rfl, rfl⟩ ⟨_, _, rfl, rfl, rfl⟩ (stab_of (Hle.refl _) ⟨⟨0, rfl⟩, ⟨1, rfl⟩, ⟨2, rfl⟩, trivial⟩) (R.move rfl) rfl ?_
                  refine JA.val ⟨by kernel_rfl, by kernel_rfl⟩ (calm_only _) (i := 16) rfl ⟨by kernel_rfl, by kernel_rfl, rfl⟩ ⟨_, _, rfl, rfl, rfl⟩ (stab_of (Hle.refl _) ⟨⟨0, rfl⟩, ⟨1, rfl⟩, ⟨2, rfl⟩, trivial⟩) (R.move rfl) rfl ?_
                  obtain ⟨y_61, hN_62, hx⟩ := idx_some hx
                  obtain ⟨b_63, o_64, cs_65, cur_70, hK_71, hE_66, hR_67, hl_68, hc_69⟩ := RowOf.elem hr_14 hN_62
                  obtain ⟨rfl, rfl⟩ : b_39 = b_63 ∧ cur_46 = cur_70 := by simpa using hK_71
                  obtain rfl := hR_67
                  refine JA.val ⟨by kernel_rfl, by kernel_rfl⟩ (calm_only _) (i := 17) rfl ⟨by kernel_rfl, by kernel_rfl, rfl⟩ ⟨_, _, rfl, rfl, rfl⟩ (stab_of (Hle.refl _) ⟨⟨0, rfl⟩, ⟨1, rfl⟩, ⟨2, rfl⟩, trivial⟩) (R.ix U38 S30 rfl rfl hE_66) rfl ?_
                  refine JA.val ⟨by kernel_rfl, by kernel_rfl⟩ (calm_only _) (i := 18) rfl ⟨by kernel_rfl, by kernel_rfl, rfl⟩ ⟨_, _, rfl, rfl, rfl⟩ (stab_of (Hle.refl _) ⟨⟨0, rfl⟩, ⟨1, rfl⟩, ⟨2, rfl⟩, trivial⟩) (R.fa F30_2 rfl) rfl ?_
                  refine JA.val ⟨by kernel_rfl, by kernel_rfl⟩ (calm_only _) (i := 19) rfl ⟨by kernel_rfl, by kernel_rfl, rfl⟩ ⟨_, _, rfl, rfl, rfl⟩ (stab_of (Hle.refl _) ⟨⟨0, rfl⟩, ⟨1, rfl⟩, ⟨2, rfl⟩, trivial⟩) (R.ldoE 2 (cs := [.int .u32 (y_61.Gen.toNat : Int), .int .u32 (y_61.Epoch.toNat : Int), .int .i64 y_61.Root.At, .int .u32 (y_61.Root.Birth.toNat : Int), .int .u32 (y_61.Root.Iv.toNat : Int), .int .u32 (y_61.Root.Tag.toNat : Int), .int .u32 (y_61.Root.Sum.toNat : Int)]) (k := 2) (vs := [.int .i64 y_61.Root.At, .int .u32 (y_61.Root.Birth.toNat : Int), .int .u32 (y_61.Root.Iv.toNat : Int), .int .u32 (y_61.Root.Tag.toNat : Int), .int .u32 (y_61.Root.Sum.toNat : Int)]) S28 rfl rfl hc_69 rfl rfl) rfl ?_
                  refine JA.one (i := 20) (by kernel_rfl) ?_
                  refine JO.step rfl ⟨_, _, rfl, rfl, rfl⟩ rfl (fun K hK => ?_)
                  obtain ⟨x_72, hr_73, hx⟩ := bnd_some hx
                  refine JL.callC (vs := [_]) (args := [_]) (K := []) (rst := [_, _, _]) E20 rfl rfl rfl picks0 (ptr_Check_ok (Ptr.mk y_61.Root.At y_61.Root.Birth y_61.Root.Iv y_61.Root.Tag y_61.Root.Sum) _ _ hr_73) rfl (fun u_74 Ku_74 Hu_74 hRu_74 hleu_74 hfu_74 => ?_)
                  obtain ⟨rfl, rfl, rfl, -⟩ := hRu_74
                  refine JL.nil ?_
                  refine hK _ _ _ (stab_of (Hle.refl _) ⟨⟨0, rfl⟩, ⟨1, rfl⟩, ⟨2, rfl⟩, trivial⟩) ?_
                  refine JA.val ⟨by kernel_rfl, by kernel_rfl⟩ (calm_only _) (i := 21) rfl ⟨by kernel_rfl, by kernel_rfl, rfl⟩ ⟨_, _, rfl, rfl, rfl⟩ (stab_of (Hle.refl _) ⟨⟨0, rfl⟩, ⟨1, rfl⟩, ⟨2, rfl⟩, trivial⟩) (R.neq_i rfl rfl) rfl ?_
                  refine JA.val ⟨by kernel_rfl, by kernel_rfl⟩ (calm_only _) (i := 22) rfl ⟨by kernel_rfl, by kernel_rfl, rfl⟩ trivial (stab_of (Hle.refl _) ⟨⟨0, rfl⟩, ⟨1, rfl⟩, ⟨2, rfl⟩, trivial⟩) (R.pickF rfl rfl) rfl ?_
                  refine JA.val ⟨by kernel_rfl, by kernel_rfl⟩ (calm_only _) (i := 23) rfl ⟨by kernel_rfl, by kernel_rfl, rfl⟩ trivial (stab_of (Hle.refl _) ⟨⟨0, rfl⟩, ⟨1, rfl⟩, ⟨2, rfl⟩, trivial⟩) (R.move rfl) rfl ?_
                  refine JA.gSplit (t := 73) rfl (fun c_75 => ?_) (fun c_75 => ?_)
                  · replace hx := cond_t c_75 hx
                    refine JA.no ⟨by kernel_rfl, by kernel_rfl⟩ (calm_only _) (i := 24) rfl ⟨by kernel_rfl, by kernel_rfl, rfl⟩ rfl rfl rfl rfl (stab_of (Hle.refl _) ⟨⟨0, rfl⟩, ⟨1, rfl⟩, ⟨2, rfl⟩, trivial⟩) rfl ?_
                    refine JA.no ⟨by kernel_rfl, by kernel_rfl⟩ (calm_only _) (i := 25) rfl ⟨by kernel_rfl, by kernel_rfl, rfl⟩ rfl rfl rfl rfl (stab_of (Hle.refl _) ⟨⟨0, rfl⟩, ⟨1, rfl⟩, ⟨2, rfl⟩, trivial⟩) rfl ?_
                    refine JA.no ⟨by kernel_rfl, by kernel_rfl⟩ (calm_only _) (i := 26) rfl ⟨by kernel_rfl, by kernel_rfl, rfl⟩ rfl rfl rfl rfl (stab_of (Hle.refl _) ⟨⟨0, rfl⟩, ⟨1, rfl⟩, ⟨2, rfl⟩, trivial⟩) rfl ?_
                    refine JA.noU ⟨by kernel_rfl, by kernel_rfl⟩ (calm_only _) (i := 27) rfl ⟨by kernel_rfl, by kernel_rfl, rfl⟩ rfl rfl rfl (stab_of (Hle.refl _) ⟨⟨0, rfl⟩, ⟨1, rfl⟩, ⟨2, rfl⟩, trivial⟩) rfl ?_
                    refine JA.noU ⟨by kernel_rfl, by kernel_rfl⟩ (calm_only _) (i := 28) rfl ⟨by kernel_rfl, by kernel_rfl, rfl⟩ rfl rfl rfl (stab_of (Hle.refl _) ⟨⟨0, rfl⟩, ⟨1, rfl⟩, ⟨2, rfl⟩, trivial⟩) rfl ?_
                    refine JA.noU ⟨by kernel_rfl, by kernel_rfl⟩ (calm_only _) (i := 29) rfl ⟨by kernel_rfl, by kernel_rfl, rfl⟩ rfl rfl rfl (stab_of (Hle.refl _) ⟨⟨0, rfl⟩, ⟨1, rfl⟩, ⟨2, rfl⟩, trivial⟩) rfl ?_
                    refine JA.noU ⟨by kernel_rfl, by kernel_rfl⟩ (calm_only _) (i := 30) rfl ⟨by kernel_rfl, by kernel_rfl, rfl⟩ rfl rfl rfl (stab_of (Hle.refl _) ⟨⟨0, rfl⟩, ⟨1, rfl⟩, ⟨2, rfl⟩, trivial⟩) rfl ?_
                    refine JA.noU ⟨by kernel_rfl, by kernel_rfl⟩ (calm_only _) (i := 31) rfl ⟨by kernel_rfl, by kernel_rfl, rfl⟩ rfl rfl rfl (stab_of (Hle.refl _) ⟨⟨0, rfl⟩, ⟨1, rfl⟩, ⟨2, rfl⟩, trivial⟩) rfl ?_
                    refine JA.noU ⟨by kernel_rfl, by kernel_rfl⟩ (calm_only _) (i := 32) rfl ⟨by kernel_rfl, by kernel_rfl, rfl⟩ rfl rfl rfl (stab_of (Hle.refl _) ⟨⟨0, rfl⟩, ⟨1, rfl⟩, ⟨2, rfl⟩, trivial⟩) rfl ?_
                    refine JA.noU ⟨by kernel_rfl, by kernel_rfl⟩ (calm_only _) (i := 33) rfl ⟨by kernel_rfl, by kernel_rfl, rfl⟩ rfl rfl rfl (stab_of (Hle.refl _) ⟨⟨0, rfl⟩, ⟨1, rfl⟩, ⟨2, rfl⟩, trivial⟩) rfl ?_
                    refine JA.noU ⟨by kernel_rfl, by kernel_rfl⟩ (calm_only _) (i := 34) rfl ⟨by kernel_rfl, by kernel_rfl, rfl⟩ rfl rfl rfl (stab_of (Hle.refl _) ⟨⟨0, rfl⟩, ⟨1, rfl⟩, ⟨2, rfl⟩, trivial⟩) rfl ?_
                    refine JA.noU ⟨by kernel_rfl, by kernel_rfl⟩ (calm_only _) (i := 35) rfl ⟨by kernel_rfl, by kernel_rfl, rfl⟩ rfl rfl rfl (stab_of (Hle.refl _) ⟨⟨0, rfl⟩, ⟨1, rfl⟩, ⟨2, rfl⟩, trivial⟩) rfl ?_
                    refine JA.noU ⟨by kernel_rfl, by kernel_rfl⟩ (calm_only _) (i := 36) rfl ⟨by kernel_rfl, by kernel_rfl, rfl⟩ rfl rfl rfl (stab_of (Hle.refl _) ⟨⟨0, rfl⟩, ⟨1, rfl⟩, ⟨2, rfl⟩, trivial⟩) rfl ?_
                    refine JA.noU ⟨by kernel_rfl, by kernel_rfl⟩ (calm_only _) (i := 37) rfl ⟨by kernel_rfl, by kernel_rfl, rfl⟩ rfl rfl rfl (stab_of (Hle.refl _) ⟨⟨0, rfl⟩, ⟨1, rfl⟩, ⟨2, rfl⟩, trivial⟩) rfl ?_
                    refine JA.noU ⟨by kernel_rfl, by kernel_rfl⟩ (calm_only _) (i := 38) rfl ⟨by kernel_rfl, by kernel_rfl, rfl⟩ rfl rfl rfl (stab_of (Hle.refl _) ⟨⟨0, rfl⟩, ⟨1, rfl⟩, ⟨2, rfl⟩, trivial⟩) rfl ?_
                    refine JA.no ⟨by kernel_rfl, by kernel_rfl⟩ (calm_only _) (i := 39) rfl ⟨by kernel_rfl, by kernel_rfl, rfl⟩ rfl rfl rfl rfl (stab_of (Hle.refl _) ⟨⟨0, rfl⟩, ⟨1, rfl⟩, ⟨2, rfl⟩, trivial⟩) rfl ?_
                    refine JA.val ⟨by kernel_rfl, by kernel_rfl⟩ (calm_only _) (i := 40) rfl ⟨by kernel_rfl, by kernel_rfl, rfl⟩ trivial (stab_of (Hle.refl _) ⟨⟨0, rfl⟩, ⟨1, rfl⟩, ⟨2, rfl⟩, trivial⟩) (R.pickT rfl rfl) rfl ?_
                    refine JA.doneN (by kernel_rfl) ?_
                    refine JN.next ?_
                    refine JC.condT rfl ?_
                    refine JC.seq ?_
                    refine JC.region ?_
                    refine JL.val rfl rfl (R.assign rfl) ?_
                    refine JL.nil ?_
                    refine JN.next ?_
                    refine JC.ret ?_
                    refine JN.blkR ?_
                    refine JN.passR ?_
                    obtain rfl := run_done hd_36 hx
                    refine JN.passR ?_
                    refine JN.blkR ?_
                    clear hx; have hx := hxo_31
                    simp only [Sum.elim_inl, Sum.elim_inr] at hx
                    refine JN.passR ?_
                    refine JN.passR ?_
                    refine JN.outP (vs := [.bool false]) (K := []) (rst := [_, _, _]) (.inl rfl) rfl rfl (Res.tmp rfl rfl) picks0 ?_
                    obtain rfl := Option.some.inj hx
                    exact ⟨rfl, rfl, trivial⟩
                  · replace hx := cond_f c_75 hx
                    refine JA.val ⟨by kernel_rfl, by kernel_rfl⟩ (calm_only _) (i := 24) rfl ⟨by kernel_rfl, by kernel_rfl, rfl⟩ ⟨_, _, rfl, rfl, rfl⟩ (stab_of (Hle.refl _) ⟨⟨0, rfl⟩, ⟨1, rfl⟩, ⟨2, rfl⟩, trivial⟩) (R.move rfl) rfl ?_
                    refine JA.val ⟨by kernel_rfl, by kernel_rfl⟩ (calm_only _) (i := 25) rfl ⟨by kernel_rfl, by kernel_rfl, rfl⟩ ⟨_, _, rfl, rfl, rfl⟩ (stab_of (Hle.refl _) ⟨⟨0, rfl⟩, ⟨1, rfl⟩, ⟨2, rfl⟩, trivial⟩) (R.gtr_i rfl rfl) rfl ?_
                    refine JA.val ⟨by kernel_rfl, by kernel_rfl⟩ (calm_only _) (i := 26) rfl ⟨by kernel_rfl, by kernel_rfl, rfl⟩ ⟨_, _, rfl, rfl, rfl⟩ (stab_of (Hle.refl _) ⟨⟨0, rfl⟩, ⟨1, rfl⟩, ⟨2, rfl⟩, trivial⟩) (R.move rfl) rfl ?_
                    refine JA.gSplit (t := 76) rfl (fun c_76 => ?_) (fun c_76 => ?_)
                    · replace hx := cond_t c_76 hx
                      refine JA.val ⟨by kernel_rfl, by kernel_rfl⟩ (calm_only _) (i := 27) rfl ⟨by kernel_rfl, by kernel_rfl, rfl⟩ ⟨_, _, rfl, rfl, rfl⟩ (stab_of (Hle.refl _) ⟨⟨0, rfl⟩, ⟨1, rfl⟩, ⟨2, rfl⟩, trivial⟩) (R.move rfl) rfl ?_
                      refine JA.val ⟨by kernel_rfl, by kernel_rfl⟩ (calm_only _) (i := 28) rfl ⟨by kernel_rfl, by kernel_rfl, rfl⟩ ⟨_, _, rfl, rfl, rfl⟩ (stab_of (Hle.refl _) ⟨⟨0, rfl⟩, ⟨1, rfl⟩, ⟨2, rfl⟩, trivial⟩) (R.move rfl) rfl ?_
                      refine JA.val ⟨by kernel_rfl, by kernel_rfl⟩ (calm_only _) (i := 29) rfl ⟨by kernel_rfl, by kernel_rfl, rfl⟩ ⟨_, _, rfl, rfl, rfl⟩ (stab_of (Hle.refl _) ⟨⟨0, rfl⟩, ⟨1, rfl⟩, ⟨2, rfl⟩, trivial⟩) (R.sub_i rfl rfl) rfl ?_
                      obtain ⟨y_77, hN_78, hx⟩ := idx_some hx
                      obtain ⟨b_79, o_80, cs_81, cur_86, hK_87, hE_82, hR_83, hl_84, hc_85⟩ := RowOf.elem hr_14 hN_78
                      obtain ⟨rfl, rfl⟩ : b_39 = b_79 ∧ cur_46 = cur_86 := by simpa using hK_87
                      obtain rfl := hR_83
                      refine JA.val ⟨by kernel_rfl, by kernel_rfl⟩ (calm_only _) (i := 30) rfl ⟨by kernel_rfl, by kernel_rfl, rfl⟩ ⟨_, _, rfl, rfl, rfl⟩ (stab_of (Hle.refl _) ⟨⟨0, rfl⟩, ⟨1, rfl⟩, ⟨2, rfl⟩, trivial⟩) (R.ix U38 S30 rfl rfl hE_82) rfl ?_
                      refine JA.val ⟨by kernel_rfl, by kernel_rfl⟩ (calm_only _) (i := 31) rfl ⟨by kernel_rfl, by kernel_rfl, rfl⟩ ⟨_, _, rfl, rfl, rfl⟩ (stab_of (Hle.refl _) ⟨⟨0, rfl⟩, ⟨1, rfl⟩, ⟨2, rfl⟩, trivial⟩) (R.fa F30_0 rfl) rfl ?_
                      refine JA.val ⟨by kernel_rfl, by kernel_rfl⟩ (calm_only _) (i := 32) rfl ⟨by kernel_rfl, by kernel_rfl, rfl⟩ ⟨_, _, rfl, rfl, rfl⟩ (stab_of (Hle.refl _) ⟨⟨0, rfl⟩, ⟨1, rfl⟩, ⟨2, rfl⟩, trivial⟩) (R.ldo 2 S26 rfl rfl (hc_85 0 _ rfl)) rfl ?_
                      refine JA.val ⟨by kernel_rfl, by kernel_rfl⟩ (calm_only _) (i := 33) rfl ⟨by kernel_rfl, by kernel_rfl, rfl⟩ ⟨_, _, rfl, rfl, rfl⟩ (stab_of (Hle.refl _) ⟨⟨0, rfl⟩, ⟨1, rfl⟩, ⟨2, rfl⟩, trivial⟩) (R.move rfl) rfl ?_
                      refine JA.val ⟨by kernel_rfl, by kernel_rfl⟩ (calm_only _) (i := 34) rfl ⟨by kernel_rfl, by kernel_rfl, rfl⟩ ⟨_, _, rfl, rfl, rfl⟩ (stab_of (Hle.refl _) ⟨⟨0, rfl⟩, ⟨1, rfl⟩, ⟨2, rfl⟩, trivial⟩) (R.move rfl) rfl ?_
                      obtain ⟨y_88, hN_89, hx⟩ := idx_some hx
                      obtain ⟨b_90, o_91, cs_92, cur_97, hK_98, hE_93, hR_94, hl_95, hc_96⟩ := RowOf.elem hr_14 hN_89
                      obtain ⟨rfl, rfl⟩ : b_39 = b_90 ∧ cur_46 = cur_97 := by simpa using hK_98
                      obtain rfl := hR_94
                      refine JA.val ⟨by kernel_rfl, by kernel_rfl⟩ (calm_only _) (i := 35) rfl ⟨by kernel_rfl, by kernel_rfl, rfl⟩ ⟨_, _, rfl, rfl, rfl⟩ (stab_of (Hle.refl _) ⟨⟨0, rfl⟩, ⟨1, rfl⟩, ⟨2, rfl⟩, trivial⟩) (R.ix U38 S30 rfl rfl hE_93) rfl ?_
                      refine JA.val ⟨by kernel_rfl, by kernel_rfl⟩ (calm_only _) (i := 36) rfl ⟨by kernel_rfl, by kernel_rfl, rfl⟩ ⟨_, _, rfl, rfl, rfl⟩ (stab_of (Hle.refl _) ⟨⟨0, rfl⟩, ⟨1, rfl⟩, ⟨2, rfl⟩, trivial⟩) (R.fa F30_0 rfl) rfl ?_
                      refine JA.val ⟨by kernel_rfl, by kernel_rfl⟩ (calm_only _) (i := 37) rfl ⟨by kernel_rfl, by kernel_rfl, rfl⟩ ⟨_, _, rfl, rfl, rfl⟩ (stab_of (Hle.refl _) ⟨⟨0, rfl⟩, ⟨1, rfl⟩, ⟨2, rfl⟩, trivial⟩) (R.ldo 2 S26 rfl rfl (hc_96 0 _ rfl)) rfl ?_
                      refine JA.val ⟨by kernel_rfl, by kernel_rfl⟩ (calm_only _) (i := 38) rfl ⟨by kernel_rfl, by kernel_rfl, rfl⟩ ⟨_, _, rfl, rfl, rfl⟩ (stab_of (Hle.refl _) ⟨⟨0, rfl⟩, ⟨1, rfl⟩, ⟨2, rfl⟩, trivial⟩) (R.leq32 (a := y_77.Gen) (b := y_88.Gen) rfl rfl) rfl ?_
                      refine JA.val ⟨by kernel_rfl, by kernel_rfl⟩ (calm_only _) (i := 39) rfl ⟨by kernel_rfl, by kernel_rfl, rfl⟩ ⟨_, _, rfl, rfl, rfl⟩ (stab_of (Hle.refl _) ⟨⟨0, rfl⟩, ⟨1, rfl⟩, ⟨2, rfl⟩, trivial⟩) (R.pickT rfl rfl) rfl ?_
                      refine JA.val ⟨by kernel_rfl, by kernel_rfl⟩ (calm_only _) (i := 40) rfl ⟨by kernel_rfl, by kernel_rfl, rfl⟩ trivial (stab_of (Hle.refl _) ⟨⟨0, rfl⟩, ⟨1, rfl⟩, ⟨2, rfl⟩, trivial⟩) (R.pickF rfl rfl) rfl ?_
                      refine JA.doneN (by kernel_rfl) ?_
                      refine JN.next ?_
                      refine JC.condB rfl (fun c_99 => ?_) (fun c_99 => ?_)
                      · replace hx := cond_t c_99 hx
                        refine JC.seq ?_
                        refine JC.region ?_
                        refine JL.val rfl rfl (R.assign rfl) ?_
                        refine JL.nil ?_
                        refine JN.next ?_
                        refine JC.ret ?_
                        refine JN.blkR ?_
                        refine JN.passR ?_
                        obtain rfl := run_done hd_36 hx
                        refine JN.passR ?_
                        refine JN.blkR ?_
                        clear hx; have hx := hxo_31
                        simp only [Sum.elim_inl, Sum.elim_inr] at hx
                        refine JN.passR ?_
                        refine JN.passR ?_
                        refine JN.outP (vs := [.bool false]) (K := []) (rst := [_, _, _]) (.inl rfl) rfl rfl (Res.tmp rfl rfl) picks0 ?_
                        obtain rfl := Option.some.inj hx
                        exact ⟨rfl, rfl, trivial⟩
                      · replace hx := cond_f c_99 hx
                        refine JC.skip ?_
                        refine JN.blkN ?_
                        refine JN.next ?_
                        refine JC.region ?_
                        refine JL.val rfl rfl (R.move rfl) ?_
                        refine JL.val rfl rfl (R.inc rfl rfl (of_decide_eq_true c_36) (RowOf.lenI hr_14)) ?_
                        refine JL.val rfl rfl (R.assign rfl) ?_
                        refine JL.nil ?_
                        replace hx := run_next hd_36 hx
                        refine JN.front 2 rfl ?_
                        refine JN.front 2 rfl ?_
                        refine JN.front 2 rfl ?_
                        exact JN.cut ⟨s_33 + 1, rfl, rfl, rfl, hx⟩ ⟨rfl, rfl, rfl, rfl, rfl, trivial⟩ rfl rfl
                    · replace hx := cond_f c_76 hx
                      refine JA.no ⟨by kernel_rfl, by kernel_rfl⟩ (calm_only _) (i := 27) rfl ⟨by kernel_rfl, by kernel_rfl, rfl⟩ rfl rfl rfl rfl (stab_of (Hle.refl _) ⟨⟨0, rfl⟩, ⟨1, rfl⟩, ⟨2, rfl⟩, trivial⟩) rfl ?_
                      refine JA.no ⟨by kernel_rfl, by kernel_rfl⟩ (calm_only _) (i := 28) rfl ⟨by kernel_rfl, by kernel_rfl, rfl⟩ rfl rfl rfl rfl (stab_of (Hle.refl _) ⟨⟨0, rfl⟩, ⟨1, rfl⟩, ⟨2, rfl⟩, trivial⟩) rfl ?_
                      refine JA.no ⟨by kernel_rfl, by kernel_rfl⟩ (calm_only _) (i := 29) rfl ⟨by kernel_rfl, by kernel_rfl, rfl⟩ rfl rfl rfl rfl (stab_of (Hle.refl _) ⟨⟨0, rfl⟩, ⟨1, rfl⟩, ⟨2, rfl⟩, trivial⟩) rfl ?_
                      refine JA.no ⟨by kernel_rfl, by kernel_rfl⟩ (calm_only _) (i := 30) rfl ⟨by kernel_rfl, by kernel_rfl, rfl⟩ rfl rfl rfl rfl (stab_of (Hle.refl _) ⟨⟨0, rfl⟩, ⟨1, rfl⟩, ⟨2, rfl⟩, trivial⟩) rfl ?_
                      refine JA.no ⟨by kernel_rfl, by kernel_rfl⟩ (calm_only _) (i := 31) rfl ⟨by kernel_rfl, by kernel_rfl, rfl⟩ rfl rfl rfl rfl (stab_of (Hle.refl _) ⟨⟨0, rfl⟩, ⟨1, rfl⟩, ⟨2, rfl⟩, trivial⟩) rfl ?_
                      refine JA.no ⟨by kernel_rfl, by kernel_rfl⟩ (calm_only _) (i := 32) rfl ⟨by kernel_rfl, by kernel_rfl, rfl⟩ rfl rfl rfl rfl (stab_of (Hle.refl _) ⟨⟨0, rfl⟩, ⟨1, rfl⟩, ⟨2, rfl⟩, trivial⟩) rfl ?_
                      refine JA.no ⟨by kernel_rfl, by kernel_rfl⟩ (calm_only _) (i := 33) rfl ⟨by kernel_rfl, by kernel_rfl, rfl⟩ rfl rfl rfl rfl (stab_of (Hle.refl _) ⟨⟨0, rfl⟩, ⟨1, rfl⟩, ⟨2, rfl⟩, trivial⟩) rfl ?_
                      refine JA.no ⟨by kernel_rfl, by kernel_rfl⟩ (calm_only _) (i := 34) rfl ⟨by kernel_rfl, by kernel_rfl, rfl⟩ rfl rfl rfl rfl (stab_of (Hle.refl _) ⟨⟨0, rfl⟩, ⟨1, rfl⟩, ⟨2, rfl⟩, trivial⟩) rfl ?_
                      refine JA.no ⟨by kernel_rfl, by kernel_rfl⟩ (calm_only _) (i := 35) rfl ⟨by kernel_rfl, by kernel_rfl, rfl⟩ rfl rfl rfl rfl (stab_of (Hle.refl _) ⟨⟨0, rfl⟩, ⟨1, rfl⟩, ⟨2, rfl⟩, trivial⟩) rfl ?_
                      refine JA.no ⟨by kernel_rfl, by kernel_rfl⟩ (calm_only _) (i := 36) rfl ⟨by kernel_rfl, by kernel_rfl, rfl⟩ rfl rfl rfl rfl (stab_of (Hle.refl _) ⟨⟨0, rfl⟩, ⟨1, rfl⟩, ⟨2, rfl⟩, trivial⟩) rfl ?_
                      refine JA.no ⟨by kernel_rfl, by kernel_rfl⟩ (calm_only _) (i := 37) rfl ⟨by kernel_rfl, by kernel_rfl, rfl⟩ rfl rfl rfl rfl (stab_of (Hle.refl _) ⟨⟨0, rfl⟩, ⟨1, rfl⟩, ⟨2, rfl⟩, trivial⟩) rfl ?_
                      refine JA.no ⟨by kernel_rfl, by kernel_rfl⟩ (calm_only _) (i := 38) rfl ⟨by kernel_rfl, by kernel_rfl, rfl⟩ rfl rfl rfl rfl (stab_of (Hle.refl _) ⟨⟨0, rfl⟩, ⟨1, rfl⟩, ⟨2, rfl⟩, trivial⟩) rfl ?_
                      refine JA.val ⟨by kernel_rfl, by kernel_rfl⟩ (calm_only _) (i := 39) rfl ⟨by kernel_rfl, by kernel_rfl, rfl⟩ ⟨_, _, rfl, rfl, rfl⟩ (stab_of (Hle.refl _) ⟨⟨0, rfl⟩, ⟨1, rfl⟩, ⟨2, rfl⟩, trivial⟩) (R.pickF rfl rfl) rfl ?_
                      refine JA.val ⟨by kernel_rfl, by kernel_rfl⟩ (calm_only _) (i := 40) rfl ⟨by kernel_rfl, by kernel_rfl, rfl⟩ trivial (stab_of (Hle.refl _) ⟨⟨0, rfl⟩, ⟨1, rfl⟩, ⟨2, rfl⟩, trivial⟩) (R.pickF rfl rfl) rfl ?_
                      refine JA.doneN (by kernel_rfl) ?_
                      refine JN.next ?_
                      refine JC.condF rfl ?_
                      refine JC.skip ?_
                      refine JN.blkN ?_
                      refine JN.next ?_
                      refine JC.region ?_
                      refine JL.val rfl rfl (R.move rfl) ?_
                      refine JL.val rfl rfl (R.inc rfl rfl (of_decide_eq_true c_36) (RowOf.lenI hr_14)) ?_
                      refine JL.val rfl rfl (R.assign rfl) ?_
                      refine JL.nil ?_
                      replace hx := run_next hd_36 hx
                      refine JN.front 2 rfl ?_
                      refine JN.front 2 rfl ?_
                      refine JN.front 2 rfl ?_
                      exact JN.cut ⟨s_33 + 1, rfl, rfl, rfl, hx⟩ ⟨rfl, rfl, rfl, rfl, rfl, trivial⟩ rfl rfl
            · replace hx := cond_f c_36 hx
              refine JC.exit ?_
              refine JN.passX ?_
              obtain rfl := run_done hd_36 hx
              refine JN.passX ?_
              refine JN.exitSame ?_
              refine JN.front 2 rfl ?_
              refine JN.front 2 rfl ?_
              refine JN.front 2 rfl ?_
              exact JN.cut ⟨(), rfl, rfl, rfl, rfl⟩ ⟨rfl, rfl, rfl, rfl, trivial⟩ rfl rfl
end Go.Proofs.Ytabnbobdjckdmaa
