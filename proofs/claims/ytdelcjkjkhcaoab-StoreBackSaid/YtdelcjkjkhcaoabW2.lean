/- walks: what the code computes, function by function. -/
import Derived.Test.YtdelcjkjkhcaoabW2p2
namespace Go.Proofs.Ytdelcjkjkhcaoab
open Go.Ow Go.RowKit Go.Proofs
set_option linter.unusedVariables false
set_option linter.unusedSimpArgs false
set_option maxHeartbeats 8000000 in
theorem law13_StoreBack_ok (p_1 : Store) (p_5 : UInt32) (p_6 : List UInt8) (p_8 : List UInt8) (p_10 : Ptr) (H : Heaplet) {aoa_2 : Option Addr} {na_2 : Nat} {capa_2 : Nat} {aoa_3 : Option Addr} {na_3 : Nat} {capa_3 : Nat} {aoa_4 : Option Addr} {na_4 : Nat} {capa_4 : Nat} {aoa_7 : Option Addr} {na_7 : Nat} {capa_7 : Nat} {aoa_9 : Option Addr} {na_9 : Nat} {capa_9 : Nat} (ha_2 : IsSlice H (RSl RU8 1) 1 (.slice aoa_2 na_2 capa_2) p_1.Disk.Blocks) (ha_3 : IsSlice H R_Write 2 (.slice aoa_3 na_3 capa_3) p_1.Disk.Waits) (ha_4 : IsSlice H RU8 1 (.slice aoa_4 na_4 capa_4) p_1.Space) (ha_7 : IsSlice H RU8 1 (.slice aoa_7 na_7 capa_7) p_6) (ha_9 : IsSlice H RU8 1 (.slice aoa_9 na_9 capa_9) p_8) (r : Bool) (hx : law13_StoreBack p_1 p_5 p_6 p_8 p_10 = some r) :
    Does Try.prog 3 #[.agg #[.slice aoa_2 na_2 capa_2, .slice aoa_3 na_3 capa_3, .slice aoa_4 na_4 capa_4, .int .u32 (p_1.Epoch.toNat : Int), .int .u32 (p_1.Count.toNat : Int)], .int .u32 (p_5.toNat : Int), .slice aoa_7 na_7 capa_7, .slice aoa_9 na_9 capa_9, .agg #[.int .i64 p_10.At, .int .u32 (p_10.Birth.toNat : Int), .int .u32 (p_10.Iv.toNat : Int), .int .u32 (p_10.Tag.toNat : Int), .int .u32 (p_10.Sum.toNat : Int)]] [] H (fun u K' H' => u = .bool r ∧ K' = [] ∧ True) := by
  refine Does.enterL (vs := [.agg #[.slice aoa_2 na_2 capa_2, .slice aoa_3 na_3 capa_3, .slice aoa_4 na_4 capa_4, .int .u32 (p_1.Epoch.toNat : Int), .int .u32 (p_1.Count.toNat : Int)], .int .u32 (p_5.toNat : Int), .slice aoa_7 na_7 capa_7, .slice aoa_9 na_9 capa_9, .agg #[.int .i64 p_10.At, .int .u32 (p_10.Birth.toNat : Int), .int .u32 (p_10.Iv.toNat : Int), .int .u32 (p_10.Tag.toNat : Int), .int .u32 (p_10.Sum.toNat : Int)]]) (l := [(0, .agg #[.slice aoa_2 na_2 capa_2, .slice aoa_3 na_3 capa_3, .slice aoa_4 na_4 capa_4, .int .u32 (p_1.Epoch.toNat : Int), .int .u32 (p_1.Count.toNat : Int)]), (1, .int .u32 (p_5.toNat : Int)), (2, .slice aoa_7 na_7 capa_7), (3, .slice aoa_9 na_9 capa_9), (4, .agg #[.int .i64 p_10.At, .int .u32 (p_10.Birth.toNat : Int), .int .u32 (p_10.Iv.toNat : Int), .int .u32 (p_10.Tag.toNat : Int), .int .u32 (p_10.Sum.toNat : Int)])]) Try.func3 rfl rfl ⟨rfl, rfl, rfl, rfl, rfl, trivial⟩ (fun w hlt => ?_)
  unfold law13_StoreBack at hx
  refine JC.seq ?_
  refine JC.region ?_
  refine JL.box rfl rfl (fun b_11 hb_11 => ?_)
  refine JL.box rfl rfl (fun b_12 hb_12 => ?_)
  refine JL.val rfl rfl (R.assign rfl) ?_
  refine JL.nil ?_
  refine JN.next ?_
  refine JC.seq ?_
  refine JC.region ?_
  obtain ⟨x_13, hr_14, hx⟩ := bnd_some hx
  refine JL.callC (vs := []) (args := []) (K := []) (rst := [_, _]) E5 rfl rfl rfl picks0 (law13_alive_ok _ _ hr_14) rfl (fun u_15 Ku_15 Hu_15 hRu_15 hleu_15 hfu_15 => ?_)
  obtain ⟨rfl, rfl, -⟩ := hRu_15
  refine JL.val rfl rfl (R.assign rfl) ?_
  refine JL.nil ?_
  refine JN.next ?_
  refine JC.seq ?_
  refine JC.seq ?_
  refine JC.region ?_
  refine JL.val rfl rfl (R.move rfl) ?_
  refine JL.val rfl rfl (R.not rfl) ?_
  refine JL.nil ?_
  refine JN.next ?_
  refine JC.condB rfl (fun c_16 => ?_) (fun c_16 => ?_)
  · replace hx := cond_t c_16 hx
    refine JC.seq ?_
    refine JC.region ?_
    refine JL.val rfl rfl (R.assign rfl) ?_
    refine JL.nil ?_
    refine JN.next ?_
    refine JC.ret ?_
    refine JN.passR ?_
    refine JN.outP (vs := [.bool false]) (K := []) (rst := [_, _]) (.inl rfl) rfl rfl (Res.tmp rfl rfl) picks0 ?_
    obtain rfl := Option.some.inj hx
    exact ⟨rfl, rfl, trivial⟩
  · replace hx := cond_f c_16 hx
    refine JC.skip ?_
    refine JN.next ?_
    refine JC.seq ?_
    refine JC.seq ?_
    refine JC.region ?_
    refine JL.val rfl rfl (R.ldoN 1 (vs := [.slice aoa_2 na_2 capa_2, .slice aoa_3 na_3 capa_3, .slice aoa_4 na_4 capa_4, .int .u32 (p_1.Epoch.toNat : Int), .int .u32 (p_1.Count.toNat : Int)]) S29 rfl rfl rfl rfl) ?_
    obtain ⟨x_17, hr_18, hx⟩ := bnd_some hx
    refine JL.callC (vs := [_]) (args := [_]) (K := []) (rst := [_, _]) E6 rfl rfl rfl picks0 (ref13_Great_ok p_1 _ (ha_2.mono (RSl.mono RU8.mono) hleu_15) (ha_3.mono R_Write.mono hleu_15) (ha_4.mono RU8.mono hleu_15) _ hr_18) rfl (fun u_19 Ku_19 Hu_19 hRu_19 hleu_19 hfu_19 => ?_)
    obtain ⟨rfl, rfl, rfl, -⟩ := hRu_19
    refine JL.val rfl rfl (R.move rfl) ?_
    refine JL.gSplit (t := 35) rfl (fun c_20 => ?_) (fun c_20 => ?_)
    · replace hx := cond_t c_20 hx
      refine JL.gNo rfl rfl rfl rfl rfl ?_
      refine JL.gNo rfl rfl rfl rfl rfl ?_
      refine JL.gNo rfl rfl rfl rfl rfl ?_
      refine JL.val rfl rfl (R.pickT rfl rfl) ?_
      refine JL.val rfl rfl (R.move rfl) ?_
      refine JL.gNo rfl rfl rfl rfl rfl ?_
      refine JL.gNo rfl rfl rfl rfl rfl ?_
      refine JL.gNo rfl rfl rfl rfl rfl ?_
      refine JL.val rfl rfl (R.pickT rfl rfl) ?_
      refine JL.val rfl rfl (R.move rfl) ?_
      refine JL.gNo rfl rfl rfl rfl rfl ?_
      refine JL.gNo rfl rfl rfl rfl rfl ?_
      refine JL.gNo rfl rfl rfl rfl rfl ?_
      refine JL.val rfl rfl (R.pickT rfl rfl) ?_
      refine JL.nil ?_
      refine JN.next ?_
      refine JC.condT rfl ?_
      refine JC.seq ?_
      refine JC.region ?_
      refine JL.val rfl rfl (R.move rfl) ?_
      refine JL.val rfl rfl (R.assign rfl) ?_
      refine JL.nil ?_
      refine JN.next ?_
      refine JC.ret ?_
      refine JN.passR ?_
      refine JN.outP (vs := [.bool x_13]) (K := []) (rst := [_, _]) (.inl rfl) rfl rfl (Res.tmp rfl rfl) picks0 ?_
      obtain rfl := Option.some.inj hx
      exact ⟨rfl, rfl, trivial⟩
    · replace hx := cond_f c_20 hx
      refine JL.gYes rfl rfl rfl ?_
      refine JL.val rfl rfl (R.move rfl) ?_
      refine JL.gYes rfl rfl rfl ?_
      refine JL.val rfl rfl (R.lenL U26 rfl (IsSlice.long ha_7)) ?_
      refine JL.gYes rfl rfl rfl ?_
      refine JL.val rfl rfl (R.gtr_i rfl rfl) ?_
      refine JL.val rfl rfl (R.pickF rfl rfl) ?_
      refine JL.val rfl rfl (R.move rfl) ?_
      refine JL.gSplit (t := 40) rfl (fun c_21 => ?_) (fun c_21 => ?_)
      · replace hx := cond_t c_21 hx
        refine JL.gNo rfl rfl rfl rfl rfl ?_
        refine JL.gNo rfl rfl rfl rfl rfl ?_
        refine JL.gNo rfl rfl rfl rfl rfl ?_
        refine JL.val rfl rfl (R.pickT rfl rfl) ?_
        refine JL.val rfl rfl (R.move rfl) ?_
        refine JL.gNo rfl rfl rfl rfl rfl ?_
        refine JL.gNo rfl rfl rfl rfl rfl ?_
        refine JL.gNo rfl rfl rfl rfl rfl ?_
        refine JL.val rfl rfl (R.pickT rfl rfl) ?_
        refine JL.nil ?_
        refine JN.next ?_
        refine JC.condT rfl ?_
        refine JC.seq ?_
        refine JC.region ?_
        refine JL.val rfl rfl (R.move rfl) ?_
        refine JL.val rfl rfl (R.assign rfl) ?_
        refine JL.nil ?_
        refine JN.next ?_
        refine JC.ret ?_
        refine JN.passR ?_
        refine JN.outP (vs := [.bool x_13]) (K := []) (rst := [_, _]) (.inl rfl) rfl rfl (Res.tmp rfl rfl) picks0 ?_
        obtain rfl := Option.some.inj hx
        exact ⟨rfl, rfl, trivial⟩
      · replace hx := cond_f c_21 hx
        refine JL.gYes rfl rfl rfl ?_
        refine JL.val rfl rfl (R.move rfl) ?_
        refine JL.gYes rfl rfl rfl ?_
        refine JL.val rfl rfl (R.lenL U26 rfl (IsSlice.long ha_9)) ?_
        refine JL.gYes rfl rfl rfl ?_
        refine JL.val rfl rfl (R.gtr_i rfl rfl) ?_
        refine JL.val rfl rfl (R.pickF rfl rfl) ?_
        refine JL.val rfl rfl (R.move rfl) ?_
        refine JL.gSplit (t := 45) rfl (fun c_22 => ?_) (fun c_22 => ?_)
        · replace hx := cond_t c_22 hx
          refine JL.gNo rfl rfl rfl rfl rfl ?_
          refine JL.gNo rfl rfl rfl rfl rfl ?_
          refine JL.gNo rfl rfl rfl rfl rfl ?_
          refine JL.val rfl rfl (R.pickT rfl rfl) ?_
          refine JL.nil ?_
          refine JN.next ?_
          refine JC.condT rfl ?_
          refine JC.seq ?_
          refine JC.region ?_
          refine JL.val rfl rfl (R.move rfl) ?_
          refine JL.val rfl rfl (R.assign rfl) ?_
          refine JL.nil ?_
          refine JN.next ?_
          refine JC.ret ?_
          refine JN.passR ?_
          refine JN.outP (vs := [.bool x_13]) (K := []) (rst := [_, _]) (.inl rfl) rfl rfl (Res.tmp rfl rfl) picks0 ?_
          obtain rfl := Option.some.inj hx
          exact ⟨rfl, rfl, trivial⟩
        · replace hx := cond_f c_22 hx
          refine JL.gYes rfl rfl rfl ?_
          refine JL.val rfl rfl (R.ldoN 1 (vs := [.slice aoa_2 na_2 capa_2, .slice aoa_3 na_3 capa_3, .slice aoa_4 na_4 capa_4, .int .u32 (p_1.Epoch.toNat : Int), .int .u32 (p_1.Count.toNat : Int)]) S29 rfl rfl rfl rfl) ?_
          refine JL.gYes rfl rfl rfl ?_
          obtain ⟨x_23, hr_24, hx⟩ := bnd_some hx
          refine JL.callC (vs := [_]) (args := [_]) (K := []) (rst := [_, _]) E7 rfl rfl rfl picks0 (store_Check_ok p_1 _ (ha_2.mono (RSl.mono RU8.mono) hleu_15) (ha_3.mono R_Write.mono hleu_15) (ha_4.mono RU8.mono hleu_15) _ hr_24) rfl (fun u_25 Ku_25 Hu_25 hRu_25 hleu_25 hfu_25 => ?_)
          obtain ⟨rfl, rfl, rfl, -⟩ := hRu_25
          refine JL.gYes rfl rfl rfl ?_
          refine JL.val rfl rfl (R.neq_i rfl rfl) ?_
          refine JL.val rfl rfl (R.pickF rfl rfl) ?_
          refine JL.nil ?_
          refine JN.next ?_
          refine JC.condB rfl (fun c_26 => ?_) (fun c_26 => ?_)
          · replace hx := cond_t c_26 hx
            refine JC.seq ?_
            refine JC.region ?_
            refine JL.val rfl rfl (R.move rfl) ?_
            refine JL.val rfl rfl (R.assign rfl) ?_
            refine JL.nil ?_
            refine JN.next ?_
            refine JC.ret ?_
            refine JN.passR ?_
            refine JN.outP (vs := [.bool x_13]) (K := []) (rst := [_, _]) (.inl rfl) rfl rfl (Res.tmp rfl rfl) picks0 ?_
            obtain rfl := Option.some.inj hx
            exact ⟨rfl, rfl, trivial⟩
          · replace hx := cond_f c_26 hx
            refine JC.skip ?_
            refine JN.next ?_
            refine JC.seq ?_
            refine JC.region ?_
            refine JL.val rfl rfl (R.ldoN 1 (vs := [.slice aoa_2 na_2 capa_2, .slice aoa_3 na_3 capa_3, .slice aoa_4 na_4 capa_4, .int .u32 (p_1.Epoch.toNat : Int), .int .u32 (p_1.Count.toNat : Int)]) S29 rfl rfl rfl rfl) ?_
            refine JL.val rfl rfl (R.ldoN 0 (vs := [.int .i64 p_10.At, .int .u32 (p_10.Birth.toNat : Int), .int .u32 (p_10.Iv.toNat : Int), .int .u32 (p_10.Tag.toNat : Int), .int .u32 (p_10.Sum.toNat : Int)]) S31 rfl rfl rfl rfl) ?_
            obtain ⟨x_27, hr_28, hx⟩ := bnd_some hx
            refine JL.callC (vs := [_, _]) (args := [_, _]) (K := []) (rst := [_, _]) E8 rfl rfl rfl picks0 (store_Look_ok p_1 p_10 _ (ha_2.mono (RSl.mono RU8.mono) hleu_15) (ha_3.mono R_Write.mono hleu_15) (ha_4.mono RU8.mono hleu_15) _ hr_28) rfl (fun u_29 Ku_29 Hu_29 hRu_29 hleu_29 hfu_29 => ?_)
            obtain ⟨aoz_30, nz_30, capz_30, rfl, rfl, hz_30, -⟩ := hRu_29
            replace hz_30 := IsSlice.mono RU8.mono (New.call hleu_15) hz_30
            refine JL.val rfl rfl (R.move rfl) ?_
            refine JL.val rfl rfl (R.extract rfl rfl) ?_
            refine JL.val rfl rfl (R.extract rfl rfl) ?_
            refine JL.val rfl rfl (R.assign rfl) ?_
            refine JL.val rfl rfl (R.assign rfl) ?_
            refine JL.nil ?_
            refine JN.next ?_
            refine JC.seq ?_
            refine JC.region ?_
            refine JL.val rfl rfl (R.ldoN 1 (vs := [.slice aoa_2 na_2 capa_2, .slice aoa_3 na_3 capa_3, .slice aoa_4 na_4 capa_4, .int .u32 (p_1.Epoch.toNat : Int), .int .u32 (p_1.Count.toNat : Int)]) S29 rfl rfl rfl rfl) ?_
            refine JL.val rfl rfl (R.move rfl) ?_
            refine JL.val rfl rfl (R.move rfl) ?_
            refine JL.val rfl rfl (R.move rfl) ?_
            obtain ⟨x_31, hr_32, hx⟩ := bnd_some hx
            refine JL.callC (vs := [_, _, _, _]) (args := [_, _, _, _]) (K := []) (rst := [_, _]) E9 rfl rfl rfl picks0 (store_Seal_ok p_1 p_5 p_6 p_8 _ (ha_2.mono (RSl.mono RU8.mono) (hleu_15.trans hleu_29)) (ha_3.mono R_Write.mono (hleu_15.trans hleu_29)) (ha_4.mono RU8.mono (hleu_15.trans hleu_29)) (ha_7.mono RU8.mono (hleu_15.trans hleu_29)) (ha_9.mono RU8.mono (hleu_15.trans hleu_29)) _ hr_32) rfl (fun u_33 Ku_33 Hu_33 hRu_33 hleu_33 hfu_33 => ?_)
            obtain ⟨aoz_34, nz_34, capz_34, aor_35, nr_35, capr_35, Kr_35, aor_36, nr_36, capr_36, Kr_36, rfl, rfl, hz_34, hr_35, hnewr_35, hr_36, hnewr_36, -⟩ := hRu_33
            replace hr_35 := (RowOf.base (RowOf.mono R_Write.mono (New.call (hleu_15.trans hleu_29)) hr_35) (fun p hp => (hfu_33 p (mem_seg 0 rfl hp)).resolve_left (hnewr_35 p hp)))
            replace hr_36 := (RowOf.base (RowOf.const (H2 := New H Hu_33) RU8.const hr_36) (fun p hp => (hfu_33 p (mem_seg 1 rfl hp)).resolve_left (hnewr_36 p hp)))
            replace hz_34 := IsSlice.mono (RSl.mono RU8.mono) (New.call (hleu_15.trans hleu_29)) hz_34
            refine JL.val rfl rfl (R.move rfl) ?_
            refine JL.val rfl rfl (R.extract rfl rfl) ?_
            refine JL.val rfl rfl (R.extract rfl rfl) ?_
            refine JL.val rfl rfl (R.extract rfl rfl) ?_
            refine JL.alloc Z29 rfl (fun b_37 hb_37 => ?_)
            refine JL.alloc Z31 rfl (fun b_38 hb_38 => ?_)
            refine JL.store 1 S29 rfl rfl rfl rfl rfl (Nat.le_of_ble_eq_true rfl) ?_
            refine JL.store 0 S31 rfl rfl rfl rfl rfl (Nat.le_of_ble_eq_true rfl) ?_
            refine JL.val rfl rfl (R.assign rfl) ?_
            refine JL.nil ?_
            refine JN.next ?_
            refine JC.seq ?_
            refine JC.seq ?_
            refine JC.region ?_
            refine JL.val rfl rfl (R.move rfl) ?_
            refine JL.val rfl rfl (R.eql_i rfl rfl) ?_
            refine JL.nil ?_
            refine JN.next ?_
            obtain ⟨t_39, ht_41, hx⟩ := bnd_some hx
            refine JC.cut (fun l o g => ∃ t_39a : Unit, ∃ H_81 : Heaplet, l = [(1, .int .u32 (p_5.toNat : Int)), (3, .slice aoa_9 na_9 capa_9), (5, .pointer (some ⟨b_11, 0, none⟩)), (11, .bool x_13), (15, .pointer (some ⟨b_38, 0, none⟩))] ∧ o = [[(b_11, .cells #[.slice aoa_2 na_2 capa_2, .slice aoa_3 na_3 capa_3, .slice aoa_4 na_4 capa_4, .int .u32 (p_1.Epoch.toNat : Int), .int .u32 (p_1.Count.toNat : Int)] 29 (0, 0))], [(b_38, .cells #[.int .i64 x_31.2.1.At, .int .u32 (x_31.2.1.Birth.toNat : Int), .int .u32 (x_31.2.1.Iv.toNat : Int), .int .u32 (x_31.2.1.Tag.toNat : Int), .int .u32 (x_31.2.1.Sum.toNat : Int)] 31 (0, 0))]] ∧ H_81 = g ∧ t_39 = .inl t_39a ∧ Hle Hu_33 H_81) ?_ ?_
            · rintro _ _ _ ⟨t_39a, H_81, rfl, rfl, rfl, rfl, hleH_81⟩
              simp only [Sum.elim_inl] at hx
              refine JN.next ?_
              refine JC.seq ?_
              refine JC.region ?_
              refine JL.val rfl rfl (R.ldoN 0 (vs := [.slice aoa_2 na_2 capa_2, .slice aoa_3 na_3 capa_3, .slice aoa_4 na_4 capa_4, .int .u32 (p_1.Epoch.toNat : Int), .int .u32 (p_1.Count.toNat : Int)]) S29 rfl rfl rfl rfl) ?_
              refine JL.val rfl rfl (R.move rfl) ?_
              refine JL.val rfl rfl (R.fa F31_2 rfl) ?_
              refine JL.val rfl rfl (R.ldo 1 S27 rfl rfl rfl) ?_
              refine JL.val rfl rfl (R.fa F31_3 rfl) ?_
              refine JL.val rfl rfl (R.ldo 1 S27 rfl rfl rfl) ?_
              refine JL.val rfl rfl (R.move rfl) ?_
              obtain ⟨x_83, hr_84, hx⟩ := bnd_some hx
              refine JL.callC (vs := [_, _, _, _, _]) (args := [_, _, _, _, _]) (K := []) (rst := [_, _]) E12 rfl rfl rfl picks0 (store_Raw_ok p_1 p_5 x_31.2.1.Iv x_31.2.1.Tag p_8 _ (ha_2.mono (RSl.mono RU8.mono) (hleu_15.trans (hleu_29.trans (hleu_33.trans hleH_81)))) (ha_3.mono R_Write.mono (hleu_15.trans (hleu_29.trans (hleu_33.trans hleH_81)))) (ha_4.mono RU8.mono (hleu_15.trans (hleu_29.trans (hleu_33.trans hleH_81)))) (ha_9.mono RU8.mono (hleu_15.trans (hleu_29.trans (hleu_33.trans hleH_81)))) _ hr_84) rfl (fun u_85 Ku_85 Hu_85 hRu_85 hleu_85 hfu_85 => ?_)
              obtain ⟨aoz_86, nz_86, capz_86, aor_87, nr_87, capr_87, Kr_87, aor_88, nr_88, capr_88, Kr_88, rfl, rfl, hz_86, hr_87, hnewr_87, hr_88, hnewr_88, -⟩ := hRu_85
              replace hr_87 := (RowOf.base (RowOf.mono R_Write.mono (New.call (hleu_15.trans (hleu_29.trans (hleu_33.trans hleH_81)))) hr_87) (fun p hp => (hfu_85 p (mem_seg 0 rfl hp)).resolve_left (hnewr_87 p hp)))
              replace hr_88 := (RowOf.base (RowOf.const (H2 := New H Hu_85) RU8.const hr_88) (fun p hp => (hfu_85 p (mem_seg 1 rfl hp)).resolve_left (hnewr_88 p hp)))
              replace hz_86 := IsSlice.mono (RSl.mono RU8.mono) (New.call (hleu_15.trans (hleu_29.trans (hleu_33.trans hleH_81)))) hz_86
              refine JL.val rfl rfl (R.move rfl) ?_
              refine JL.val rfl rfl (R.extract rfl rfl) ?_
              refine JL.val rfl rfl (R.extract rfl rfl) ?_
              refine JL.val rfl rfl (R.extract rfl rfl) ?_
              refine JL.alloc Z29 rfl (fun b_89 hb_89 => ?_)
              refine JL.alloc Z31 rfl (fun b_90 hb_90 => ?_)
              refine JL.store 1 S29 rfl rfl rfl rfl rfl (Nat.le_of_ble_eq_true rfl) ?_
              refine JL.store 0 S31 rfl rfl rfl rfl rfl (Nat.le_of_ble_eq_true rfl) ?_
              refine JL.val rfl rfl (R.assign rfl) ?_
              refine JL.nil ?_
              refine JN.next ?_
              refine JC.seq ?_
              refine JC.seq ?_
              refine JC.region ?_
              refine JL.val rfl rfl (R.move rfl) ?_
              refine JL.val rfl rfl (R.neq_i rfl rfl) ?_
              refine JL.nil ?_
              refine JN.next ?_
              refine JC.condB rfl (fun c_91 => ?_) (fun c_91 => ?_)
              · replace hx := cond_t c_91 hx
                refine JC.seq ?_
                obtain ⟨t_92, ht_94, hx⟩ := bnd_some hx
                refine JC.cut (fun l o g => l = [(10, .bool t_92)] ∧ o = [] ∧ Hu_85 = g) ?_ ?_
                · rintro _ _ _ ⟨rfl, rfl, rfl⟩
                  refine JN.next ?_
                  refine JC.ret ?_
                  refine JN.passR ?_
                  refine JN.outP (vs := [.bool t_92]) (K := []) (rst := []) (.inl rfl) rfl rfl (Res.tmp rfl rfl) picks0 ?_
                  obtain rfl := Option.some.inj hx
                  exact ⟨rfl, rfl, trivial⟩
                · have hxo_93 := hx; clear hx; have hx := ht_94; clear ht_94
                  refine JC.region ?_
                  refine JL.val rfl rfl (R.move rfl) ?_
                  refine JL.val rfl rfl (R.move rfl) ?_
                  refine JL.gSplit (t := 148) rfl (fun c_95 => ?_) (fun c_95 => ?_)
                  · replace hx := cond_t c_95 hx
                    refine JL.gYes rfl rfl rfl ?_
                    refine JL.val rfl rfl (R.fa F29_1 rfl) ?_
                    refine JL.gYes rfl rfl rfl ?_
                    refine JL.val rfl rfl (R.ldo 1 S26 rfl rfl rfl) ?_
                    refine JL.gYes rfl rfl rfl ?_
                    refine JL.val rfl rfl (R.lenL U26 rfl (RowOf.long hr_88)) ?_
                    refine JL.gYes rfl rfl rfl ?_
                    refine JL.val rfl rfl (R.eql_i rfl rfl) ?_
                    refine JL.val rfl rfl (R.pickT rfl rfl) ?_
                    refine JL.val rfl rfl (R.assign rfl) ?_
                    refine JL.nil ?_
                    obtain rfl := Option.some.inj hx
                    refine JN.forget 5 ?_
                    refine JN.forget 4 ?_
                    refine JN.forget 3 ?_
                    refine JN.forget 2 ?_
                    refine JN.forget 1 ?_
                    refine JN.forget 0 ?_
                    exact JN.cut ⟨rfl, rfl, rfl⟩ ⟨rfl, trivial⟩ rfl rfl
                  · replace hx := cond_f c_95 hx
                    refine JL.gNo rfl rfl rfl rfl rfl ?_
                    refine JL.gNo rfl rfl rfl rfl rfl ?_
                    refine JL.gNo rfl rfl rfl rfl rfl ?_
                    refine JL.gNo rfl rfl rfl rfl rfl ?_
                    refine JL.val rfl rfl (R.pickF rfl rfl) ?_
                    refine JL.val rfl rfl (R.assign rfl) ?_
                    refine JL.nil ?_
                    obtain rfl := Option.some.inj hx
                    refine JN.forget 5 ?_
                    refine JN.forget 4 ?_
                    refine JN.forget 3 ?_
                    refine JN.forget 2 ?_
                    refine JN.forget 1 ?_
                    refine JN.forget 0 ?_
                    exact JN.cut ⟨rfl, rfl, rfl⟩ ⟨rfl, trivial⟩ rfl rfl
              · replace hx := cond_f c_91 hx
                refine JC.skip ?_
                refine JN.next ?_
                refine JC.seq ?_
                refine JC.region ?_
                refine JL.val rfl rfl (R.ldoN 1 (vs := [.slice aoz_86 nz_86 capz_86, .slice aor_87 nr_87 capr_87, .slice aor_88 nr_88 capr_88, .int .u32 (x_83.1.Epoch.toNat : Int), .int .u32 (x_83.1.Count.toNat : Int)]) S29 rfl rfl rfl rfl) ?_
                refine JL.val rfl rfl (R.ldoN 0 (vs := [.int .i64 x_83.2.1.At, .int .u32 (x_83.2.1.Birth.toNat : Int), .int .u32 (x_83.2.1.Iv.toNat : Int), .int .u32 (x_83.2.1.Tag.toNat : Int), .int .u32 (x_83.2.1.Sum.toNat : Int)]) S31 rfl rfl rfl rfl) ?_
                refine JL.pubN 2 R_Write.mono rfl hr_87 (Nat.le_refl _) (fun H_96 hleH_96 hsH_96 => ?_)
                refine JL.forget 2 ?_
                refine JL.pubN 2 RU8.mono rfl (hr_88.mono RU8.mono (New.mono hleH_96)) (Nat.le_refl _) (fun H_97 hleH_97 hsH_97 => ?_)
                refine JL.forget 2 ?_
                obtain ⟨x_98, hr_99, hx⟩ := bnd_some hx
                refine JL.callC (vs := [_, _]) (args := [_, _]) (K := []) (rst := [_, _, _, _]) E8 rfl rfl rfl picks0 (store_Look_ok x_83.1 x_83.2.1 _ ((hz_86.mono (RSl.mono RU8.mono) (New.mono (hleH_96.trans hleH_97))).old (RSl.mono RU8.mono)) ((hsH_96.mono R_Write.mono (New.mono hleH_97)).old R_Write.mono) (hsH_97.old RU8.mono) _ hr_99) rfl (fun u_100 Ku_100 Hu_100 hRu_100 hleu_100 hfu_100 => ?_)
                obtain ⟨aoz_101, nz_101, capz_101, rfl, rfl, hz_101, -⟩ := hRu_100
                replace hz_101 := IsSlice.mono RU8.mono (New.call (hleu_15.trans (hleu_29.trans (hleu_33.trans (hleH_81.trans (hleu_85.trans (hleH_96.trans hleH_97))))))) hz_101
                refine JL.val rfl rfl (R.move rfl) ?_
                refine JL.val rfl rfl (R.extract rfl rfl) ?_
                refine JL.val rfl rfl (R.extract rfl rfl) ?_
                refine JL.val rfl rfl (R.assign rfl) ?_
                refine JL.val rfl rfl (R.assign rfl) ?_
                refine JL.nil ?_
                refine JN.next ?_
                refine JC.seq ?_
                refine JC.seq ?_
                refine JC.region ?_
                refine JL.val rfl rfl (R.move rfl) ?_
                refine JL.val rfl rfl (R.neq_i rfl rfl) ?_
                refine JL.val rfl rfl (R.move rfl) ?_
                refine JL.gSplit (t := 162) rfl (fun c_102 => ?_) (fun c_102 => ?_)
                · replace hx := cond_t c_102 hx
                  refine JL.gNo rfl rfl rfl rfl rfl ?_
                  refine JL.gNo rfl rfl rfl rfl rfl ?_
                  refine JL.gNo rfl rfl rfl rfl rfl ?_
                  refine JL.gNo rfl rfl rfl rfl rfl ?_
                  refine JL.gNo rfl rfl rfl rfl rfl ?_
                  refine JL.val rfl rfl (R.pickT rfl rfl) ?_
                  refine JL.val rfl rfl (R.move rfl) ?_
                  refine JL.gNo rfl rfl rfl rfl rfl ?_
                  refine JL.gNo rfl rfl rfl rfl rfl ?_
                  refine JL.gNo rfl rfl rfl rfl rfl ?_
                  refine JL.gNo rfl rfl rfl rfl rfl ?_
                  refine JL.gNo rfl rfl rfl rfl rfl ?_
                  refine JL.val rfl rfl (R.pickT rfl rfl) ?_
                  refine JL.val rfl rfl (R.move rfl) ?_
                  refine JL.gNo rfl rfl rfl rfl rfl ?_
                  refine JL.gNo rfl rfl rfl rfl rfl ?_
                  refine JL.gNo rfl rfl rfl rfl rfl ?_
                  refine JL.gNo rfl rfl rfl rfl rfl ?_
                  refine JL.gNo rfl rfl rfl rfl rfl ?_
                  refine JL.val rfl rfl (R.pickT rfl rfl) ?_
                  refine JL.val rfl rfl (R.move rfl) ?_
                  refine JL.gNo rfl rfl rfl rfl rfl ?_
                  refine JL.gNo rfl rfl rfl rfl rfl ?_
                  refine JL.gNo rfl rfl rfl rfl rfl ?_
                  refine JL.gNo rfl rfl rfl rfl rfl ?_
                  refine JL.gNo rfl rfl rfl rfl rfl ?_
                  refine JL.val rfl rfl (R.pickT rfl rfl) ?_
                  refine JL.val rfl rfl (R.move rfl) ?_
                  refine JL.gNo rfl rfl rfl rfl rfl ?_
                  refine JL.gNo rfl rfl rfl rfl rfl ?_
                  refine JL.gNo rfl rfl rfl rfl rfl ?_
                  refine JL.gNo rfl rfl rfl rfl rfl ?_
                  refine JL.gNo rfl rfl rfl rfl rfl ?_
                  refine JL.val rfl rfl (R.pickT rfl rfl) ?_
                  refine JL.nil ?_
                  refine JN.next ?_
                  refine JC.condT rfl ?_
                  refine JC.seq ?_
                  refine JC.region ?_
                  refine JL.val rfl rfl (R.assign rfl) ?_
                  refine JL.nil ?_
                  refine JN.next ?_
                  refine JC.ret ?_
                  refine JN.passR ?_
                  refine JN.outP (vs := [.bool false]) (K := []) (rst := [_, _, _, _]) (.inl rfl) rfl rfl (Res.tmp rfl rfl) picks0 ?_
                  obtain rfl := Option.some.inj hx
                  exact ⟨rfl, rfl, trivial⟩
                · replace hx := cond_f c_102 hx
                  refine JL.gYes rfl rfl rfl ?_
                  refine JL.val rfl rfl (R.move rfl) ?_
                  refine JL.gYes rfl rfl rfl ?_
                  refine JL.val rfl rfl (R.toStr U26 U5 U9 rfl (hz_101.old RU8.mono)) ?_
                  refine JL.gYes rfl rfl rfl ?_
                  refine JL.val rfl rfl (R.move rfl) ?_
                  refine JL.gYes rfl rfl rfl ?_
                  refine JL.val rfl rfl (R.toStr U26 U5 U9 rfl (ha_9.mono RU8.mono (hleu_15.trans (hleu_29.trans (hleu_33.trans (hleH_81.trans (hleu_85.trans (hleH_96.trans (hleH_97.trans hleu_100))))))))) ?_
                  refine JL.gYes rfl rfl rfl ?_
                  refine JL.val rfl rfl (R.neqStr (a := x_98.1) (b := p_8) rfl rfl) ?_
                  refine JL.val rfl rfl (R.pickF rfl rfl) ?_
                  refine JL.val rfl rfl (R.move rfl) ?_
                  refine JL.gSplit (t := 169) rfl (fun c_103 => ?_) (fun c_103 => ?_)
                  · replace hx := cond_t c_103 hx
                    refine JL.gNo rfl rfl rfl rfl rfl ?_
                    refine JL.gNo rfl rfl rfl rfl rfl ?_
                    refine JL.gNo rfl rfl rfl rfl rfl ?_
                    refine JL.gNo rfl rfl rfl rfl rfl ?_
                    refine JL.gNo rfl rfl rfl rfl rfl ?_
                    refine JL.val rfl rfl (R.pickT rfl rfl) ?_
                    refine JL.val rfl rfl (R.move rfl) ?_
                    refine JL.gNo rfl rfl rfl rfl rfl ?_
                    refine JL.gNo rfl rfl rfl rfl rfl ?_
                    refine JL.gNo rfl rfl rfl rfl rfl ?_
                    refine JL.gNo rfl rfl rfl rfl rfl ?_
                    refine JL.gNo rfl rfl rfl rfl rfl ?_
                    refine JL.val rfl rfl (R.pickT rfl rfl) ?_
                    refine JL.val rfl rfl (R.move rfl) ?_
                    refine JL.gNo rfl rfl rfl rfl rfl ?_
                    refine JL.gNo rfl rfl rfl rfl rfl ?_
                    refine JL.gNo rfl rfl rfl rfl rfl ?_
                    refine JL.gNo rfl rfl rfl rfl rfl ?_
                    refine JL.gNo rfl rfl rfl rfl rfl ?_
                    refine JL.val rfl rfl (R.pickT rfl rfl) ?_
                    refine JL.val rfl rfl (R.move rfl) ?_
                    refine JL.gNo rfl rfl rfl rfl rfl ?_
                    refine JL.gNo rfl rfl rfl rfl rfl ?_
                    refine JL.gNo rfl rfl rfl rfl rfl ?_
                    refine JL.gNo rfl rfl rfl rfl rfl ?_
                    refine JL.gNo rfl rfl rfl rfl rfl ?_
                    refine JL.val rfl rfl (R.pickT rfl rfl) ?_
                    refine JL.nil ?_
                    refine JN.next ?_
                    refine JC.condT rfl ?_
                    refine JC.seq ?_
                    refine JC.region ?_
                    refine JL.val rfl rfl (R.assign rfl) ?_
                    refine JL.nil ?_
                    refine JN.next ?_
                    refine JC.ret ?_
                    refine JN.passR ?_
                    refine JN.outP (vs := [.bool false]) (K := []) (rst := [_, _, _, _]) (.inl rfl) rfl rfl (Res.tmp rfl rfl) picks0 ?_
                    obtain rfl := Option.some.inj hx
                    exact ⟨rfl, rfl, trivial⟩
                  · replace hx := cond_f c_103 hx
                    refine JL.gYes rfl rfl rfl ?_
                    refine JL.val rfl rfl (R.fa F31_2 rfl) ?_
                    refine JL.gYes rfl rfl rfl ?_
                    refine JL.val rfl rfl (R.ldo 0 S27 rfl rfl rfl) ?_
                    refine JL.gYes rfl rfl rfl ?_
                    refine JL.val rfl rfl (R.fa F31_2 rfl) ?_
                    refine JL.gYes rfl rfl rfl ?_
                    refine JL.val rfl rfl (R.ldo 3 S27 rfl rfl rfl) ?_
                    refine JL.gYes rfl rfl rfl ?_
                    refine JL.val rfl rfl (R.neq32 (a := x_83.2.1.Iv) (b := x_31.2.1.Iv) rfl rfl) ?_
                    refine JL.val rfl rfl (R.pickF rfl rfl) ?_
                    refine JL.val rfl rfl (R.move rfl) ?_
                    refine JL.gSplit (t := 176) rfl (fun c_104 => ?_) (fun c_104 => ?_)
                    · replace hx := cond_t c_104 hx
                      refine JL.gNo rfl rfl rfl rfl rfl ?_
                      refine JL.gNo rfl rfl rfl rfl rfl ?_
                      refine JL.gNo rfl rfl rfl rfl rfl ?_
                      refine JL.gNo rfl rfl rfl rfl rfl ?_
                      refine JL.gNo rfl rfl rfl rfl rfl ?_
                      refine JL.val rfl rfl (R.pickT rfl rfl) ?_
                      refine JL.val rfl rfl (R.move rfl) ?_
                      refine JL.gNo rfl rfl rfl rfl rfl ?_
                      refine JL.gNo rfl rfl rfl rfl rfl ?_
                      refine JL.gNo rfl rfl rfl rfl rfl ?_
                      refine JL.gNo rfl rfl rfl rfl rfl ?_
                      refine JL.gNo rfl rfl rfl rfl rfl ?_
                      refine JL.val rfl rfl (R.pickT rfl rfl) ?_
                      refine JL.val rfl rfl (R.move rfl) ?_
                      refine JL.gNo rfl rfl rfl rfl rfl ?_
                      refine JL.gNo rfl rfl rfl rfl rfl ?_
                      refine JL.gNo rfl rfl rfl rfl rfl ?_
                      refine JL.gNo rfl rfl rfl rfl rfl ?_
                      refine JL.gNo rfl rfl rfl rfl rfl ?_
                      refine JL.val rfl rfl (R.pickT rfl rfl) ?_
                      refine JL.nil ?_
                      refine JN.next ?_
                      refine JC.condT rfl ?_
                      refine JC.seq ?_
                      refine JC.region ?_
                      refine JL.val rfl rfl (R.assign rfl) ?_
                      refine JL.nil ?_
                      refine JN.next ?_
                      refine JC.ret ?_
                      refine JN.passR ?_
                      refine JN.outP (vs := [.bool false]) (K := []) (rst := [_, _, _, _]) (.inl rfl) rfl rfl (Res.tmp rfl rfl) picks0 ?_
                      obtain rfl := Option.some.inj hx
                      exact ⟨rfl, rfl, trivial⟩
                    · replace hx := cond_f c_104 hx
                      refine JL.gYes rfl rfl rfl ?_
                      refine JL.val rfl rfl (R.fa F31_3 rfl) ?_
                      refine JL.gYes rfl rfl rfl ?_
                      refine JL.val rfl rfl (R.ldo 0 S27 rfl rfl rfl) ?_
                      refine JL.gYes rfl rfl rfl ?_
                      refine JL.val rfl rfl (R.fa F31_3 rfl) ?_
                      refine JL.gYes rfl rfl rfl ?_
                      refine JL.val rfl rfl (R.ldo 3 S27 rfl rfl rfl) ?_
                      refine JL.gYes rfl rfl rfl ?_
                      refine JL.val rfl rfl (R.neq32 (a := x_83.2.1.Tag) (b := x_31.2.1.Tag) rfl rfl) ?_
                      refine JL.val rfl rfl (R.pickF rfl rfl) ?_
                      refine JL.val rfl rfl (R.move rfl) ?_
                      refine JL.gSplit (t := 183) rfl (fun c_105 => ?_) (fun c_105 => ?_)
                      · replace hx := cond_t c_105 hx
                        refine JL.gNo rfl rfl rfl rfl rfl ?_
                        refine JL.gNo rfl rfl rfl rfl rfl ?_
                        refine JL.gNo rfl rfl rfl rfl rfl ?_
                        refine JL.gNo rfl rfl rfl rfl rfl ?_
                        refine JL.gNo rfl rfl rfl rfl rfl ?_
                        refine JL.val rfl rfl (R.pickT rfl rfl) ?_
                        refine JL.val rfl rfl (R.move rfl) ?_
                        refine JL.gNo rfl rfl rfl rfl rfl ?_
                        refine JL.gNo rfl rfl rfl rfl rfl ?_
                        refine JL.gNo rfl rfl rfl rfl rfl ?_
                        refine JL.gNo rfl rfl rfl rfl rfl ?_
                        refine JL.gNo rfl rfl rfl rfl rfl ?_
                        refine JL.val rfl rfl (R.pickT rfl rfl) ?_
                        refine JL.nil ?_
                        refine JN.next ?_
                        refine JC.condT rfl ?_
                        refine JC.seq ?_
                        refine JC.region ?_
                        refine JL.val rfl rfl (R.assign rfl) ?_
                        refine JL.nil ?_
                        refine JN.next ?_
                        refine JC.ret ?_
                        refine JN.passR ?_
                        refine JN.outP (vs := [.bool false]) (K := []) (rst := [_, _, _, _]) (.inl rfl) rfl rfl (Res.tmp rfl rfl) picks0 ?_
                        obtain rfl := Option.some.inj hx
                        exact ⟨rfl, rfl, trivial⟩
                      · replace hx := cond_f c_105 hx
                        refine JL.gYes rfl rfl rfl ?_
                        refine JL.val rfl rfl (R.fa F29_3 rfl) ?_
                        refine JL.gYes rfl rfl rfl ?_
                        refine JL.val rfl rfl (R.ldo 1 S27 rfl rfl rfl) ?_
                        refine JL.gYes rfl rfl rfl ?_
                        refine JL.val rfl rfl (R.fa F29_3 rfl) ?_
                        refine JL.gYes rfl rfl rfl ?_
                        refine JL.val rfl rfl (R.ldo 2 S27 rfl rfl rfl) ?_
                        refine JL.gYes rfl rfl rfl ?_
                        refine JL.val rfl rfl (R.neq32 (a := x_83.1.Count) (b := p_1.Count) rfl rfl) ?_
                        refine JL.val rfl rfl (R.pickF rfl rfl) ?_
                        refine JL.val rfl rfl (R.move rfl) ?_
                        refine JL.gSplit (t := 190) rfl (fun c_106 => ?_) (fun c_106 => ?_)
                        · replace hx := cond_t c_106 hx
                          refine JL.gNo rfl rfl rfl rfl rfl ?_
                          refine JL.gNo rfl rfl rfl rfl rfl ?_
                          refine JL.gNo rfl rfl rfl rfl rfl ?_
                          refine JL.gNo rfl rfl rfl rfl rfl ?_
                          refine JL.gNo rfl rfl rfl rfl rfl ?_
                          refine JL.val rfl rfl (R.pickT rfl rfl) ?_
                          refine JL.nil ?_
                          refine JN.next ?_
                          refine JC.condT rfl ?_
                          refine JC.seq ?_
                          refine JC.region ?_
                          refine JL.val rfl rfl (R.assign rfl) ?_
                          refine JL.nil ?_
                          refine JN.next ?_
                          refine JC.ret ?_
                          refine JN.passR ?_
                          refine JN.outP (vs := [.bool false]) (K := []) (rst := [_, _, _, _]) (.inl rfl) rfl rfl (Res.tmp rfl rfl) picks0 ?_
                          obtain rfl := Option.some.inj hx
                          exact ⟨rfl, rfl, trivial⟩
                        · replace hx := cond_f c_106 hx
                          refine JL.gYes rfl rfl rfl ?_
                          refine JL.val rfl rfl (R.ldoN 2 (vs := [.slice aoa_2 na_2 capa_2, .slice aoa_3 na_3 capa_3, .slice aoa_4 na_4 capa_4, .int .u32 (p_1.Epoch.toNat : Int), .int .u32 (p_1.Count.toNat : Int)]) S29 rfl rfl rfl rfl) ?_
                          refine JL.gYes rfl rfl rfl ?_
                          refine JL.val rfl rfl (R.ldoN 1 (vs := [.slice aoz_86 nz_86 capz_86, .slice aor_87 nr_87 capr_87, .slice aor_88 nr_88 capr_88, .int .u32 (x_83.1.Epoch.toNat : Int), .int .u32 (x_83.1.Count.toNat : Int)]) S29 rfl rfl rfl rfl) ?_
                          refine JL.gYes rfl rfl rfl ?_
                          refine JL.val rfl rfl (R.ldoN 0 (vs := [.int .i64 x_83.2.1.At, .int .u32 (x_83.2.1.Birth.toNat : Int), .int .u32 (x_83.2.1.Iv.toNat : Int), .int .u32 (x_83.2.1.Tag.toNat : Int), .int .u32 (x_83.2.1.Sum.toNat : Int)]) S31 rfl rfl rfl rfl) ?_
                          refine JL.gYes rfl rfl rfl ?_
                          obtain ⟨x_107, hr_108, hx⟩ := bnd_some hx
                          refine JL.callC (vs := [_, _, _]) (args := [_, _, _]) (K := []) (rst := [_, _, _, _]) E11 rfl rfl rfl picks0 (law13_one_ok p_1 x_83.1 x_83.2.1 _ (ha_2.mono (RSl.mono RU8.mono) (hleu_15.trans (hleu_29.trans (hleu_33.trans (hleH_81.trans (hleu_85.trans (hleH_96.trans (hleH_97.trans hleu_100)))))))) (ha_3.mono R_Write.mono (hleu_15.trans (hleu_29.trans (hleu_33.trans (hleH_81.trans (hleu_85.trans (hleH_96.trans (hleH_97.trans hleu_100)))))))) (ha_4.mono RU8.mono (hleu_15.trans (hleu_29.trans (hleu_33.trans (hleH_81.trans (hleu_85.trans (hleH_96.trans (hleH_97.trans hleu_100)))))))) ((hz_86.mono (RSl.mono RU8.mono) (New.mono (hleH_96.trans (hleH_97.trans hleu_100)))).old (RSl.mono RU8.mono)) ((hsH_96.mono R_Write.mono (New.mono (hleH_97.trans hleu_100))).old R_Write.mono) ((hsH_97.mono RU8.mono (New.mono hleu_100)).old RU8.mono) _ hr_108) rfl (fun u_109 Ku_109 Hu_109 hRu_109 hleu_109 hfu_109 => ?_)
                          obtain ⟨rfl, rfl, -⟩ := hRu_109
                          refine JL.gYes rfl rfl rfl ?_
                          refine JL.val rfl rfl (R.not rfl) ?_
                          refine JL.val rfl rfl (R.pickF rfl rfl) ?_
                          refine JL.nil ?_
                          refine JN.next ?_
                          refine JC.condB rfl (fun c_110 => ?_) (fun c_110 => ?_)
                          · replace hx := cond_t c_110 hx
                            refine JC.seq ?_
                            refine JC.region ?_
                            refine JL.val rfl rfl (R.assign rfl) ?_
                            refine JL.nil ?_
                            refine JN.next ?_
                            refine JC.ret ?_
                            refine JN.passR ?_
                            refine JN.outP (vs := [.bool false]) (K := []) (rst := [_, _, _, _]) (.inl rfl) rfl rfl (Res.tmp rfl rfl) picks0 ?_
                            obtain rfl := Option.some.inj hx
                            exact ⟨rfl, rfl, trivial⟩
                          · replace hx := cond_f c_110 hx
                            refine JC.skip ?_
                            refine JN.next ?_
                            refine JC.seq ?_
                            refine JC.region ?_
                            refine JL.val rfl rfl (R.ldoN 1 (vs := [.slice aoz_86 nz_86 capz_86, .slice aor_87 nr_87 capr_87, .slice aor_88 nr_88 capr_88, .int .u32 (x_83.1.Epoch.toNat : Int), .int .u32 (x_83.1.Count.toNat : Int)]) S29 rfl rfl rfl rfl) ?_
                            refine JL.val rfl rfl (R.ldoN 0 (vs := [.int .i64 x_83.2.1.At, .int .u32 (x_83.2.1.Birth.toNat : Int), .int .u32 (x_83.2.1.Iv.toNat : Int), .int .u32 (x_83.2.1.Tag.toNat : Int), .int .u32 (x_83.2.1.Sum.toNat : Int)]) S31 rfl rfl rfl rfl) ?_
                            obtain ⟨x_111, hr_112, hx⟩ := bnd_some hx
                            refine JL.callC (vs := [_, _]) (args := [_, _]) (K := []) (rst := [_, _, _, _]) E13 rfl rfl rfl picks0 (store_Give_ok x_83.1 x_83.2.1 _ ((hz_86.mono (RSl.mono RU8.mono) (New.mono (hleH_96.trans (hleH_97.trans (hleu_100.trans hleu_109))))).old (RSl.mono RU8.mono)) ((hsH_96.mono R_Write.mono (New.mono (hleH_97.trans (hleu_100.trans hleu_109)))).old R_Write.mono) ((hsH_97.mono RU8.mono (New.mono (hleu_100.trans hleu_109))).old RU8.mono) _ hr_112) rfl (fun u_113 Ku_113 Hu_113 hRu_113 hleu_113 hfu_113 => ?_)
                            obtain ⟨aoz_114, nz_114, capz_114, aor_115, nr_115, capr_115, Kr_115, aor_116, nr_116, capr_116, Kr_116, rfl, rfl, hz_114, hr_115, hnewr_115, hr_116, hnewr_116, -⟩ := hRu_113
                            replace hr_115 := (RowOf.base (RowOf.mono R_Write.mono (New.call (hleu_15.trans (hleu_29.trans (hleu_33.trans (hleH_81.trans (hleu_85.trans (hleH_96.trans (hleH_97.trans (hleu_100.trans hleu_109))))))))) hr_115) (fun p hp => (hfu_113 p (mem_seg 0 rfl hp)).resolve_left (hnewr_115 p hp)))
                            replace hr_116 := (RowOf.base (RowOf.const (H2 := New H Hu_113) RU8.const hr_116) (fun p hp => (hfu_113 p (mem_seg 1 rfl hp)).resolve_left (hnewr_116 p hp)))
                            replace hz_114 := IsSlice.mono (RSl.mono RU8.mono) (New.call (hleu_15.trans (hleu_29.trans (hleu_33.trans (hleH_81.trans (hleu_85.trans (hleH_96.trans (hleH_97.trans (hleu_100.trans hleu_109))))))))) hz_114
                            refine JL.val rfl rfl (R.move rfl) ?_
                            refine JL.val rfl rfl (R.extract rfl rfl) ?_
                            refine JL.val rfl rfl (R.extract rfl rfl) ?_
                            refine JL.alloc Z29 rfl (fun b_117 hb_117 => ?_)
                            refine JL.store 0 S29 rfl rfl rfl rfl rfl (Nat.le_of_ble_eq_true rfl) ?_
                            refine JL.val rfl rfl (R.assign rfl) ?_
                            refine JL.nil ?_
                            refine JN.next ?_
                            refine JC.seq ?_
                            refine JC.region ?_
                            refine JL.val rfl rfl (R.ldoN 0 (vs := [.slice aoz_114 nz_114 capz_114, .slice aor_115 nr_115 capr_115, .slice aor_116 nr_116 capr_116, .int .u32 (x_111.1.Epoch.toNat : Int), .int .u32 (x_111.1.Count.toNat : Int)]) S29 rfl rfl rfl rfl) ?_
                            refine JL.val rfl rfl (R.ldoN 3 (vs := [.int .i64 x_83.2.1.At, .int .u32 (x_83.2.1.Birth.toNat : Int), .int .u32 (x_83.2.1.Iv.toNat : Int), .int .u32 (x_83.2.1.Tag.toNat : Int), .int .u32 (x_83.2.1.Sum.toNat : Int)]) S31 rfl rfl rfl rfl) ?_
                            refine JL.pubN 1 R_Write.mono rfl hr_115 (Nat.le_refl _) (fun H_118 hleH_118 hsH_118 => ?_)
                            refine JL.forget 1 ?_
                            refine JL.pubN 1 RU8.mono rfl (hr_116.mono RU8.mono (New.mono hleH_118)) (Nat.le_refl _) (fun H_119 hleH_119 hsH_119 => ?_)
                            refine JL.forget 1 ?_
                            obtain ⟨x_120, hr_121, hx⟩ := bnd_some hx
                            refine JL.callC (vs := [_, _]) (args := [_, _]) (K := []) (rst := [_, _, _, _, _]) E8 rfl rfl rfl picks0 (store_Look_ok x_111.1 x_83.2.1 _ ((hz_114.mono (RSl.mono RU8.mono) (New.mono (hleH_118.trans hleH_119))).old (RSl.mono RU8.mono)) ((hsH_118.mono R_Write.mono (New.mono hleH_119)).old R_Write.mono) (hsH_119.old RU8.mono) _ hr_121) rfl (fun u_122 Ku_122 Hu_122 hRu_122 hleu_122 hfu_122 => ?_)
                            obtain ⟨aoz_123, nz_123, capz_123, rfl, rfl, hz_123, -⟩ := hRu_122
                            replace hz_123 := IsSlice.mono RU8.mono (New.call (hleu_15.trans (hleu_29.trans (hleu_33.trans (hleH_81.trans (hleu_85.trans (hleH_96.trans (hleH_97.trans (hleu_100.trans (hleu_109.trans (hleu_113.trans (hleH_118.trans hleH_119)))))))))))) hz_123
                            refine JL.val rfl rfl (R.move rfl) ?_
                            refine JL.val rfl rfl (R.extract rfl rfl) ?_
                            refine JL.val rfl rfl (R.extract rfl rfl) ?_
                            refine JL.val rfl rfl (R.assign rfl) ?_
                            refine JL.val rfl rfl (R.assign rfl) ?_
                            refine JL.nil ?_
                            refine JN.next ?_
                            refine JC.seq ?_
                            obtain ⟨t_124, ht_126, hx⟩ := bnd_some hx
                            refine JC.cut (fun l o g => l = [(10, .bool t_124)] ∧ o = [] ∧ Hu_122 = g) ?_ ?_
                            · rintro _ _ _ ⟨rfl, rfl, rfl⟩
                              refine JN.next ?_
                              refine JC.ret ?_
                              refine JN.outP (vs := [.bool t_124]) (K := []) (rst := []) (.inl rfl) rfl rfl (Res.tmp rfl rfl) picks0 ?_
                              obtain rfl := Option.some.inj hx
                              exact ⟨rfl, rfl, trivial⟩
                            · have hxo_125 := hx; clear hx; have hx := ht_126; clear ht_126
                              refine JC.region ?_
                              refine JL.val rfl rfl (R.move rfl) ?_
                              refine JL.val rfl rfl (R.move rfl) ?_
                              refine JL.gSplit (t := 210) rfl (fun c_127 => ?_) (fun c_127 => ?_)
                              · replace hx := cond_t c_127 hx
                                refine JL.gYes rfl rfl rfl ?_
                                refine JL.val rfl rfl (R.move rfl) ?_
                                refine JL.gYes rfl rfl rfl ?_
                                refine JL.val rfl rfl (R.eql_i rfl rfl) ?_
                                refine JL.val rfl rfl (R.pickT rfl rfl) ?_
                                refine JL.val rfl rfl (R.move rfl) ?_
                                refine JL.gSplit (t := 214) rfl (fun c_128 => ?_) (fun c_128 => ?_)
                                · replace hx := cond_t c_128 hx
                                  refine JL.gYes rfl rfl rfl ?_
                                  refine JL.val rfl rfl (R.move rfl) ?_
                                  refine JL.gYes rfl rfl rfl ?_
                                  refine JL.val rfl rfl (R.eql_i rfl rfl) ?_
                                  refine JL.val rfl rfl (R.pickT rfl rfl) ?_
                                  refine JL.val rfl rfl (R.move rfl) ?_
                                  refine JL.gSplit (t := 218) rfl (fun c_129 => ?_) (fun c_129 => ?_)
                                  · replace hx := cond_t c_129 hx
                                    refine JL.gYes rfl rfl rfl ?_
                                    refine JL.val rfl rfl (R.move rfl) ?_
                                    refine JL.gYes rfl rfl rfl ?_
                                    refine JL.val rfl rfl (R.toStr U26 U5 U9 rfl (hz_123.old RU8.mono)) ?_
                                    refine JL.gYes rfl rfl rfl ?_
                                    refine JL.val rfl rfl (R.move rfl) ?_
                                    refine JL.gYes rfl rfl rfl ?_
                                    refine JL.val rfl rfl (R.toStr U26 U5 U9 rfl (ha_9.mono RU8.mono (hleu_15.trans (hleu_29.trans (hleu_33.trans (hleH_81.trans (hleu_85.trans (hleH_96.trans (hleH_97.trans (hleu_100.trans (hleu_109.trans (hleu_113.trans (hleH_118.trans (hleH_119.trans hleu_122)))))))))))))) ?_
                                    refine JL.gYes rfl rfl rfl ?_
                                    refine JL.val rfl rfl (R.eqlStr (a := x_120.1) (b := p_8) rfl rfl) ?_
                                    refine JL.val rfl rfl (R.pickT rfl rfl) ?_
                                    refine JL.val rfl rfl (R.move rfl) ?_
                                    refine JL.gSplit (t := 225) rfl (fun c_130 => ?_) (fun c_130 => ?_)
                                    · replace hx := cond_t c_130 hx
                                      refine JL.gYes rfl rfl rfl ?_
                                      refine JL.val rfl rfl (R.fa F29_1 rfl) ?_
                                      refine JL.gYes rfl rfl rfl ?_
                                      refine JL.val rfl rfl (R.ldo 0 S26 rfl rfl rfl) ?_
                                      refine JL.gYes rfl rfl rfl ?_
                                      refine JL.val rfl rfl (R.fa F31_0 rfl) ?_
                                      refine JL.gYes rfl rfl rfl ?_
                                      refine JL.val rfl rfl (R.ldo 1 S3 rfl rfl rfl) ?_
                                      refine JL.gYes rfl rfl rfl ?_
                                      obtain ⟨y_131, hN_132, hx⟩ := idx_some hx
                                      obtain ⟨b_133, o_134, cs_135, hE_136, hR_137, hl_138, hc_139⟩ := IsSlice.elem (hsH_119.mono RU8.mono (New.mono hleu_122)) hN_132
                                      obtain rfl := hR_137
                                      refine JL.val rfl rfl (R.ix U26 S5 rfl rfl hE_136) ?_
                                      refine JL.gYes rfl rfl rfl ?_
                                      refine JL.val rfl rfl (R.ldH S5 rfl ((fun j u e => New.le _ _ _ _ _ (hc_139 j u e)) 0 _ rfl)) ?_
                                      refine JL.gYes rfl rfl rfl ?_
                                      refine JL.val rfl rfl (R.eql8 (a := y_131) (b := (2 : UInt8)) rfl rfl) ?_
                                      refine JL.val rfl rfl (R.pickT rfl rfl) ?_
                                      refine JL.val rfl rfl (R.assign rfl) ?_
                                      refine JL.nil ?_
                                      obtain rfl := Option.some.inj hx
                                      refine JN.forget 4 ?_
                                      refine JN.forget 3 ?_
                                      refine JN.forget 2 ?_
                                      refine JN.forget 1 ?_
                                      refine JN.forget 0 ?_
                                      exact JN.cut ⟨rfl, rfl, rfl⟩ ⟨rfl, trivial⟩ rfl rfl
                                    · replace hx := cond_f c_130 hx
                                      refine JL.gNo rfl rfl rfl rfl rfl ?_
                                      refine JL.gNo rfl rfl rfl rfl rfl ?_
                                      refine JL.gNo rfl rfl rfl rfl rfl ?_
                                      refine JL.gNo rfl rfl rfl rfl rfl ?_
                                      refine JL.gNo rfl rfl rfl rfl rfl ?_
                                      refine JL.gNo rfl rfl rfl rfl rfl ?_
                                      refine JL.gNo rfl rfl rfl rfl rfl ?_
                                      refine JL.val rfl rfl (R.pickF rfl rfl) ?_
                                      refine JL.val rfl rfl (R.assign rfl) ?_
                                      refine JL.nil ?_
                                      obtain rfl := Option.some.inj hx
                                      refine JN.forget 4 ?_
                                      refine JN.forget 3 ?_
                                      refine JN.forget 2 ?_
                                      refine JN.forget 1 ?_
                                      refine JN.forget 0 ?_
                                      exact JN.cut ⟨rfl, rfl, rfl⟩ ⟨rfl, trivial⟩ rfl rfl
                                  · replace hx := cond_f c_129 hx
                                    refine JL.gNo rfl rfl rfl rfl rfl ?_
                                    refine JL.gNo rfl rfl rfl rfl rfl ?_
                                    refine JL.gNo rfl rfl rfl rfl rfl ?_
                                    refine JL.gNo rfl rfl rfl rfl rfl ?_
                                    refine JL.gNo rfl rfl rfl rfl rfl ?_
                                    refine JL.val rfl rfl (R.pickF rfl rfl) ?_
                                    refine JL.val rfl rfl (R.move rfl) ?_
                                    refine JL.gNo rfl rfl rfl rfl rfl ?_
                                    refine JL.gNo rfl rfl rfl rfl rfl ?_
                                    refine JL.gNo rfl rfl rfl rfl rfl ?_
                                    refine JL.gNo rfl rfl rfl rfl rfl ?_
                                    refine JL.gNo rfl rfl rfl rfl rfl ?_
                                    refine JL.gNo rfl rfl rfl rfl rfl ?_
                                    refine JL.gNo rfl rfl rfl rfl rfl ?_
                                    refine JL.val rfl rfl (R.pickF rfl rfl) ?_
                                    refine JL.val rfl rfl (R.assign rfl) ?_
                                    refine JL.nil ?_
                                    obtain rfl := Option.some.inj hx
                                    refine JN.forget 4 ?_
                                    refine JN.forget 3 ?_
                                    refine JN.forget 2 ?_
                                    refine JN.forget 1 ?_
                                    refine JN.forget 0 ?_
                                    exact JN.cut ⟨rfl, rfl, rfl⟩ ⟨rfl, trivial⟩ rfl rfl
                                · replace hx := cond_f c_128 hx
                                  refine JL.gNo rfl rfl rfl rfl rfl ?_
                                  refine JL.gNo rfl rfl rfl rfl rfl ?_
                                  refine JL.val rfl rfl (R.pickF rfl rfl) ?_
                                  refine JL.val rfl rfl (R.move rfl) ?_
                                  refine JL.gNo rfl rfl rfl rfl rfl ?_
                                  refine JL.gNo rfl rfl rfl rfl rfl ?_
                                  refine JL.gNo rfl rfl rfl rfl rfl ?_
                                  refine JL.gNo rfl rfl rfl rfl rfl ?_
                                  refine JL.gNo rfl rfl rfl rfl rfl ?_
                                  refine JL.val rfl rfl (R.pickF rfl rfl) ?_
                                  refine JL.val rfl rfl (R.move rfl) ?_
                                  refine JL.gNo rfl rfl rfl rfl rfl ?_
                                  refine JL.gNo rfl rfl rfl rfl rfl ?_
                                  refine JL.gNo rfl rfl rfl rfl rfl ?_
                                  refine JL.gNo rfl rfl rfl rfl rfl ?_
                                  refine JL.gNo rfl rfl rfl rfl rfl ?_
                                  refine JL.gNo rfl rfl rfl rfl rfl ?_
                                  refine JL.gNo rfl rfl rfl rfl rfl ?_
                                  refine JL.val rfl rfl (R.pickF rfl rfl) ?_
                                  refine JL.val rfl rfl (R.assign rfl) ?_
                                  refine JL.nil ?_
                                  obtain rfl := Option.some.inj hx
                                  refine JN.forget 4 ?_
                                  refine JN.forget 3 ?_
                                  refine JN.forget 2 ?_
                                  refine JN.forget 1 ?_
                                  refine JN.forget 0 ?_
                                  exact JN.cut ⟨rfl, rfl, rfl⟩ ⟨rfl, trivial⟩ rfl rfl
                              · replace hx := cond_f c_127 hx
                                refine JL.gNo rfl rfl rfl rfl rfl ?_
                                refine JL.gNo rfl rfl rfl rfl rfl ?_
                                refine JL.val rfl rfl (R.pickF rfl rfl) ?_
                                refine JL.val rfl rfl (R.move rfl) ?_
                                refine JL.gNo rfl rfl rfl rfl rfl ?_
                                refine JL.gNo rfl rfl rfl rfl rfl ?_
                                refine JL.val rfl rfl (R.pickF rfl rfl) ?_
                                refine JL.val rfl rfl (R.move rfl) ?_
                                refine JL.gNo rfl rfl rfl rfl rfl ?_
                                refine JL.gNo rfl rfl rfl rfl rfl ?_
                                refine JL.gNo rfl rfl rfl rfl rfl ?_
                                refine JL.gNo rfl rfl rfl rfl rfl ?_
                                refine JL.gNo rfl rfl rfl rfl rfl ?_
                                refine JL.val rfl rfl (R.pickF rfl rfl) ?_
                                refine JL.val rfl rfl (R.move rfl) ?_
                                refine JL.gNo rfl rfl rfl rfl rfl ?_
                                refine JL.gNo rfl rfl rfl rfl rfl ?_
                                refine JL.gNo rfl rfl rfl rfl rfl ?_
                                refine JL.gNo rfl rfl rfl rfl rfl ?_
                                refine JL.gNo rfl rfl rfl rfl rfl ?_
                                refine JL.gNo rfl rfl rfl rfl rfl ?_
                                refine JL.gNo rfl rfl rfl rfl rfl ?_
                                refine JL.val rfl rfl (R.pickF rfl rfl) ?_
                                refine JL.val rfl rfl (R.assign rfl) ?_
                                refine JL.nil ?_
                                obtain rfl := Option.some.inj hx
                                refine JN.forget 4 ?_
                                refine JN.forget 3 ?_
                                refine JN.forget 2 ?_
                                refine JN.forget 1 ?_
                                refine JN.forget 0 ?_
                                exact JN.cut ⟨rfl, rfl, rfl⟩ ⟨rfl, trivial⟩ rfl rfl
            · have hxo_40 := hx; clear hx; have hx := ht_41; clear ht_41
              refine JC.condB rfl (fun c_42 => ?_) (fun c_42 => ?_)
              · replace hx := cond_t c_42 hx
                refine JC.seq ?_
                refine JC.region ?_
                refine JL.val rfl rfl (R.ldoN 1 (vs := [.slice aoz_34 nz_34 capz_34, .slice aor_35 nr_35 capr_35, .slice aor_36 nr_36 capr_36, .int .u32 (x_31.1.Epoch.toNat : Int), .int .u32 (x_31.1.Count.toNat : Int)]) S29 rfl rfl rfl rfl) ?_
                refine JL.val rfl rfl (R.ldoN 0 (vs := [.int .i64 x_31.2.1.At, .int .u32 (x_31.2.1.Birth.toNat : Int), .int .u32 (x_31.2.1.Iv.toNat : Int), .int .u32 (x_31.2.1.Tag.toNat : Int), .int .u32 (x_31.2.1.Sum.toNat : Int)]) S31 rfl rfl rfl rfl) ?_
                refine JL.val rfl rfl (R.move rfl) ?_
                obtain ⟨x_46, hr_47, hx⟩ := bnd_some hx
                refine JL.callL3 (vs := [_, _, _]) E10 rfl rfl (fun H_45 hle_44 hl_43 => store_Open_ok x_31.1 x_31.2.1 p_6 _ (IsSlice.mono (RSl.mono RU8.mono) hle_44 (hz_34.old (RSl.mono RU8.mono))) (Lent.row' 2 hl_43 R_Write.mono hle_44 rfl (hr_35.old R_Write.mono)) (Lent.row' 3 hl_43 RU8.mono hle_44 rfl (hr_36.old RU8.mono)) (IsSlice.mono RU8.mono hle_44 (ha_7.mono RU8.mono (hleu_15.trans (hleu_29.trans hleu_33)))) _ hr_47) rfl (fun _ _ _ _ hR_49 hf_50 => ?_)
                obtain ⟨aor_48, nr_48, capr_48, Kr_48, rfl, rfl, hr_48, -, -⟩ := hR_49
                replace hr_48 := RowOf.base (RowOf.const (H2 := New H Hu_33) RU8.const hr_48) (fun p hp => hf_50 p (mem_seg 0 rfl hp))
                refine JL.val rfl rfl (R.move rfl) ?_
                refine JL.val rfl rfl (R.extract rfl rfl) ?_
                refine JL.val rfl rfl (R.extract rfl rfl) ?_
                refine JL.val rfl rfl (R.assign rfl) ?_
                refine JL.val rfl rfl (R.assign rfl) ?_
                refine JL.nil ?_
                refine JN.next ?_
                refine JC.seq ?_
                refine JC.seq ?_
                refine JC.region ?_
                refine JL.val rfl rfl (R.move rfl) ?_
                refine JL.val rfl rfl (R.neq_i rfl rfl) ?_
                refine JL.val rfl rfl (R.move rfl) ?_
                refine JL.gSplit (t := 77) rfl (fun c_51 => ?_) (fun c_51 => ?_)
                · replace hx := cond_t c_51 hx
                  refine JL.gNo rfl rfl rfl rfl rfl ?_
                  refine JL.gNo rfl rfl rfl rfl rfl ?_
                  refine JL.gNo rfl rfl rfl rfl rfl ?_
                  refine JL.gNo rfl rfl rfl rfl rfl ?_
                  refine JL.gNo rfl rfl rfl rfl rfl ?_
                  refine JL.val rfl rfl (R.pickT rfl rfl) ?_
                  refine JL.val rfl rfl (R.move rfl) ?_
                  refine JL.gNo rfl rfl rfl rfl rfl ?_
                  refine JL.gNo rfl rfl rfl rfl rfl ?_
                  refine JL.gNo rfl rfl rfl rfl rfl ?_
                  refine JL.gNo rfl rfl rfl rfl rfl ?_
                  refine JL.val rfl rfl (R.pickT rfl rfl) ?_
                  refine JL.val rfl rfl (R.move rfl) ?_
                  refine JL.gNo rfl rfl rfl rfl rfl ?_
                  refine JL.gNo rfl rfl rfl rfl rfl ?_
                  refine JL.gNo rfl rfl rfl rfl rfl ?_
                  refine JL.gNo rfl rfl rfl rfl rfl ?_
                  refine JL.gNo rfl rfl rfl rfl rfl ?_
                  refine JL.gNo rfl rfl rfl rfl rfl ?_
                  refine JL.val rfl rfl (R.pickT rfl rfl) ?_
                  refine JL.val rfl rfl (R.move rfl) ?_
                  refine JL.gNo rfl rfl rfl rfl rfl ?_
                  refine JL.gNo rfl rfl rfl rfl rfl ?_
                  refine JL.gNo rfl rfl rfl rfl rfl ?_
                  refine JL.gNo rfl rfl rfl rfl rfl ?_
                  refine JL.gNo rfl rfl rfl rfl rfl ?_
                  refine JL.val rfl rfl (R.pickT rfl rfl) ?_
                  refine JL.nil ?_
                  refine JN.next ?_
                  refine JC.condT rfl ?_
                  refine JC.seq ?_
                  refine JC.region ?_
                  refine JL.val rfl rfl (R.assign rfl) ?_
                  refine JL.nil ?_
                  refine JN.next ?_
                  refine JC.ret ?_
                  refine JN.passR ?_
                  obtain rfl := Option.some.inj hx
                  clear hx; have hx := hxo_40
                  simp only [Sum.elim_inl, Sum.elim_inr] at hx
                  refine JN.passR ?_
                  refine JN.passR ?_
                  refine JN.outP (vs := [.bool false]) (K := []) (rst := [_, _, _, _, _, _, _]) (.inl rfl) rfl rfl (Res.tmp rfl rfl) picks0 ?_
                  obtain rfl := Option.some.inj hx
                  exact ⟨rfl, rfl, trivial⟩
                · replace hx := cond_f c_51 hx
                  refine JL.gYes rfl rfl rfl ?_
                  refine JL.val rfl rfl (R.move rfl) ?_
                  refine JL.gYes rfl rfl rfl ?_
                  refine JL.pubN 0 RU8.mono rfl hr_48 (Nat.le_refl _) (fun H_52 hleH_52 hsH_52 => ?_)
                  refine JL.forget 0 ?_
                  refine JL.val rfl rfl (R.toStr U26 U5 U9 rfl (hsH_52.old RU8.mono)) ?_
                  refine JL.gYes rfl rfl rfl ?_
                  refine JL.val rfl rfl (R.move rfl) ?_
                  refine JL.gYes rfl rfl rfl ?_
                  refine JL.val rfl rfl (R.toStr U26 U5 U9 rfl (ha_9.mono RU8.mono (hleu_15.trans (hleu_29.trans (hleu_33.trans hleH_52))))) ?_
                  refine JL.gYes rfl rfl rfl ?_
                  refine JL.val rfl rfl (R.neqStr (a := x_46.1) (b := p_8) rfl rfl) ?_
                  refine JL.val rfl rfl (R.pickF rfl rfl) ?_
                  refine JL.val rfl rfl (R.move rfl) ?_
                  refine JL.gSplit (t := 84) rfl (fun c_53 => ?_) (fun c_53 => ?_)
                  · replace hx := cond_t c_53 hx
                    refine JL.gNo rfl rfl rfl rfl rfl ?_
                    refine JL.gNo rfl rfl rfl rfl rfl ?_
                    refine JL.gNo rfl rfl rfl rfl rfl ?_
                    refine JL.gNo rfl rfl rfl rfl rfl ?_
                    refine JL.val rfl rfl (R.pickT rfl rfl) ?_
                    refine JL.val rfl rfl (R.move rfl) ?_
                    refine JL.gNo rfl rfl rfl rfl rfl ?_
                    refine JL.gNo rfl rfl rfl rfl rfl ?_
                    refine JL.gNo rfl rfl rfl rfl rfl ?_
                    refine JL.gNo rfl rfl rfl rfl rfl ?_
                    refine JL.gNo rfl rfl rfl rfl rfl ?_
                    refine JL.gNo rfl rfl rfl rfl rfl ?_
                    refine JL.val rfl rfl (R.pickT rfl rfl) ?_
                    refine JL.val rfl rfl (R.move rfl) ?_
                    refine JL.gNo rfl rfl rfl rfl rfl ?_
                    refine JL.gNo rfl rfl rfl rfl rfl ?_
                    refine JL.gNo rfl rfl rfl rfl rfl ?_
                    refine JL.gNo rfl rfl rfl rfl rfl ?_
                    refine JL.gNo rfl rfl rfl rfl rfl ?_
                    refine JL.val rfl rfl (R.pickT rfl rfl) ?_
                    refine JL.nil ?_
                    refine JN.next ?_
                    refine JC.condT rfl ?_
                    refine JC.seq ?_
                    refine JC.region ?_
                    refine JL.val rfl rfl (R.assign rfl) ?_
                    refine JL.nil ?_
                    refine JN.next ?_
                    refine JC.ret ?_
                    refine JN.passR ?_
                    obtain rfl := Option.some.inj hx
                    clear hx; have hx := hxo_40
                    simp only [Sum.elim_inl, Sum.elim_inr] at hx
                    refine JN.passR ?_
                    refine JN.passR ?_
                    refine JN.outP (vs := [.bool false]) (K := []) (rst := [_, _, _, _, _, _]) (.inl rfl) rfl rfl (Res.tmp rfl rfl) picks0 ?_
                    obtain rfl := Option.some.inj hx
                    exact ⟨rfl, rfl, trivial⟩
                  · replace hx := cond_f c_53 hx
                    refine JL.gYes rfl rfl rfl ?_
                    refine JL.val rfl rfl (R.fa F31_1 rfl) ?_
                    refine JL.gYes rfl rfl rfl ?_
                    refine JL.val rfl rfl (R.ldo 0 S27 rfl rfl rfl) ?_
                    refine JL.gYes rfl rfl rfl ?_
                    refine JL.val rfl rfl (R.move rfl) ?_
                    refine JL.gYes rfl rfl rfl ?_
                    refine JL.val rfl rfl (R.neq32 (a := x_31.2.1.Birth) (b := p_5) rfl rfl) ?_
                    refine JL.val rfl rfl (R.pickF rfl rfl) ?_
                    refine JL.val rfl rfl (R.move rfl) ?_
                    refine JL.gSplit (t := 90) rfl (fun c_54 => ?_) (fun c_54 => ?_)
                    · replace hx := cond_t c_54 hx
                      refine JL.gNo rfl rfl rfl rfl rfl ?_
                      refine JL.gNo rfl rfl rfl rfl rfl ?_
                      refine JL.gNo rfl rfl rfl rfl rfl ?_
                      refine JL.gNo rfl rfl rfl rfl rfl ?_
                      refine JL.gNo rfl rfl rfl rfl rfl ?_
                      refine JL.gNo rfl rfl rfl rfl rfl ?_
                      refine JL.val rfl rfl (R.pickT rfl rfl) ?_
                      refine JL.val rfl rfl (R.move rfl) ?_
                      refine JL.gNo rfl rfl rfl rfl rfl ?_
                      refine JL.gNo rfl rfl rfl rfl rfl ?_
                      refine JL.gNo rfl rfl rfl rfl rfl ?_
                      refine JL.gNo rfl rfl rfl rfl rfl ?_
                      refine JL.gNo rfl rfl rfl rfl rfl ?_
                      refine JL.val rfl rfl (R.pickT rfl rfl) ?_
                      refine JL.nil ?_
                      refine JN.next ?_
                      refine JC.condT rfl ?_
                      refine JC.seq ?_
                      refine JC.region ?_
                      refine JL.val rfl rfl (R.assign rfl) ?_
                      refine JL.nil ?_
                      refine JN.next ?_
                      refine JC.ret ?_
                      refine JN.passR ?_
                      obtain rfl := Option.some.inj hx
                      clear hx; have hx := hxo_40
                      simp only [Sum.elim_inl, Sum.elim_inr] at hx
                      refine JN.passR ?_
                      refine JN.passR ?_
                      refine JN.outP (vs := [.bool false]) (K := []) (rst := [_, _, _, _, _, _]) (.inl rfl) rfl rfl (Res.tmp rfl rfl) picks0 ?_
                      obtain rfl := Option.some.inj hx
                      exact ⟨rfl, rfl, trivial⟩
                    · replace hx := cond_f c_54 hx
                      refine JL.gYes rfl rfl rfl ?_
                      refine JL.val rfl rfl (R.fa F29_3 rfl) ?_
                      refine JL.gYes rfl rfl rfl ?_
                      refine JL.val rfl rfl (R.ldo 1 S27 rfl rfl rfl) ?_
                      refine JL.gYes rfl rfl rfl ?_
                      refine JL.val rfl rfl (R.fa F29_3 rfl) ?_
                      refine JL.gYes rfl rfl rfl ?_
                      refine JL.val rfl rfl (R.ldo 5 S27 rfl rfl rfl) ?_
                      refine JL.gYes rfl rfl rfl ?_
                      refine JL.val rfl rfl (R.add32 (a := p_1.Count) (b := (1 : UInt32)) rfl rfl) ?_
                      refine JL.gYes rfl rfl rfl ?_
                      refine JL.val rfl rfl (R.neq32 (a := x_31.1.Count) (b := p_1.Count + (1 : UInt32)) rfl rfl) ?_
                      refine JL.val rfl rfl (R.pickF rfl rfl) ?_
                      refine JL.val rfl rfl (R.move rfl) ?_
                      refine JL.gSplit (t := 98) rfl (fun c_55 => ?_) (fun c_55 => ?_)
                      · replace hx := cond_t c_55 hx
                        refine JL.gNo rfl rfl rfl rfl rfl ?_
                        refine JL.gNo rfl rfl rfl rfl rfl ?_
                        refine JL.gNo rfl rfl rfl rfl rfl ?_
                        refine JL.gNo rfl rfl rfl rfl rfl ?_
                        refine JL.gNo rfl rfl rfl rfl rfl ?_
                        refine JL.val rfl rfl (R.pickT rfl rfl) ?_
                        refine JL.nil ?_
                        refine JN.next ?_
                        refine JC.condT rfl ?_
                        refine JC.seq ?_
                        refine JC.region ?_
                        refine JL.val rfl rfl (R.assign rfl) ?_
                        refine JL.nil ?_
                        refine JN.next ?_
                        refine JC.ret ?_
                        refine JN.passR ?_
                        obtain rfl := Option.some.inj hx
                        clear hx; have hx := hxo_40
                        simp only [Sum.elim_inl, Sum.elim_inr] at hx
                        refine JN.passR ?_
                        refine JN.passR ?_
                        refine JN.outP (vs := [.bool false]) (K := []) (rst := [_, _, _, _, _, _]) (.inl rfl) rfl rfl (Res.tmp rfl rfl) picks0 ?_
                        obtain rfl := Option.some.inj hx
                        exact ⟨rfl, rfl, trivial⟩
                      · replace hx := cond_f c_55 hx
                        refine JL.gYes rfl rfl rfl ?_
                        refine JL.val rfl rfl (R.ldoN 5 (vs := [.slice aoa_2 na_2 capa_2, .slice aoa_3 na_3 capa_3, .slice aoa_4 na_4 capa_4, .int .u32 (p_1.Epoch.toNat : Int), .int .u32 (p_1.Count.toNat : Int)]) S29 rfl rfl rfl rfl) ?_
                        refine JL.gYes rfl rfl rfl ?_
                        refine JL.val rfl rfl (R.ldoN 1 (vs := [.slice aoz_34 nz_34 capz_34, .slice aor_35 nr_35 capr_35, .slice aor_36 nr_36 capr_36, .int .u32 (x_31.1.Epoch.toNat : Int), .int .u32 (x_31.1.Count.toNat : Int)]) S29 rfl rfl rfl rfl) ?_
                        refine JL.gYes rfl rfl rfl ?_
                        refine JL.val rfl rfl (R.ldoN 0 (vs := [.int .i64 x_31.2.1.At, .int .u32 (x_31.2.1.Birth.toNat : Int), .int .u32 (x_31.2.1.Iv.toNat : Int), .int .u32 (x_31.2.1.Tag.toNat : Int), .int .u32 (x_31.2.1.Sum.toNat : Int)]) S31 rfl rfl rfl rfl) ?_
                        refine JL.gYes rfl rfl rfl ?_
                        obtain ⟨x_59, hr_60, hx⟩ := bnd_some hx
                        refine JL.callL2 (vs := [_, _, _]) (v := .bool x_59) E11 rfl rfl (fun H_58 hle_57 hl_56 => Does.mono (law13_one_ok p_1 x_31.1 x_31.2.1 _ (IsSlice.mono (RSl.mono RU8.mono) hle_57 (ha_2.mono (RSl.mono RU8.mono) (hleu_15.trans (hleu_29.trans (hleu_33.trans hleH_52))))) (IsSlice.mono R_Write.mono hle_57 (ha_3.mono R_Write.mono (hleu_15.trans (hleu_29.trans (hleu_33.trans hleH_52))))) (IsSlice.mono RU8.mono hle_57 (ha_4.mono RU8.mono (hleu_15.trans (hleu_29.trans (hleu_33.trans hleH_52))))) (IsSlice.mono (RSl.mono RU8.mono) hle_57 ((hz_34.mono (RSl.mono RU8.mono) (New.mono hleH_52)).old (RSl.mono RU8.mono))) (Lent.row' 2 hl_56 R_Write.mono hle_57 rfl ((hr_35.mono R_Write.mono (New.mono hleH_52)).old R_Write.mono)) (Lent.row' 3 hl_56 RU8.mono hle_57 rfl ((hr_36.mono RU8.mono (New.mono hleH_52)).old RU8.mono)) _ hr_60) (fun _ _ _ h => h.1)) rfl ?_
                        refine JL.gYes rfl rfl rfl ?_
                        refine JL.val rfl rfl (R.not rfl) ?_
                        refine JL.val rfl rfl (R.pickF rfl rfl) ?_
                        refine JL.nil ?_
                        refine JN.next ?_
                        refine JC.condB rfl (fun c_61 => ?_) (fun c_61 => ?_)
                        · replace hx := cond_t c_61 hx
                          refine JC.seq ?_
                          refine JC.region ?_
                          refine JL.val rfl rfl (R.assign rfl) ?_
                          refine JL.nil ?_
                          refine JN.next ?_
                          refine JC.ret ?_
                          refine JN.passR ?_
                          obtain rfl := Option.some.inj hx
                          clear hx; have hx := hxo_40
                          simp only [Sum.elim_inl, Sum.elim_inr] at hx
                          refine JN.passR ?_
                          refine JN.passR ?_
                          refine JN.outP (vs := [.bool false]) (K := []) (rst := [_, _, _, _, _, _]) (.inl rfl) rfl rfl (Res.tmp rfl rfl) picks0 ?_
                          obtain rfl := Option.some.inj hx
                          exact ⟨rfl, rfl, trivial⟩
                        · replace hx := cond_f c_61 hx
                          refine JC.skip ?_
                          refine JN.next ?_
                          refine JC.seq ?_
                          refine JC.region ?_
                          refine JL.val rfl rfl (R.ldoN 1 (vs := [.slice aoz_34 nz_34 capz_34, .slice aor_35 nr_35 capr_35, .slice aor_36 nr_36 capr_36, .int .u32 (x_31.1.Epoch.toNat : Int), .int .u32 (x_31.1.Count.toNat : Int)]) S29 rfl rfl rfl rfl) ?_
                          refine JL.val rfl rfl (R.ldoN 4 (vs := [.int .i64 p_10.At, .int .u32 (p_10.Birth.toNat : Int), .int .u32 (p_10.Iv.toNat : Int), .int .u32 (p_10.Tag.toNat : Int), .int .u32 (p_10.Sum.toNat : Int)]) S31 rfl rfl rfl rfl) ?_
                          refine JL.pubN 2 R_Write.mono rfl (hr_35.mono R_Write.mono (New.mono hleH_52)) (Nat.le_refl _) (fun H_62 hleH_62 hsH_62 => ?_)
                          refine JL.forget 2 ?_
                          refine JL.pubN 2 RU8.mono rfl (hr_36.mono RU8.mono (New.mono (hleH_52.trans hleH_62))) (Nat.le_refl _) (fun H_63 hleH_63 hsH_63 => ?_)
                          refine JL.forget 2 ?_
                          obtain ⟨x_64, hr_65, hx⟩ := bnd_some hx
                          refine JL.callC (vs := [_, _]) (args := [_, _]) (K := []) (rst := [_, _, _, _]) E8 rfl rfl rfl picks0 (store_Look_ok x_31.1 p_10 _ ((hz_34.mono (RSl.mono RU8.mono) (New.mono (hleH_52.trans (hleH_62.trans hleH_63)))).old (RSl.mono RU8.mono)) ((hsH_62.mono R_Write.mono (New.mono hleH_63)).old R_Write.mono) (hsH_63.old RU8.mono) _ hr_65) rfl (fun u_66 Ku_66 Hu_66 hRu_66 hleu_66 hfu_66 => ?_)
                          obtain ⟨aoz_67, nz_67, capz_67, rfl, rfl, hz_67, -⟩ := hRu_66
                          replace hz_67 := IsSlice.mono RU8.mono (New.call (hleu_15.trans (hleu_29.trans (hleu_33.trans (hleH_52.trans (hleH_62.trans hleH_63)))))) hz_67
                          refine JL.val rfl rfl (R.move rfl) ?_
                          refine JL.val rfl rfl (R.extract rfl rfl) ?_
                          refine JL.val rfl rfl (R.extract rfl rfl) ?_
                          refine JL.val rfl rfl (R.assign rfl) ?_
                          refine JL.val rfl rfl (R.assign rfl) ?_
                          refine JL.nil ?_
                          refine JN.next ?_
                          refine JC.seq ?_
                          refine JC.region ?_
                          refine JL.val rfl rfl (R.move rfl) ?_
                          refine JL.val rfl rfl (R.eql_i rfl rfl) ?_
                          refine JL.val rfl rfl (R.move rfl) ?_
                          refine JL.gSplit (t := 113) rfl (fun c_68 => ?_) (fun c_68 => ?_)
                          · replace hx := cond_t c_68 hx
                            refine JL.gYes rfl rfl rfl ?_
                            refine JL.val rfl rfl (R.fa F29_1 rfl) ?_
                            refine JL.gYes rfl rfl rfl ?_
                            refine JL.val rfl rfl (R.ldo 3 S26 rfl rfl rfl) ?_
                            refine JL.gYes rfl rfl rfl ?_
                            refine JL.val rfl rfl (R.fa F31_0 rfl) ?_
                            refine JL.gYes rfl rfl rfl ?_
                            refine JL.val rfl rfl (R.ldo 2 S3 rfl rfl rfl) ?_
                            refine JL.gYes rfl rfl rfl ?_
                            obtain ⟨y_69, hN_70, hx⟩ := idx_some hx
                            obtain ⟨b_71, o_72, cs_73, hE_74, hR_75, hl_76, hc_77⟩ := IsSlice.elem (ha_4.mono RU8.mono (hleu_15.trans (hleu_29.trans (hleu_33.trans (hleH_52.trans (hleH_62.trans (hleH_63.trans hleu_66))))))) hN_70
                            obtain rfl := hR_75
                            refine JL.val rfl rfl (R.ix U26 S5 rfl rfl hE_74) ?_
                            refine JL.gYes rfl rfl rfl ?_
                            refine JL.val rfl rfl (R.ldH S5 rfl (hc_77 0 _ rfl)) ?_
                            refine JL.gYes rfl rfl rfl ?_
                            refine JL.val rfl rfl (R.neq8 (a := y_69) (b := (0 : UInt8)) rfl rfl) ?_
                            refine JL.val rfl rfl (R.pickT rfl rfl) ?_
                            refine JL.val rfl rfl (R.move rfl) ?_
                            refine JL.gSplit (t := 122) rfl (fun c_78 => ?_) (fun c_78 => ?_)
                            · replace hx := cond_t c_78 hx
                              refine JL.gYes rfl rfl rfl ?_
                              refine JL.val rfl rfl (R.move rfl) ?_
                              refine JL.gYes rfl rfl rfl ?_
                              refine JL.val rfl rfl (R.neq_i rfl rfl) ?_
                              refine JL.gYes rfl rfl rfl ?_
                              refine JL.val rfl rfl (R.move rfl) ?_
                              refine JL.gSplit (t := 125) rfl (fun c_79 => ?_) (fun c_79 => ?_)
                              · replace hx := cond_t c_79 hx
                                refine JL.gNo rfl rfl rfl rfl rfl ?_
                                refine JL.gNo rfl rfl rfl rfl rfl ?_
                                refine JL.gNo rfl rfl rfl rfl rfl ?_
                                refine JL.gNo rfl rfl rfl rfl rfl ?_
                                refine JL.gNo rfl rfl rfl rfl rfl ?_
                                refine JL.gYes rfl rfl rfl ?_
                                refine JL.val rfl rfl (R.pickT rfl rfl) ?_
                                refine JL.val rfl rfl (R.pickT rfl rfl) ?_
                                refine JL.nil ?_
                                refine JN.next ?_
                                refine JC.condT rfl ?_
                                refine JC.seq ?_
                                refine JC.region ?_
                                refine JL.val rfl rfl (R.assign rfl) ?_
                                refine JL.nil ?_
                                refine JN.next ?_
                                refine JC.ret ?_
                                obtain rfl := Option.some.inj hx
                                clear hx; have hx := hxo_40
                                simp only [Sum.elim_inl, Sum.elim_inr] at hx
                                refine JN.passR ?_
                                refine JN.passR ?_
                                refine JN.outP (vs := [.bool false]) (K := []) (rst := [_, _, _, _]) (.inl rfl) rfl rfl (Res.tmp rfl rfl) picks0 ?_
                                obtain rfl := Option.some.inj hx
                                exact ⟨rfl, rfl, trivial⟩
                              · replace hx := cond_f c_79 hx
                                refine JL.gYes rfl rfl rfl ?_
                                refine JL.val rfl rfl (R.move rfl) ?_
                                refine JL.gYes rfl rfl rfl ?_
                                refine JL.val rfl rfl (R.toStr U26 U5 U9 rfl (hz_67.old RU8.mono)) ?_
                                refine JL.gYes rfl rfl rfl ?_
                                refine JL.val rfl rfl (R.move rfl) ?_
                                refine JL.gYes rfl rfl rfl ?_
                                refine JL.val rfl rfl (R.toStr U26 U5 U9 rfl ((hz_30.mono RU8.mono (New.mono (hleu_33.trans (hleH_52.trans (hleH_62.trans (hleH_63.trans hleu_66)))))).old RU8.mono)) ?_
                                refine JL.gYes rfl rfl rfl ?_
                                refine JL.val rfl rfl (R.neqStr (a := x_64.1) (b := x_27.1) rfl rfl) ?_
                                refine JL.gYes rfl rfl rfl ?_
                                refine JL.val rfl rfl (R.pickF rfl rfl) ?_
                                refine JL.val rfl rfl (R.pickT rfl rfl) ?_
                                refine JL.nil ?_
                                refine JN.next ?_
                                refine JC.condB rfl (fun c_80 => ?_) (fun c_80 => ?_)
                                · replace hx := cond_t c_80 hx
                                  refine JC.seq ?_
                                  refine JC.region ?_
                                  refine JL.val rfl rfl (R.assign rfl) ?_
                                  refine JL.nil ?_
                                  refine JN.next ?_
                                  refine JC.ret ?_
                                  obtain rfl := Option.some.inj hx
                                  clear hx; have hx := hxo_40
                                  simp only [Sum.elim_inl, Sum.elim_inr] at hx
                                  refine JN.passR ?_
                                  refine JN.passR ?_
                                  refine JN.outP (vs := [.bool false]) (K := []) (rst := [_, _, _, _]) (.inl rfl) rfl rfl (Res.tmp rfl rfl) picks0 ?_
                                  obtain rfl := Option.some.inj hx
                                  exact ⟨rfl, rfl, trivial⟩
                                · replace hx := cond_f c_80 hx
                                  refine JC.skip ?_
                                  obtain rfl := Option.some.inj hx
                                  refine JN.forget 2 ?_
                                  refine JN.forget 1 ?_
                                  refine JN.front 1 rfl ?_
                                  exact JN.cut ⟨(), Hu_66, rfl, rfl, rfl, rfl, ((hleH_52.trans (hleH_62.trans (hleH_63.trans hleu_66))))⟩ ⟨rfl, rfl, rfl, rfl, rfl, trivial⟩ rfl rfl
                            · replace hx := cond_f c_78 hx
                              refine JL.gNo rfl rfl rfl rfl rfl ?_
                              refine JL.gNo rfl rfl rfl rfl rfl ?_
                              refine JL.gNo rfl rfl rfl rfl rfl ?_
                              refine JL.gNoU rfl rfl rfl rfl ?_
                              refine JL.gNoU rfl rfl rfl rfl ?_
                              refine JL.gNoU rfl rfl rfl rfl ?_
                              refine JL.gNoU rfl rfl rfl rfl ?_
                              refine JL.gNoU rfl rfl rfl rfl ?_
                              refine JL.gNo rfl rfl rfl rfl rfl ?_
                              refine JL.val rfl rfl (R.pickF rfl rfl) ?_
                              refine JL.nil ?_
                              refine JN.next ?_
                              refine JC.condF rfl ?_
                              refine JC.skip ?_
                              obtain rfl := Option.some.inj hx
                              refine JN.forget 2 ?_
                              refine JN.forget 1 ?_
                              refine JN.front 1 rfl ?_
                              exact JN.cut ⟨(), Hu_66, rfl, rfl, rfl, rfl, ((hleH_52.trans (hleH_62.trans (hleH_63.trans hleu_66))))⟩ ⟨rfl, rfl, rfl, rfl, rfl, trivial⟩ rfl rfl
                          · replace hx := cond_f c_68 hx
                            refine JL.gNo rfl rfl rfl rfl rfl ?_
                            refine JL.gNo rfl rfl rfl rfl rfl ?_
                            refine JL.gNo rfl rfl rfl rfl rfl ?_
                            refine JL.gNo rfl rfl rfl rfl rfl ?_
                            refine JL.gNo rfl rfl rfl rfl rfl ?_
                            refine JL.gNo rfl rfl rfl rfl rfl ?_
                            refine JL.gNo rfl rfl rfl rfl rfl ?_
                            refine JL.val rfl rfl (R.pickF rfl rfl) ?_
                            refine JL.val rfl rfl (R.move rfl) ?_
                            refine JL.gNo rfl rfl rfl rfl rfl ?_
                            refine JL.gNo rfl rfl rfl rfl rfl ?_
                            refine JL.gNo rfl rfl rfl rfl rfl ?_
                            refine JL.gNoU rfl rfl rfl rfl ?_
                            refine JL.gNoU rfl rfl rfl rfl ?_
                            refine JL.gNoU rfl rfl rfl rfl ?_
                            refine JL.gNoU rfl rfl rfl rfl ?_
                            refine JL.gNoU rfl rfl rfl rfl ?_
                            refine JL.gNo rfl rfl rfl rfl rfl ?_
                            refine JL.val rfl rfl (R.pickF rfl rfl) ?_
                            refine JL.nil ?_
                            refine JN.next ?_
                            refine JC.condF rfl ?_
                            refine JC.skip ?_
                            obtain rfl := Option.some.inj hx
                            refine JN.forget 2 ?_
                            refine JN.forget 1 ?_
                            refine JN.front 1 rfl ?_
                            exact JN.cut ⟨(), Hu_66, rfl, rfl, rfl, rfl, ((hleH_52.trans (hleH_62.trans (hleH_63.trans hleu_66))))⟩ ⟨rfl, rfl, rfl, rfl, rfl, trivial⟩ rfl rfl
              · replace hx := cond_f c_42 hx
                refine JC.skip ?_
                obtain rfl := Option.some.inj hx
                refine JN.forget 4 ?_
                refine JN.forget 3 ?_
                refine JN.forget 2 ?_
                refine JN.forget 1 ?_
                refine JN.front 1 rfl ?_
                exact JN.cut ⟨(), Hu_33, rfl, rfl, rfl, rfl, (Hle.refl _)⟩ ⟨rfl, rfl, rfl, rfl, rfl, trivial⟩ rfl rfl
end Go.Proofs.Ytdelcjkjkhcaoab
