/- walks: what the code computes, function by function. -/
import Derived.Test.YtdelcjkjkhcaoaaW2p2
namespace Go.Proofs.Ytdelcjkjkhcaoaa
open Go.Ow Go.RowKit Go.Proofs
set_option linter.unusedVariables false
set_option linter.unusedSimpArgs false
set_option maxHeartbeats 8000000 in
theorem law13_StoreRoom_ok (p_1 : Store) (p_5 : UInt32) (p_6 : List UInt8) (p_8 : List UInt8) (H : Heaplet) {aoa_2 : Option Addr} {na_2 : Nat} {capa_2 : Nat} {aoa_3 : Option Addr} {na_3 : Nat} {capa_3 : Nat} {aoa_4 : Option Addr} {na_4 : Nat} {capa_4 : Nat} {aoa_7 : Option Addr} {na_7 : Nat} {capa_7 : Nat} {aoa_9 : Option Addr} {na_9 : Nat} {capa_9 : Nat} (ha_2 : IsSlice H (RSl RU8 1) 1 (.slice aoa_2 na_2 capa_2) p_1.Disk.Blocks) (ha_3 : IsSlice H R_Write 2 (.slice aoa_3 na_3 capa_3) p_1.Disk.Waits) (ha_4 : IsSlice H RU8 1 (.slice aoa_4 na_4 capa_4) p_1.Space) (ha_7 : IsSlice H RU8 1 (.slice aoa_7 na_7 capa_7) p_6) (ha_9 : IsSlice H RU8 1 (.slice aoa_9 na_9 capa_9) p_8) (r : Bool) (hx : law13_StoreRoom p_1 p_5 p_6 p_8 = some r) :
    Does Try.prog 7 #[.agg #[.slice aoa_2 na_2 capa_2, .slice aoa_3 na_3 capa_3, .slice aoa_4 na_4 capa_4, .int .u32 (p_1.Epoch.toNat : Int), .int .u32 (p_1.Count.toNat : Int)], .int .u32 (p_5.toNat : Int), .slice aoa_7 na_7 capa_7, .slice aoa_9 na_9 capa_9] [] H (fun u K' H' => u = .bool r ∧ K' = [] ∧ True) := by
  refine Does.enterL (vs := [.agg #[.slice aoa_2 na_2 capa_2, .slice aoa_3 na_3 capa_3, .slice aoa_4 na_4 capa_4, .int .u32 (p_1.Epoch.toNat : Int), .int .u32 (p_1.Count.toNat : Int)], .int .u32 (p_5.toNat : Int), .slice aoa_7 na_7 capa_7, .slice aoa_9 na_9 capa_9]) (l := [(0, .agg #[.slice aoa_2 na_2 capa_2, .slice aoa_3 na_3 capa_3, .slice aoa_4 na_4 capa_4, .int .u32 (p_1.Epoch.toNat : Int), .int .u32 (p_1.Count.toNat : Int)]), (1, .int .u32 (p_5.toNat : Int)), (2, .slice aoa_7 na_7 capa_7), (3, .slice aoa_9 na_9 capa_9)]) Try.func7 rfl rfl ⟨rfl, rfl, rfl, rfl, trivial⟩ (fun w hlt => ?_)
  unfold law13_StoreRoom at hx
  refine JC.seq ?_
  refine JC.region ?_
  refine JL.box rfl rfl (fun b_10 hb_10 => ?_)
  refine JL.val rfl rfl (R.assign rfl) ?_
  refine JL.nil ?_
  refine JN.next ?_
  refine JC.seq ?_
  refine JC.region ?_
  obtain ⟨x_11, hr_12, hx⟩ := bnd_some hx
  refine JL.callC (vs := []) (args := []) (K := []) (rst := [_]) E18 rfl rfl rfl picks0 (law13_alive_ok _ _ hr_12) rfl (fun u_13 Ku_13 Hu_13 hRu_13 hleu_13 hfu_13 => ?_)
  obtain ⟨rfl, rfl, -⟩ := hRu_13
  refine JL.val rfl rfl (R.assign rfl) ?_
  refine JL.nil ?_
  refine JN.next ?_
  refine JC.seq ?_
  refine JC.seq ?_
  refine JC.region ?_
  refine JL.val rfl rfl (R.move rfl) ?_
  refine JL.val rfl rfl (R.not rfl) ?_
  refine JL.nil ?_
  refine JN.next ?_
  refine JC.condB rfl (fun c_14 => ?_) (fun c_14 => ?_)
  · replace hx := cond_t c_14 hx
    refine JC.seq ?_
    refine JC.region ?_
    refine JL.val rfl rfl (R.assign rfl) ?_
    refine JL.nil ?_
    refine JN.next ?_
    refine JC.ret ?_
    refine JN.passR ?_
    refine JN.outP (vs := [.bool false]) (K := []) (rst := [_]) (.inl rfl) rfl rfl (Res.tmp rfl rfl) picks0 ?_
    obtain rfl := Option.some.inj hx
    exact ⟨rfl, rfl, trivial⟩
  · replace hx := cond_f c_14 hx
    refine JC.skip ?_
    refine JN.next ?_
    refine JC.seq ?_
    refine JC.seq ?_
    refine JC.region ?_
    refine JL.val rfl rfl (R.ldoN 0 (vs := [.slice aoa_2 na_2 capa_2, .slice aoa_3 na_3 capa_3, .slice aoa_4 na_4 capa_4, .int .u32 (p_1.Epoch.toNat : Int), .int .u32 (p_1.Count.toNat : Int)]) S29 rfl rfl rfl rfl) ?_
    obtain ⟨x_15, hr_16, hx⟩ := bnd_some hx
    refine JL.callC (vs := [_]) (args := [_]) (K := []) (rst := [_]) E8 rfl rfl rfl picks0 (ref13_Great_ok p_1 _ (ha_2.mono (RSl.mono RU8.mono) hleu_13) (ha_3.mono R_Write.mono hleu_13) (ha_4.mono RU8.mono hleu_13) _ hr_16) rfl (fun u_17 Ku_17 Hu_17 hRu_17 hleu_17 hfu_17 => ?_)
    obtain ⟨rfl, rfl, rfl, -⟩ := hRu_17
    refine JL.val rfl rfl (R.move rfl) ?_
    refine JL.gSplit (t := 28) rfl (fun c_18 => ?_) (fun c_18 => ?_)
    · replace hx := cond_t c_18 hx
      refine JL.gNo rfl rfl rfl rfl rfl ?_
      refine JL.gNo rfl rfl rfl rfl rfl ?_
      refine JL.gNo rfl rfl rfl rfl rfl ?_
      refine JL.val rfl rfl (R.pickT rfl rfl) ?_
      refine JL.val rfl rfl (R.move rfl) ?_
      refine JL.gNo rfl rfl rfl rfl rfl ?_
      refine JL.gNo rfl rfl rfl rfl rfl ?_
      refine JL.gNo rfl rfl rfl rfl rfl ?_
      refine JL.val rfl rfl (R.pickT rfl rfl) ?_
      refine JL.val rfl rfl (R.move rfl) ?_
      refine JL.gNo rfl rfl rfl rfl rfl ?_
      refine JL.gNo rfl rfl rfl rfl rfl ?_
      refine JL.gNo rfl rfl rfl rfl rfl ?_
      refine JL.val rfl rfl (R.pickT rfl rfl) ?_
      refine JL.nil ?_
      refine JN.next ?_
      refine JC.condT rfl ?_
      refine JC.seq ?_
      refine JC.region ?_
      refine JL.val rfl rfl (R.move rfl) ?_
      refine JL.val rfl rfl (R.assign rfl) ?_
      refine JL.nil ?_
      refine JN.next ?_
      refine JC.ret ?_
      refine JN.passR ?_
      refine JN.outP (vs := [.bool x_11]) (K := []) (rst := [_]) (.inl rfl) rfl rfl (Res.tmp rfl rfl) picks0 ?_
      obtain rfl := Option.some.inj hx
      exact ⟨rfl, rfl, trivial⟩
    · replace hx := cond_f c_18 hx
      refine JL.gYes rfl rfl rfl ?_
      refine JL.val rfl rfl (R.move rfl) ?_
      refine JL.gYes rfl rfl rfl ?_
      refine JL.val rfl rfl (R.lenL U26 rfl (IsSlice.long ha_7)) ?_
      refine JL.gYes rfl rfl rfl ?_
      refine JL.val rfl rfl (R.gtr_i rfl rfl) ?_
      refine JL.val rfl rfl (R.pickF rfl rfl) ?_
      refine JL.val rfl rfl (R.move rfl) ?_
      refine JL.gSplit (t := 33) rfl (fun c_19 => ?_) (fun c_19 => ?_)
      · replace hx := cond_t c_19 hx
        refine JL.gNo rfl rfl rfl rfl rfl ?_
        refine JL.gNo rfl rfl rfl rfl rfl ?_
        refine JL.gNo rfl rfl rfl rfl rfl ?_
        refine JL.val rfl rfl (R.pickT rfl rfl) ?_
        refine JL.val rfl rfl (R.move rfl) ?_
        refine JL.gNo rfl rfl rfl rfl rfl ?_
        refine JL.gNo rfl rfl rfl rfl rfl ?_
        refine JL.gNo rfl rfl rfl rfl rfl ?_
        refine JL.val rfl rfl (R.pickT rfl rfl) ?_
        refine JL.nil ?_
        refine JN.next ?_
        refine JC.condT rfl ?_
        refine JC.seq ?_
        refine JC.region ?_
        refine JL.val rfl rfl (R.move rfl) ?_
        refine JL.val rfl rfl (R.assign rfl) ?_
        refine JL.nil ?_
        refine JN.next ?_
        refine JC.ret ?_
        refine JN.passR ?_
        refine JN.outP (vs := [.bool x_11]) (K := []) (rst := [_]) (.inl rfl) rfl rfl (Res.tmp rfl rfl) picks0 ?_
        obtain rfl := Option.some.inj hx
        exact ⟨rfl, rfl, trivial⟩
      · replace hx := cond_f c_19 hx
        refine JL.gYes rfl rfl rfl ?_
        refine JL.val rfl rfl (R.move rfl) ?_
        refine JL.gYes rfl rfl rfl ?_
        refine JL.val rfl rfl (R.lenL U26 rfl (IsSlice.long ha_9)) ?_
        refine JL.gYes rfl rfl rfl ?_
        refine JL.val rfl rfl (R.gtr_i rfl rfl) ?_
        refine JL.val rfl rfl (R.pickF rfl rfl) ?_
        refine JL.val rfl rfl (R.move rfl) ?_
        refine JL.gSplit (t := 38) rfl (fun c_20 => ?_) (fun c_20 => ?_)
        · replace hx := cond_t c_20 hx
          refine JL.gNo rfl rfl rfl rfl rfl ?_
          refine JL.gNo rfl rfl rfl rfl rfl ?_
          refine JL.gNo rfl rfl rfl rfl rfl ?_
          refine JL.val rfl rfl (R.pickT rfl rfl) ?_
          refine JL.nil ?_
          refine JN.next ?_
          refine JC.condT rfl ?_
          refine JC.seq ?_
          refine JC.region ?_
          refine JL.val rfl rfl (R.move rfl) ?_
          refine JL.val rfl rfl (R.assign rfl) ?_
          refine JL.nil ?_
          refine JN.next ?_
          refine JC.ret ?_
          refine JN.passR ?_
          refine JN.outP (vs := [.bool x_11]) (K := []) (rst := [_]) (.inl rfl) rfl rfl (Res.tmp rfl rfl) picks0 ?_
          obtain rfl := Option.some.inj hx
          exact ⟨rfl, rfl, trivial⟩
        · replace hx := cond_f c_20 hx
          refine JL.gYes rfl rfl rfl ?_
          refine JL.val rfl rfl (R.ldoN 0 (vs := [.slice aoa_2 na_2 capa_2, .slice aoa_3 na_3 capa_3, .slice aoa_4 na_4 capa_4, .int .u32 (p_1.Epoch.toNat : Int), .int .u32 (p_1.Count.toNat : Int)]) S29 rfl rfl rfl rfl) ?_
          refine JL.gYes rfl rfl rfl ?_
          obtain ⟨x_21, hr_22, hx⟩ := bnd_some hx
          refine JL.callC (vs := [_]) (args := [_]) (K := []) (rst := [_]) E24 rfl rfl rfl picks0 (store_Check_ok p_1 _ (ha_2.mono (RSl.mono RU8.mono) hleu_13) (ha_3.mono R_Write.mono hleu_13) (ha_4.mono RU8.mono hleu_13) _ hr_22) rfl (fun u_23 Ku_23 Hu_23 hRu_23 hleu_23 hfu_23 => ?_)
          obtain ⟨rfl, rfl, rfl, -⟩ := hRu_23
          refine JL.gYes rfl rfl rfl ?_
          refine JL.val rfl rfl (R.neq_i rfl rfl) ?_
          refine JL.val rfl rfl (R.pickF rfl rfl) ?_
          refine JL.nil ?_
          refine JN.next ?_
          refine JC.condB rfl (fun c_24 => ?_) (fun c_24 => ?_)
          · replace hx := cond_t c_24 hx
            refine JC.seq ?_
            refine JC.region ?_
            refine JL.val rfl rfl (R.move rfl) ?_
            refine JL.val rfl rfl (R.assign rfl) ?_
            refine JL.nil ?_
            refine JN.next ?_
            refine JC.ret ?_
            refine JN.passR ?_
            refine JN.outP (vs := [.bool x_11]) (K := []) (rst := [_]) (.inl rfl) rfl rfl (Res.tmp rfl rfl) picks0 ?_
            obtain rfl := Option.some.inj hx
            exact ⟨rfl, rfl, trivial⟩
          · replace hx := cond_f c_24 hx
            refine JC.skip ?_
            refine JN.next ?_
            refine JC.seq ?_
            refine JC.region ?_
            refine JL.val rfl rfl (R.fa F29_1 rfl) ?_
            refine JL.val rfl rfl (R.ldo 0 S26 rfl rfl rfl) ?_
            obtain ⟨x_25, hr_26, hx⟩ := bnd_some hx
            refine JL.callC (vs := [_]) (args := [_]) (K := []) (rst := [_]) E25 rfl rfl rfl picks0 (space_Free_ok p_1.Space _ (ha_4.mono RU8.mono hleu_13) _ hr_26) rfl (fun u_27 Ku_27 Hu_27 hRu_27 hleu_27 hfu_27 => ?_)
            obtain ⟨aor_28, nr_28, capr_28, Kr_28, rfl, rfl, rfl, hr_28, hnewr_28, -⟩ := hRu_27
            replace hr_28 := (RowOf.base (RowOf.const (H2 := New H Hu_13) RInt.const hr_28) (fun p hp => (hfu_27 p (mem_seg 0 rfl hp)).resolve_left (hnewr_28 p hp)))
            refine JL.val rfl rfl (R.move rfl) ?_
            refine JL.val rfl rfl (R.extract rfl rfl) ?_
            refine JL.val rfl rfl (R.extract rfl rfl) ?_
            refine JL.val rfl rfl (R.assign rfl) ?_
            refine JL.val rfl rfl (R.assign rfl) ?_
            refine JL.nil ?_
            refine JN.next ?_
            refine JC.seq ?_
            refine JC.region ?_
            refine JL.val rfl rfl (R.ldoN 1 (vs := [.slice aoa_2 na_2 capa_2, .slice aoa_3 na_3 capa_3, .slice aoa_4 na_4 capa_4, .int .u32 (p_1.Epoch.toNat : Int), .int .u32 (p_1.Count.toNat : Int)]) S29 rfl rfl rfl rfl) ?_
            refine JL.val rfl rfl (R.move rfl) ?_
            refine JL.val rfl rfl (R.move rfl) ?_
            obtain ⟨x_29, hr_30, hx⟩ := bnd_some hx
            refine JL.callC (vs := [_, _, _]) (args := [_, _, _]) (K := []) (rst := [_, _]) E10 rfl rfl rfl picks0 (store_Lay_ok p_1 p_5 p_6 _ (ha_2.mono (RSl.mono RU8.mono) hleu_13) (ha_3.mono R_Write.mono hleu_13) (ha_4.mono RU8.mono hleu_13) (ha_7.mono RU8.mono hleu_13) _ hr_30) rfl (fun u_31 Ku_31 Hu_31 hRu_31 hleu_31 hfu_31 => ?_)
            obtain ⟨aoz_32, nz_32, capz_32, aor_33, nr_33, capr_33, Kr_33, aor_34, nr_34, capr_34, Kr_34, rfl, rfl, hz_32, hr_33, hnewr_33, hr_34, hnewr_34, -⟩ := hRu_31
            replace hr_33 := (RowOf.base (RowOf.mono R_Write.mono (New.call hleu_13) hr_33) (fun p hp => (hfu_31 p (mem_seg 0 rfl hp)).resolve_left (hnewr_33 p hp)))
            replace hr_34 := (RowOf.base (RowOf.const (H2 := New H Hu_31) RU8.const hr_34) (fun p hp => (hfu_31 p (mem_seg 1 rfl hp)).resolve_left (hnewr_34 p hp)))
            replace hz_32 := IsSlice.mono (RSl.mono RU8.mono) (New.call hleu_13) hz_32
            refine JL.val rfl rfl (R.move rfl) ?_
            refine JL.val rfl rfl (R.extract rfl rfl) ?_
            refine JL.val rfl rfl (R.extract rfl rfl) ?_
            refine JL.val rfl rfl (R.extract rfl rfl) ?_
            refine JL.alloc Z29 rfl (fun b_35 hb_35 => ?_)
            refine JL.alloc Z33 rfl (fun b_36 hb_36 => ?_)
            refine JL.store 1 S29 rfl rfl rfl rfl rfl (Nat.le_of_ble_eq_true rfl) ?_
            refine JL.store 0 S33 rfl rfl rfl rfl rfl (Nat.le_of_ble_eq_true rfl) ?_
            refine JL.val rfl rfl (R.assign rfl) ?_
            refine JL.nil ?_
            refine JN.next ?_
            refine JC.seq ?_
            obtain ⟨t_37, ht_39, hx⟩ := bnd_some hx
            refine JC.cut (fun l o g => l = [(1, .int .u32 (p_5.toNat : Int)), (2, .slice aoa_7 na_7 capa_7), (3, .slice aoa_9 na_9 capa_9), (9, .bool x_11), (10, .slice aor_28 nr_28 capr_28), (11, .int .i64 x_25.2), (12, .pointer (some ⟨b_35, 0, none⟩)), (13, .pointer (some ⟨b_36, 0, none⟩)), (14, .int .i64 x_29.2.2), (15, .bool t_37)] ∧ o = [Kr_28, [(b_35, .cells #[.slice aoz_32 nz_32 capz_32, .slice aor_33 nr_33 capr_33, .slice aor_34 nr_34 capr_34, .int .u32 (x_29.1.Epoch.toNat : Int), .int .u32 (x_29.1.Count.toNat : Int)] 29 (0, 0))], Kr_33, Kr_34, [(b_36, .cells #[.int .i64 x_29.2.1.At, .int .u32 (x_29.2.1.Birth.toNat : Int), .int .u32 (x_29.2.1.Iv.toNat : Int), .int .u32 (x_29.2.1.Tag.toNat : Int), .int .u32 (x_29.2.1.Sum.toNat : Int)] 33 (0, 0))]] ∧ Hu_31 = g) ?_ ?_
            · rintro _ _ _ ⟨rfl, rfl, rfl⟩
              refine JN.next ?_
              refine JC.seq ?_
              refine JC.seq ?_
              refine JC.region ?_
              refine JL.val rfl rfl (R.move rfl) ?_
              refine JL.val rfl rfl (R.neq_i rfl rfl) ?_
              refine JL.val rfl rfl (R.move rfl) ?_
              refine JL.gSplit (t := 83) rfl (fun c_44 => ?_) (fun c_44 => ?_)
              · replace hx := cond_t c_44 hx
                refine JL.gNo rfl rfl rfl rfl rfl ?_
                refine JL.gNo rfl rfl rfl rfl rfl ?_
                refine JL.gNo rfl rfl rfl rfl rfl ?_
                refine JL.gNo rfl rfl rfl rfl rfl ?_
                refine JL.val rfl rfl (R.pickT rfl rfl) ?_
                refine JL.nil ?_
                refine JN.next ?_
                refine JC.condT rfl ?_
                refine JC.seq ?_
                refine JC.region ?_
                refine JL.val rfl rfl (R.assign rfl) ?_
                refine JL.nil ?_
                refine JN.next ?_
                refine JC.ret ?_
                refine JN.passR ?_
                refine JN.outP (vs := [.bool false]) (K := []) (rst := [_, _, _, _, _]) (.inl rfl) rfl rfl (Res.tmp rfl rfl) picks0 ?_
                obtain rfl := Option.some.inj hx
                exact ⟨rfl, rfl, trivial⟩
              · replace hx := cond_f c_44 hx
                refine JL.gYes rfl rfl rfl ?_
                refine JL.val rfl rfl (R.move rfl) ?_
                refine JL.gYes rfl rfl rfl ?_
                refine JL.val rfl rfl (R.eql_i rfl rfl) ?_
                refine JL.gYes rfl rfl rfl ?_
                refine JL.val rfl rfl (R.move rfl) ?_
                refine JL.gYes rfl rfl rfl ?_
                refine JL.val rfl rfl (R.neqBool U4 rfl rfl) ?_
                refine JL.val rfl rfl (R.pickF rfl rfl) ?_
                refine JL.nil ?_
                refine JN.next ?_
                refine JC.condB rfl (fun c_45 => ?_) (fun c_45 => ?_)
                · replace hx := cond_t c_45 hx
                  refine JC.seq ?_
                  refine JC.region ?_
                  refine JL.val rfl rfl (R.assign rfl) ?_
                  refine JL.nil ?_
                  refine JN.next ?_
                  refine JC.ret ?_
                  refine JN.passR ?_
                  refine JN.outP (vs := [.bool false]) (K := []) (rst := [_, _, _, _, _]) (.inl rfl) rfl rfl (Res.tmp rfl rfl) picks0 ?_
                  obtain rfl := Option.some.inj hx
                  exact ⟨rfl, rfl, trivial⟩
                · replace hx := cond_f c_45 hx
                  refine JC.skip ?_
                  refine JN.next ?_
                  refine JC.seq ?_
                  refine JC.seq ?_
                  refine JC.region ?_
                  refine JL.val rfl rfl (R.move rfl) ?_
                  refine JL.val rfl rfl (R.neq_i rfl rfl) ?_
                  refine JL.nil ?_
                  refine JN.next ?_
                  refine JC.condB rfl (fun c_46 => ?_) (fun c_46 => ?_)
                  · replace hx := cond_t c_46 hx
                    refine JC.seq ?_
                    obtain ⟨t_47, ht_49, hx⟩ := bnd_some hx
                    refine JC.cut (fun l o g => l = [(8, .bool t_47)] ∧ o = [] ∧ Hu_31 = g) ?_ ?_
                    · rintro _ _ _ ⟨rfl, rfl, rfl⟩
                      refine JN.next ?_
                      refine JC.ret ?_
                      refine JN.passR ?_
                      refine JN.outP (vs := [.bool t_47]) (K := []) (rst := []) (.inl rfl) rfl rfl (Res.tmp rfl rfl) picks0 ?_
                      obtain rfl := Option.some.inj hx
                      exact ⟨rfl, rfl, trivial⟩
                    · have hxo_48 := hx; clear hx; have hx := ht_49; clear ht_49
                      refine JC.region ?_
                      refine JL.val rfl rfl (R.move rfl) ?_
                      refine JL.val rfl rfl (R.move rfl) ?_
                      refine JL.gSplit (t := 92) rfl (fun c_50 => ?_) (fun c_50 => ?_)
                      · replace hx := cond_t c_50 hx
                        refine JL.gYes rfl rfl rfl ?_
                        refine JL.val rfl rfl (R.fa F29_1 rfl) ?_
                        refine JL.gYes rfl rfl rfl ?_
                        refine JL.val rfl rfl (R.ldo 1 S26 rfl rfl rfl) ?_
                        refine JL.gYes rfl rfl rfl ?_
                        refine JL.val rfl rfl (R.lenL U26 rfl (RowOf.long hr_34)) ?_
                        refine JL.gYes rfl rfl rfl ?_
                        refine JL.val rfl rfl (R.eql_i rfl rfl) ?_
                        refine JL.val rfl rfl (R.pickT rfl rfl) ?_
                        refine JL.val rfl rfl (R.move rfl) ?_
                        refine JL.gSplit (t := 98) rfl (fun c_51 => ?_) (fun c_51 => ?_)
                        · replace hx := cond_t c_51 hx
                          refine JL.gYes rfl rfl rfl ?_
                          refine JL.val rfl rfl (R.ldoN 4 (vs := [.int .i64 x_29.2.1.At, .int .u32 (x_29.2.1.Birth.toNat : Int), .int .u32 (x_29.2.1.Iv.toNat : Int), .int .u32 (x_29.2.1.Tag.toNat : Int), .int .u32 (x_29.2.1.Sum.toNat : Int)]) S33 rfl rfl rfl rfl) ?_
                          refine JL.gYes rfl rfl rfl ?_
                          refine JL.val rfl rfl (R.bldP (vs := []) (cs := [.int .i64 0, .int .u32 ((0 : UInt32).toNat : Int), .int .u32 ((0 : UInt32).toNat : Int), .int .u32 ((0 : UInt32).toNat : Int), .int .u32 ((0 : UInt32).toNat : Int)]) Z33 B33 rfl rfl rfl) ?_
                          refine JL.gYes rfl rfl rfl ?_
                          refine JL.val rfl rfl (R.eqlAgg QU33 QP33 QG33 QF33 rfl rfl (EqF.i (by decide) S3 U3 rfl rfl (EqF.u32 (a := x_29.2.1.Birth) (b := (0 : UInt32)) (by decide) S27 U27 rfl rfl (EqF.u32 (a := x_29.2.1.Iv) (b := (0 : UInt32)) (by decide) S27 U27 rfl rfl (EqF.u32 (a := x_29.2.1.Tag) (b := (0 : UInt32)) (by decide) S27 U27 rfl rfl (EqF.u32 (a := x_29.2.1.Sum) (b := (0 : UInt32)) (by decide) S27 U27 rfl rfl EqF.nil)))))) ?_
                          refine JL.val rfl rfl (R.pickT rfl rfl) ?_
                          refine JL.val rfl rfl (R.assign rfl) ?_
                          refine JL.nil ?_
                          obtain rfl := Option.some.inj hx
                          refine JN.forget 4 ?_
                          refine JN.forget 3 ?_
                          refine JN.forget 2 ?_
                          refine JN.forget 1 ?_
                          refine JN.forget 0 ?_
                          exact JN.cut ⟨rfl, rfl, rfl⟩ ⟨rfl, trivial⟩ rfl rfl
                        · replace hx := cond_f c_51 hx
                          refine JL.gNo rfl rfl rfl rfl rfl ?_
                          refine JL.gNo rfl rfl rfl rfl rfl ?_
                          refine JL.gNo rfl rfl rfl rfl rfl ?_
                          refine JL.val rfl rfl (R.pickF rfl rfl) ?_
                          refine JL.val rfl rfl (R.assign rfl) ?_
                          refine JL.nil ?_
                          obtain rfl := Option.some.inj hx
                          refine JN.forget 4 ?_
                          refine JN.forget 3 ?_
                          refine JN.forget 2 ?_
                          refine JN.forget 1 ?_
                          refine JN.forget 0 ?_
                          exact JN.cut ⟨rfl, rfl, rfl⟩ ⟨rfl, trivial⟩ rfl rfl
                      · replace hx := cond_f c_50 hx
                        refine JL.gNo rfl rfl rfl rfl rfl ?_
                        refine JL.gNo rfl rfl rfl rfl rfl ?_
                        refine JL.gNo rfl rfl rfl rfl rfl ?_
                        refine JL.gNo rfl rfl rfl rfl rfl ?_
                        refine JL.val rfl rfl (R.pickF rfl rfl) ?_
                        refine JL.val rfl rfl (R.move rfl) ?_
                        refine JL.gNo rfl rfl rfl rfl rfl ?_
                        refine JL.gNo rfl rfl rfl rfl rfl ?_
                        refine JL.gNo rfl rfl rfl rfl rfl ?_
                        refine JL.val rfl rfl (R.pickF rfl rfl) ?_
                        refine JL.val rfl rfl (R.assign rfl) ?_
                        refine JL.nil ?_
                        obtain rfl := Option.some.inj hx
                        refine JN.forget 4 ?_
                        refine JN.forget 3 ?_
                        refine JN.forget 2 ?_
                        refine JN.forget 1 ?_
                        refine JN.forget 0 ?_
                        exact JN.cut ⟨rfl, rfl, rfl⟩ ⟨rfl, trivial⟩ rfl rfl
                  · replace hx := cond_f c_46 hx
                    refine JC.skip ?_
                    refine JN.next ?_
                    refine JC.seq ?_
                    refine JC.region ?_
                    refine JL.val rfl rfl (R.ldoN 1 (vs := [.slice aoz_32 nz_32 capz_32, .slice aor_33 nr_33 capr_33, .slice aor_34 nr_34 capr_34, .int .u32 (x_29.1.Epoch.toNat : Int), .int .u32 (x_29.1.Count.toNat : Int)]) S29 rfl rfl rfl rfl) ?_
                    refine JL.val rfl rfl (R.move rfl) ?_
                    refine JL.val rfl rfl (R.move rfl) ?_
                    refine JL.pubN 2 R_Write.mono rfl hr_33 (Nat.le_refl _) (fun H_52 hleH_52 hsH_52 => ?_)
                    refine JL.forget 2 ?_
                    refine JL.pubN 2 RU8.mono rfl (hr_34.mono RU8.mono (New.mono hleH_52)) (Nat.le_refl _) (fun H_53 hleH_53 hsH_53 => ?_)
                    refine JL.forget 2 ?_
                    obtain ⟨x_54, hr_55, hx⟩ := bnd_some hx
                    refine JL.callC (vs := [_, _, _]) (args := [_, _, _]) (K := []) (rst := [_, _, _]) E10 rfl rfl rfl picks0 (store_Lay_ok x_29.1 p_5 p_8 _ ((hz_32.mono (RSl.mono RU8.mono) (New.mono (hleH_52.trans hleH_53))).old (RSl.mono RU8.mono)) ((hsH_52.mono R_Write.mono (New.mono hleH_53)).old R_Write.mono) (hsH_53.old RU8.mono) (ha_9.mono RU8.mono (hleu_13.trans (hleu_31.trans (hleH_52.trans hleH_53)))) _ hr_55) rfl (fun u_56 Ku_56 Hu_56 hRu_56 hleu_56 hfu_56 => ?_)
                    obtain ⟨aoz_57, nz_57, capz_57, aor_58, nr_58, capr_58, Kr_58, aor_59, nr_59, capr_59, Kr_59, rfl, rfl, hz_57, hr_58, hnewr_58, hr_59, hnewr_59, -⟩ := hRu_56
                    replace hr_58 := (RowOf.base (RowOf.mono R_Write.mono (New.call (hleu_13.trans (hleu_31.trans (hleH_52.trans hleH_53)))) hr_58) (fun p hp => (hfu_56 p (mem_seg 0 rfl hp)).resolve_left (hnewr_58 p hp)))
                    replace hr_59 := (RowOf.base (RowOf.const (H2 := New H Hu_56) RU8.const hr_59) (fun p hp => (hfu_56 p (mem_seg 1 rfl hp)).resolve_left (hnewr_59 p hp)))
                    replace hz_57 := IsSlice.mono (RSl.mono RU8.mono) (New.call (hleu_13.trans (hleu_31.trans (hleH_52.trans hleH_53)))) hz_57
                    refine JL.val rfl rfl (R.move rfl) ?_
                    refine JL.val rfl rfl (R.extract rfl rfl) ?_
                    refine JL.val rfl rfl (R.extract rfl rfl) ?_
                    refine JL.val rfl rfl (R.extract rfl rfl) ?_
                    refine JL.alloc Z29 rfl (fun b_60 hb_60 => ?_)
                    refine JL.alloc Z33 rfl (fun b_61 hb_61 => ?_)
                    refine JL.store 1 S29 rfl rfl rfl rfl rfl (Nat.le_of_ble_eq_true rfl) ?_
                    refine JL.store 0 S33 rfl rfl rfl rfl rfl (Nat.le_of_ble_eq_true rfl) ?_
                    refine JL.val rfl rfl (R.assign rfl) ?_
                    refine JL.nil ?_
                    refine JN.next ?_
                    refine JC.seq ?_
                    refine JC.seq ?_
                    refine JC.region ?_
                    refine JL.val rfl rfl (R.move rfl) ?_
                    refine JL.val rfl rfl (R.neq_i rfl rfl) ?_
                    refine JL.nil ?_
                    refine JN.next ?_
                    refine JC.condB rfl (fun c_62 => ?_) (fun c_62 => ?_)
                    · replace hx := cond_t c_62 hx
                      refine JC.seq ?_
                      obtain ⟨t_63, ht_65, hx⟩ := bnd_some hx
                      refine JC.cut (fun l o g => l = [(8, .bool t_63)] ∧ o = [] ∧ Hu_56 = g) ?_ ?_
                      · rintro _ _ _ ⟨rfl, rfl, rfl⟩
                        refine JN.next ?_
                        refine JC.ret ?_
                        refine JN.passR ?_
                        refine JN.outP (vs := [.bool t_63]) (K := []) (rst := []) (.inl rfl) rfl rfl (Res.tmp rfl rfl) picks0 ?_
                        obtain rfl := Option.some.inj hx
                        exact ⟨rfl, rfl, trivial⟩
                      · have hxo_64 := hx; clear hx; have hx := ht_65; clear ht_65
                        refine JC.draw (so := [_, _, _, _, _, _, _]) 10 rfl Mixed ⟨⟨0, rfl⟩, ⟨1, rfl⟩, ⟨2, rfl⟩, ⟨3, rfl⟩, ⟨4, rfl⟩, ⟨5, rfl⟩, ⟨6, rfl⟩, trivial⟩ ?_
                        refine JA.val ⟨by kernel_rfl, by kernel_rfl⟩ (calm_only _) (i := 0) rfl ⟨by kernel_rfl, by kernel_rfl, rfl⟩ trivial (stab_of (Hle.refl _) ⟨⟨0, rfl⟩, ⟨1, rfl⟩, ⟨2, rfl⟩, ⟨3, rfl⟩, ⟨4, rfl⟩, ⟨5, rfl⟩, ⟨6, rfl⟩, trivial⟩) (R.move rfl) rfl ?_
                        refine JA.val ⟨by kernel_rfl, by kernel_rfl⟩ (calm_only _) (i := 1) rfl ⟨by kernel_rfl, by kernel_rfl, rfl⟩ trivial (stab_of (Hle.refl _) ⟨⟨0, rfl⟩, ⟨1, rfl⟩, ⟨2, rfl⟩, ⟨3, rfl⟩, ⟨4, rfl⟩, ⟨5, rfl⟩, ⟨6, rfl⟩, trivial⟩) (R.move rfl) rfl ?_
                        refine JA.gSplit (t := 114) rfl (fun c_66 => ?_) (fun c_66 => ?_)
                        · replace hx := cond_t c_66 hx
                          refine JA.val ⟨by kernel_rfl, by kernel_rfl⟩ (calm_only _) (i := 2) rfl ⟨by kernel_rfl, by kernel_rfl, rfl⟩ ⟨_, _, rfl, rfl, rfl⟩ (stab_of (Hle.refl _) ⟨⟨0, rfl⟩, ⟨1, rfl⟩, ⟨2, rfl⟩, ⟨3, rfl⟩, ⟨4, rfl⟩, ⟨5, rfl⟩, ⟨6, rfl⟩, trivial⟩) (R.fa F33_0 rfl) rfl ?_
                          refine JA.val ⟨by kernel_rfl, by kernel_rfl⟩ (calm_only _) (i := 3) rfl ⟨by kernel_rfl, by kernel_rfl, rfl⟩ ⟨_, _, rfl, rfl, rfl⟩ (stab_of (Hle.refl _) ⟨⟨0, rfl⟩, ⟨1, rfl⟩, ⟨2, rfl⟩, ⟨3, rfl⟩, ⟨4, rfl⟩, ⟨5, rfl⟩, ⟨6, rfl⟩, trivial⟩) (R.ldo 6 S3 rfl rfl rfl) rfl ?_
                          refine JA.val ⟨by kernel_rfl, by kernel_rfl⟩ (calm_only _) (i := 4) rfl ⟨by kernel_rfl, by kernel_rfl, rfl⟩ ⟨_, _, rfl, rfl, rfl⟩ (stab_of (Hle.refl _) ⟨⟨0, rfl⟩, ⟨1, rfl⟩, ⟨2, rfl⟩, ⟨3, rfl⟩, ⟨4, rfl⟩, ⟨5, rfl⟩, ⟨6, rfl⟩, trivial⟩) (R.move rfl) rfl ?_
                          obtain ⟨y_67, hN_68, hx⟩ := idx_some hx
                          obtain ⟨b_69, o_70, cs_71, cur_76, hK_77, hE_72, hR_73, hl_74, hc_75⟩ := RowOf.elem (hr_28.mono RInt.mono (New.mono (hleu_31.trans (hleH_52.trans (hleH_53.trans hleu_56))))) hN_68
                          subst hK_77
                          obtain rfl := hR_73
                          refine JA.val ⟨by kernel_rfl, by kernel_rfl⟩ (calm_only _) (i := 5) rfl ⟨by kernel_rfl, by kernel_rfl, rfl⟩ ⟨_, _, rfl, rfl, rfl⟩ (stab_of (Hle.refl _) ⟨⟨0, rfl⟩, ⟨1, rfl⟩, ⟨2, rfl⟩, ⟨3, rfl⟩, ⟨4, rfl⟩, ⟨5, rfl⟩, ⟨6, rfl⟩, trivial⟩) (R.ix U58 S3 rfl rfl hE_72) rfl ?_
                          refine JA.val ⟨by kernel_rfl, by kernel_rfl⟩ (calm_only _) (i := 6) rfl ⟨by kernel_rfl, by kernel_rfl, rfl⟩ ⟨_, _, rfl, rfl, rfl⟩ (stab_of (Hle.refl _) ⟨⟨0, rfl⟩, ⟨1, rfl⟩, ⟨2, rfl⟩, ⟨3, rfl⟩, ⟨4, rfl⟩, ⟨5, rfl⟩, ⟨6, rfl⟩, trivial⟩) (R.ldo 4 S3 rfl rfl (hc_75 0 _ rfl)) rfl ?_
                          refine JA.val ⟨by kernel_rfl, by kernel_rfl⟩ (calm_only _) (i := 7) rfl ⟨by kernel_rfl, by kernel_rfl, rfl⟩ ⟨_, _, rfl, rfl, rfl⟩ (stab_of (Hle.refl _) ⟨⟨0, rfl⟩, ⟨1, rfl⟩, ⟨2, rfl⟩, ⟨3, rfl⟩, ⟨4, rfl⟩, ⟨5, rfl⟩, ⟨6, rfl⟩, trivial⟩) (R.eql_i rfl rfl) rfl ?_
                          refine JA.val ⟨by kernel_rfl, by kernel_rfl⟩ (calm_only _) (i := 8) rfl ⟨by kernel_rfl, by kernel_rfl, rfl⟩ trivial (stab_of (Hle.refl _) ⟨⟨0, rfl⟩, ⟨1, rfl⟩, ⟨2, rfl⟩, ⟨3, rfl⟩, ⟨4, rfl⟩, ⟨5, rfl⟩, ⟨6, rfl⟩, trivial⟩) (R.pickT rfl rfl) rfl ?_
                          refine JA.val ⟨by kernel_rfl, by kernel_rfl⟩ (calm_only _) (i := 9) rfl ⟨by kernel_rfl, by kernel_rfl, rfl⟩ trivial (stab_of (Hle.refl _) ⟨⟨0, rfl⟩, ⟨1, rfl⟩, ⟨2, rfl⟩, ⟨3, rfl⟩, ⟨4, rfl⟩, ⟨5, rfl⟩, ⟨6, rfl⟩, trivial⟩) (R.assign rfl) rfl ?_
                          refine JA.doneN (by kernel_rfl) ?_
                          obtain rfl := Option.some.inj hx
                          refine JN.forget 6 ?_
                          refine JN.forget 5 ?_
                          refine JN.forget 4 ?_
                          refine JN.forget 3 ?_
                          refine JN.forget 2 ?_
                          refine JN.forget 1 ?_
                          refine JN.forget 0 ?_
                          exact JN.cut ⟨rfl, rfl, rfl⟩ ⟨rfl, trivial⟩ rfl rfl
                        · replace hx := cond_f c_66 hx
                          refine JA.no ⟨by kernel_rfl, by kernel_rfl⟩ (calm_only _) (i := 2) rfl ⟨by kernel_rfl, by kernel_rfl, rfl⟩ rfl rfl rfl rfl (stab_of (Hle.refl _) ⟨⟨0, rfl⟩, ⟨1, rfl⟩, ⟨2, rfl⟩, ⟨3, rfl⟩, ⟨4, rfl⟩, ⟨5, rfl⟩, ⟨6, rfl⟩, trivial⟩) rfl ?_
                          refine JA.no ⟨by kernel_rfl, by kernel_rfl⟩ (calm_only _) (i := 3) rfl ⟨by kernel_rfl, by kernel_rfl, rfl⟩ rfl rfl rfl rfl (stab_of (Hle.refl _) ⟨⟨0, rfl⟩, ⟨1, rfl⟩, ⟨2, rfl⟩, ⟨3, rfl⟩, ⟨4, rfl⟩, ⟨5, rfl⟩, ⟨6, rfl⟩, trivial⟩) rfl ?_
                          refine JA.no ⟨by kernel_rfl, by kernel_rfl⟩ (calm_only _) (i := 4) rfl ⟨by kernel_rfl, by kernel_rfl, rfl⟩ rfl rfl rfl rfl (stab_of (Hle.refl _) ⟨⟨0, rfl⟩, ⟨1, rfl⟩, ⟨2, rfl⟩, ⟨3, rfl⟩, ⟨4, rfl⟩, ⟨5, rfl⟩, ⟨6, rfl⟩, trivial⟩) rfl ?_
                          refine JA.no ⟨by kernel_rfl, by kernel_rfl⟩ (calm_only _) (i := 5) rfl ⟨by kernel_rfl, by kernel_rfl, rfl⟩ rfl rfl rfl rfl (stab_of (Hle.refl _) ⟨⟨0, rfl⟩, ⟨1, rfl⟩, ⟨2, rfl⟩, ⟨3, rfl⟩, ⟨4, rfl⟩, ⟨5, rfl⟩, ⟨6, rfl⟩, trivial⟩) rfl ?_
                          refine JA.no ⟨by kernel_rfl, by kernel_rfl⟩ (calm_only _) (i := 6) rfl ⟨by kernel_rfl, by kernel_rfl, rfl⟩ rfl rfl rfl rfl (stab_of (Hle.refl _) ⟨⟨0, rfl⟩, ⟨1, rfl⟩, ⟨2, rfl⟩, ⟨3, rfl⟩, ⟨4, rfl⟩, ⟨5, rfl⟩, ⟨6, rfl⟩, trivial⟩) rfl ?_
                          refine JA.no ⟨by kernel_rfl, by kernel_rfl⟩ (calm_only _) (i := 7) rfl ⟨by kernel_rfl, by kernel_rfl, rfl⟩ rfl rfl rfl rfl (stab_of (Hle.refl _) ⟨⟨0, rfl⟩, ⟨1, rfl⟩, ⟨2, rfl⟩, ⟨3, rfl⟩, ⟨4, rfl⟩, ⟨5, rfl⟩, ⟨6, rfl⟩, trivial⟩) rfl ?_
                          refine JA.val ⟨by kernel_rfl, by kernel_rfl⟩ (calm_only _) (i := 8) rfl ⟨by kernel_rfl, by kernel_rfl, rfl⟩ trivial (stab_of (Hle.refl _) ⟨⟨0, rfl⟩, ⟨1, rfl⟩, ⟨2, rfl⟩, ⟨3, rfl⟩, ⟨4, rfl⟩, ⟨5, rfl⟩, ⟨6, rfl⟩, trivial⟩) (R.pickF rfl rfl) rfl ?_
                          refine JA.val ⟨by kernel_rfl, by kernel_rfl⟩ (calm_only _) (i := 9) rfl ⟨by kernel_rfl, by kernel_rfl, rfl⟩ trivial (stab_of (Hle.refl _) ⟨⟨0, rfl⟩, ⟨1, rfl⟩, ⟨2, rfl⟩, ⟨3, rfl⟩, ⟨4, rfl⟩, ⟨5, rfl⟩, ⟨6, rfl⟩, trivial⟩) (R.assign rfl) rfl ?_
                          refine JA.doneN (by kernel_rfl) ?_
                          obtain rfl := Option.some.inj hx
                          refine JN.forget 6 ?_
                          refine JN.forget 5 ?_
                          refine JN.forget 4 ?_
                          refine JN.forget 3 ?_
                          refine JN.forget 2 ?_
                          refine JN.forget 1 ?_
                          refine JN.forget 0 ?_
                          exact JN.cut ⟨rfl, rfl, rfl⟩ ⟨rfl, trivial⟩ rfl rfl
                    · replace hx := cond_f c_62 hx
                      refine JC.skip ?_
                      refine JN.next ?_
                      refine JC.seq ?_
                      refine JC.region ?_
                      refine JL.val rfl rfl (R.ldoN 1 (vs := [.slice aoz_57 nz_57 capz_57, .slice aor_58 nr_58 capr_58, .slice aor_59 nr_59 capr_59, .int .u32 (x_54.1.Epoch.toNat : Int), .int .u32 (x_54.1.Count.toNat : Int)]) S29 rfl rfl rfl rfl) ?_
                      refine JL.val rfl rfl (R.ldoN 6 (vs := [.int .i64 x_29.2.1.At, .int .u32 (x_29.2.1.Birth.toNat : Int), .int .u32 (x_29.2.1.Iv.toNat : Int), .int .u32 (x_29.2.1.Tag.toNat : Int), .int .u32 (x_29.2.1.Sum.toNat : Int)]) S33 rfl rfl rfl rfl) ?_
                      refine JL.pubN 2 R_Write.mono rfl hr_58 (Nat.le_refl _) (fun H_78 hleH_78 hsH_78 => ?_)
                      refine JL.forget 2 ?_
                      refine JL.pubN 2 RU8.mono rfl (hr_59.mono RU8.mono (New.mono hleH_78)) (Nat.le_refl _) (fun H_79 hleH_79 hsH_79 => ?_)
                      refine JL.forget 2 ?_
                      obtain ⟨x_80, hr_81, hx⟩ := bnd_some hx
                      refine JL.callC (vs := [_, _]) (args := [_, _]) (K := []) (rst := [_, _, _, _, _]) E20 rfl rfl rfl picks0 (store_Look_ok x_54.1 x_29.2.1 _ ((hz_57.mono (RSl.mono RU8.mono) (New.mono (hleH_78.trans hleH_79))).old (RSl.mono RU8.mono)) ((hsH_78.mono R_Write.mono (New.mono hleH_79)).old R_Write.mono) (hsH_79.old RU8.mono) _ hr_81) rfl (fun u_82 Ku_82 Hu_82 hRu_82 hleu_82 hfu_82 => ?_)
                      obtain ⟨aoz_83, nz_83, capz_83, rfl, rfl, hz_83, -⟩ := hRu_82
                      replace hz_83 := IsSlice.mono RU8.mono (New.call (hleu_13.trans (hleu_31.trans (hleH_52.trans (hleH_53.trans (hleu_56.trans (hleH_78.trans hleH_79))))))) hz_83
                      refine JL.val rfl rfl (R.move rfl) ?_
                      refine JL.val rfl rfl (R.extract rfl rfl) ?_
                      refine JL.val rfl rfl (R.extract rfl rfl) ?_
                      refine JL.val rfl rfl (R.assign rfl) ?_
                      refine JL.val rfl rfl (R.assign rfl) ?_
                      refine JL.nil ?_
                      refine JN.next ?_
                      refine JC.seq ?_
                      refine JC.region ?_
                      refine JL.val rfl rfl (R.ldoN 1 (vs := [.slice aoz_57 nz_57 capz_57, .slice aor_58 nr_58 capr_58, .slice aor_59 nr_59 capr_59, .int .u32 (x_54.1.Epoch.toNat : Int), .int .u32 (x_54.1.Count.toNat : Int)]) S29 rfl rfl rfl rfl) ?_
                      refine JL.val rfl rfl (R.ldoN 0 (vs := [.int .i64 x_54.2.1.At, .int .u32 (x_54.2.1.Birth.toNat : Int), .int .u32 (x_54.2.1.Iv.toNat : Int), .int .u32 (x_54.2.1.Tag.toNat : Int), .int .u32 (x_54.2.1.Sum.toNat : Int)]) S33 rfl rfl rfl rfl) ?_
                      obtain ⟨x_84, hr_85, hx⟩ := bnd_some hx
                      refine JL.callC (vs := [_, _]) (args := [_, _]) (K := []) (rst := [_, _, _, _, _]) E20 rfl rfl rfl picks0 (store_Look_ok x_54.1 x_54.2.1 _ ((hz_57.mono (RSl.mono RU8.mono) (New.mono (hleH_78.trans (hleH_79.trans hleu_82)))).old (RSl.mono RU8.mono)) ((hsH_78.mono R_Write.mono (New.mono (hleH_79.trans hleu_82))).old R_Write.mono) ((hsH_79.mono RU8.mono (New.mono hleu_82)).old RU8.mono) _ hr_85) rfl (fun u_86 Ku_86 Hu_86 hRu_86 hleu_86 hfu_86 => ?_)
                      obtain ⟨aoz_87, nz_87, capz_87, rfl, rfl, hz_87, -⟩ := hRu_86
                      replace hz_87 := IsSlice.mono RU8.mono (New.call (hleu_13.trans (hleu_31.trans (hleH_52.trans (hleH_53.trans (hleu_56.trans (hleH_78.trans (hleH_79.trans hleu_82)))))))) hz_87
                      refine JL.val rfl rfl (R.move rfl) ?_
                      refine JL.val rfl rfl (R.extract rfl rfl) ?_
                      refine JL.val rfl rfl (R.extract rfl rfl) ?_
                      refine JL.val rfl rfl (R.assign rfl) ?_
                      refine JL.val rfl rfl (R.assign rfl) ?_
                      refine JL.nil ?_
                      refine JN.next ?_
                      refine JC.seq ?_
                      obtain ⟨t_88, ht_90, hx⟩ := bnd_some hx
                      refine JC.cut (fun l o g => l = [(8, .bool t_88)] ∧ o = [] ∧ Hu_86 = g) ?_ ?_
                      · rintro _ _ _ ⟨rfl, rfl, rfl⟩
                        refine JN.next ?_
                        refine JC.ret ?_
                        refine JN.outP (vs := [.bool t_88]) (K := []) (rst := []) (.inl rfl) rfl rfl (Res.tmp rfl rfl) picks0 ?_
                        obtain rfl := Option.some.inj hx
                        exact ⟨rfl, rfl, trivial⟩
                      · have hxo_89 := hx; clear hx; have hx := ht_90; clear ht_90
                        refine JC.draw (so := [_, _, _, _, _]) 54 rfl Mixed ⟨⟨0, rfl⟩, ⟨1, rfl⟩, ⟨2, rfl⟩, ⟨3, rfl⟩, ⟨4, rfl⟩, trivial⟩ ?_
                        refine JA.val ⟨by kernel_rfl, by kernel_rfl⟩ (calm_only _) (i := 0) rfl ⟨by kernel_rfl, by kernel_rfl, rfl⟩ trivial (stab_of (Hle.refl _) ⟨⟨0, rfl⟩, ⟨1, rfl⟩, ⟨2, rfl⟩, ⟨3, rfl⟩, ⟨4, rfl⟩, trivial⟩) (R.move rfl) rfl ?_
                        refine JA.val ⟨by kernel_rfl, by kernel_rfl⟩ (calm_only _) (i := 1) rfl ⟨by kernel_rfl, by kernel_rfl, rfl⟩ trivial (stab_of (Hle.refl _) ⟨⟨0, rfl⟩, ⟨1, rfl⟩, ⟨2, rfl⟩, ⟨3, rfl⟩, ⟨4, rfl⟩, trivial⟩) (R.move rfl) rfl ?_
                        refine JA.gSplit (t := 135) rfl (fun c_91 => ?_) (fun c_91 => ?_)
                        · replace hx := cond_t c_91 hx
                          refine JA.val ⟨by kernel_rfl, by kernel_rfl⟩ (calm_only _) (i := 2) rfl ⟨by kernel_rfl, by kernel_rfl, rfl⟩ ⟨_, _, rfl, rfl, rfl⟩ (stab_of (Hle.refl _) ⟨⟨0, rfl⟩, ⟨1, rfl⟩, ⟨2, rfl⟩, ⟨3, rfl⟩, ⟨4, rfl⟩, trivial⟩) (R.fa F33_0 rfl) rfl ?_
                          refine JA.val ⟨by kernel_rfl, by kernel_rfl⟩ (calm_only _) (i := 3) rfl ⟨by kernel_rfl, by kernel_rfl, rfl⟩ ⟨_, _, rfl, rfl, rfl⟩ (stab_of (Hle.refl _) ⟨⟨0, rfl⟩, ⟨1, rfl⟩, ⟨2, rfl⟩, ⟨3, rfl⟩, ⟨4, rfl⟩, trivial⟩) (R.ldo 4 S3 rfl rfl rfl) rfl ?_
                          refine JA.val ⟨by kernel_rfl, by kernel_rfl⟩ (calm_only _) (i := 4) rfl ⟨by kernel_rfl, by kernel_rfl, rfl⟩ ⟨_, _, rfl, rfl, rfl⟩ (stab_of (Hle.refl _) ⟨⟨0, rfl⟩, ⟨1, rfl⟩, ⟨2, rfl⟩, ⟨3, rfl⟩, ⟨4, rfl⟩, trivial⟩) (R.move rfl) rfl ?_
                          obtain ⟨y_92, hN_93, hx⟩ := idx_some hx
                          obtain ⟨b_94, o_95, cs_96, cur_101, hK_102, hE_97, hR_98, hl_99, hc_100⟩ := RowOf.elem (hr_28.mono RInt.mono (New.mono (hleu_31.trans (hleH_52.trans (hleH_53.trans (hleu_56.trans (hleH_78.trans (hleH_79.trans (hleu_82.trans hleu_86))))))))) hN_93
                          subst hK_102
                          obtain rfl := hR_98
                          refine JA.val ⟨by kernel_rfl, by kernel_rfl⟩ (calm_only _) (i := 5) rfl ⟨by kernel_rfl, by kernel_rfl, rfl⟩ ⟨_, _, rfl, rfl, rfl⟩ (stab_of (Hle.refl _) ⟨⟨0, rfl⟩, ⟨1, rfl⟩, ⟨2, rfl⟩, ⟨3, rfl⟩, ⟨4, rfl⟩, trivial⟩) (R.ix U58 S3 rfl rfl hE_97) rfl ?_
                          refine JA.val ⟨by kernel_rfl, by kernel_rfl⟩ (calm_only _) (i := 6) rfl ⟨by kernel_rfl, by kernel_rfl, rfl⟩ ⟨_, _, rfl, rfl, rfl⟩ (stab_of (Hle.refl _) ⟨⟨0, rfl⟩, ⟨1, rfl⟩, ⟨2, rfl⟩, ⟨3, rfl⟩, ⟨4, rfl⟩, trivial⟩) (R.ldo 2 S3 rfl rfl (hc_100 0 _ rfl)) rfl ?_
                          refine JA.val ⟨by kernel_rfl, by kernel_rfl⟩ (calm_only _) (i := 7) rfl ⟨by kernel_rfl, by kernel_rfl, rfl⟩ ⟨_, _, rfl, rfl, rfl⟩ (stab_of (Hle.refl _) ⟨⟨0, rfl⟩, ⟨1, rfl⟩, ⟨2, rfl⟩, ⟨3, rfl⟩, ⟨4, rfl⟩, trivial⟩) (R.eql_i rfl rfl) rfl ?_
                          refine JA.val ⟨by kernel_rfl, by kernel_rfl⟩ (calm_only _) (i := 8) rfl ⟨by kernel_rfl, by kernel_rfl, rfl⟩ trivial (stab_of (Hle.refl _) ⟨⟨0, rfl⟩, ⟨1, rfl⟩, ⟨2, rfl⟩, ⟨3, rfl⟩, ⟨4, rfl⟩, trivial⟩) (R.pickT rfl rfl) rfl ?_
                          refine JA.val ⟨by kernel_rfl, by kernel_rfl⟩ (calm_only _) (i := 9) rfl ⟨by kernel_rfl, by kernel_rfl, rfl⟩ trivial (stab_of (Hle.refl _) ⟨⟨0, rfl⟩, ⟨1, rfl⟩, ⟨2, rfl⟩, ⟨3, rfl⟩, ⟨4, rfl⟩, trivial⟩) (R.move rfl) rfl ?_
                          refine JA.gSplit (t := 143) rfl (fun c_103 => ?_) (fun c_103 => ?_)
                          · replace hx := cond_t c_103 hx
                            refine JA.val ⟨by kernel_rfl, by kernel_rfl⟩ (calm_only _) (i := 10) rfl ⟨by kernel_rfl, by kernel_rfl, rfl⟩ ⟨_, _, rfl, rfl, rfl⟩ (stab_of (Hle.refl _) ⟨⟨0, rfl⟩, ⟨1, rfl⟩, ⟨2, rfl⟩, ⟨3, rfl⟩, ⟨4, rfl⟩, trivial⟩) (R.fa F33_0 rfl) rfl ?_
                            refine JA.val ⟨by kernel_rfl, by kernel_rfl⟩ (calm_only _) (i := 11) rfl ⟨by kernel_rfl, by kernel_rfl, rfl⟩ ⟨_, _, rfl, rfl, rfl⟩ (stab_of (Hle.refl _) ⟨⟨0, rfl⟩, ⟨1, rfl⟩, ⟨2, rfl⟩, ⟨3, rfl⟩, ⟨4, rfl⟩, trivial⟩) (R.ldo 0 S3 rfl rfl rfl) rfl ?_
                            refine JA.val ⟨by kernel_rfl, by kernel_rfl⟩ (calm_only _) (i := 12) rfl ⟨by kernel_rfl, by kernel_rfl, rfl⟩ ⟨_, _, rfl, rfl, rfl⟩ (stab_of (Hle.refl _) ⟨⟨0, rfl⟩, ⟨1, rfl⟩, ⟨2, rfl⟩, ⟨3, rfl⟩, ⟨4, rfl⟩, trivial⟩) (R.move rfl) rfl ?_
                            obtain ⟨y_104, hN_105, hx⟩ := idx_some hx
                            obtain ⟨b_106, o_107, cs_108, cur_113, hK_114, hE_109, hR_110, hl_111, hc_112⟩ := RowOf.elem (hr_28.mono RInt.mono (New.mono (hleu_31.trans (hleH_52.trans (hleH_53.trans (hleu_56.trans (hleH_78.trans (hleH_79.trans (hleu_82.trans hleu_86))))))))) hN_105
                            obtain ⟨rfl, rfl⟩ : b_94 = b_106 ∧ cur_101 = cur_113 := by simpa using hK_114
                            obtain rfl := hR_110
                            refine JA.val ⟨by kernel_rfl, by kernel_rfl⟩ (calm_only _) (i := 13) rfl ⟨by kernel_rfl, by kernel_rfl, rfl⟩ ⟨_, _, rfl, rfl, rfl⟩ (stab_of (Hle.refl _) ⟨⟨0, rfl⟩, ⟨1, rfl⟩, ⟨2, rfl⟩, ⟨3, rfl⟩, ⟨4, rfl⟩, trivial⟩) (R.ix U58 S3 rfl rfl hE_109) rfl ?_
                            refine JA.val ⟨by kernel_rfl, by kernel_rfl⟩ (calm_only _) (i := 14) rfl ⟨by kernel_rfl, by kernel_rfl, rfl⟩ ⟨_, _, rfl, rfl, rfl⟩ (stab_of (Hle.refl _) ⟨⟨0, rfl⟩, ⟨1, rfl⟩, ⟨2, rfl⟩, ⟨3, rfl⟩, ⟨4, rfl⟩, trivial⟩) (R.ldo 2 S3 rfl rfl (hc_112 0 _ rfl)) rfl ?_
                            refine JA.val ⟨by kernel_rfl, by kernel_rfl⟩ (calm_only _) (i := 15) rfl ⟨by kernel_rfl, by kernel_rfl, rfl⟩ ⟨_, _, rfl, rfl, rfl⟩ (stab_of (Hle.refl _) ⟨⟨0, rfl⟩, ⟨1, rfl⟩, ⟨2, rfl⟩, ⟨3, rfl⟩, ⟨4, rfl⟩, trivial⟩) (R.eql_i rfl rfl) rfl ?_
                            refine JA.val ⟨by kernel_rfl, by kernel_rfl⟩ (calm_only _) (i := 16) rfl ⟨by kernel_rfl, by kernel_rfl, rfl⟩ trivial (stab_of (Hle.refl _) ⟨⟨0, rfl⟩, ⟨1, rfl⟩, ⟨2, rfl⟩, ⟨3, rfl⟩, ⟨4, rfl⟩, trivial⟩) (R.pickT rfl rfl) rfl ?_
                            refine JA.val ⟨by kernel_rfl, by kernel_rfl⟩ (calm_only _) (i := 17) rfl ⟨by kernel_rfl, by kernel_rfl, rfl⟩ trivial (stab_of (Hle.refl _) ⟨⟨0, rfl⟩, ⟨1, rfl⟩, ⟨2, rfl⟩, ⟨3, rfl⟩, ⟨4, rfl⟩, trivial⟩) (R.move rfl) rfl ?_
                            refine JA.gSplit (t := 151) rfl (fun c_115 => ?_) (fun c_115 => ?_)
                            · replace hx := cond_t c_115 hx
                              refine JA.val ⟨by kernel_rfl, by kernel_rfl⟩ (calm_only _) (i := 18) rfl ⟨by kernel_rfl, by kernel_rfl, rfl⟩ ⟨_, _, rfl, rfl, rfl⟩ (stab_of (Hle.refl _) ⟨⟨0, rfl⟩, ⟨1, rfl⟩, ⟨2, rfl⟩, ⟨3, rfl⟩, ⟨4, rfl⟩, trivial⟩) (R.move rfl) rfl ?_
                              refine JA.val ⟨by kernel_rfl, by kernel_rfl⟩ (calm_only _) (i := 19) rfl ⟨by kernel_rfl, by kernel_rfl, rfl⟩ ⟨_, _, rfl, rfl, rfl⟩ (stab_of (Hle.refl _) ⟨⟨0, rfl⟩, ⟨1, rfl⟩, ⟨2, rfl⟩, ⟨3, rfl⟩, ⟨4, rfl⟩, trivial⟩) (R.eql_i rfl rfl) rfl ?_
                              refine JA.val ⟨by kernel_rfl, by kernel_rfl⟩ (calm_only _) (i := 20) rfl ⟨by kernel_rfl, by kernel_rfl, rfl⟩ trivial (stab_of (Hle.refl _) ⟨⟨0, rfl⟩, ⟨1, rfl⟩, ⟨2, rfl⟩, ⟨3, rfl⟩, ⟨4, rfl⟩, trivial⟩) (R.pickT rfl rfl) rfl ?_
                              refine JA.val ⟨by kernel_rfl, by kernel_rfl⟩ (calm_only _) (i := 21) rfl ⟨by kernel_rfl, by kernel_rfl, rfl⟩ trivial (stab_of (Hle.refl _) ⟨⟨0, rfl⟩, ⟨1, rfl⟩, ⟨2, rfl⟩, ⟨3, rfl⟩, ⟨4, rfl⟩, trivial⟩) (R.move rfl) rfl ?_
                              refine JA.gSplit (t := 155) rfl (fun c_116 => ?_) (fun c_116 => ?_)
                              · replace hx := cond_t c_116 hx
                                refine JA.val ⟨by kernel_rfl, by kernel_rfl⟩ (calm_only _) (i := 22) rfl ⟨by kernel_rfl, by kernel_rfl, rfl⟩ ⟨_, _, rfl, rfl, rfl⟩ (stab_of (Hle.refl _) ⟨⟨0, rfl⟩, ⟨1, rfl⟩, ⟨2, rfl⟩, ⟨3, rfl⟩, ⟨4, rfl⟩, trivial⟩) (R.move rfl) rfl ?_
                                refine JA.val ⟨by kernel_rfl, by kernel_rfl⟩ (calm_only _) (i := 23) rfl ⟨by kernel_rfl, by kernel_rfl, rfl⟩ ⟨_, _, rfl, rfl, rfl⟩ (stab_of (Hle.refl _) ⟨⟨0, rfl⟩, ⟨1, rfl⟩, ⟨2, rfl⟩, ⟨3, rfl⟩, ⟨4, rfl⟩, trivial⟩) (R.eql_i rfl rfl) rfl ?_
                                refine JA.val ⟨by kernel_rfl, by kernel_rfl⟩ (calm_only _) (i := 24) rfl ⟨by kernel_rfl, by kernel_rfl, rfl⟩ trivial (stab_of (Hle.refl _) ⟨⟨0, rfl⟩, ⟨1, rfl⟩, ⟨2, rfl⟩, ⟨3, rfl⟩, ⟨4, rfl⟩, trivial⟩) (R.pickT rfl rfl) rfl ?_
                                refine JA.val ⟨by kernel_rfl, by kernel_rfl⟩ (calm_only _) (i := 25) rfl ⟨by kernel_rfl, by kernel_rfl, rfl⟩ trivial (stab_of (Hle.refl _) ⟨⟨0, rfl⟩, ⟨1, rfl⟩, ⟨2, rfl⟩, ⟨3, rfl⟩, ⟨4, rfl⟩, trivial⟩) (R.move rfl) rfl ?_
                                refine JA.gSplit (t := 159) rfl (fun c_117 => ?_) (fun c_117 => ?_)
                                · replace hx := cond_t c_117 hx
                                  refine JA.val ⟨by kernel_rfl, by kernel_rfl⟩ (calm_only _) (i := 26) rfl ⟨by kernel_rfl, by kernel_rfl, rfl⟩ ⟨_, _, rfl, rfl, rfl⟩ (stab_of (Hle.refl _) ⟨⟨0, rfl⟩, ⟨1, rfl⟩, ⟨2, rfl⟩, ⟨3, rfl⟩, ⟨4, rfl⟩, trivial⟩) (R.move rfl) rfl ?_
                                  refine JA.val ⟨by kernel_rfl, by kernel_rfl⟩ (calm_only _) (i := 27) rfl ⟨by kernel_rfl, by kernel_rfl, rfl⟩ ⟨_, _, rfl, rfl, rfl⟩ (stab_of (Hle.refl _) ⟨⟨0, rfl⟩, ⟨1, rfl⟩, ⟨2, rfl⟩, ⟨3, rfl⟩, ⟨4, rfl⟩, trivial⟩) (R.toStr U26 U5 U9 rfl ((hz_83.mono RU8.mono (New.mono hleu_86)).old RU8.mono)) rfl ?_
                                  refine JA.val ⟨by kernel_rfl, by kernel_rfl⟩ (calm_only _) (i := 28) rfl ⟨by kernel_rfl, by kernel_rfl, rfl⟩ ⟨_, _, rfl, rfl, rfl⟩ (stab_of (Hle.refl _) ⟨⟨0, rfl⟩, ⟨1, rfl⟩, ⟨2, rfl⟩, ⟨3, rfl⟩, ⟨4, rfl⟩, trivial⟩) (R.move rfl) rfl ?_
                                  refine JA.val ⟨by kernel_rfl, by kernel_rfl⟩ (calm_only _) (i := 29) rfl ⟨by kernel_rfl, by kernel_rfl, rfl⟩ ⟨_, _, rfl, rfl, rfl⟩ (stab_of (Hle.refl _) ⟨⟨0, rfl⟩, ⟨1, rfl⟩, ⟨2, rfl⟩, ⟨3, rfl⟩, ⟨4, rfl⟩, trivial⟩) (R.toStr U26 U5 U9 rfl (ha_7.mono RU8.mono (hleu_13.trans (hleu_31.trans (hleH_52.trans (hleH_53.trans (hleu_56.trans (hleH_78.trans (hleH_79.trans (hleu_82.trans hleu_86)))))))))) rfl ?_
                                  refine JA.val ⟨by kernel_rfl, by kernel_rfl⟩ (calm_only _) (i := 30) rfl ⟨by kernel_rfl, by kernel_rfl, rfl⟩ ⟨_, _, rfl, rfl, rfl⟩ (stab_of (Hle.refl _) ⟨⟨0, rfl⟩, ⟨1, rfl⟩, ⟨2, rfl⟩, ⟨3, rfl⟩, ⟨4, rfl⟩, trivial⟩) (R.eqlStr (a := x_80.1) (b := p_6) rfl rfl) rfl ?_
                                  refine JA.val ⟨by kernel_rfl, by kernel_rfl⟩ (calm_only _) (i := 31) rfl ⟨by kernel_rfl, by kernel_rfl, rfl⟩ trivial (stab_of (Hle.refl _) ⟨⟨0, rfl⟩, ⟨1, rfl⟩, ⟨2, rfl⟩, ⟨3, rfl⟩, ⟨4, rfl⟩, trivial⟩) (R.pickT rfl rfl) rfl ?_
                                  refine JA.val ⟨by kernel_rfl, by kernel_rfl⟩ (calm_only _) (i := 32) rfl ⟨by kernel_rfl, by kernel_rfl, rfl⟩ trivial (stab_of (Hle.refl _) ⟨⟨0, rfl⟩, ⟨1, rfl⟩, ⟨2, rfl⟩, ⟨3, rfl⟩, ⟨4, rfl⟩, trivial⟩) (R.move rfl) rfl ?_
                                  refine JA.gSplit (t := 166) rfl (fun c_118 => ?_) (fun c_118 => ?_)
                                  · replace hx := cond_t c_118 hx
                                    refine JA.val ⟨by kernel_rfl, by kernel_rfl⟩ (calm_only _) (i := 33) rfl ⟨by kernel_rfl, by kernel_rfl, rfl⟩ ⟨_, _, rfl, rfl, rfl⟩ (stab_of (Hle.refl _) ⟨⟨0, rfl⟩, ⟨1, rfl⟩, ⟨2, rfl⟩, ⟨3, rfl⟩, ⟨4, rfl⟩, trivial⟩) (R.move rfl) rfl ?_
                                    refine JA.val ⟨by kernel_rfl, by kernel_rfl⟩ (calm_only _) (i := 34) rfl ⟨by kernel_rfl, by kernel_rfl, rfl⟩ ⟨_, _, rfl, rfl, rfl⟩ (stab_of (Hle.refl _) ⟨⟨0, rfl⟩, ⟨1, rfl⟩, ⟨2, rfl⟩, ⟨3, rfl⟩, ⟨4, rfl⟩, trivial⟩) (R.toStr U26 U5 U9 rfl (hz_87.old RU8.mono)) rfl ?_
                                    refine JA.val ⟨by kernel_rfl, by kernel_rfl⟩ (calm_only _) (i := 35) rfl ⟨by kernel_rfl, by kernel_rfl, rfl⟩ ⟨_, _, rfl, rfl, rfl⟩ (stab_of (Hle.refl _) ⟨⟨0, rfl⟩, ⟨1, rfl⟩, ⟨2, rfl⟩, ⟨3, rfl⟩, ⟨4, rfl⟩, trivial⟩) (R.move rfl) rfl ?_
                                    refine JA.val ⟨by kernel_rfl, by kernel_rfl⟩ (calm_only _) (i := 36) rfl ⟨by kernel_rfl, by kernel_rfl, rfl⟩ ⟨_, _, rfl, rfl, rfl⟩ (stab_of (Hle.refl _) ⟨⟨0, rfl⟩, ⟨1, rfl⟩, ⟨2, rfl⟩, ⟨3, rfl⟩, ⟨4, rfl⟩, trivial⟩) (R.toStr U26 U5 U9 rfl (ha_9.mono RU8.mono (hleu_13.trans (hleu_31.trans (hleH_52.trans (hleH_53.trans (hleu_56.trans (hleH_78.trans (hleH_79.trans (hleu_82.trans hleu_86)))))))))) rfl ?_
                                    refine JA.val ⟨by kernel_rfl, by kernel_rfl⟩ (calm_only _) (i := 37) rfl ⟨by kernel_rfl, by kernel_rfl, rfl⟩ ⟨_, _, rfl, rfl, rfl⟩ (stab_of (Hle.refl _) ⟨⟨0, rfl⟩, ⟨1, rfl⟩, ⟨2, rfl⟩, ⟨3, rfl⟩, ⟨4, rfl⟩, trivial⟩) (R.eqlStr (a := x_84.1) (b := p_8) rfl rfl) rfl ?_
                                    refine JA.val ⟨by kernel_rfl, by kernel_rfl⟩ (calm_only _) (i := 38) rfl ⟨by kernel_rfl, by kernel_rfl, rfl⟩ trivial (stab_of (Hle.refl _) ⟨⟨0, rfl⟩, ⟨1, rfl⟩, ⟨2, rfl⟩, ⟨3, rfl⟩, ⟨4, rfl⟩, trivial⟩) (R.pickT rfl rfl) rfl ?_
                                    refine JA.val ⟨by kernel_rfl, by kernel_rfl⟩ (calm_only _) (i := 39) rfl ⟨by kernel_rfl, by kernel_rfl, rfl⟩ trivial (stab_of (Hle.refl _) ⟨⟨0, rfl⟩, ⟨1, rfl⟩, ⟨2, rfl⟩, ⟨3, rfl⟩, ⟨4, rfl⟩, trivial⟩) (R.move rfl) rfl ?_
                                    refine JA.gSplit (t := 173) rfl (fun c_119 => ?_) (fun c_119 => ?_)
                                    · replace hx := cond_t c_119 hx
                                      refine JA.val ⟨by kernel_rfl, by kernel_rfl⟩ (calm_only _) (i := 40) rfl ⟨by kernel_rfl, by kernel_rfl, rfl⟩ ⟨_, _, rfl, rfl, rfl⟩ (stab_of (Hle.refl _) ⟨⟨0, rfl⟩, ⟨1, rfl⟩, ⟨2, rfl⟩, ⟨3, rfl⟩, ⟨4, rfl⟩, trivial⟩) (R.fa F33_4 rfl) rfl ?_
                                      refine JA.val ⟨by kernel_rfl, by kernel_rfl⟩ (calm_only _) (i := 41) rfl ⟨by kernel_rfl, by kernel_rfl, rfl⟩ ⟨_, _, rfl, rfl, rfl⟩ (stab_of (Hle.refl _) ⟨⟨0, rfl⟩, ⟨1, rfl⟩, ⟨2, rfl⟩, ⟨3, rfl⟩, ⟨4, rfl⟩, trivial⟩) (R.ldo 4 S27 rfl rfl rfl) rfl ?_
                                      refine JA.val ⟨by kernel_rfl, by kernel_rfl⟩ (calm_only _) (i := 42) rfl ⟨by kernel_rfl, by kernel_rfl, rfl⟩ ⟨_, _, rfl, rfl, rfl⟩ (stab_of (Hle.refl _) ⟨⟨0, rfl⟩, ⟨1, rfl⟩, ⟨2, rfl⟩, ⟨3, rfl⟩, ⟨4, rfl⟩, trivial⟩) (R.fa F33_4 rfl) rfl ?_
                                      refine JA.val ⟨by kernel_rfl, by kernel_rfl⟩ (calm_only _) (i := 43) rfl ⟨by kernel_rfl, by kernel_rfl, rfl⟩ ⟨_, _, rfl, rfl, rfl⟩ (stab_of (Hle.refl _) ⟨⟨0, rfl⟩, ⟨1, rfl⟩, ⟨2, rfl⟩, ⟨3, rfl⟩, ⟨4, rfl⟩, trivial⟩) (R.ldo 0 S27 rfl rfl rfl) rfl ?_
                                      refine JA.val ⟨by kernel_rfl, by kernel_rfl⟩ (calm_only _) (i := 44) rfl ⟨by kernel_rfl, by kernel_rfl, rfl⟩ ⟨_, _, rfl, rfl, rfl⟩ (stab_of (Hle.refl _) ⟨⟨0, rfl⟩, ⟨1, rfl⟩, ⟨2, rfl⟩, ⟨3, rfl⟩, ⟨4, rfl⟩, trivial⟩) (R.eql32 (a := x_29.2.1.Sum) (b := x_54.2.1.Sum) rfl rfl) rfl ?_
                                      refine JA.val ⟨by kernel_rfl, by kernel_rfl⟩ (calm_only _) (i := 45) rfl ⟨by kernel_rfl, by kernel_rfl, rfl⟩ ⟨_, _, rfl, rfl, rfl⟩ (stab_of (Hle.refl _) ⟨⟨0, rfl⟩, ⟨1, rfl⟩, ⟨2, rfl⟩, ⟨3, rfl⟩, ⟨4, rfl⟩, trivial⟩) (R.move rfl) rfl ?_
                                      refine JA.gSplit (t := 179) rfl (fun c_120 => ?_) (fun c_120 => ?_)
                                      · replace hx := cond_t c_120 hx
                                        refine JA.no ⟨by kernel_rfl, by kernel_rfl⟩ (calm_only _) (i := 46) rfl ⟨by kernel_rfl, by kernel_rfl, rfl⟩ rfl rfl rfl rfl (stab_of (Hle.refl _) ⟨⟨0, rfl⟩, ⟨1, rfl⟩, ⟨2, rfl⟩, ⟨3, rfl⟩, ⟨4, rfl⟩, trivial⟩) rfl ?_
                                        refine JA.no ⟨by kernel_rfl, by kernel_rfl⟩ (calm_only _) (i := 47) rfl ⟨by kernel_rfl, by kernel_rfl, rfl⟩ rfl rfl rfl rfl (stab_of (Hle.refl _) ⟨⟨0, rfl⟩, ⟨1, rfl⟩, ⟨2, rfl⟩, ⟨3, rfl⟩, ⟨4, rfl⟩, trivial⟩) rfl ?_
                                        refine JA.no ⟨by kernel_rfl, by kernel_rfl⟩ (calm_only _) (i := 48) rfl ⟨by kernel_rfl, by kernel_rfl, rfl⟩ rfl rfl rfl rfl (stab_of (Hle.refl _) ⟨⟨0, rfl⟩, ⟨1, rfl⟩, ⟨2, rfl⟩, ⟨3, rfl⟩, ⟨4, rfl⟩, trivial⟩) rfl ?_
                                        refine JA.no ⟨by kernel_rfl, by kernel_rfl⟩ (calm_only _) (i := 49) rfl ⟨by kernel_rfl, by kernel_rfl, rfl⟩ rfl rfl rfl rfl (stab_of (Hle.refl _) ⟨⟨0, rfl⟩, ⟨1, rfl⟩, ⟨2, rfl⟩, ⟨3, rfl⟩, ⟨4, rfl⟩, trivial⟩) rfl ?_
                                        refine JA.no ⟨by kernel_rfl, by kernel_rfl⟩ (calm_only _) (i := 50) rfl ⟨by kernel_rfl, by kernel_rfl, rfl⟩ rfl rfl rfl rfl (stab_of (Hle.refl _) ⟨⟨0, rfl⟩, ⟨1, rfl⟩, ⟨2, rfl⟩, ⟨3, rfl⟩, ⟨4, rfl⟩, trivial⟩) rfl ?_
                                        refine JA.val ⟨by kernel_rfl, by kernel_rfl⟩ (calm_only _) (i := 51) rfl ⟨by kernel_rfl, by kernel_rfl, rfl⟩ ⟨_, _, rfl, rfl, rfl⟩ (stab_of (Hle.refl _) ⟨⟨0, rfl⟩, ⟨1, rfl⟩, ⟨2, rfl⟩, ⟨3, rfl⟩, ⟨4, rfl⟩, trivial⟩) (R.pickT rfl rfl) rfl ?_
                                        refine JA.val ⟨by kernel_rfl, by kernel_rfl⟩ (calm_only _) (i := 52) rfl ⟨by kernel_rfl, by kernel_rfl, rfl⟩ trivial (stab_of (Hle.refl _) ⟨⟨0, rfl⟩, ⟨1, rfl⟩, ⟨2, rfl⟩, ⟨3, rfl⟩, ⟨4, rfl⟩, trivial⟩) (R.pickT rfl rfl) rfl ?_
                                        refine JA.val ⟨by kernel_rfl, by kernel_rfl⟩ (calm_only _) (i := 53) rfl ⟨by kernel_rfl, by kernel_rfl, rfl⟩ trivial (stab_of (Hle.refl _) ⟨⟨0, rfl⟩, ⟨1, rfl⟩, ⟨2, rfl⟩, ⟨3, rfl⟩, ⟨4, rfl⟩, trivial⟩) (R.assign rfl) rfl ?_
                                        refine JA.doneN (by kernel_rfl) ?_
                                        obtain rfl := Option.some.inj hx
                                        refine JN.forget 4 ?_
                                        refine JN.forget 3 ?_
                                        refine JN.forget 2 ?_
                                        refine JN.forget 1 ?_
                                        refine JN.forget 0 ?_
                                        exact JN.cut ⟨rfl, rfl, rfl⟩ ⟨rfl, trivial⟩ rfl rfl
                                      · replace hx := cond_f c_120 hx
                                        refine JA.val ⟨by kernel_rfl, by kernel_rfl⟩ (calm_only _) (i := 46) rfl ⟨by kernel_rfl, by kernel_rfl, rfl⟩ ⟨_, _, rfl, rfl, rfl⟩ (stab_of (Hle.refl _) ⟨⟨0, rfl⟩, ⟨1, rfl⟩, ⟨2, rfl⟩, ⟨3, rfl⟩, ⟨4, rfl⟩, trivial⟩) (R.move rfl) rfl ?_
                                        refine JA.val ⟨by kernel_rfl, by kernel_rfl⟩ (calm_only _) (i := 47) rfl ⟨by kernel_rfl, by kernel_rfl, rfl⟩ ⟨_, _, rfl, rfl, rfl⟩ (stab_of (Hle.refl _) ⟨⟨0, rfl⟩, ⟨1, rfl⟩, ⟨2, rfl⟩, ⟨3, rfl⟩, ⟨4, rfl⟩, trivial⟩) (R.toStr U26 U5 U9 rfl (ha_7.mono RU8.mono (hleu_13.trans (hleu_31.trans (hleH_52.trans (hleH_53.trans (hleu_56.trans (hleH_78.trans (hleH_79.trans (hleu_82.trans hleu_86)))))))))) rfl ?_
                                        refine JA.val ⟨by kernel_rfl, by kernel_rfl⟩ (calm_only _) (i := 48) rfl ⟨by kernel_rfl, by kernel_rfl, rfl⟩ ⟨_, _, rfl, rfl, rfl⟩ (stab_of (Hle.refl _) ⟨⟨0, rfl⟩, ⟨1, rfl⟩, ⟨2, rfl⟩, ⟨3, rfl⟩, ⟨4, rfl⟩, trivial⟩) (R.move rfl) rfl ?_
                                        refine JA.val ⟨by kernel_rfl, by kernel_rfl⟩ (calm_only _) (i := 49) rfl ⟨by kernel_rfl, by kernel_rfl, rfl⟩ ⟨_, _, rfl, rfl, rfl⟩ (stab_of (Hle.refl _) ⟨⟨0, rfl⟩, ⟨1, rfl⟩, ⟨2, rfl⟩, ⟨3, rfl⟩, ⟨4, rfl⟩, trivial⟩) (R.toStr U26 U5 U9 rfl (ha_9.mono RU8.mono (hleu_13.trans (hleu_31.trans (hleH_52.trans (hleH_53.trans (hleu_56.trans (hleH_78.trans (hleH_79.trans (hleu_82.trans hleu_86)))))))))) rfl ?_
                                        refine JA.val ⟨by kernel_rfl, by kernel_rfl⟩ (calm_only _) (i := 50) rfl ⟨by kernel_rfl, by kernel_rfl, rfl⟩ ⟨_, _, rfl, rfl, rfl⟩ (stab_of (Hle.refl _) ⟨⟨0, rfl⟩, ⟨1, rfl⟩, ⟨2, rfl⟩, ⟨3, rfl⟩, ⟨4, rfl⟩, trivial⟩) (R.neqStr (a := p_6) (b := p_8) rfl rfl) rfl ?_
                                        refine JA.val ⟨by kernel_rfl, by kernel_rfl⟩ (calm_only _) (i := 51) rfl ⟨by kernel_rfl, by kernel_rfl, rfl⟩ ⟨_, _, rfl, rfl, rfl⟩ (stab_of (Hle.refl _) ⟨⟨0, rfl⟩, ⟨1, rfl⟩, ⟨2, rfl⟩, ⟨3, rfl⟩, ⟨4, rfl⟩, trivial⟩) (R.pickF rfl rfl) rfl ?_
                                        refine JA.val ⟨by kernel_rfl, by kernel_rfl⟩ (calm_only _) (i := 52) rfl ⟨by kernel_rfl, by kernel_rfl, rfl⟩ trivial (stab_of (Hle.refl _) ⟨⟨0, rfl⟩, ⟨1, rfl⟩, ⟨2, rfl⟩, ⟨3, rfl⟩, ⟨4, rfl⟩, trivial⟩) (R.pickT rfl rfl) rfl ?_
                                        refine JA.val ⟨by kernel_rfl, by kernel_rfl⟩ (calm_only _) (i := 53) rfl ⟨by kernel_rfl, by kernel_rfl, rfl⟩ trivial (stab_of (Hle.refl _) ⟨⟨0, rfl⟩, ⟨1, rfl⟩, ⟨2, rfl⟩, ⟨3, rfl⟩, ⟨4, rfl⟩, trivial⟩) (R.assign rfl) rfl ?_
                                        refine JA.doneN (by kernel_rfl) ?_
                                        obtain rfl := Option.some.inj hx
                                        refine JN.forget 4 ?_
                                        refine JN.forget 3 ?_
                                        refine JN.forget 2 ?_
                                        refine JN.forget 1 ?_
                                        refine JN.forget 0 ?_
                                        exact JN.cut ⟨rfl, rfl, rfl⟩ ⟨rfl, trivial⟩ rfl rfl
                                    · replace hx := cond_f c_119 hx
                                      refine JA.no ⟨by kernel_rfl, by kernel_rfl⟩ (calm_only _) (i := 40) rfl ⟨by kernel_rfl, by kernel_rfl, rfl⟩ rfl rfl rfl rfl (stab_of (Hle.refl _) ⟨⟨0, rfl⟩, ⟨1, rfl⟩, ⟨2, rfl⟩, ⟨3, rfl⟩, ⟨4, rfl⟩, trivial⟩) rfl ?_
                                      refine JA.no ⟨by kernel_rfl, by kernel_rfl⟩ (calm_only _) (i := 41) rfl ⟨by kernel_rfl, by kernel_rfl, rfl⟩ rfl rfl rfl rfl (stab_of (Hle.refl _) ⟨⟨0, rfl⟩, ⟨1, rfl⟩, ⟨2, rfl⟩, ⟨3, rfl⟩, ⟨4, rfl⟩, trivial⟩) rfl ?_
                                      refine JA.no ⟨by kernel_rfl, by kernel_rfl⟩ (calm_only _) (i := 42) rfl ⟨by kernel_rfl, by kernel_rfl, rfl⟩ rfl rfl rfl rfl (stab_of (Hle.refl _) ⟨⟨0, rfl⟩, ⟨1, rfl⟩, ⟨2, rfl⟩, ⟨3, rfl⟩, ⟨4, rfl⟩, trivial⟩) rfl ?_
                                      refine JA.no ⟨by kernel_rfl, by kernel_rfl⟩ (calm_only _) (i := 43) rfl ⟨by kernel_rfl, by kernel_rfl, rfl⟩ rfl rfl rfl rfl (stab_of (Hle.refl _) ⟨⟨0, rfl⟩, ⟨1, rfl⟩, ⟨2, rfl⟩, ⟨3, rfl⟩, ⟨4, rfl⟩, trivial⟩) rfl ?_
                                      refine JA.no ⟨by kernel_rfl, by kernel_rfl⟩ (calm_only _) (i := 44) rfl ⟨by kernel_rfl, by kernel_rfl, rfl⟩ rfl rfl rfl rfl (stab_of (Hle.refl _) ⟨⟨0, rfl⟩, ⟨1, rfl⟩, ⟨2, rfl⟩, ⟨3, rfl⟩, ⟨4, rfl⟩, trivial⟩) rfl ?_
                                      refine JA.no ⟨by kernel_rfl, by kernel_rfl⟩ (calm_only _) (i := 45) rfl ⟨by kernel_rfl, by kernel_rfl, rfl⟩ rfl rfl rfl rfl (stab_of (Hle.refl _) ⟨⟨0, rfl⟩, ⟨1, rfl⟩, ⟨2, rfl⟩, ⟨3, rfl⟩, ⟨4, rfl⟩, trivial⟩) rfl ?_
                                      refine JA.noU ⟨by kernel_rfl, by kernel_rfl⟩ (calm_only _) (i := 46) rfl ⟨by kernel_rfl, by kernel_rfl, rfl⟩ rfl rfl rfl (stab_of (Hle.refl _) ⟨⟨0, rfl⟩, ⟨1, rfl⟩, ⟨2, rfl⟩, ⟨3, rfl⟩, ⟨4, rfl⟩, trivial⟩) rfl ?_
                                      refine JA.noU ⟨by kernel_rfl, by kernel_rfl⟩ (calm_only _) (i := 47) rfl ⟨by kernel_rfl, by kernel_rfl, rfl⟩ rfl rfl rfl (stab_of (Hle.refl _) ⟨⟨0, rfl⟩, ⟨1, rfl⟩, ⟨2, rfl⟩, ⟨3, rfl⟩, ⟨4, rfl⟩, trivial⟩) rfl ?_
                                      refine JA.noU ⟨by kernel_rfl, by kernel_rfl⟩ (calm_only _) (i := 48) rfl ⟨by kernel_rfl, by kernel_rfl, rfl⟩ rfl rfl rfl (stab_of (Hle.refl _) ⟨⟨0, rfl⟩, ⟨1, rfl⟩, ⟨2, rfl⟩, ⟨3, rfl⟩, ⟨4, rfl⟩, trivial⟩) rfl ?_
                                      refine JA.noU ⟨by kernel_rfl, by kernel_rfl⟩ (calm_only _) (i := 49) rfl ⟨by kernel_rfl, by kernel_rfl, rfl⟩ rfl rfl rfl (stab_of (Hle.refl _) ⟨⟨0, rfl⟩, ⟨1, rfl⟩, ⟨2, rfl⟩, ⟨3, rfl⟩, ⟨4, rfl⟩, trivial⟩) rfl ?_
                                      refine JA.noU ⟨by kernel_rfl, by kernel_rfl⟩ (calm_only _) (i := 50) rfl ⟨by kernel_rfl, by kernel_rfl, rfl⟩ rfl rfl rfl (stab_of (Hle.refl _) ⟨⟨0, rfl⟩, ⟨1, rfl⟩, ⟨2, rfl⟩, ⟨3, rfl⟩, ⟨4, rfl⟩, trivial⟩) rfl ?_
                                      refine JA.no ⟨by kernel_rfl, by kernel_rfl⟩ (calm_only _) (i := 51) rfl ⟨by kernel_rfl, by kernel_rfl, rfl⟩ rfl rfl rfl rfl (stab_of (Hle.refl _) ⟨⟨0, rfl⟩, ⟨1, rfl⟩, ⟨2, rfl⟩, ⟨3, rfl⟩, ⟨4, rfl⟩, trivial⟩) rfl ?_
                                      refine JA.val ⟨by kernel_rfl, by kernel_rfl⟩ (calm_only _) (i := 52) rfl ⟨by kernel_rfl, by kernel_rfl, rfl⟩ trivial (stab_of (Hle.refl _) ⟨⟨0, rfl⟩, ⟨1, rfl⟩, ⟨2, rfl⟩, ⟨3, rfl⟩, ⟨4, rfl⟩, trivial⟩) (R.pickF rfl rfl) rfl ?_
                                      refine JA.val ⟨by kernel_rfl, by kernel_rfl⟩ (calm_only _) (i := 53) rfl ⟨by kernel_rfl, by kernel_rfl, rfl⟩ trivial (stab_of (Hle.refl _) ⟨⟨0, rfl⟩, ⟨1, rfl⟩, ⟨2, rfl⟩, ⟨3, rfl⟩, ⟨4, rfl⟩, trivial⟩) (R.assign rfl) rfl ?_
                                      refine JA.doneN (by kernel_rfl) ?_
                                      obtain rfl := Option.some.inj hx
                                      refine JN.forget 4 ?_
                                      refine JN.forget 3 ?_
                                      refine JN.forget 2 ?_
                                      refine JN.forget 1 ?_
                                      refine JN.forget 0 ?_
                                      exact JN.cut ⟨rfl, rfl, rfl⟩ ⟨rfl, trivial⟩ rfl rfl
                                  · replace hx := cond_f c_118 hx
                                    refine JA.no ⟨by kernel_rfl, by kernel_rfl⟩ (calm_only _) (i := 33) rfl ⟨by kernel_rfl, by kernel_rfl, rfl⟩ rfl rfl rfl rfl (stab_of (Hle.refl _) ⟨⟨0, rfl⟩, ⟨1, rfl⟩, ⟨2, rfl⟩, ⟨3, rfl⟩, ⟨4, rfl⟩, trivial⟩) rfl ?_
                                    refine JA.no ⟨by kernel_rfl, by kernel_rfl⟩ (calm_only _) (i := 34) rfl ⟨by kernel_rfl, by kernel_rfl, rfl⟩ rfl rfl rfl rfl (stab_of (Hle.refl _) ⟨⟨0, rfl⟩, ⟨1, rfl⟩, ⟨2, rfl⟩, ⟨3, rfl⟩, ⟨4, rfl⟩, trivial⟩) rfl ?_
                                    refine JA.no ⟨by kernel_rfl, by kernel_rfl⟩ (calm_only _) (i := 35) rfl ⟨by kernel_rfl, by kernel_rfl, rfl⟩ rfl rfl rfl rfl (stab_of (Hle.refl _) ⟨⟨0, rfl⟩, ⟨1, rfl⟩, ⟨2, rfl⟩, ⟨3, rfl⟩, ⟨4, rfl⟩, trivial⟩) rfl ?_
                                    refine JA.no ⟨by kernel_rfl, by kernel_rfl⟩ (calm_only _) (i := 36) rfl ⟨by kernel_rfl, by kernel_rfl, rfl⟩ rfl rfl rfl rfl (stab_of (Hle.refl _) ⟨⟨0, rfl⟩, ⟨1, rfl⟩, ⟨2, rfl⟩, ⟨3, rfl⟩, ⟨4, rfl⟩, trivial⟩) rfl ?_
                                    refine JA.no ⟨by kernel_rfl, by kernel_rfl⟩ (calm_only _) (i := 37) rfl ⟨by kernel_rfl, by kernel_rfl, rfl⟩ rfl rfl rfl rfl (stab_of (Hle.refl _) ⟨⟨0, rfl⟩, ⟨1, rfl⟩, ⟨2, rfl⟩, ⟨3, rfl⟩, ⟨4, rfl⟩, trivial⟩) rfl ?_
                                    refine JA.val ⟨by kernel_rfl, by kernel_rfl⟩ (calm_only _) (i := 38) rfl ⟨by kernel_rfl, by kernel_rfl, rfl⟩ trivial (stab_of (Hle.refl _) ⟨⟨0, rfl⟩, ⟨1, rfl⟩, ⟨2, rfl⟩, ⟨3, rfl⟩, ⟨4, rfl⟩, trivial⟩) (R.pickF rfl rfl) rfl ?_
                                    refine JA.val ⟨by kernel_rfl, by kernel_rfl⟩ (calm_only _) (i := 39) rfl ⟨by kernel_rfl, by kernel_rfl, rfl⟩ trivial (stab_of (Hle.refl _) ⟨⟨0, rfl⟩, ⟨1, rfl⟩, ⟨2, rfl⟩, ⟨3, rfl⟩, ⟨4, rfl⟩, trivial⟩) (R.move rfl) rfl ?_
                                    refine JA.no ⟨by kernel_rfl, by kernel_rfl⟩ (calm_only _) (i := 40) rfl ⟨by kernel_rfl, by kernel_rfl, rfl⟩ rfl rfl rfl rfl (stab_of (Hle.refl _) ⟨⟨0, rfl⟩, ⟨1, rfl⟩, ⟨2, rfl⟩, ⟨3, rfl⟩, ⟨4, rfl⟩, trivial⟩) rfl ?_
                                    refine JA.no ⟨by kernel_rfl, by kernel_rfl⟩ (calm_only _) (i := 41) rfl ⟨by kernel_rfl, by kernel_rfl, rfl⟩ rfl rfl rfl rfl (stab_of (Hle.refl _) ⟨⟨0, rfl⟩, ⟨1, rfl⟩, ⟨2, rfl⟩, ⟨3, rfl⟩, ⟨4, rfl⟩, trivial⟩) rfl ?_
                                    refine JA.no ⟨by kernel_rfl, by kernel_rfl⟩ (calm_only _) (i := 42) rfl ⟨by kernel_rfl, by kernel_rfl, rfl⟩ rfl rfl rfl rfl (stab_of (Hle.refl _) ⟨⟨0, rfl⟩, ⟨1, rfl⟩, ⟨2, rfl⟩, ⟨3, rfl⟩, ⟨4, rfl⟩, trivial⟩) rfl ?_
                                    refine JA.no ⟨by kernel_rfl, by kernel_rfl⟩ (calm_only _) (i := 43) rfl ⟨by kernel_rfl, by kernel_rfl, rfl⟩ rfl rfl rfl rfl (stab_of (Hle.refl _) ⟨⟨0, rfl⟩, ⟨1, rfl⟩, ⟨2, rfl⟩, ⟨3, rfl⟩, ⟨4, rfl⟩, trivial⟩) rfl ?_
                                    refine JA.no ⟨by kernel_rfl, by kernel_rfl⟩ (calm_only _) (i := 44) rfl ⟨by kernel_rfl, by kernel_rfl, rfl⟩ rfl rfl rfl rfl (stab_of (Hle.refl _) ⟨⟨0, rfl⟩, ⟨1, rfl⟩, ⟨2, rfl⟩, ⟨3, rfl⟩, ⟨4, rfl⟩, trivial⟩) rfl ?_
                                    refine JA.no ⟨by kernel_rfl, by kernel_rfl⟩ (calm_only _) (i := 45) rfl ⟨by kernel_rfl, by kernel_rfl, rfl⟩ rfl rfl rfl rfl (stab_of (Hle.refl _) ⟨⟨0, rfl⟩, ⟨1, rfl⟩, ⟨2, rfl⟩, ⟨3, rfl⟩, ⟨4, rfl⟩, trivial⟩) rfl ?_
                                    refine JA.noU ⟨by kernel_rfl, by kernel_rfl⟩ (calm_only _) (i := 46) rfl ⟨by kernel_rfl, by kernel_rfl, rfl⟩ rfl rfl rfl (stab_of (Hle.refl _) ⟨⟨0, rfl⟩, ⟨1, rfl⟩, ⟨2, rfl⟩, ⟨3, rfl⟩, ⟨4, rfl⟩, trivial⟩) rfl ?_
                                    refine JA.noU ⟨by kernel_rfl, by kernel_rfl⟩ (calm_only _) (i := 47) rfl ⟨by kernel_rfl, by kernel_rfl, rfl⟩ rfl rfl rfl (stab_of (Hle.refl _) ⟨⟨0, rfl⟩, ⟨1, rfl⟩, ⟨2, rfl⟩, ⟨3, rfl⟩, ⟨4, rfl⟩, trivial⟩) rfl ?_
                                    refine JA.noU ⟨by kernel_rfl, by kernel_rfl⟩ (calm_only _) (i := 48) rfl ⟨by kernel_rfl, by kernel_rfl, rfl⟩ rfl rfl rfl (stab_of (Hle.refl _) ⟨⟨0, rfl⟩, ⟨1, rfl⟩, ⟨2, rfl⟩, ⟨3, rfl⟩, ⟨4, rfl⟩, trivial⟩) rfl ?_
                                    refine JA.noU ⟨by kernel_rfl, by kernel_rfl⟩ (calm_only _) (i := 49) rfl ⟨by kernel_rfl, by kernel_rfl, rfl⟩ rfl rfl rfl (stab_of (Hle.refl _) ⟨⟨0, rfl⟩, ⟨1, rfl⟩, ⟨2, rfl⟩, ⟨3, rfl⟩, ⟨4, rfl⟩, trivial⟩) rfl ?_
                                    refine JA.noU ⟨by kernel_rfl, by kernel_rfl⟩ (calm_only _) (i := 50) rfl ⟨by kernel_rfl, by kernel_rfl, rfl⟩ rfl rfl rfl (stab_of (Hle.refl _) ⟨⟨0, rfl⟩, ⟨1, rfl⟩, ⟨2, rfl⟩, ⟨3, rfl⟩, ⟨4, rfl⟩, trivial⟩) rfl ?_
                                    refine JA.no ⟨by kernel_rfl, by kernel_rfl⟩ (calm_only _) (i := 51) rfl ⟨by kernel_rfl, by kernel_rfl, rfl⟩ rfl rfl rfl rfl (stab_of (Hle.refl _) ⟨⟨0, rfl⟩, ⟨1, rfl⟩, ⟨2, rfl⟩, ⟨3, rfl⟩, ⟨4, rfl⟩, trivial⟩) rfl ?_
                                    refine JA.val ⟨by kernel_rfl, by kernel_rfl⟩ (calm_only _) (i := 52) rfl ⟨by kernel_rfl, by kernel_rfl, rfl⟩ trivial (stab_of (Hle.refl _) ⟨⟨0, rfl⟩, ⟨1, rfl⟩, ⟨2, rfl⟩, ⟨3, rfl⟩, ⟨4, rfl⟩, trivial⟩) (R.pickF rfl rfl) rfl ?_
                                    refine JA.val ⟨by kernel_rfl, by kernel_rfl⟩ (calm_only _) (i := 53) rfl ⟨by kernel_rfl, by kernel_rfl, rfl⟩ trivial (stab_of (Hle.refl _) ⟨⟨0, rfl⟩, ⟨1, rfl⟩, ⟨2, rfl⟩, ⟨3, rfl⟩, ⟨4, rfl⟩, trivial⟩) (R.assign rfl) rfl ?_
                                    refine JA.doneN (by kernel_rfl) ?_
                                    obtain rfl := Option.some.inj hx
                                    refine JN.forget 4 ?_
                                    refine JN.forget 3 ?_
                                    refine JN.forget 2 ?_
                                    refine JN.forget 1 ?_
                                    refine JN.forget 0 ?_
                                    exact JN.cut ⟨rfl, rfl, rfl⟩ ⟨rfl, trivial⟩ rfl rfl
                                · replace hx := cond_f c_117 hx
                                  refine JA.no ⟨by kernel_rfl, by kernel_rfl⟩ (calm_only _) (i := 26) rfl ⟨by kernel_rfl, by kernel_rfl, rfl⟩ rfl rfl rfl rfl (stab_of (Hle.refl _) ⟨⟨0, rfl⟩, ⟨1, rfl⟩, ⟨2, rfl⟩, ⟨3, rfl⟩, ⟨4, rfl⟩, trivial⟩) rfl ?_
                                  refine JA.no ⟨by kernel_rfl, by kernel_rfl⟩ (calm_only _) (i := 27) rfl ⟨by kernel_rfl, by kernel_rfl, rfl⟩ rfl rfl rfl rfl (stab_of (Hle.refl _) ⟨⟨0, rfl⟩, ⟨1, rfl⟩, ⟨2, rfl⟩, ⟨3, rfl⟩, ⟨4, rfl⟩, trivial⟩) rfl ?_
                                  refine JA.no ⟨by kernel_rfl, by kernel_rfl⟩ (calm_only _) (i := 28) rfl ⟨by kernel_rfl, by kernel_rfl, rfl⟩ rfl rfl rfl rfl (stab_of (Hle.refl _) ⟨⟨0, rfl⟩, ⟨1, rfl⟩, ⟨2, rfl⟩, ⟨3, rfl⟩, ⟨4, rfl⟩, trivial⟩) rfl ?_
                                  refine JA.no ⟨by kernel_rfl, by kernel_rfl⟩ (calm_only _) (i := 29) rfl ⟨by kernel_rfl, by kernel_rfl, rfl⟩ rfl rfl rfl rfl (stab_of (Hle.refl _) ⟨⟨0, rfl⟩, ⟨1, rfl⟩, ⟨2, rfl⟩, ⟨3, rfl⟩, ⟨4, rfl⟩, trivial⟩) rfl ?_
                                  refine JA.no ⟨by kernel_rfl, by kernel_rfl⟩ (calm_only _) (i := 30) rfl ⟨by kernel_rfl, by kernel_rfl, rfl⟩ rfl rfl rfl rfl (stab_of (Hle.refl _) ⟨⟨0, rfl⟩, ⟨1, rfl⟩, ⟨2, rfl⟩, ⟨3, rfl⟩, ⟨4, rfl⟩, trivial⟩) rfl ?_
                                  refine JA.val ⟨by kernel_rfl, by kernel_rfl⟩ (calm_only _) (i := 31) rfl ⟨by kernel_rfl, by kernel_rfl, rfl⟩ trivial (stab_of (Hle.refl _) ⟨⟨0, rfl⟩, ⟨1, rfl⟩, ⟨2, rfl⟩, ⟨3, rfl⟩, ⟨4, rfl⟩, trivial⟩) (R.pickF rfl rfl) rfl ?_
                                  refine JA.val ⟨by kernel_rfl, by kernel_rfl⟩ (calm_only _) (i := 32) rfl ⟨by kernel_rfl, by kernel_rfl, rfl⟩ trivial (stab_of (Hle.refl _) ⟨⟨0, rfl⟩, ⟨1, rfl⟩, ⟨2, rfl⟩, ⟨3, rfl⟩, ⟨4, rfl⟩, trivial⟩) (R.move rfl) rfl ?_
                                  refine JA.no ⟨by kernel_rfl, by kernel_rfl⟩ (calm_only _) (i := 33) rfl ⟨by kernel_rfl, by kernel_rfl, rfl⟩ rfl rfl rfl rfl (stab_of (Hle.refl _) ⟨⟨0, rfl⟩, ⟨1, rfl⟩, ⟨2, rfl⟩, ⟨3, rfl⟩, ⟨4, rfl⟩, trivial⟩) rfl ?_
                                  refine JA.no ⟨by kernel_rfl, by kernel_rfl⟩ (calm_only _) (i := 34) rfl ⟨by kernel_rfl, by kernel_rfl, rfl⟩ rfl rfl rfl rfl (stab_of (Hle.refl _) ⟨⟨0, rfl⟩, ⟨1, rfl⟩, ⟨2, rfl⟩, ⟨3, rfl⟩, ⟨4, rfl⟩, trivial⟩) rfl ?_
                                  refine JA.no ⟨by kernel_rfl, by kernel_rfl⟩ (calm_only _) (i := 35) rfl ⟨by kernel_rfl, by kernel_rfl, rfl⟩ rfl rfl rfl rfl (stab_of (Hle.refl _) ⟨⟨0, rfl⟩, ⟨1, rfl⟩, ⟨2, rfl⟩, ⟨3, rfl⟩, ⟨4, rfl⟩, trivial⟩) rfl ?_
                                  refine JA.no ⟨by kernel_rfl, by kernel_rfl⟩ (calm_only _) (i := 36) rfl ⟨by kernel_rfl, by kernel_rfl, rfl⟩ rfl rfl rfl rfl (stab_of (Hle.refl _) ⟨⟨0, rfl⟩, ⟨1, rfl⟩, ⟨2, rfl⟩, ⟨3, rfl⟩, ⟨4, rfl⟩, trivial⟩) rfl ?_
                                  refine JA.no ⟨by kernel_rfl, by kernel_rfl⟩ (calm_only _) (i := 37) rfl ⟨by kernel_rfl, by kernel_rfl, rfl⟩ rfl rfl rfl rfl (stab_of (Hle.refl _) ⟨⟨0, rfl⟩, ⟨1, rfl⟩, ⟨2, rfl⟩, ⟨3, rfl⟩, ⟨4, rfl⟩, trivial⟩) rfl ?_
                                  refine JA.val ⟨by kernel_rfl, by kernel_rfl⟩ (calm_only _) (i := 38) rfl ⟨by kernel_rfl, by kernel_rfl, rfl⟩ trivial (stab_of (Hle.refl _) ⟨⟨0, rfl⟩, ⟨1, rfl⟩, ⟨2, rfl⟩, ⟨3, rfl⟩, ⟨4, rfl⟩, trivial⟩) (R.pickF rfl rfl) rfl ?_
                                  refine JA.val ⟨by kernel_rfl, by kernel_rfl⟩ (calm_only _) (i := 39) rfl ⟨by kernel_rfl, by kernel_rfl, rfl⟩ trivial (stab_of (Hle.refl _) ⟨⟨0, rfl⟩, ⟨1, rfl⟩, ⟨2, rfl⟩, ⟨3, rfl⟩, ⟨4, rfl⟩, trivial⟩) (R.move rfl) rfl ?_
                                  refine JA.no ⟨by kernel_rfl, by kernel_rfl⟩ (calm_only _) (i := 40) rfl ⟨by kernel_rfl, by kernel_rfl, rfl⟩ rfl rfl rfl rfl (stab_of (Hle.refl _) ⟨⟨0, rfl⟩, ⟨1, rfl⟩, ⟨2, rfl⟩, ⟨3, rfl⟩, ⟨4, rfl⟩, trivial⟩) rfl ?_
                                  refine JA.no ⟨by kernel_rfl, by kernel_rfl⟩ (calm_only _) (i := 41) rfl ⟨by kernel_rfl, by kernel_rfl, rfl⟩ rfl rfl rfl rfl (stab_of (Hle.refl _) ⟨⟨0, rfl⟩, ⟨1, rfl⟩, ⟨2, rfl⟩, ⟨3, rfl⟩, ⟨4, rfl⟩, trivial⟩) rfl ?_
                                  refine JA.no ⟨by kernel_rfl, by kernel_rfl⟩ (calm_only _) (i := 42) rfl ⟨by kernel_rfl, by kernel_rfl, rfl⟩ rfl rfl rfl rfl (stab_of (Hle.refl _) ⟨⟨0, rfl⟩, ⟨1, rfl⟩, ⟨2, rfl⟩, ⟨3, rfl⟩, ⟨4, rfl⟩, trivial⟩) rfl ?_
                                  refine JA.no ⟨by kernel_rfl, by kernel_rfl⟩ (calm_only _) (i := 43) rfl ⟨by kernel_rfl, by kernel_rfl, rfl⟩ rfl rfl rfl rfl (stab_of (Hle.refl _) ⟨⟨0, rfl⟩, ⟨1, rfl⟩, ⟨2, rfl⟩, ⟨3, rfl⟩, ⟨4, rfl⟩, trivial⟩) rfl ?_
                                  refine JA.no ⟨by kernel_rfl, by kernel_rfl⟩ (calm_only _) (i := 44) rfl ⟨by kernel_rfl, by kernel_rfl, rfl⟩ rfl rfl rfl rfl (stab_of (Hle.refl _) ⟨⟨0, rfl⟩, ⟨1, rfl⟩, ⟨2, rfl⟩, ⟨3, rfl⟩, ⟨4, rfl⟩, trivial⟩) rfl ?_
                                  refine JA.no ⟨by kernel_rfl, by kernel_rfl⟩ (calm_only _) (i := 45) rfl ⟨by kernel_rfl, by kernel_rfl, rfl⟩ rfl rfl rfl rfl (stab_of (Hle.refl _) ⟨⟨0, rfl⟩, ⟨1, rfl⟩, ⟨2, rfl⟩, ⟨3, rfl⟩, ⟨4, rfl⟩, trivial⟩) rfl ?_
                                  refine JA.noU ⟨by kernel_rfl, by kernel_rfl⟩ (calm_only _) (i := 46) rfl ⟨by kernel_rfl, by kernel_rfl, rfl⟩ rfl rfl rfl (stab_of (Hle.refl _) ⟨⟨0, rfl⟩, ⟨1, rfl⟩, ⟨2, rfl⟩, ⟨3, rfl⟩, ⟨4, rfl⟩, trivial⟩) rfl ?_
                                  refine JA.noU ⟨by kernel_rfl, by kernel_rfl⟩ (calm_only _) (i := 47) rfl ⟨by kernel_rfl, by kernel_rfl, rfl⟩ rfl rfl rfl (stab_of (Hle.refl _) ⟨⟨0, rfl⟩, ⟨1, rfl⟩, ⟨2, rfl⟩, ⟨3, rfl⟩, ⟨4, rfl⟩, trivial⟩) rfl ?_
                                  refine JA.noU ⟨by kernel_rfl, by kernel_rfl⟩ (calm_only _) (i := 48) rfl ⟨by kernel_rfl, by kernel_rfl, rfl⟩ rfl rfl rfl (stab_of (Hle.refl _) ⟨⟨0, rfl⟩, ⟨1, rfl⟩, ⟨2, rfl⟩, ⟨3, rfl⟩, ⟨4, rfl⟩, trivial⟩) rfl ?_
                                  refine JA.noU ⟨by kernel_rfl, by kernel_rfl⟩ (calm_only _) (i := 49) rfl ⟨by kernel_rfl, by kernel_rfl, rfl⟩ rfl rfl rfl (stab_of (Hle.refl _) ⟨⟨0, rfl⟩, ⟨1, rfl⟩, ⟨2, rfl⟩, ⟨3, rfl⟩, ⟨4, rfl⟩, trivial⟩) rfl ?_
                                  refine JA.noU ⟨by kernel_rfl, by kernel_rfl⟩ (calm_only _) (i := 50) rfl ⟨by kernel_rfl, by kernel_rfl, rfl⟩ rfl rfl rfl (stab_of (Hle.refl _) ⟨⟨0, rfl⟩, ⟨1, rfl⟩, ⟨2, rfl⟩, ⟨3, rfl⟩, ⟨4, rfl⟩, trivial⟩) rfl ?_
                                  refine JA.no ⟨by kernel_rfl, by kernel_rfl⟩ (calm_only _) (i := 51) rfl ⟨by kernel_rfl, by kernel_rfl, rfl⟩ rfl rfl rfl rfl (stab_of (Hle.refl _) ⟨⟨0, rfl⟩, ⟨1, rfl⟩, ⟨2, rfl⟩, ⟨3, rfl⟩, ⟨4, rfl⟩, trivial⟩) rfl ?_
                                  refine JA.val ⟨by kernel_rfl, by kernel_rfl⟩ (calm_only _) (i := 52) rfl ⟨by kernel_rfl, by kernel_rfl, rfl⟩ trivial (stab_of (Hle.refl _) ⟨⟨0, rfl⟩, ⟨1, rfl⟩, ⟨2, rfl⟩, ⟨3, rfl⟩, ⟨4, rfl⟩, trivial⟩) (R.pickF rfl rfl) rfl ?_
                                  refine JA.val ⟨by kernel_rfl, by kernel_rfl⟩ (calm_only _) (i := 53) rfl ⟨by kernel_rfl, by kernel_rfl, rfl⟩ trivial (stab_of (Hle.refl _) ⟨⟨0, rfl⟩, ⟨1, rfl⟩, ⟨2, rfl⟩, ⟨3, rfl⟩, ⟨4, rfl⟩, trivial⟩) (R.assign rfl) rfl ?_
                                  refine JA.doneN (by kernel_rfl) ?_
                                  obtain rfl := Option.some.inj hx
                                  refine JN.forget 4 ?_
                                  refine JN.forget 3 ?_
                                  refine JN.forget 2 ?_
                                  refine JN.forget 1 ?_
                                  refine JN.forget 0 ?_
                                  exact JN.cut ⟨rfl, rfl, rfl⟩ ⟨rfl, trivial⟩ rfl rfl
                              · replace hx := cond_f c_116 hx
                                refine JA.no ⟨by kernel_rfl, by kernel_rfl⟩ (calm_only _) (i := 22) rfl ⟨by kernel_rfl, by kernel_rfl, rfl⟩ rfl rfl rfl rfl (stab_of (Hle.refl _) ⟨⟨0, rfl⟩, ⟨1, rfl⟩, ⟨2, rfl⟩, ⟨3, rfl⟩, ⟨4, rfl⟩, trivial⟩) rfl ?_
                                refine JA.no ⟨by kernel_rfl, by kernel_rfl⟩ (calm_only _) (i := 23) rfl ⟨by kernel_rfl, by kernel_rfl, rfl⟩ rfl rfl rfl rfl (stab_of (Hle.refl _) ⟨⟨0, rfl⟩, ⟨1, rfl⟩, ⟨2, rfl⟩, ⟨3, rfl⟩, ⟨4, rfl⟩, trivial⟩) rfl ?_
                                refine JA.val ⟨by kernel_rfl, by kernel_rfl⟩ (calm_only _) (i := 24) rfl ⟨by kernel_rfl, by kernel_rfl, rfl⟩ trivial (stab_of (Hle.refl _) ⟨⟨0, rfl⟩, ⟨1, rfl⟩, ⟨2, rfl⟩, ⟨3, rfl⟩, ⟨4, rfl⟩, trivial⟩) (R.pickF rfl rfl) rfl ?_
                                refine JA.val ⟨by kernel_rfl, by kernel_rfl⟩ (calm_only _) (i := 25) rfl ⟨by kernel_rfl, by kernel_rfl, rfl⟩ trivial (stab_of (Hle.refl _) ⟨⟨0, rfl⟩, ⟨1, rfl⟩, ⟨2, rfl⟩, ⟨3, rfl⟩, ⟨4, rfl⟩, trivial⟩) (R.move rfl) rfl ?_
                                refine JA.no ⟨by kernel_rfl, by kernel_rfl⟩ (calm_only _) (i := 26) rfl ⟨by kernel_rfl, by kernel_rfl, rfl⟩ rfl rfl rfl rfl (stab_of (Hle.refl _) ⟨⟨0, rfl⟩, ⟨1, rfl⟩, ⟨2, rfl⟩, ⟨3, rfl⟩, ⟨4, rfl⟩, trivial⟩) rfl ?_
                                refine JA.no ⟨by kernel_rfl, by kernel_rfl⟩ (calm_only _) (i := 27) rfl ⟨by kernel_rfl, by kernel_rfl, rfl⟩ rfl rfl rfl rfl (stab_of (Hle.refl _) ⟨⟨0, rfl⟩, ⟨1, rfl⟩, ⟨2, rfl⟩, ⟨3, rfl⟩, ⟨4, rfl⟩, trivial⟩) rfl ?_
                                refine JA.no ⟨by kernel_rfl, by kernel_rfl⟩ (calm_only _) (i := 28) rfl ⟨by kernel_rfl, by kernel_rfl, rfl⟩ rfl rfl rfl rfl (stab_of (Hle.refl _) ⟨⟨0, rfl⟩, ⟨1, rfl⟩, ⟨2, rfl⟩, ⟨3, rfl⟩, ⟨4, rfl⟩, trivial⟩) rfl ?_
                                refine JA.no ⟨by kernel_rfl, by kernel_rfl⟩ (calm_only _) (i := 29) rfl ⟨by kernel_rfl, by kernel_rfl, rfl⟩ rfl rfl rfl rfl (stab_of (Hle.refl _) ⟨⟨0, rfl⟩, ⟨1, rfl⟩, ⟨2, rfl⟩, ⟨3, rfl⟩, ⟨4, rfl⟩, trivial⟩) rfl ?_
                                refine JA.no ⟨by kernel_rfl, by kernel_rfl⟩ (calm_only _) (i := 30) rfl ⟨by kernel_rfl, by kernel_rfl, rfl⟩ rfl rfl rfl rfl (stab_of (Hle.refl _) ⟨⟨0, rfl⟩, ⟨1, rfl⟩, ⟨2, rfl⟩, ⟨3, rfl⟩, ⟨4, rfl⟩, trivial⟩) rfl ?_
                                refine JA.val ⟨by kernel_rfl, by kernel_rfl⟩ (calm_only _) (i := 31) rfl ⟨by kernel_rfl, by kernel_rfl, rfl⟩ trivial (stab_of (Hle.refl _) ⟨⟨0, rfl⟩, ⟨1, rfl⟩, ⟨2, rfl⟩, ⟨3, rfl⟩, ⟨4, rfl⟩, trivial⟩) (R.pickF rfl rfl) rfl ?_
                                refine JA.val ⟨by kernel_rfl, by kernel_rfl⟩ (calm_only _) (i := 32) rfl ⟨by kernel_rfl, by kernel_rfl, rfl⟩ trivial (stab_of (Hle.refl _) ⟨⟨0, rfl⟩, ⟨1, rfl⟩, ⟨2, rfl⟩, ⟨3, rfl⟩, ⟨4, rfl⟩, trivial⟩) (R.move rfl) rfl ?_
                                refine JA.no ⟨by kernel_rfl, by kernel_rfl⟩ (calm_only _) (i := 33) rfl ⟨by kernel_rfl, by kernel_rfl, rfl⟩ rfl rfl rfl rfl (stab_of (Hle.refl _) ⟨⟨0, rfl⟩, ⟨1, rfl⟩, ⟨2, rfl⟩, ⟨3, rfl⟩, ⟨4, rfl⟩, trivial⟩) rfl ?_
                                refine JA.no ⟨by kernel_rfl, by kernel_rfl⟩ (calm_only _) (i := 34) rfl ⟨by kernel_rfl, by kernel_rfl, rfl⟩ rfl rfl rfl rfl (stab_of (Hle.refl _) ⟨⟨0, rfl⟩, ⟨1, rfl⟩, ⟨2, rfl⟩, ⟨3, rfl⟩, ⟨4, rfl⟩, trivial⟩) rfl ?_
                                refine JA.no ⟨by kernel_rfl, by kernel_rfl⟩ (calm_only _) (i := 35) rfl ⟨by kernel_rfl, by kernel_rfl, rfl⟩ rfl rfl rfl rfl (stab_of (Hle.refl _) ⟨⟨0, rfl⟩, ⟨1, rfl⟩, ⟨2, rfl⟩, ⟨3, rfl⟩, ⟨4, rfl⟩, trivial⟩) rfl ?_
                                refine JA.no ⟨by kernel_rfl, by kernel_rfl⟩ (calm_only _) (i := 36) rfl ⟨by kernel_rfl, by kernel_rfl, rfl⟩ rfl rfl rfl rfl (stab_of (Hle.refl _) ⟨⟨0, rfl⟩, ⟨1, rfl⟩, ⟨2, rfl⟩, ⟨3, rfl⟩, ⟨4, rfl⟩, trivial⟩) rfl ?_
                                refine JA.no ⟨by kernel_rfl, by kernel_rfl⟩ (calm_only _) (i := 37) rfl ⟨by kernel_rfl, by kernel_rfl, rfl⟩ rfl rfl rfl rfl (stab_of (Hle.refl _) ⟨⟨0, rfl⟩, ⟨1, rfl⟩, ⟨2, rfl⟩, ⟨3, rfl⟩, ⟨4, rfl⟩, trivial⟩) rfl ?_
                                refine JA.val ⟨by kernel_rfl, by kernel_rfl⟩ (calm_only _) (i := 38) rfl ⟨by kernel_rfl, by kernel_rfl, rfl⟩ trivial (stab_of (Hle.refl _) ⟨⟨0, rfl⟩, ⟨1, rfl⟩, ⟨2, rfl⟩, ⟨3, rfl⟩, ⟨4, rfl⟩, trivial⟩) (R.pickF rfl rfl) rfl ?_
                                refine JA.val ⟨by kernel_rfl, by kernel_rfl⟩ (calm_only _) (i := 39) rfl ⟨by kernel_rfl, by kernel_rfl, rfl⟩ trivial (stab_of (Hle.refl _) ⟨⟨0, rfl⟩, ⟨1, rfl⟩, ⟨2, rfl⟩, ⟨3, rfl⟩, ⟨4, rfl⟩, trivial⟩) (R.move rfl) rfl ?_
                                refine JA.no ⟨by kernel_rfl, by kernel_rfl⟩ (calm_only _) (i := 40) rfl ⟨by kernel_rfl, by kernel_rfl, rfl⟩ rfl rfl rfl rfl (stab_of (Hle.refl _) ⟨⟨0, rfl⟩, ⟨1, rfl⟩, ⟨2, rfl⟩, ⟨3, rfl⟩, ⟨4, rfl⟩, trivial⟩) rfl ?_
                                refine JA.no ⟨by kernel_rfl, by kernel_rfl⟩ (calm_only _) (i := 41) rfl ⟨by kernel_rfl, by kernel_rfl, rfl⟩ rfl rfl rfl rfl (stab_of (Hle.refl _) ⟨⟨0, rfl⟩, ⟨1, rfl⟩, ⟨2, rfl⟩, ⟨3, rfl⟩, ⟨4, rfl⟩, trivial⟩) rfl ?_
                                refine JA.no ⟨by kernel_rfl, by kernel_rfl⟩ (calm_only _) (i := 42) rfl ⟨by kernel_rfl, by kernel_rfl, rfl⟩ rfl rfl rfl rfl (stab_of (Hle.refl _) ⟨⟨0, rfl⟩, ⟨1, rfl⟩, ⟨2, rfl⟩, ⟨3, rfl⟩, ⟨4, rfl⟩, trivial⟩) rfl ?_
                                refine JA.no ⟨by kernel_rfl, by kernel_rfl⟩ (calm_only _) (i := 43) rfl ⟨by kernel_rfl, by kernel_rfl, rfl⟩ rfl rfl rfl rfl (stab_of (Hle.refl _) ⟨⟨0, rfl⟩, ⟨1, rfl⟩, ⟨2, rfl⟩, ⟨3, rfl⟩, ⟨4, rfl⟩, trivial⟩) rfl ?_
                                refine JA.no ⟨by kernel_rfl, by kernel_rfl⟩ (calm_only _) (i := 44) rfl ⟨by kernel_rfl, by kernel_rfl, rfl⟩ rfl rfl rfl rfl (stab_of (Hle.refl _) ⟨⟨0, rfl⟩, ⟨1, rfl⟩, ⟨2, rfl⟩, ⟨3, rfl⟩, ⟨4, rfl⟩, trivial⟩) rfl ?_
                                refine JA.no ⟨by kernel_rfl, by kernel_rfl⟩ (calm_only _) (i := 45) rfl ⟨by kernel_rfl, by kernel_rfl, rfl⟩ rfl rfl rfl rfl (stab_of (Hle.refl _) ⟨⟨0, rfl⟩, ⟨1, rfl⟩, ⟨2, rfl⟩, ⟨3, rfl⟩, ⟨4, rfl⟩, trivial⟩) rfl ?_
                                refine JA.noU ⟨by kernel_rfl, by kernel_rfl⟩ (calm_only _) (i := 46) rfl ⟨by kernel_rfl, by kernel_rfl, rfl⟩ rfl rfl rfl (stab_of (Hle.refl _) ⟨⟨0, rfl⟩, ⟨1, rfl⟩, ⟨2, rfl⟩, ⟨3, rfl⟩, ⟨4, rfl⟩, trivial⟩) rfl ?_
                                refine JA.noU ⟨by kernel_rfl, by kernel_rfl⟩ (calm_only _) (i := 47) rfl ⟨by kernel_rfl, by kernel_rfl, rfl⟩ rfl rfl rfl (stab_of (Hle.refl _) ⟨⟨0, rfl⟩, ⟨1, rfl⟩, ⟨2, rfl⟩, ⟨3, rfl⟩, ⟨4, rfl⟩, trivial⟩) rfl ?_
                                refine JA.noU ⟨by kernel_rfl, by kernel_rfl⟩ (calm_only _) (i := 48) rfl ⟨by kernel_rfl, by kernel_rfl, rfl⟩ rfl rfl rfl (stab_of (Hle.refl _) ⟨⟨0, rfl⟩, ⟨1, rfl⟩, ⟨2, rfl⟩, ⟨3, rfl⟩, ⟨4, rfl⟩, trivial⟩) rfl ?_
                                refine JA.noU ⟨by kernel_rfl, by kernel_rfl⟩ (calm_only _) (i := 49) rfl ⟨by kernel_rfl, by kernel_rfl, rfl⟩ rfl rfl rfl (stab_of (Hle.refl _) ⟨⟨0, rfl⟩, ⟨1, rfl⟩, ⟨2, rfl⟩, ⟨3, rfl⟩, ⟨4, rfl⟩, trivial⟩) rfl ?_
                                refine JA.noU ⟨by kernel_rfl, by kernel_rfl⟩ (calm_only _) (i := 50) rfl ⟨by kernel_rfl, by kernel_rfl, rfl⟩ rfl rfl rfl (stab_of (Hle.refl _) ⟨⟨0, rfl⟩, ⟨1, rfl⟩, ⟨2, rfl⟩, ⟨3, rfl⟩, ⟨4, rfl⟩, trivial⟩) rfl ?_
                                refine JA.no ⟨by kernel_rfl, by kernel_rfl⟩ (calm_only _) (i := 51) rfl ⟨by kernel_rfl, by kernel_rfl, rfl⟩ rfl rfl rfl rfl (stab_of (Hle.refl _) ⟨⟨0, rfl⟩, ⟨1, rfl⟩, ⟨2, rfl⟩, ⟨3, rfl⟩, ⟨4, rfl⟩, trivial⟩) rfl ?_
                                refine JA.val ⟨by kernel_rfl, by kernel_rfl⟩ (calm_only _) (i := 52) rfl ⟨by kernel_rfl, by kernel_rfl, rfl⟩ trivial (stab_of (Hle.refl _) ⟨⟨0, rfl⟩, ⟨1, rfl⟩, ⟨2, rfl⟩, ⟨3, rfl⟩, ⟨4, rfl⟩, trivial⟩) (R.pickF rfl rfl) rfl ?_
                                refine JA.val ⟨by kernel_rfl, by kernel_rfl⟩ (calm_only _) (i := 53) rfl ⟨by kernel_rfl, by kernel_rfl, rfl⟩ trivial (stab_of (Hle.refl _) ⟨⟨0, rfl⟩, ⟨1, rfl⟩, ⟨2, rfl⟩, ⟨3, rfl⟩, ⟨4, rfl⟩, trivial⟩) (R.assign rfl) rfl ?_
                                refine JA.doneN (by kernel_rfl) ?_
                                obtain rfl := Option.some.inj hx
                                refine JN.forget 4 ?_
                                refine JN.forget 3 ?_
                                refine JN.forget 2 ?_
                                refine JN.forget 1 ?_
                                refine JN.forget 0 ?_
                                exact JN.cut ⟨rfl, rfl, rfl⟩ ⟨rfl, trivial⟩ rfl rfl
                            · replace hx := cond_f c_115 hx
                              refine JA.no ⟨by kernel_rfl, by kernel_rfl⟩ (calm_only _) (i := 18) rfl ⟨by kernel_rfl, by kernel_rfl, rfl⟩ rfl rfl rfl rfl (stab_of (Hle.refl _) ⟨⟨0, rfl⟩, ⟨1, rfl⟩, ⟨2, rfl⟩, ⟨3, rfl⟩, ⟨4, rfl⟩, trivial⟩) rfl ?_
                              refine JA.no ⟨by kernel_rfl, by kernel_rfl⟩ (calm_only _) (i := 19) rfl ⟨by kernel_rfl, by kernel_rfl, rfl⟩ rfl rfl rfl rfl (stab_of (Hle.refl _) ⟨⟨0, rfl⟩, ⟨1, rfl⟩, ⟨2, rfl⟩, ⟨3, rfl⟩, ⟨4, rfl⟩, trivial⟩) rfl ?_
                              refine JA.val ⟨by kernel_rfl, by kernel_rfl⟩ (calm_only _) (i := 20) rfl ⟨by kernel_rfl, by kernel_rfl, rfl⟩ trivial (stab_of (Hle.refl _) ⟨⟨0, rfl⟩, ⟨1, rfl⟩, ⟨2, rfl⟩, ⟨3, rfl⟩, ⟨4, rfl⟩, trivial⟩) (R.pickF rfl rfl) rfl ?_
                              refine JA.val ⟨by kernel_rfl, by kernel_rfl⟩ (calm_only _) (i := 21) rfl ⟨by kernel_rfl, by kernel_rfl, rfl⟩ trivial (stab_of (Hle.refl _) ⟨⟨0, rfl⟩, ⟨1, rfl⟩, ⟨2, rfl⟩, ⟨3, rfl⟩, ⟨4, rfl⟩, trivial⟩) (R.move rfl) rfl ?_
                              refine JA.no ⟨by kernel_rfl, by kernel_rfl⟩ (calm_only _) (i := 22) rfl ⟨by kernel_rfl, by kernel_rfl, rfl⟩ rfl rfl rfl rfl (stab_of (Hle.refl _) ⟨⟨0, rfl⟩, ⟨1, rfl⟩, ⟨2, rfl⟩, ⟨3, rfl⟩, ⟨4, rfl⟩, trivial⟩) rfl ?_
                              refine JA.no ⟨by kernel_rfl, by kernel_rfl⟩ (calm_only _) (i := 23) rfl ⟨by kernel_rfl, by kernel_rfl, rfl⟩ rfl rfl rfl rfl (stab_of (Hle.refl _) ⟨⟨0, rfl⟩, ⟨1, rfl⟩, ⟨2, rfl⟩, ⟨3, rfl⟩, ⟨4, rfl⟩, trivial⟩) rfl ?_
                              refine JA.val ⟨by kernel_rfl, by kernel_rfl⟩ (calm_only _) (i := 24) rfl ⟨by kernel_rfl, by kernel_rfl, rfl⟩ trivial (stab_of (Hle.refl _) ⟨⟨0, rfl⟩, ⟨1, rfl⟩, ⟨2, rfl⟩, ⟨3, rfl⟩, ⟨4, rfl⟩, trivial⟩) (R.pickF rfl rfl) rfl ?_
                              refine JA.val ⟨by kernel_rfl, by kernel_rfl⟩ (calm_only _) (i := 25) rfl ⟨by kernel_rfl, by kernel_rfl, rfl⟩ trivial (stab_of (Hle.refl _) ⟨⟨0, rfl⟩, ⟨1, rfl⟩, ⟨2, rfl⟩, ⟨3, rfl⟩, ⟨4, rfl⟩, trivial⟩) (R.move rfl) rfl ?_
                              refine JA.no ⟨by kernel_rfl, by kernel_rfl⟩ (calm_only _) (i := 26) rfl ⟨by kernel_rfl, by kernel_rfl, rfl⟩ rfl rfl rfl rfl (stab_of (Hle.refl _) ⟨⟨0, rfl⟩, ⟨1, rfl⟩, ⟨2, rfl⟩, ⟨3, rfl⟩, ⟨4, rfl⟩, trivial⟩) rfl ?_
                              refine JA.no ⟨by kernel_rfl, by kernel_rfl⟩ (calm_only _) (i := 27) rfl ⟨by kernel_rfl, by kernel_rfl, rfl⟩ rfl rfl rfl rfl (stab_of (Hle.refl _) ⟨⟨0, rfl⟩, ⟨1, rfl⟩, ⟨2, rfl⟩, ⟨3, rfl⟩, ⟨4, rfl⟩, trivial⟩) rfl ?_
                              refine JA.no ⟨by kernel_rfl, by kernel_rfl⟩ (calm_only _) (i := 28) rfl ⟨by kernel_rfl, by kernel_rfl, rfl⟩ rfl rfl rfl rfl (stab_of (Hle.refl _) ⟨⟨0, rfl⟩, ⟨1, rfl⟩, ⟨2, rfl⟩, ⟨3, rfl⟩, ⟨4, rfl⟩, trivial⟩) rfl ?_
                              refine JA.no ⟨by kernel_rfl, by kernel_rfl⟩ (calm_only _) (i := 29) rfl ⟨by kernel_rfl, by kernel_rfl, rfl⟩ rfl rfl rfl rfl (stab_of (Hle.refl _) ⟨⟨0, rfl⟩, ⟨1, rfl⟩, ⟨2, rfl⟩, ⟨3, rfl⟩, ⟨4, rfl⟩, trivial⟩) rfl ?_
                              refine JA.no ⟨by kernel_rfl, by kernel_rfl⟩ (calm_only _) (i := 30) rfl ⟨by kernel_rfl, by kernel_rfl, rfl⟩ rfl rfl rfl rfl (stab_of (Hle.refl _) ⟨⟨0, rfl⟩, ⟨1, rfl⟩, ⟨2, rfl⟩, ⟨3, rfl⟩, ⟨4, rfl⟩, trivial⟩) rfl ?_
                              refine JA.val ⟨by kernel_rfl, by kernel_rfl⟩ (calm_only _) (i := 31) rfl ⟨by kernel_rfl, by kernel_rfl, rfl⟩ trivial (stab_of (Hle.refl _) ⟨⟨0, rfl⟩, ⟨1, rfl⟩, ⟨2, rfl⟩, ⟨3, rfl⟩, ⟨4, rfl⟩, trivial⟩) (R.pickF rfl rfl) rfl ?_
                              refine JA.val ⟨by kernel_rfl, by kernel_rfl⟩ (calm_only _) (i := 32) rfl ⟨by kernel_rfl, by kernel_rfl, rfl⟩ trivial (stab_of (Hle.refl _) ⟨⟨0, rfl⟩, ⟨1, rfl⟩, ⟨2, rfl⟩, ⟨3, rfl⟩, ⟨4, rfl⟩, trivial⟩) (R.move rfl) rfl ?_
                              refine JA.no ⟨by kernel_rfl, by kernel_rfl⟩ (calm_only _) (i := 33) rfl ⟨by kernel_rfl, by kernel_rfl, rfl⟩ rfl rfl rfl rfl (stab_of (Hle.refl _) ⟨⟨0, rfl⟩, ⟨1, rfl⟩, ⟨2, rfl⟩, ⟨3, rfl⟩, ⟨4, rfl⟩, trivial⟩) rfl ?_
                              refine JA.no ⟨by kernel_rfl, by kernel_rfl⟩ (calm_only _) (i := 34) rfl ⟨by kernel_rfl, by kernel_rfl, rfl⟩ rfl rfl rfl rfl (stab_of (Hle.refl _) ⟨⟨0, rfl⟩, ⟨1, rfl⟩, ⟨2, rfl⟩, ⟨3, rfl⟩, ⟨4, rfl⟩, trivial⟩) rfl ?_
                              refine JA.no ⟨by kernel_rfl, by kernel_rfl⟩ (calm_only _) (i := 35) rfl ⟨by kernel_rfl, by kernel_rfl, rfl⟩ rfl rfl rfl rfl (stab_of (Hle.refl _) ⟨⟨0, rfl⟩, ⟨1, rfl⟩, ⟨2, rfl⟩, ⟨3, rfl⟩, ⟨4, rfl⟩, trivial⟩) rfl ?_
                              refine JA.no ⟨by kernel_rfl, by kernel_rfl⟩ (calm_only _) (i := 36) rfl ⟨by kernel_rfl, by kernel_rfl, rfl⟩ rfl rfl rfl rfl (stab_of (Hle.refl _) ⟨⟨0, rfl⟩, ⟨1, rfl⟩, ⟨2, rfl⟩, ⟨3, rfl⟩, ⟨4, rfl⟩, trivial⟩) rfl ?_
                              refine JA.no ⟨by kernel_rfl, by kernel_rfl⟩ (calm_only _) (i := 37) rfl ⟨by kernel_rfl, by kernel_rfl, rfl⟩ rfl rfl rfl rfl (stab_of (Hle.refl _) ⟨⟨0, rfl⟩, ⟨1, rfl⟩, ⟨2, rfl⟩, ⟨3, rfl⟩, ⟨4, rfl⟩, trivial⟩) rfl ?_
                              refine JA.val ⟨by kernel_rfl, by kernel_rfl⟩ (calm_only _) (i := 38) rfl ⟨by kernel_rfl, by kernel_rfl, rfl⟩ trivial (stab_of (Hle.refl _) ⟨⟨0, rfl⟩, ⟨1, rfl⟩, ⟨2, rfl⟩, ⟨3, rfl⟩, ⟨4, rfl⟩, trivial⟩) (R.pickF rfl rfl) rfl ?_
                              refine JA.val ⟨by kernel_rfl, by kernel_rfl⟩ (calm_only _) (i := 39) rfl ⟨by kernel_rfl, by kernel_rfl, rfl⟩ trivial (stab_of (Hle.refl _) ⟨⟨0, rfl⟩, ⟨1, rfl⟩, ⟨2, rfl⟩, ⟨3, rfl⟩, ⟨4, rfl⟩, trivial⟩) (R.move rfl) rfl ?_
                              refine JA.no ⟨by kernel_rfl, by kernel_rfl⟩ (calm_only _) (i := 40) rfl ⟨by kernel_rfl, by kernel_rfl, rfl⟩ rfl rfl rfl rfl (stab_of (Hle.refl _) ⟨⟨0, rfl⟩, ⟨1, rfl⟩, ⟨2, rfl⟩, ⟨3, rfl⟩, ⟨4, rfl⟩, trivial⟩) rfl ?_
                              refine JA.no ⟨by kernel_rfl, by kernel_rfl⟩ (calm_only _) (i := 41) rfl ⟨by kernel_rfl, by kernel_rfl, rfl⟩ rfl rfl rfl rfl (stab_of (Hle.refl _) ⟨⟨0, rfl⟩, ⟨1, rfl⟩, ⟨2, rfl⟩, ⟨3, rfl⟩, ⟨4, rfl⟩, trivial⟩) rfl ?_
                              refine JA.no ⟨by kernel_rfl, by kernel_rfl⟩ (calm_only _) (i := 42) rfl ⟨by kernel_rfl, by kernel_rfl, rfl⟩ rfl rfl rfl rfl (stab_of (Hle.refl _) ⟨⟨0, rfl⟩, ⟨1, rfl⟩, ⟨2, rfl⟩, ⟨3, rfl⟩, ⟨4, rfl⟩, trivial⟩) rfl ?_
                              refine JA.no ⟨by kernel_rfl, by kernel_rfl⟩ (calm_only _) (i := 43) rfl ⟨by kernel_rfl, by kernel_rfl, rfl⟩ rfl rfl rfl rfl (stab_of (Hle.refl _) ⟨⟨0, rfl⟩, ⟨1, rfl⟩, ⟨2, rfl⟩, ⟨3, rfl⟩, ⟨4, rfl⟩, trivial⟩) rfl ?_
                              refine JA.no ⟨by kernel_rfl, by kernel_rfl⟩ (calm_only _) (i := 44) rfl ⟨by kernel_rfl, by kernel_rfl, rfl⟩ rfl rfl rfl rfl (stab_of (Hle.refl _) ⟨⟨0, rfl⟩, ⟨1, rfl⟩, ⟨2, rfl⟩, ⟨3, rfl⟩, ⟨4, rfl⟩, trivial⟩) rfl ?_
                              refine JA.no ⟨by kernel_rfl, by kernel_rfl⟩ (calm_only _) (i := 45) rfl ⟨by kernel_rfl, by kernel_rfl, rfl⟩ rfl rfl rfl rfl (stab_of (Hle.refl _) ⟨⟨0, rfl⟩, ⟨1, rfl⟩, ⟨2, rfl⟩, ⟨3, rfl⟩, ⟨4, rfl⟩, trivial⟩) rfl ?_
                              refine JA.noU ⟨by kernel_rfl, by kernel_rfl⟩ (calm_only _) (i := 46) rfl ⟨by kernel_rfl, by kernel_rfl, rfl⟩ rfl rfl rfl (stab_of (Hle.refl _) ⟨⟨0, rfl⟩, ⟨1, rfl⟩, ⟨2, rfl⟩, ⟨3, rfl⟩, ⟨4, rfl⟩, trivial⟩) rfl ?_
                              refine JA.noU ⟨by kernel_rfl, by kernel_rfl⟩ (calm_only _) (i := 47) rfl ⟨by kernel_rfl, by kernel_rfl, rfl⟩ rfl rfl rfl (stab_of (Hle.refl _) ⟨⟨0, rfl⟩, ⟨1, rfl⟩, ⟨2, rfl⟩, ⟨3, rfl⟩, ⟨4, rfl⟩, trivial⟩) rfl ?_
                              refine JA.noU ⟨by kernel_rfl, by kernel_rfl⟩ (calm_only _) (i := 48) rfl ⟨by kernel_rfl, by kernel_rfl, rfl⟩ rfl rfl rfl (stab_of (Hle.refl _) ⟨⟨0, rfl⟩, ⟨1, rfl⟩, ⟨2, rfl⟩, ⟨3, rfl⟩, ⟨4, rfl⟩, trivial⟩) rfl ?_
                              refine JA.noU ⟨by kernel_rfl, by kernel_rfl⟩ (calm_only _) (i := 49) rfl ⟨by kernel_rfl, by kernel_rfl, rfl⟩ rfl rfl rfl (stab_of (Hle.refl _) ⟨⟨0, rfl⟩, ⟨1, rfl⟩, ⟨2, rfl⟩, ⟨3, rfl⟩, ⟨4, rfl⟩, trivial⟩) rfl ?_
                              refine JA.noU ⟨by kernel_rfl, by kernel_rfl⟩ (calm_only _) (i := 50) rfl ⟨by kernel_rfl, by kernel_rfl, rfl⟩ rfl rfl rfl (stab_of (Hle.refl _) ⟨⟨0, rfl⟩, ⟨1, rfl⟩, ⟨2, rfl⟩, ⟨3, rfl⟩, ⟨4, rfl⟩, trivial⟩) rfl ?_
                              refine JA.no ⟨by kernel_rfl, by kernel_rfl⟩ (calm_only _) (i := 51) rfl ⟨by kernel_rfl, by kernel_rfl, rfl⟩ rfl rfl rfl rfl (stab_of (Hle.refl _) ⟨⟨0, rfl⟩, ⟨1, rfl⟩, ⟨2, rfl⟩, ⟨3, rfl⟩, ⟨4, rfl⟩, trivial⟩) rfl ?_
                              refine JA.val ⟨by kernel_rfl, by kernel_rfl⟩ (calm_only _) (i := 52) rfl ⟨by kernel_rfl, by kernel_rfl, rfl⟩ trivial (stab_of (Hle.refl _) ⟨⟨0, rfl⟩, ⟨1, rfl⟩, ⟨2, rfl⟩, ⟨3, rfl⟩, ⟨4, rfl⟩, trivial⟩) (R.pickF rfl rfl) rfl ?_
                              refine JA.val ⟨by kernel_rfl, by kernel_rfl⟩ (calm_only _) (i := 53) rfl ⟨by kernel_rfl, by kernel_rfl, rfl⟩ trivial (stab_of (Hle.refl _) ⟨⟨0, rfl⟩, ⟨1, rfl⟩, ⟨2, rfl⟩, ⟨3, rfl⟩, ⟨4, rfl⟩, trivial⟩) (R.assign rfl) rfl ?_
                              refine JA.doneN (by kernel_rfl) ?_
                              obtain rfl := Option.some.inj hx
                              refine JN.forget 4 ?_
                              refine JN.forget 3 ?_
                              refine JN.forget 2 ?_
                              refine JN.forget 1 ?_
                              refine JN.forget 0 ?_
                              exact JN.cut ⟨rfl, rfl, rfl⟩ ⟨rfl, trivial⟩ rfl rfl
                          · replace hx := cond_f c_103 hx
                            refine JA.no ⟨by kernel_rfl, by kernel_rfl⟩ (calm_only _) (i := 10) rfl ⟨by kernel_rfl, by kernel_rfl, rfl⟩ rfl rfl rfl rfl (stab_of (Hle.refl _) ⟨⟨0, rfl⟩, ⟨1, rfl⟩, ⟨2, rfl⟩, ⟨3, rfl⟩, ⟨4, rfl⟩, trivial⟩) rfl ?_
                            refine JA.no ⟨by kernel_rfl, by kernel_rfl⟩ (calm_only _) (i := 11) rfl ⟨by kernel_rfl, by kernel_rfl, rfl⟩ rfl rfl rfl rfl (stab_of (Hle.refl _) ⟨⟨0, rfl⟩, ⟨1, rfl⟩, ⟨2, rfl⟩, ⟨3, rfl⟩, ⟨4, rfl⟩, trivial⟩) rfl ?_
                            refine JA.no ⟨by kernel_rfl, by kernel_rfl⟩ (calm_only _) (i := 12) rfl ⟨by kernel_rfl, by kernel_rfl, rfl⟩ rfl rfl rfl rfl (stab_of (Hle.refl _) ⟨⟨0, rfl⟩, ⟨1, rfl⟩, ⟨2, rfl⟩, ⟨3, rfl⟩, ⟨4, rfl⟩, trivial⟩) rfl ?_
                            refine JA.no ⟨by kernel_rfl, by kernel_rfl⟩ (calm_only _) (i := 13) rfl ⟨by kernel_rfl, by kernel_rfl, rfl⟩ rfl rfl rfl rfl (stab_of (Hle.refl _) ⟨⟨0, rfl⟩, ⟨1, rfl⟩, ⟨2, rfl⟩, ⟨3, rfl⟩, ⟨4, rfl⟩, trivial⟩) rfl ?_
                            refine JA.no ⟨by kernel_rfl, by kernel_rfl⟩ (calm_only _) (i := 14) rfl ⟨by kernel_rfl, by kernel_rfl, rfl⟩ rfl rfl rfl rfl (stab_of (Hle.refl _) ⟨⟨0, rfl⟩, ⟨1, rfl⟩, ⟨2, rfl⟩, ⟨3, rfl⟩, ⟨4, rfl⟩, trivial⟩) rfl ?_
                            refine JA.no ⟨by kernel_rfl, by kernel_rfl⟩ (calm_only _) (i := 15) rfl ⟨by kernel_rfl, by kernel_rfl, rfl⟩ rfl rfl rfl rfl (stab_of (Hle.refl _) ⟨⟨0, rfl⟩, ⟨1, rfl⟩, ⟨2, rfl⟩, ⟨3, rfl⟩, ⟨4, rfl⟩, trivial⟩) rfl ?_
                            refine JA.val ⟨by kernel_rfl, by kernel_rfl⟩ (calm_only _) (i := 16) rfl ⟨by kernel_rfl, by kernel_rfl, rfl⟩ trivial (stab_of (Hle.refl _) ⟨⟨0, rfl⟩, ⟨1, rfl⟩, ⟨2, rfl⟩, ⟨3, rfl⟩, ⟨4, rfl⟩, trivial⟩) (R.pickF rfl rfl) rfl ?_
                            refine JA.val ⟨by kernel_rfl, by kernel_rfl⟩ (calm_only _) (i := 17) rfl ⟨by kernel_rfl, by kernel_rfl, rfl⟩ trivial (stab_of (Hle.refl _) ⟨⟨0, rfl⟩, ⟨1, rfl⟩, ⟨2, rfl⟩, ⟨3, rfl⟩, ⟨4, rfl⟩, trivial⟩) (R.move rfl) rfl ?_
                            refine JA.no ⟨by kernel_rfl, by kernel_rfl⟩ (calm_only _) (i := 18) rfl ⟨by kernel_rfl, by kernel_rfl, rfl⟩ rfl rfl rfl rfl (stab_of (Hle.refl _) ⟨⟨0, rfl⟩, ⟨1, rfl⟩, ⟨2, rfl⟩, ⟨3, rfl⟩, ⟨4, rfl⟩, trivial⟩) rfl ?_
                            refine JA.no ⟨by kernel_rfl, by kernel_rfl⟩ (calm_only _) (i := 19) rfl ⟨by kernel_rfl, by kernel_rfl, rfl⟩ rfl rfl rfl rfl (stab_of (Hle.refl _) ⟨⟨0, rfl⟩, ⟨1, rfl⟩, ⟨2, rfl⟩, ⟨3, rfl⟩, ⟨4, rfl⟩, trivial⟩) rfl ?_
                            refine JA.val ⟨by kernel_rfl, by kernel_rfl⟩ (calm_only _) (i := 20) rfl ⟨by kernel_rfl, by kernel_rfl, rfl⟩ trivial (stab_of (Hle.refl _) ⟨⟨0, rfl⟩, ⟨1, rfl⟩, ⟨2, rfl⟩, ⟨3, rfl⟩, ⟨4, rfl⟩, trivial⟩) (R.pickF rfl rfl) rfl ?_
                            refine JA.val ⟨by kernel_rfl, by kernel_rfl⟩ (calm_only _) (i := 21) rfl ⟨by kernel_rfl, by kernel_rfl, rfl⟩ trivial (stab_of (Hle.refl _) ⟨⟨0, rfl⟩, ⟨1, rfl⟩, ⟨2, rfl⟩, ⟨3, rfl⟩, ⟨4, rfl⟩, trivial⟩) (R.move rfl) rfl ?_
                            refine JA.no ⟨by kernel_rfl, by kernel_rfl⟩ (calm_only _) (i := 22) rfl ⟨by kernel_rfl, by kernel_rfl, rfl⟩ rfl rfl rfl rfl (stab_of (Hle.refl _) ⟨⟨0, rfl⟩, ⟨1, rfl⟩, ⟨2, rfl⟩, ⟨3, rfl⟩, ⟨4, rfl⟩, trivial⟩) rfl ?_
                            refine JA.no ⟨by kernel_rfl, by kernel_rfl⟩ (calm_only _) (i := 23) rfl ⟨by kernel_rfl, by kernel_rfl, rfl⟩ rfl rfl rfl rfl (stab_of (Hle.refl _) ⟨⟨0, rfl⟩, ⟨1, rfl⟩, ⟨2, rfl⟩, ⟨3, rfl⟩, ⟨4, rfl⟩, trivial⟩) rfl ?_
                            refine JA.val ⟨by kernel_rfl, by kernel_rfl⟩ (calm_only _) (i := 24) rfl ⟨by kernel_rfl, by kernel_rfl, rfl⟩ trivial (stab_of (Hle.refl _) ⟨⟨0, rfl⟩, ⟨1, rfl⟩, ⟨2, rfl⟩, ⟨3, rfl⟩, ⟨4, rfl⟩, trivial⟩) (R.pickF rfl rfl) rfl ?_
                            refine JA.val ⟨by kernel_rfl, by kernel_rfl⟩ (calm_only _) (i := 25) rfl ⟨by kernel_rfl, by kernel_rfl, rfl⟩ trivial (stab_of (Hle.refl _) ⟨⟨0, rfl⟩, ⟨1, rfl⟩, ⟨2, rfl⟩, ⟨3, rfl⟩, ⟨4, rfl⟩, trivial⟩) (R.move rfl) rfl ?_
                            refine JA.no ⟨by kernel_rfl, by kernel_rfl⟩ (calm_only _) (i := 26) rfl ⟨by kernel_rfl, by kernel_rfl, rfl⟩ rfl rfl rfl rfl (stab_of (Hle.refl _) ⟨⟨0, rfl⟩, ⟨1, rfl⟩, ⟨2, rfl⟩, ⟨3, rfl⟩, ⟨4, rfl⟩, trivial⟩) rfl ?_
                            refine JA.no ⟨by kernel_rfl, by kernel_rfl⟩ (calm_only _) (i := 27) rfl ⟨by kernel_rfl, by kernel_rfl, rfl⟩ rfl rfl rfl rfl (stab_of (Hle.refl _) ⟨⟨0, rfl⟩, ⟨1, rfl⟩, ⟨2, rfl⟩, ⟨3, rfl⟩, ⟨4, rfl⟩, trivial⟩) rfl ?_
                            refine JA.no ⟨by kernel_rfl, by kernel_rfl⟩ (calm_only _) (i := 28) rfl ⟨by kernel_rfl, by kernel_rfl, rfl⟩ rfl rfl rfl rfl (stab_of (Hle.refl _) ⟨⟨0, rfl⟩, ⟨1, rfl⟩, ⟨2, rfl⟩, ⟨3, rfl⟩, ⟨4, rfl⟩, trivial⟩) rfl ?_
                            refine JA.no ⟨by kernel_rfl, by kernel_rfl⟩ (calm_only _) (i := 29) rfl ⟨by kernel_rfl, by kernel_rfl, rfl⟩ rfl rfl rfl rfl (stab_of (Hle.refl _) ⟨⟨0, rfl⟩, ⟨1, rfl⟩, ⟨2, rfl⟩, ⟨3, rfl⟩, ⟨4, rfl⟩, trivial⟩) rfl ?_
                            refine JA.no ⟨by kernel_rfl, by kernel_rfl⟩ (calm_only _) (i := 30) rfl ⟨by kernel_rfl, by kernel_rfl, rfl⟩ rfl rfl rfl rfl (stab_of (Hle.refl _) ⟨⟨0, rfl⟩, ⟨1, rfl⟩, ⟨2, rfl⟩, ⟨3, rfl⟩, ⟨4, rfl⟩, trivial⟩) rfl ?_
                            refine JA.val ⟨by kernel_rfl, by kernel_rfl⟩ (calm_only _) (i := 31) rfl ⟨by kernel_rfl, by kernel_rfl, rfl⟩ trivial (stab_of (Hle.refl _) ⟨⟨0, rfl⟩, ⟨1, rfl⟩, ⟨2, rfl⟩, ⟨3, rfl⟩, ⟨4, rfl⟩, trivial⟩) (R.pickF rfl rfl) rfl ?_
                            refine JA.val ⟨by kernel_rfl, by kernel_rfl⟩ (calm_only _) (i := 32) rfl ⟨by kernel_rfl, by kernel_rfl, rfl⟩ trivial (stab_of (Hle.refl _) ⟨⟨0, rfl⟩, ⟨1, rfl⟩, ⟨2, rfl⟩, ⟨3, rfl⟩, ⟨4, rfl⟩, trivial⟩) (R.move rfl) rfl ?_
                            refine JA.no ⟨by kernel_rfl, by kernel_rfl⟩ (calm_only _) (i := 33) rfl ⟨by kernel_rfl, by kernel_rfl, rfl⟩ rfl rfl rfl rfl (stab_of (Hle.refl _) ⟨⟨0, rfl⟩, ⟨1, rfl⟩, ⟨2, rfl⟩, ⟨3, rfl⟩, ⟨4, rfl⟩, trivial⟩) rfl ?_
                            refine JA.no ⟨by kernel_rfl, by kernel_rfl⟩ (calm_only _) (i := 34) rfl ⟨by kernel_rfl, by kernel_rfl, rfl⟩ rfl rfl rfl rfl (stab_of (Hle.refl _) ⟨⟨0, rfl⟩, ⟨1, rfl⟩, ⟨2, rfl⟩, ⟨3, rfl⟩, ⟨4, rfl⟩, trivial⟩) rfl ?_
                            refine JA.no ⟨by kernel_rfl, by kernel_rfl⟩ (calm_only _) (i := 35) rfl ⟨by kernel_rfl, by kernel_rfl, rfl⟩ rfl rfl rfl rfl (stab_of (Hle.refl _) ⟨⟨0, rfl⟩, ⟨1, rfl⟩, ⟨2, rfl⟩, ⟨3, rfl⟩, ⟨4, rfl⟩, trivial⟩) rfl ?_
                            refine JA.no ⟨by kernel_rfl, by kernel_rfl⟩ (calm_only _) (i := 36) rfl ⟨by kernel_rfl, by kernel_rfl, rfl⟩ rfl rfl rfl rfl (stab_of (Hle.refl _) ⟨⟨0, rfl⟩, ⟨1, rfl⟩, ⟨2, rfl⟩, ⟨3, rfl⟩, ⟨4, rfl⟩, trivial⟩) rfl ?_
                            refine JA.no ⟨by kernel_rfl, by kernel_rfl⟩ (calm_only _) (i := 37) rfl ⟨by kernel_rfl, by kernel_rfl, rfl⟩ rfl rfl rfl rfl (stab_of (Hle.refl _) ⟨⟨0, rfl⟩, ⟨1, rfl⟩, ⟨2, rfl⟩, ⟨3, rfl⟩, ⟨4, rfl⟩, trivial⟩) rfl ?_
                            refine JA.val ⟨by kernel_rfl, by kernel_rfl⟩ (calm_only _) (i := 38) rfl ⟨by kernel_rfl, by kernel_rfl, rfl⟩ trivial (stab_of (Hle.refl _) ⟨⟨0, rfl⟩, ⟨1, rfl⟩, ⟨2, rfl⟩, ⟨3, rfl⟩, ⟨4, rfl⟩, trivial⟩) (R.pickF rfl rfl) rfl ?_
                            refine JA.val ⟨by kernel_rfl, by kernel_rfl⟩ (calm_only _) (i := 39) rfl ⟨by kernel_rfl, by kernel_rfl, rfl⟩ trivial (stab_of (Hle.refl _) ⟨⟨0, rfl⟩, ⟨1, rfl⟩, ⟨2, rfl⟩, ⟨3, rfl⟩, ⟨4, rfl⟩, trivial⟩) (R.move rfl) rfl ?_
                            refine JA.no ⟨by kernel_rfl, by kernel_rfl⟩ (calm_only _) (i := 40) rfl ⟨by kernel_rfl, by kernel_rfl, rfl⟩ rfl rfl rfl rfl (stab_of (Hle.refl _) ⟨⟨0, rfl⟩, ⟨1, rfl⟩, ⟨2, rfl⟩, ⟨3, rfl⟩, ⟨4, rfl⟩, trivial⟩) rfl ?_
                            refine JA.no ⟨by kernel_rfl, by kernel_rfl⟩ (calm_only _) (i := 41) rfl ⟨by kernel_rfl, by kernel_rfl, rfl⟩ rfl rfl rfl rfl (stab_of (Hle.refl _) ⟨⟨0, rfl⟩, ⟨1, rfl⟩, ⟨2, rfl⟩, ⟨3, rfl⟩, ⟨4, rfl⟩, trivial⟩) rfl ?_
                            refine JA.no ⟨by kernel_rfl, by kernel_rfl⟩ (calm_only _) (i := 42) rfl ⟨by kernel_rfl, by kernel_rfl, rfl⟩ rfl rfl rfl rfl (stab_of (Hle.refl _) ⟨⟨0, rfl⟩, ⟨1, rfl⟩, ⟨2, rfl⟩, ⟨3, rfl⟩, ⟨4, rfl⟩, trivial⟩) rfl ?_
                            refine JA.no ⟨by kernel_rfl, by kernel_rfl⟩ (calm_only _) (i := 43) rfl ⟨by kernel_rfl, by kernel_rfl, rfl⟩ rfl rfl rfl rfl (stab_of (Hle.refl _) ⟨⟨0, rfl⟩, ⟨1, rfl⟩, ⟨2, rfl⟩, ⟨3, rfl⟩, ⟨4, rfl⟩, trivial⟩) rfl ?_
                            refine JA.no ⟨by kernel_rfl, by kernel_rfl⟩ (calm_only _) (i := 44) rfl ⟨by kernel_rfl, by kernel_rfl, rfl⟩ rfl rfl rfl rfl (stab_of (Hle.refl _) ⟨⟨0, rfl⟩, ⟨1, rfl⟩, ⟨2, rfl⟩, ⟨3, rfl⟩, ⟨4, rfl⟩, trivial⟩) rfl ?_
                            refine JA.no ⟨by kernel_rfl, by kernel_rfl⟩ (calm_only _) (i := 45) rfl ⟨by kernel_rfl, by kernel_rfl, rfl⟩ rfl rfl rfl rfl (stab_of (Hle.refl _) ⟨⟨0, rfl⟩, ⟨1, rfl⟩, ⟨2, rfl⟩, ⟨3, rfl⟩, ⟨4, rfl⟩, trivial⟩) rfl ?_
                            refine JA.noU ⟨by kernel_rfl, by kernel_rfl⟩ (calm_only _) (i := 46) rfl ⟨by kernel_rfl, by kernel_rfl, rfl⟩ rfl rfl rfl (stab_of (Hle.refl _) ⟨⟨0, rfl⟩, ⟨1, rfl⟩, ⟨2, rfl⟩, ⟨3, rfl⟩, ⟨4, rfl⟩, trivial⟩) rfl ?_
                            refine JA.noU ⟨by kernel_rfl, by kernel_rfl⟩ (calm_only _) (i := 47) rfl ⟨by kernel_rfl, by kernel_rfl, rfl⟩ rfl rfl rfl (stab_of (Hle.refl _) ⟨⟨0, rfl⟩, ⟨1, rfl⟩, ⟨2, rfl⟩, ⟨3, rfl⟩, ⟨4, rfl⟩, trivial⟩) rfl ?_
                            refine JA.noU ⟨by kernel_rfl, by kernel_rfl⟩ (calm_only _) (i := 48) rfl ⟨by kernel_rfl, by kernel_rfl, rfl⟩ rfl rfl rfl (stab_of (Hle.refl _) ⟨⟨0, rfl⟩, ⟨1, rfl⟩, ⟨2, rfl⟩, ⟨3, rfl⟩, ⟨4, rfl⟩, trivial⟩) rfl ?_
                            refine JA.noU ⟨by kernel_rfl, by kernel_rfl⟩ (calm_only _) (i := 49) rfl ⟨by kernel_rfl, by kernel_rfl, rfl⟩ rfl rfl rfl (stab_of (Hle.refl _) ⟨⟨0, rfl⟩, ⟨1, rfl⟩, ⟨2, rfl⟩, ⟨3, rfl⟩, ⟨4, rfl⟩, trivial⟩) rfl ?_
                            refine JA.noU ⟨by kernel_rfl, by kernel_rfl⟩ (calm_only _) (i := 50) rfl ⟨by kernel_rfl, by kernel_rfl, rfl⟩ rfl rfl rfl (stab_of (Hle.refl _) ⟨⟨0, rfl⟩, ⟨1, rfl⟩, ⟨2, rfl⟩, ⟨3, rfl⟩, ⟨4, rfl⟩, trivial⟩) rfl ?_
                            refine JA.no ⟨by kernel_rfl, by kernel_rfl⟩ (calm_only _) (i := 51) rfl ⟨by kernel_rfl, by kernel_rfl, rfl⟩ rfl rfl rfl rfl (stab_of (Hle.refl _) ⟨⟨0, rfl⟩, ⟨1, rfl⟩, ⟨2, rfl⟩, ⟨3, rfl⟩, ⟨4, rfl⟩, trivial⟩) rfl ?_
                            refine JA.val ⟨by kernel_rfl, by kernel_rfl⟩ (calm_only _) (i := 52) rfl ⟨by kernel_rfl, by kernel_rfl, rfl⟩ trivial (stab_of (Hle.refl _) ⟨⟨0, rfl⟩, ⟨1, rfl⟩, ⟨2, rfl⟩, ⟨3, rfl⟩, ⟨4, rfl⟩, trivial⟩) (R.pickF rfl rfl) rfl ?_
                            refine JA.val ⟨by kernel_rfl, by kernel_rfl⟩ (calm_only _) (i := 53) rfl ⟨by kernel_rfl, by kernel_rfl, rfl⟩ trivial (stab_of (Hle.refl _) ⟨⟨0, rfl⟩, ⟨1, rfl⟩, ⟨2, rfl⟩, ⟨3, rfl⟩, ⟨4, rfl⟩, trivial⟩) (R.assign rfl) rfl ?_
                            refine JA.doneN (by kernel_rfl) ?_
                            obtain rfl := Option.some.inj hx
                            refine JN.forget 4 ?_
                            refine JN.forget 3 ?_
                            refine JN.forget 2 ?_
                            refine JN.forget 1 ?_
                            refine JN.forget 0 ?_
                            exact JN.cut ⟨rfl, rfl, rfl⟩ ⟨rfl, trivial⟩ rfl rfl
                        · replace hx := cond_f c_91 hx
                          refine JA.no ⟨by kernel_rfl, by kernel_rfl⟩ (calm_only _) (i := 2) rfl ⟨by kernel_rfl, by kernel_rfl, rfl⟩ rfl rfl rfl rfl (stab_of (Hle.refl _) ⟨⟨0, rfl⟩, ⟨1, rfl⟩, ⟨2, rfl⟩, ⟨3, rfl⟩, ⟨4, rfl⟩, trivial⟩) rfl ?_
                          refine JA.no ⟨by kernel_rfl, by kernel_rfl⟩ (calm_only _) (i := 3) rfl ⟨by kernel_rfl, by kernel_rfl, rfl⟩ rfl rfl rfl rfl (stab_of (Hle.refl _) ⟨⟨0, rfl⟩, ⟨1, rfl⟩, ⟨2, rfl⟩, ⟨3, rfl⟩, ⟨4, rfl⟩, trivial⟩) rfl ?_
                          refine JA.no ⟨by kernel_rfl, by kernel_rfl⟩ (calm_only _) (i := 4) rfl ⟨by kernel_rfl, by kernel_rfl, rfl⟩ rfl rfl rfl rfl (stab_of (Hle.refl _) ⟨⟨0, rfl⟩, ⟨1, rfl⟩, ⟨2, rfl⟩, ⟨3, rfl⟩, ⟨4, rfl⟩, trivial⟩) rfl ?_
                          refine JA.no ⟨by kernel_rfl, by kernel_rfl⟩ (calm_only _) (i := 5) rfl ⟨by kernel_rfl, by kernel_rfl, rfl⟩ rfl rfl rfl rfl (stab_of (Hle.refl _) ⟨⟨0, rfl⟩, ⟨1, rfl⟩, ⟨2, rfl⟩, ⟨3, rfl⟩, ⟨4, rfl⟩, trivial⟩) rfl ?_
                          refine JA.no ⟨by kernel_rfl, by kernel_rfl⟩ (calm_only _) (i := 6) rfl ⟨by kernel_rfl, by kernel_rfl, rfl⟩ rfl rfl rfl rfl (stab_of (Hle.refl _) ⟨⟨0, rfl⟩, ⟨1, rfl⟩, ⟨2, rfl⟩, ⟨3, rfl⟩, ⟨4, rfl⟩, trivial⟩) rfl ?_
                          refine JA.no ⟨by kernel_rfl, by kernel_rfl⟩ (calm_only _) (i := 7) rfl ⟨by kernel_rfl, by kernel_rfl, rfl⟩ rfl rfl rfl rfl (stab_of (Hle.refl _) ⟨⟨0, rfl⟩, ⟨1, rfl⟩, ⟨2, rfl⟩, ⟨3, rfl⟩, ⟨4, rfl⟩, trivial⟩) rfl ?_
                          refine JA.val ⟨by kernel_rfl, by kernel_rfl⟩ (calm_only _) (i := 8) rfl ⟨by kernel_rfl, by kernel_rfl, rfl⟩ trivial (stab_of (Hle.refl _) ⟨⟨0, rfl⟩, ⟨1, rfl⟩, ⟨2, rfl⟩, ⟨3, rfl⟩, ⟨4, rfl⟩, trivial⟩) (R.pickF rfl rfl) rfl ?_
                          refine JA.val ⟨by kernel_rfl, by kernel_rfl⟩ (calm_only _) (i := 9) rfl ⟨by kernel_rfl, by kernel_rfl, rfl⟩ trivial (stab_of (Hle.refl _) ⟨⟨0, rfl⟩, ⟨1, rfl⟩, ⟨2, rfl⟩, ⟨3, rfl⟩, ⟨4, rfl⟩, trivial⟩) (R.move rfl) rfl ?_
                          refine JA.no ⟨by kernel_rfl, by kernel_rfl⟩ (calm_only _) (i := 10) rfl ⟨by kernel_rfl, by kernel_rfl, rfl⟩ rfl rfl rfl rfl (stab_of (Hle.refl _) ⟨⟨0, rfl⟩, ⟨1, rfl⟩, ⟨2, rfl⟩, ⟨3, rfl⟩, ⟨4, rfl⟩, trivial⟩) rfl ?_
                          refine JA.no ⟨by kernel_rfl, by kernel_rfl⟩ (calm_only _) (i := 11) rfl ⟨by kernel_rfl, by kernel_rfl, rfl⟩ rfl rfl rfl rfl (stab_of (Hle.refl _) ⟨⟨0, rfl⟩, ⟨1, rfl⟩, ⟨2, rfl⟩, ⟨3, rfl⟩, ⟨4, rfl⟩, trivial⟩) rfl ?_
                          refine JA.no ⟨by kernel_rfl, by kernel_rfl⟩ (calm_only _) (i := 12) rfl ⟨by kernel_rfl, by kernel_rfl, rfl⟩ rfl rfl rfl rfl (stab_of (Hle.refl _) ⟨⟨0, rfl⟩, ⟨1, rfl⟩, ⟨2, rfl⟩, ⟨3, rfl⟩, ⟨4, rfl⟩, trivial⟩) rfl ?_
                          refine JA.no ⟨by kernel_rfl, by kernel_rfl⟩ (calm_only _) (i := 13) rfl ⟨by kernel_rfl, by kernel_rfl, rfl⟩ rfl rfl rfl rfl (stab_of (Hle.refl _) ⟨⟨0, rfl⟩, ⟨1, rfl⟩, ⟨2, rfl⟩, ⟨3, rfl⟩, ⟨4, rfl⟩, trivial⟩) rfl ?_
                          refine JA.no ⟨by kernel_rfl, by kernel_rfl⟩ (calm_only _) (i := 14) rfl ⟨by kernel_rfl, by kernel_rfl, rfl⟩ rfl rfl rfl rfl (stab_of (Hle.refl _) ⟨⟨0, rfl⟩, ⟨1, rfl⟩, ⟨2, rfl⟩, ⟨3, rfl⟩, ⟨4, rfl⟩, trivial⟩) rfl ?_
                          refine JA.no ⟨by kernel_rfl, by kernel_rfl⟩ (calm_only _) (i := 15) rfl ⟨by kernel_rfl, by kernel_rfl, rfl⟩ rfl rfl rfl rfl (stab_of (Hle.refl _) ⟨⟨0, rfl⟩, ⟨1, rfl⟩, ⟨2, rfl⟩, ⟨3, rfl⟩, ⟨4, rfl⟩, trivial⟩) rfl ?_
                          refine JA.val ⟨by kernel_rfl, by kernel_rfl⟩ (calm_only _) (i := 16) rfl ⟨by kernel_rfl, by kernel_rfl, rfl⟩ trivial (stab_of (Hle.refl _) ⟨⟨0, rfl⟩, ⟨1, rfl⟩, ⟨2, rfl⟩, ⟨3, rfl⟩, ⟨4, rfl⟩, trivial⟩) (R.pickF rfl rfl) rfl ?_
                          refine JA.val ⟨by kernel_rfl, by kernel_rfl⟩ (calm_only _) (i := 17) rfl ⟨by kernel_rfl, by kernel_rfl, rfl⟩ trivial (stab_of (Hle.refl _) ⟨⟨0, rfl⟩, ⟨1, rfl⟩, ⟨2, rfl⟩, ⟨3, rfl⟩, ⟨4, rfl⟩, trivial⟩) (R.move rfl) rfl ?_
                          refine JA.no ⟨by kernel_rfl, by kernel_rfl⟩ (calm_only _) (i := 18) rfl ⟨by kernel_rfl, by kernel_rfl, rfl⟩ rfl rfl rfl rfl (stab_of (Hle.refl _) ⟨⟨0, rfl⟩, ⟨1, rfl⟩, ⟨2, rfl⟩, ⟨3, rfl⟩, ⟨4, rfl⟩, trivial⟩) rfl ?_
                          refine JA.no ⟨by kernel_rfl, by kernel_rfl⟩ (calm_only _) (i := 19) rfl ⟨by kernel_rfl, by kernel_rfl, rfl⟩ rfl rfl rfl rfl (stab_of (Hle.refl _) ⟨⟨0, rfl⟩, ⟨1, rfl⟩, ⟨2, rfl⟩, ⟨3, rfl⟩, ⟨4, rfl⟩, trivial⟩) rfl ?_
                          refine JA.val ⟨by kernel_rfl, by kernel_rfl⟩ (calm_only _) (i := 20) rfl ⟨by kernel_rfl, by kernel_rfl, rfl⟩ trivial (stab_of (Hle.refl _) ⟨⟨0, rfl⟩, ⟨1, rfl⟩, ⟨2, rfl⟩, ⟨3, rfl⟩, ⟨4, rfl⟩, trivial⟩) (R.pickF rfl rfl) rfl ?_
                          refine JA.val ⟨by kernel_rfl, by kernel_rfl⟩ (calm_only _) (i := 21) rfl ⟨by kernel_rfl, by kernel_rfl, rfl⟩ trivial (stab_of (Hle.refl _) ⟨⟨0, rfl⟩, ⟨1, rfl⟩, ⟨2, rfl⟩, ⟨3, rfl⟩, ⟨4, rfl⟩, trivial⟩) (R.move rfl) rfl ?_
                          refine JA.no ⟨by kernel_rfl, by kernel_rfl⟩ (calm_only _) (i := 22) rfl ⟨by kernel_rfl, by kernel_rfl, rfl⟩ rfl rfl rfl rfl (stab_of (Hle.refl _) ⟨⟨0, rfl⟩, ⟨1, rfl⟩, ⟨2, rfl⟩, ⟨3, rfl⟩, ⟨4, rfl⟩, trivial⟩) rfl ?_
                          refine JA.no ⟨by kernel_rfl, by kernel_rfl⟩ (calm_only _) (i := 23) rfl ⟨by kernel_rfl, by kernel_rfl, rfl⟩ rfl rfl rfl rfl (stab_of (Hle.refl _) ⟨⟨0, rfl⟩, ⟨1, rfl⟩, ⟨2, rfl⟩, ⟨3, rfl⟩, ⟨4, rfl⟩, trivial⟩) rfl ?_
                          refine JA.val ⟨by kernel_rfl, by kernel_rfl⟩ (calm_only _) (i := 24) rfl ⟨by kernel_rfl, by kernel_rfl, rfl⟩ trivial (stab_of (Hle.refl _) ⟨⟨0, rfl⟩, ⟨1, rfl⟩, ⟨2, rfl⟩, ⟨3, rfl⟩, ⟨4, rfl⟩, trivial⟩) (R.pickF rfl rfl) rfl ?_
                          refine JA.val ⟨by kernel_rfl, by kernel_rfl⟩ (calm_only _) (i := 25) rfl ⟨by kernel_rfl, by kernel_rfl, rfl⟩ trivial (stab_of (Hle.refl _) ⟨⟨0, rfl⟩, ⟨1, rfl⟩, ⟨2, rfl⟩, ⟨3, rfl⟩, ⟨4, rfl⟩, trivial⟩) (R.move rfl) rfl ?_
                          refine JA.no ⟨by kernel_rfl, by kernel_rfl⟩ (calm_only _) (i := 26) rfl ⟨by kernel_rfl, by kernel_rfl, rfl⟩ rfl rfl rfl rfl (stab_of (Hle.refl _) ⟨⟨0, rfl⟩, ⟨1, rfl⟩, ⟨2, rfl⟩, ⟨3, rfl⟩, ⟨4, rfl⟩, trivial⟩) rfl ?_
                          refine JA.no ⟨by kernel_rfl, by kernel_rfl⟩ (calm_only _) (i := 27) rfl ⟨by kernel_rfl, by kernel_rfl, rfl⟩ rfl rfl rfl rfl (stab_of (Hle.refl _) ⟨⟨0, rfl⟩, ⟨1, rfl⟩, ⟨2, rfl⟩, ⟨3, rfl⟩, ⟨4, rfl⟩, trivial⟩) rfl ?_
                          refine JA.no ⟨by kernel_rfl, by kernel_rfl⟩ (calm_only _) (i := 28) rfl ⟨by kernel_rfl, by kernel_rfl, rfl⟩ rfl rfl rfl rfl (stab_of (Hle.refl _) ⟨⟨0, rfl⟩, ⟨1, rfl⟩, ⟨2, rfl⟩, ⟨3, rfl⟩, ⟨4, rfl⟩, trivial⟩) rfl ?_
                          refine JA.no ⟨by kernel_rfl, by kernel_rfl⟩ (calm_only _) (i := 29) rfl ⟨by kernel_rfl, by kernel_rfl, rfl⟩ rfl rfl rfl rfl (stab_of (Hle.refl _) ⟨⟨0, rfl⟩, ⟨1, rfl⟩, ⟨2, rfl⟩, ⟨3, rfl⟩, ⟨4, rfl⟩, trivial⟩) rfl ?_
                          refine JA.no ⟨by kernel_rfl, by kernel_rfl⟩ (calm_only _) (i := 30) rfl ⟨by kernel_rfl, by kernel_rfl, rfl⟩ rfl rfl rfl rfl (stab_of (Hle.refl _) ⟨⟨0, rfl⟩, ⟨1, rfl⟩, ⟨2, rfl⟩, ⟨3, rfl⟩, ⟨4, rfl⟩, trivial⟩) rfl ?_
                          refine JA.val ⟨by kernel_rfl, by kernel_rfl⟩ (calm_only _) (i := 31) rfl ⟨by kernel_rfl, by kernel_rfl, rfl⟩ trivial (stab_of (Hle.refl _) ⟨⟨0, rfl⟩, ⟨1, rfl⟩, ⟨2, rfl⟩, ⟨3, rfl⟩, ⟨4, rfl⟩, trivial⟩) (R.pickF rfl rfl) rfl ?_
                          refine JA.val ⟨by kernel_rfl, by kernel_rfl⟩ (calm_only _) (i := 32) rfl ⟨by kernel_rfl, by kernel_rfl, rfl⟩ trivial (stab_of (Hle.refl _) ⟨⟨0, rfl⟩, ⟨1, rfl⟩, ⟨2, rfl⟩, ⟨3, rfl⟩, ⟨4, rfl⟩, trivial⟩) (R.move rfl) rfl ?_
                          refine JA.no ⟨by kernel_rfl, by kernel_rfl⟩ (calm_only _) (i := 33) rfl ⟨by kernel_rfl, by kernel_rfl, rfl⟩ rfl rfl rfl rfl (stab_of (Hle.refl _) ⟨⟨0, rfl⟩, ⟨1, rfl⟩, ⟨2, rfl⟩, ⟨3, rfl⟩, ⟨4, rfl⟩, trivial⟩) rfl ?_
                          refine JA.no ⟨by kernel_rfl, by kernel_rfl⟩ (calm_only _) (i := 34) rfl ⟨by kernel_rfl, by kernel_rfl, rfl⟩ rfl rfl rfl rfl (stab_of (Hle.refl _) ⟨⟨0, rfl⟩, ⟨1, rfl⟩, ⟨2, rfl⟩, ⟨3, rfl⟩, ⟨4, rfl⟩, trivial⟩) rfl ?_
                          refine JA.no ⟨by kernel_rfl, by kernel_rfl⟩ (calm_only _) (i := 35) rfl ⟨by kernel_rfl, by kernel_rfl, rfl⟩ rfl rfl rfl rfl (stab_of (Hle.refl _) ⟨⟨0, rfl⟩, ⟨1, rfl⟩, ⟨2, rfl⟩, ⟨3, rfl⟩, ⟨4, rfl⟩, trivial⟩) rfl ?_
                          refine JA.no ⟨by kernel_rfl, by kernel_rfl⟩ (calm_only _) (i := 36) rfl ⟨by kernel_rfl, by kernel_rfl, rfl⟩ rfl rfl rfl rfl (stab_of (Hle.refl _) ⟨⟨0, rfl⟩, ⟨1, rfl⟩, ⟨2, rfl⟩, ⟨3, rfl⟩, ⟨4, rfl⟩, trivial⟩) rfl ?_
                          refine JA.no ⟨by kernel_rfl, by kernel_rfl⟩ (calm_only _) (i := 37) rfl ⟨by kernel_rfl, by kernel_rfl, rfl⟩ rfl rfl rfl rfl (stab_of (Hle.refl _) ⟨⟨0, rfl⟩, ⟨1, rfl⟩, ⟨2, rfl⟩, ⟨3, rfl⟩, ⟨4, rfl⟩, trivial⟩) rfl ?_
                          refine JA.val ⟨by kernel_rfl, by kernel_rfl⟩ (calm_only _) (i := 38) rfl ⟨by kernel_rfl, by kernel_rfl, rfl⟩ trivial (stab_of (Hle.refl _) ⟨⟨0, rfl⟩, ⟨1, rfl⟩, ⟨2, rfl⟩, ⟨3, rfl⟩, ⟨4, rfl⟩, trivial⟩) (R.pickF rfl rfl) rfl ?_
                          refine JA.val ⟨by kernel_rfl, by kernel_rfl⟩ (calm_only _) (i := 39) rfl ⟨by kernel_rfl, by kernel_rfl, rfl⟩ trivial (stab_of (Hle.refl _) ⟨⟨0, rfl⟩, ⟨1, rfl⟩, ⟨2, rfl⟩, ⟨3, rfl⟩, ⟨4, rfl⟩, trivial⟩) (R.move rfl) rfl ?_
                          refine JA.no ⟨by kernel_rfl, by kernel_rfl⟩ (calm_only _) (i := 40) rfl ⟨by kernel_rfl, by kernel_rfl, rfl⟩ rfl rfl rfl rfl (stab_of (Hle.refl _) ⟨⟨0, rfl⟩, ⟨1, rfl⟩, ⟨2, rfl⟩, ⟨3, rfl⟩, ⟨4, rfl⟩, trivial⟩) rfl ?_
                          refine JA.no ⟨by kernel_rfl, by kernel_rfl⟩ (calm_only _) (i := 41) rfl ⟨by kernel_rfl, by kernel_rfl, rfl⟩ rfl rfl rfl rfl (stab_of (Hle.refl _) ⟨⟨0, rfl⟩, ⟨1, rfl⟩, ⟨2, rfl⟩, ⟨3, rfl⟩, ⟨4, rfl⟩, trivial⟩) rfl ?_
                          refine JA.no ⟨by kernel_rfl, by kernel_rfl⟩ (calm_only _) (i := 42) rfl ⟨by kernel_rfl, by kernel_rfl, rfl⟩ rfl rfl rfl rfl (stab_of (Hle.refl _) ⟨⟨0, rfl⟩, ⟨1, rfl⟩, ⟨2, rfl⟩, ⟨3, rfl⟩, ⟨4, rfl⟩, trivial⟩) rfl ?_
                          refine JA.no ⟨by kernel_rfl, by kernel_rfl⟩ (calm_only _) (i := 43) rfl ⟨by kernel_rfl, by kernel_rfl, rfl⟩ rfl rfl rfl rfl (stab_of (Hle.refl _) ⟨⟨0, rfl⟩, ⟨1, rfl⟩, ⟨2, rfl⟩, ⟨3, rfl⟩, ⟨4, rfl⟩, trivial⟩) rfl ?_
                          refine JA.no ⟨by kernel_rfl, by kernel_rfl⟩ (calm_only _) (i := 44) rfl ⟨by kernel_rfl, by kernel_rfl, rfl⟩ rfl rfl rfl rfl (stab_of (Hle.refl _) ⟨⟨0, rfl⟩, ⟨1, rfl⟩, ⟨2, rfl⟩, ⟨3, rfl⟩, ⟨4, rfl⟩, trivial⟩) rfl ?_
                          refine JA.no ⟨by kernel_rfl, by kernel_rfl⟩ (calm_only _) (i := 45) rfl ⟨by kernel_rfl, by kernel_rfl, rfl⟩ rfl rfl rfl rfl (stab_of (Hle.refl _) ⟨⟨0, rfl⟩, ⟨1, rfl⟩, ⟨2, rfl⟩, ⟨3, rfl⟩, ⟨4, rfl⟩, trivial⟩) rfl ?_
                          refine JA.noU ⟨by kernel_rfl, by kernel_rfl⟩ (calm_only _) (i := 46) rfl ⟨by kernel_rfl, by kernel_rfl, rfl⟩ rfl rfl rfl (stab_of (Hle.refl _) ⟨⟨0, rfl⟩, ⟨1, rfl⟩, ⟨2, rfl⟩, ⟨3, rfl⟩, ⟨4, rfl⟩, trivial⟩) rfl ?_
                          refine JA.noU ⟨by kernel_rfl, by kernel_rfl⟩ (calm_only _) (i := 47) rfl ⟨by kernel_rfl, by kernel_rfl, rfl⟩ rfl rfl rfl (stab_of (Hle.refl _) ⟨⟨0, rfl⟩, ⟨1, rfl⟩, ⟨2, rfl⟩, ⟨3, rfl⟩, ⟨4, rfl⟩, trivial⟩) rfl ?_
                          refine JA.noU ⟨by kernel_rfl, by kernel_rfl⟩ (calm_only _) (i := 48) rfl ⟨by kernel_rfl, by kernel_rfl, rfl⟩ rfl rfl rfl (stab_of (Hle.refl _) ⟨⟨0, rfl⟩, ⟨1, rfl⟩, ⟨2, rfl⟩, ⟨3, rfl⟩, ⟨4, rfl⟩, trivial⟩) rfl ?_
                          refine JA.noU ⟨by kernel_rfl, by kernel_rfl⟩ (calm_only _) (i := 49) rfl ⟨by kernel_rfl, by kernel_rfl, rfl⟩ rfl rfl rfl (stab_of (Hle.refl _) ⟨⟨0, rfl⟩, ⟨1, rfl⟩, ⟨2, rfl⟩, ⟨3, rfl⟩, ⟨4, rfl⟩, trivial⟩) rfl ?_
                          refine JA.noU ⟨by kernel_rfl, by kernel_rfl⟩ (calm_only _) (i := 50) rfl ⟨by kernel_rfl, by kernel_rfl, rfl⟩ rfl rfl rfl (stab_of (Hle.refl _) ⟨⟨0, rfl⟩, ⟨1, rfl⟩, ⟨2, rfl⟩, ⟨3, rfl⟩, ⟨4, rfl⟩, trivial⟩) rfl ?_
                          refine JA.no ⟨by kernel_rfl, by kernel_rfl⟩ (calm_only _) (i := 51) rfl ⟨by kernel_rfl, by kernel_rfl, rfl⟩ rfl rfl rfl rfl (stab_of (Hle.refl _) ⟨⟨0, rfl⟩, ⟨1, rfl⟩, ⟨2, rfl⟩, ⟨3, rfl⟩, ⟨4, rfl⟩, trivial⟩) rfl ?_
                          refine JA.val ⟨by kernel_rfl, by kernel_rfl⟩ (calm_only _) (i := 52) rfl ⟨by kernel_rfl, by kernel_rfl, rfl⟩ trivial (stab_of (Hle.refl _) ⟨⟨0, rfl⟩, ⟨1, rfl⟩, ⟨2, rfl⟩, ⟨3, rfl⟩, ⟨4, rfl⟩, trivial⟩) (R.pickF rfl rfl) rfl ?_
                          refine JA.val ⟨by kernel_rfl, by kernel_rfl⟩ (calm_only _) (i := 53) rfl ⟨by kernel_rfl, by kernel_rfl, rfl⟩ trivial (stab_of (Hle.refl _) ⟨⟨0, rfl⟩, ⟨1, rfl⟩, ⟨2, rfl⟩, ⟨3, rfl⟩, ⟨4, rfl⟩, trivial⟩) (R.assign rfl) rfl ?_
                          refine JA.doneN (by kernel_rfl) ?_
                          obtain rfl := Option.some.inj hx
                          refine JN.forget 4 ?_
                          refine JN.forget 3 ?_
                          refine JN.forget 2 ?_
                          refine JN.forget 1 ?_
                          refine JN.forget 0 ?_
                          exact JN.cut ⟨rfl, rfl, rfl⟩ ⟨rfl, trivial⟩ rfl rfl
            · have hxo_38 := hx; clear hx; have hx := ht_39; clear ht_39
              refine JC.region ?_
              refine JL.val rfl rfl (R.move rfl) ?_
              refine JL.val rfl rfl (R.lenL U58 rfl (RowOf.long hr_28)) ?_
              refine JL.val rfl rfl (R.gtr_i rfl rfl) ?_
              refine JL.val rfl rfl (R.move rfl) ?_
              refine JL.gSplit (t := 61) rfl (fun c_40 => ?_) (fun c_40 => ?_)
              · replace hx := cond_t c_40 hx
                refine JL.gYes rfl rfl rfl ?_
                refine JL.val rfl rfl (R.fa F29_0 rfl) ?_
                refine JL.gYes rfl rfl rfl ?_
                refine JL.val rfl rfl (R.fa F25_1 rfl) ?_
                refine JL.gYes rfl rfl rfl ?_
                refine JL.val rfl rfl (R.ldo 5 S23 rfl rfl rfl) ?_
                refine JL.gYes rfl rfl rfl ?_
                refine JL.val rfl rfl (R.lenL U23 rfl (IsSlice.long ha_3)) ?_
                refine JL.gYes rfl rfl rfl ?_
                refine JL.val rfl rfl (R.lss_i rfl rfl) ?_
                refine JL.val rfl rfl (R.pickT rfl rfl) ?_
                refine JL.val rfl rfl (R.move rfl) ?_
                refine JL.gSplit (t := 68) rfl (fun c_41 => ?_) (fun c_41 => ?_)
                · replace hx := cond_t c_41 hx
                  refine JL.gYes rfl rfl rfl ?_
                  refine JL.val rfl rfl (R.move rfl) ?_
                  refine JL.gYes rfl rfl rfl ?_
                  refine JL.val rfl rfl (R.geq32 (a := p_5) (b := (1 : UInt32)) rfl rfl) ?_
                  refine JL.val rfl rfl (R.pickT rfl rfl) ?_
                  refine JL.val rfl rfl (R.move rfl) ?_
                  refine JL.gSplit (t := 72) rfl (fun c_42 => ?_) (fun c_42 => ?_)
                  · replace hx := cond_t c_42 hx
                    refine JL.gYes rfl rfl rfl ?_
                    refine JL.val rfl rfl (R.move rfl) ?_
                    refine JL.gYes rfl rfl rfl ?_
                    refine JL.val rfl rfl (R.lss32 (a := p_5) (b := (16777216 : UInt32)) rfl rfl) ?_
                    refine JL.val rfl rfl (R.pickT rfl rfl) ?_
                    refine JL.val rfl rfl (R.move rfl) ?_
                    refine JL.gSplit (t := 76) rfl (fun c_43 => ?_) (fun c_43 => ?_)
                    · replace hx := cond_t c_43 hx
                      refine JL.gYes rfl rfl rfl ?_
                      refine JL.val rfl rfl (R.move rfl) ?_
                      refine JL.gYes rfl rfl rfl ?_
                      refine JL.val rfl rfl (R.lenL U26 rfl (IsSlice.long ha_7)) ?_
                      refine JL.gYes rfl rfl rfl ?_
                      refine JL.val rfl rfl (R.eql_i rfl rfl) ?_
                      refine JL.val rfl rfl (R.pickT rfl rfl) ?_
                      refine JL.val rfl rfl (R.assign rfl) ?_
                      refine JL.nil ?_
                      obtain rfl := Option.some.inj hx
                      refine JN.forget 5 ?_
                      refine JN.front 3 rfl ?_
                      refine JN.front 3 rfl ?_
                      refine JN.front 3 rfl ?_
                      refine JN.front 4 rfl ?_
                      exact JN.cut ⟨rfl, rfl, rfl⟩ ⟨rfl, rfl, rfl, rfl, rfl, rfl, rfl, rfl, rfl, rfl, trivial⟩ rfl rfl
                    · replace hx := cond_f c_43 hx
                      refine JL.gNo rfl rfl rfl rfl rfl ?_
                      refine JL.gNo rfl rfl rfl rfl rfl ?_
                      refine JL.gNo rfl rfl rfl rfl rfl ?_
                      refine JL.val rfl rfl (R.pickF rfl rfl) ?_
                      refine JL.val rfl rfl (R.assign rfl) ?_
                      refine JL.nil ?_
                      obtain rfl := Option.some.inj hx
                      refine JN.forget 5 ?_
                      refine JN.front 3 rfl ?_
                      refine JN.front 3 rfl ?_
                      refine JN.front 3 rfl ?_
                      refine JN.front 4 rfl ?_
                      exact JN.cut ⟨rfl, rfl, rfl⟩ ⟨rfl, rfl, rfl, rfl, rfl, rfl, rfl, rfl, rfl, rfl, trivial⟩ rfl rfl
                  · replace hx := cond_f c_42 hx
                    refine JL.gNo rfl rfl rfl rfl rfl ?_
                    refine JL.gNo rfl rfl rfl rfl rfl ?_
                    refine JL.val rfl rfl (R.pickF rfl rfl) ?_
                    refine JL.val rfl rfl (R.move rfl) ?_
                    refine JL.gNo rfl rfl rfl rfl rfl ?_
                    refine JL.gNo rfl rfl rfl rfl rfl ?_
                    refine JL.gNo rfl rfl rfl rfl rfl ?_
                    refine JL.val rfl rfl (R.pickF rfl rfl) ?_
                    refine JL.val rfl rfl (R.assign rfl) ?_
                    refine JL.nil ?_
                    obtain rfl := Option.some.inj hx
                    refine JN.forget 5 ?_
                    refine JN.front 3 rfl ?_
                    refine JN.front 3 rfl ?_
                    refine JN.front 3 rfl ?_
                    refine JN.front 4 rfl ?_
                    exact JN.cut ⟨rfl, rfl, rfl⟩ ⟨rfl, rfl, rfl, rfl, rfl, rfl, rfl, rfl, rfl, rfl, trivial⟩ rfl rfl
                · replace hx := cond_f c_41 hx
                  refine JL.gNo rfl rfl rfl rfl rfl ?_
                  refine JL.gNo rfl rfl rfl rfl rfl ?_
                  refine JL.val rfl rfl (R.pickF rfl rfl) ?_
                  refine JL.val rfl rfl (R.move rfl) ?_
                  refine JL.gNo rfl rfl rfl rfl rfl ?_
                  refine JL.gNo rfl rfl rfl rfl rfl ?_
                  refine JL.val rfl rfl (R.pickF rfl rfl) ?_
                  refine JL.val rfl rfl (R.move rfl) ?_
                  refine JL.gNo rfl rfl rfl rfl rfl ?_
                  refine JL.gNo rfl rfl rfl rfl rfl ?_
                  refine JL.gNo rfl rfl rfl rfl rfl ?_
                  refine JL.val rfl rfl (R.pickF rfl rfl) ?_
                  refine JL.val rfl rfl (R.assign rfl) ?_
                  refine JL.nil ?_
                  obtain rfl := Option.some.inj hx
                  refine JN.forget 5 ?_
                  refine JN.front 3 rfl ?_
                  refine JN.front 3 rfl ?_
                  refine JN.front 3 rfl ?_
                  refine JN.front 4 rfl ?_
                  exact JN.cut ⟨rfl, rfl, rfl⟩ ⟨rfl, rfl, rfl, rfl, rfl, rfl, rfl, rfl, rfl, rfl, trivial⟩ rfl rfl
              · replace hx := cond_f c_40 hx
                refine JL.gNo rfl rfl rfl rfl rfl ?_
                refine JL.gNo rfl rfl rfl rfl rfl ?_
                refine JL.gNo rfl rfl rfl rfl rfl ?_
                refine JL.gNo rfl rfl rfl rfl rfl ?_
                refine JL.gNo rfl rfl rfl rfl rfl ?_
                refine JL.val rfl rfl (R.pickF rfl rfl) ?_
                refine JL.val rfl rfl (R.move rfl) ?_
                refine JL.gNo rfl rfl rfl rfl rfl ?_
                refine JL.gNo rfl rfl rfl rfl rfl ?_
                refine JL.val rfl rfl (R.pickF rfl rfl) ?_
                refine JL.val rfl rfl (R.move rfl) ?_
                refine JL.gNo rfl rfl rfl rfl rfl ?_
                refine JL.gNo rfl rfl rfl rfl rfl ?_
                refine JL.val rfl rfl (R.pickF rfl rfl) ?_
                refine JL.val rfl rfl (R.move rfl) ?_
                refine JL.gNo rfl rfl rfl rfl rfl ?_
                refine JL.gNo rfl rfl rfl rfl rfl ?_
                refine JL.gNo rfl rfl rfl rfl rfl ?_
                refine JL.val rfl rfl (R.pickF rfl rfl) ?_
                refine JL.val rfl rfl (R.assign rfl) ?_
                refine JL.nil ?_
                obtain rfl := Option.some.inj hx
                refine JN.forget 5 ?_
                refine JN.front 3 rfl ?_
                refine JN.front 3 rfl ?_
                refine JN.front 3 rfl ?_
                refine JN.front 4 rfl ?_
                exact JN.cut ⟨rfl, rfl, rfl⟩ ⟨rfl, rfl, rfl, rfl, rfl, rfl, rfl, rfl, rfl, rfl, trivial⟩ rfl rfl
end Go.Proofs.Ytdelcjkjkhcaoaa
