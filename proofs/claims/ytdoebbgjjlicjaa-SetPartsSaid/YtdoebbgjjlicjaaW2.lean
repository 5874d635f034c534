import Derived.Test.YtdoebbgjjlicjaaW2p2
/- walks: what the code computes, function by function. -/
namespace Go.Proofs.Ytdoebbgjjlicjaa
open Go.Ow Go.RowKit Go.Proofs
set_option linter.unusedVariables false
set_option linter.unusedSimpArgs false
set_option maxHeartbeats 8000000 in
theorem set_Object_ok (p_1 : Store) (p_5 : Ptr) (p_6 : Int) (H : Heaplet) {aoa_2 : Option Addr} {na_2 : Nat} {capa_2 : Nat} {aoa_3 : Option Addr} {na_3 : Nat} {capa_3 : Nat} {aoa_4 : Option Addr} {na_4 : Nat} {capa_4 : Nat} (ha_2 : IsSlice H (RSl RU8 1) 1 (.slice aoa_2 na_2 capa_2) p_1.Disk.Blocks) (ha_3 : IsSlice H R_Write 2 (.slice aoa_3 na_3 capa_3) p_1.Disk.Waits) (ha_4 : IsSlice H RU8 1 (.slice aoa_4 na_4 capa_4) p_1.Space) (r : Object × Int) (hx : set_Object p_1 p_5 p_6 = some r) :
  Does Try.prog 23 #[.agg #[.slice aoa_2 na_2 capa_2, .slice aoa_3 na_3 capa_3, .slice aoa_4 na_4 capa_4, .int .u32 (p_1.Epoch.toNat : Int), .int .u32 (p_1.Count.toNat : Int)], .agg #[.int .i64 p_5.At, .int .u32 (p_5.Birth.toNat : Int), .int .u32 (p_5.Iv.toNat : Int), .int .u32 (p_5.Tag.toNat : Int), .int .u32 (p_5.Sum.toNat : Int)], .int .i64 p_6] [] H (fun u K' H' => ∃ ao0 : Option Addr, ∃ n0 : Nat, u = .tuple #[.agg #[.int .u8 (r.1.Kind.toNat : Int), .int .i64 r.1.Links, .int .i64 r.1.Size, .slice ao0 n0 n0], .int .i64 r.2] ∧ K' = [] ∧ IsSlice (New H H') R_Ptr 5 (.slice ao0 n0 n0) r.1.Data ∧ True) := by
 refine Does.enterL (vs := [.agg #[.slice aoa_2 na_2 capa_2, .slice aoa_3 na_3 capa_3, .slice aoa_4 na_4 capa_4, .int .u32 (p_1.Epoch.toNat : Int), .int .u32 (p_1.Count.toNat : Int)], .agg #[.int .i64 p_5.At, .int .u32 (p_5.Birth.toNat : Int), .int .u32 (p_5.Iv.toNat : Int), .int .u32 (p_5.Tag.toNat : Int), .int .u32 (p_5.Sum.toNat : Int)], .int .i64 p_6]) (l := [(0, .agg #[.slice aoa_2 na_2 capa_2, .slice aoa_3 na_3 capa_3, .slice aoa_4 na_4 capa_4, .int .u32 (p_1.Epoch.toNat : Int), .int .u32 (p_1.Count.toNat : Int)]), (1, .agg #[.int .i64 p_5.At, .int .u32 (p_5.Birth.toNat : Int), .int .u32 (p_5.Iv.toNat : Int), .int .u32 (p_5.Tag.toNat : Int), .int .u32 (p_5.Sum.toNat : Int)]), (2, .int .i64 p_6)]) Try.func23 rfl rfl ⟨rfl, rfl, rfl, trivial⟩ (fun w hlt => ?_)
 unfold set_Object at hx
 refine JC.seq (JC.region (JL.box rfl rfl (fun b_7 hb_7 => JL.box rfl rfl (fun b_8 hb_8 => JL.alloc Z60 rfl (fun b_9 hb_9 => JL.val rfl rfl (R.assign rfl) (JL.nil (JN.next (JC.seq (JC.seq (JC.region (JL.val rfl rfl (R.ldoN 2 (vs := [.slice aoa_2 na_2 capa_2, .slice aoa_3 na_3 capa_3, .slice aoa_4 na_4 capa_4, .int .u32 (p_1.Epoch.toNat : Int), .int .u32 (p_1.Count.toNat : Int)]) S50 rfl rfl rfl rfl) ?_)))))))))))
 obtain ⟨x_10, hr_11, hx⟩ := bnd_some hx
 refine JL.callC (vs := [_]) (args := [_]) (K := []) (rst := [_, _, _]) E26 rfl rfl rfl picks0 (store_Check_ok p_1 _ ha_2 ha_3 ha_4 _ hr_11) rfl (fun u_12 Ku_12 Hu_12 hRu_12 hleu_12 hfu_12 => ?_)
 obtain ⟨rfl, rfl, rfl, -⟩ := hRu_12
 refine JL.val rfl rfl (R.neq_i rfl rfl) (JL.val rfl rfl (R.move rfl) (JL.gSplit (t := 13) rfl (fun c_13 => ?_) (fun c_13 => ?_)))
 ·
  replace hx := cond_t c_13 hx
  refine JL.gNo rfl rfl rfl rfl rfl (JL.gNo rfl rfl rfl rfl rfl (JL.gNo rfl rfl rfl rfl rfl (JL.val rfl rfl (R.pickT rfl rfl) (JL.nil (JN.next (JC.condT rfl (JC.seq (JC.region (JL.val rfl rfl (R.bldP (vs := []) (cs := [.int .u8 ((0 : UInt8).toNat : Int), .int .i64 0, .int .i64 0, .slice none 0 0]) Z60 B60 rfl rfl rfl) (JL.store 0 S60 rfl rfl rfl rfl rfl (Nat.le_of_ble_eq_true rfl) (JL.val rfl rfl (R.assign rfl) ?_)))))))))))
  refine JL.nil (JN.next (JC.ret (JN.passR (JN.outP (vs := [.agg #[.int .u8 ((0 : UInt8).toNat : Int), .int .i64 0, .int .i64 0, .slice none 0 0], .int .i64 8]) (K := []) (rst := [_, _, _]) (.inl rfl) rfl rfl (Res.cellN 0 rfl rfl S60 (Res.tmp rfl rfl)) picks0 ?_))))
  obtain rfl := Option.some.inj hx
  exact ⟨none, 0, rfl, rfl, (IsSlice.nil _ _ _), trivial⟩
 ·
  replace hx := cond_f c_13 hx
  refine JL.gYes rfl rfl rfl (JL.val rfl rfl (R.ldoN 1 (vs := [.int .i64 p_5.At, .int .u32 (p_5.Birth.toNat : Int), .int .u32 (p_5.Iv.toNat : Int), .int .u32 (p_5.Tag.toNat : Int), .int .u32 (p_5.Sum.toNat : Int)]) S28 rfl rfl rfl rfl) (JL.gYes rfl rfl rfl ?_))
  obtain ⟨x_14, hr_15, hx⟩ := bnd_some hx
  refine JL.callC (vs := [_]) (args := [_]) (K := []) (rst := [_, _, _]) E49 rfl rfl rfl picks0 (ptr_Check_ok p_5 _ _ hr_15) rfl (fun u_16 Ku_16 Hu_16 hRu_16 hleu_16 hfu_16 => ?_)
  obtain ⟨rfl, rfl, rfl, -⟩ := hRu_16
  refine JL.gYes rfl rfl rfl (JL.val rfl rfl (R.neq_i rfl rfl) (JL.val rfl rfl (R.pickF rfl rfl) (JL.nil (JN.next (JC.condB rfl (fun c_17 => ?_) (fun c_17 => ?_))))))
  ·
   replace hx := cond_t c_17 hx
   refine JC.seq (JC.region (JL.val rfl rfl (R.bldP (vs := []) (cs := [.int .u8 ((0 : UInt8).toNat : Int), .int .i64 0, .int .i64 0, .slice none 0 0]) Z60 B60 rfl rfl rfl) (JL.store 0 S60 rfl rfl rfl rfl rfl (Nat.le_of_ble_eq_true rfl) (JL.val rfl rfl (R.assign rfl) (JL.nil (JN.next (JC.ret (JN.passR (JN.outP (vs := [.agg #[.int .u8 ((0 : UInt8).toNat : Int), .int .i64 0, .int .i64 0, .slice none 0 0], .int .i64 8]) (K := []) (rst := [_, _, _]) (.inl rfl) rfl rfl (Res.cellN 0 rfl rfl S60 (Res.tmp rfl rfl)) picks0 ?_)))))))))
   obtain rfl := Option.some.inj hx
   exact ⟨none, 0, rfl, rfl, (IsSlice.nil _ _ _), trivial⟩
  ·
   replace hx := cond_f c_17 hx
   refine JC.skip (JN.next (JC.seq (JC.seq (JC.region (JL.val rfl rfl (R.move rfl) (JL.val rfl rfl (R.lss_i rfl rfl) (JL.val rfl rfl (R.move rfl) (JL.gSplit (t := 21) rfl (fun c_18 => ?_) (fun c_18 => ?_)))))))))
   ·
    replace hx := cond_t c_18 hx
    refine JL.gNo rfl rfl rfl rfl rfl (JL.gNo rfl rfl rfl rfl rfl (JL.val rfl rfl (R.pickT rfl rfl) (JL.nil (JN.next (JC.condT rfl (JC.seq (JC.region (JL.val rfl rfl (R.bldP (vs := []) (cs := [.int .u8 ((0 : UInt8).toNat : Int), .int .i64 0, .int .i64 0, .slice none 0 0]) Z60 B60 rfl rfl rfl) (JL.store 0 S60 rfl rfl rfl rfl rfl (Nat.le_of_ble_eq_true rfl) (JL.val rfl rfl (R.assign rfl) (JL.nil ?_)))))))))))
    refine JN.next (JC.ret (JN.passR (JN.outP (vs := [.agg #[.int .u8 ((0 : UInt8).toNat : Int), .int .i64 0, .int .i64 0, .slice none 0 0], .int .i64 2]) (K := []) (rst := [_, _, _]) (.inl rfl) rfl rfl (Res.cellN 0 rfl rfl S60 (Res.tmp rfl rfl)) picks0 ?_)))
    obtain rfl := Option.some.inj hx
    exact ⟨none, 0, rfl, rfl, (IsSlice.nil _ _ _), trivial⟩
   ·
    replace hx := cond_f c_18 hx
    refine JL.gYes rfl rfl rfl (JL.val rfl rfl (R.move rfl) (JL.gYes rfl rfl rfl (JL.val rfl rfl (R.geq_i rfl rfl) (JL.val rfl rfl (R.pickF rfl rfl) (JL.nil (JN.next (JC.condB rfl (fun c_19 => ?_) (fun c_19 => ?_))))))))
    ·
     replace hx := cond_t c_19 hx
     refine JC.seq (JC.region (JL.val rfl rfl (R.bldP (vs := []) (cs := [.int .u8 ((0 : UInt8).toNat : Int), .int .i64 0, .int .i64 0, .slice none 0 0]) Z60 B60 rfl rfl rfl) (JL.store 0 S60 rfl rfl rfl rfl rfl (Nat.le_of_ble_eq_true rfl) (JL.val rfl rfl (R.assign rfl) (JL.nil (JN.next (JC.ret (JN.passR (JN.outP (vs := [.agg #[.int .u8 ((0 : UInt8).toNat : Int), .int .i64 0, .int .i64 0, .slice none 0 0], .int .i64 2]) (K := []) (rst := [_, _, _]) (.inl rfl) rfl rfl (Res.cellN 0 rfl rfl S60 (Res.tmp rfl rfl)) picks0 ?_)))))))))
     obtain rfl := Option.some.inj hx
     exact ⟨none, 0, rfl, rfl, (IsSlice.nil _ _ _), trivial⟩
    ·
     replace hx := cond_f c_19 hx
     refine JC.skip (JN.next (JC.seq (JC.region (JL.val rfl rfl (R.ldoN 2 (vs := [.slice aoa_2 na_2 capa_2, .slice aoa_3 na_3 capa_3, .slice aoa_4 na_4 capa_4, .int .u32 (p_1.Epoch.toNat : Int), .int .u32 (p_1.Count.toNat : Int)]) S50 rfl rfl rfl rfl) (JL.val rfl rfl (R.ldoN 1 (vs := [.int .i64 p_5.At, .int .u32 (p_5.Birth.toNat : Int), .int .u32 (p_5.Iv.toNat : Int), .int .u32 (p_5.Tag.toNat : Int), .int .u32 (p_5.Sum.toNat : Int)]) S28 rfl rfl rfl rfl) ?_)))))
     obtain ⟨x_20, hr_21, hx⟩ := bnd_some hx
     refine JL.callC (vs := [_, _]) (args := [_, _]) (K := []) (rst := [_, _, _]) E24 rfl rfl rfl picks0 (set_Ptrs_ok p_1 p_5 _ ha_2 ha_3 ha_4 _ hr_21) rfl (fun u_22 Ku_22 Hu_22 hRu_22 hleu_22 hfu_22 => ?_)
     obtain ⟨aor_23, nr_23, capr_23, Kr_23, rfl, rfl, hr_23, hnewr_23, -⟩ := hRu_22
     replace hr_23 := (RowOf.base (RowOf.const (H2 := New H Hu_22) R_Ptr.const hr_23) (fun p hp => (hfu_22 p (mem_seg 0 rfl hp)).resolve_left (hnewr_23 p hp)))
     refine JL.val rfl rfl (R.move rfl) (JL.val rfl rfl (R.extract rfl rfl) (JL.val rfl rfl (R.extract rfl rfl) (JL.val rfl rfl (R.assign rfl) (JL.val rfl rfl (R.assign rfl) (JL.nil (JN.next (JC.seq (JC.seq (JC.region (JL.val rfl rfl (R.move rfl) (JL.val rfl rfl (R.neq_i rfl rfl) ?_)))))))))))
     refine JL.nil (JN.next (JC.condB rfl (fun c_24 => ?_) (fun c_24 => ?_)))
     ·
      replace hx := cond_t c_24 hx
      refine JC.seq (JC.region (JL.val rfl rfl (R.bldP (vs := []) (cs := [.int .u8 ((0 : UInt8).toNat : Int), .int .i64 0, .int .i64 0, .slice none 0 0]) Z60 B60 rfl rfl rfl) (JL.val rfl rfl (R.move rfl) (JL.store 1 S60 rfl rfl rfl rfl rfl (Nat.le_of_ble_eq_true rfl) (JL.val rfl rfl (R.assign rfl) (JL.nil (JN.next (JC.ret (JN.passR (JN.outP (vs := [.agg #[.int .u8 ((0 : UInt8).toNat : Int), .int .i64 0, .int .i64 0, .slice none 0 0], .int .i64 x_20.2]) (K := []) (rst := [_, _, _, _]) (.inl rfl) rfl rfl (Res.cellN 1 rfl rfl S60 (Res.tmp rfl rfl)) picks0 ?_))))))))))
      obtain rfl := Option.some.inj hx
      exact ⟨none, 0, rfl, rfl, (IsSlice.nil _ _ _), trivial⟩
     ·
      replace hx := cond_f c_24 hx
      refine JC.skip (JN.next (JC.seq (JC.draw (so := [_, _, _]) 10 rfl Mixed ⟨⟨0, rfl⟩, ⟨2, rfl⟩, ⟨3, rfl⟩, trivial⟩ (JA.val ⟨by kernel_rfl, by kernel_rfl⟩ (calm_only _) (i := 0) rfl ⟨by kernel_rfl, by kernel_rfl, rfl⟩ trivial (stab_of (Hle.refl _) ⟨⟨0, rfl⟩, ⟨2, rfl⟩, ⟨3, rfl⟩, trivial⟩) (R.ldoN 2 (vs := [.slice aoa_2 na_2 capa_2, .slice aoa_3 na_3 capa_3, .slice aoa_4 na_4 capa_4, .int .u32 (p_1.Epoch.toNat : Int), .int .u32 (p_1.Count.toNat : Int)]) S50 rfl rfl rfl rfl) rfl (JA.val ⟨by kernel_rfl, by kernel_rfl⟩ (calm_only _) (i := 1) rfl ⟨by kernel_rfl, by kernel_rfl, rfl⟩ trivial (stab_of (Hle.refl _) ⟨⟨0, rfl⟩, ⟨2, rfl⟩, ⟨3, rfl⟩, trivial⟩) (R.move rfl) rfl (JA.val ⟨by kernel_rfl, by kernel_rfl⟩ (calm_only _) (i := 2) rfl ⟨by kernel_rfl, by kernel_rfl, rfl⟩ trivial (stab_of (Hle.refl _) ⟨⟨0, rfl⟩, ⟨2, rfl⟩, ⟨3, rfl⟩, trivial⟩) (R.move rfl) rfl ?_))))))
      obtain ⟨y_25, hN_26, hx⟩ := idx_some hx
      obtain ⟨b_27, o_28, cs_29, cur_34, hK_35, hE_30, hR_31, hl_32, hc_33⟩ := RowOf.elem hr_23 hN_26
      subst hK_35
      obtain rfl := hR_31
      refine JA.val ⟨by kernel_rfl, by kernel_rfl⟩ (calm_only _) (i := 3) rfl ⟨by kernel_rfl, by kernel_rfl, rfl⟩ trivial (stab_of (Hle.refl _) ⟨⟨0, rfl⟩, ⟨2, rfl⟩, ⟨3, rfl⟩, trivial⟩) (R.ix U53 S28 rfl rfl hE_30) rfl (JA.val ⟨by kernel_rfl, by kernel_rfl⟩ (calm_only _) (i := 4) rfl ⟨by kernel_rfl, by kernel_rfl, rfl⟩ trivial (stab_of (Hle.refl _) ⟨⟨0, rfl⟩, ⟨2, rfl⟩, ⟨3, rfl⟩, trivial⟩) (R.ldoE 0 (cs := [.int .i64 y_25.At, .int .u32 (y_25.Birth.toNat : Int), .int .u32 (y_25.Iv.toNat : Int), .int .u32 (y_25.Tag.toNat : Int), .int .u32 (y_25.Sum.toNat : Int)]) (k := 0) (vs := [.int .i64 y_25.At, .int .u32 (y_25.Birth.toNat : Int), .int .u32 (y_25.Iv.toNat : Int), .int .u32 (y_25.Tag.toNat : Int), .int .u32 (y_25.Sum.toNat : Int)]) S28 rfl rfl hc_33 rfl rfl) rfl (JA.one (i := 5) (by kernel_rfl) (JO.step rfl trivial rfl (fun K hK => ?_))))
      obtain ⟨x_36, hr_37, hx⟩ := bnd_some hx
      refine JL.callC (vs := [_, _]) (args := [_, _]) (K := []) (rst := [_, _, _, _]) E54 rfl rfl rfl picks0 (set_one_ok p_1 y_25 _ (ha_2.mono (RSl.mono RU8.mono) hleu_22) (ha_3.mono R_Write.mono hleu_22) (ha_4.mono RU8.mono hleu_22) _ hr_37) rfl (fun u_38 Ku_38 Hu_38 hRu_38 hleu_38 hfu_38 => ?_)
      obtain ⟨aoz_39, nz_39, rfl, rfl, hz_39, -⟩ := hRu_38
      replace hz_39 := IsSlice.mono R_Ptr.mono (New.call hleu_22) hz_39
      refine JL.nil (hK _ _ _ (stab_of hleu_38 ⟨⟨0, rfl⟩, ⟨2, rfl⟩, ⟨3, rfl⟩, trivial⟩) (JA.val ⟨by kernel_rfl, by kernel_rfl⟩ (calm_only _) (i := 6) rfl ⟨by kernel_rfl, by kernel_rfl, rfl⟩ trivial (stab_of hleu_38 ⟨⟨0, rfl⟩, ⟨2, rfl⟩, ⟨3, rfl⟩, trivial⟩) (R.extract rfl rfl) rfl (JA.val ⟨by kernel_rfl, by kernel_rfl⟩ (calm_only _) (i := 7) rfl ⟨by kernel_rfl, by kernel_rfl, rfl⟩ trivial (stab_of hleu_38 ⟨⟨0, rfl⟩, ⟨2, rfl⟩, ⟨3, rfl⟩, trivial⟩) (R.extract rfl rfl) rfl (JA.one (i := 8) (by kernel_rfl) (JO.step rfl trivial rfl (fun K hK => JL.store 1 S60 rfl rfl rfl rfl rfl (Nat.le_of_ble_eq_true rfl) (JL.nil (hK _ _ _ (stab_of hleu_38 ⟨⟨0, rfl⟩, ⟨2, rfl⟩, ⟨3, rfl⟩, trivial⟩) (JA.val ⟨by kernel_rfl, by kernel_rfl⟩ (calm_only _) (i := 9) rfl ⟨by kernel_rfl, by kernel_rfl, rfl⟩ trivial (stab_of hleu_38 ⟨⟨0, rfl⟩, ⟨2, rfl⟩, ⟨3, rfl⟩, trivial⟩) (R.assign rfl) rfl (JA.doneN (by kernel_rfl) (JN.next ?_)))))))))))
      refine JC.ret (JN.outP (vs := [.agg #[.int .u8 (x_36.1.Kind.toNat : Int), .int .i64 x_36.1.Links, .int .i64 x_36.1.Size, .slice aoz_39 nz_39 nz_39], .int .i64 x_36.2]) (K := []) (rst := [_, _, _, _]) (.inl rfl) rfl rfl (Res.cellN 1 rfl rfl S60 (Res.tmp rfl rfl)) picks0 ?_)
      obtain rfl := Option.some.inj hx
      exact ⟨aoz_39, nz_39, rfl, rfl, hz_39, trivial⟩

set_option maxHeartbeats 8000000 in
theorem law15_SetParts_ok (p_1 : Store) (p_5 : Ptr) (H : Heaplet) {aoa_2 : Option Addr} {na_2 : Nat} {capa_2 : Nat} {aoa_3 : Option Addr} {na_3 : Nat} {capa_3 : Nat} {aoa_4 : Option Addr} {na_4 : Nat} {capa_4 : Nat} (ha_2 : IsSlice H (RSl RU8 1) 1 (.slice aoa_2 na_2 capa_2) p_1.Disk.Blocks) (ha_3 : IsSlice H R_Write 2 (.slice aoa_3 na_3 capa_3) p_1.Disk.Waits) (ha_4 : IsSlice H RU8 1 (.slice aoa_4 na_4 capa_4) p_1.Space) (r : Bool) (hx : law15_SetParts p_1 p_5 = some r) :
  Does Try.prog 7 #[.agg #[.slice aoa_2 na_2 capa_2, .slice aoa_3 na_3 capa_3, .slice aoa_4 na_4 capa_4, .int .u32 (p_1.Epoch.toNat : Int), .int .u32 (p_1.Count.toNat : Int)], .agg #[.int .i64 p_5.At, .int .u32 (p_5.Birth.toNat : Int), .int .u32 (p_5.Iv.toNat : Int), .int .u32 (p_5.Tag.toNat : Int), .int .u32 (p_5.Sum.toNat : Int)]] [] H (fun u K' H' => u = .bool r ∧ K' = [] ∧ True) := by
 refine Does.enterL (vs := [.agg #[.slice aoa_2 na_2 capa_2, .slice aoa_3 na_3 capa_3, .slice aoa_4 na_4 capa_4, .int .u32 (p_1.Epoch.toNat : Int), .int .u32 (p_1.Count.toNat : Int)], .agg #[.int .i64 p_5.At, .int .u32 (p_5.Birth.toNat : Int), .int .u32 (p_5.Iv.toNat : Int), .int .u32 (p_5.Tag.toNat : Int), .int .u32 (p_5.Sum.toNat : Int)]]) (l := [(0, .agg #[.slice aoa_2 na_2 capa_2, .slice aoa_3 na_3 capa_3, .slice aoa_4 na_4 capa_4, .int .u32 (p_1.Epoch.toNat : Int), .int .u32 (p_1.Count.toNat : Int)]), (1, .agg #[.int .i64 p_5.At, .int .u32 (p_5.Birth.toNat : Int), .int .u32 (p_5.Iv.toNat : Int), .int .u32 (p_5.Tag.toNat : Int), .int .u32 (p_5.Sum.toNat : Int)])]) Try.func7 rfl rfl ⟨rfl, rfl, trivial⟩ (fun w hlt => ?_)
 unfold law15_SetParts at hx
 refine JC.seq (JC.region (JL.box rfl rfl (fun b_6 hb_6 => JL.box rfl rfl (fun b_7 hb_7 => JL.val rfl rfl (R.assign rfl) (JL.nil (JN.next (JC.seq (JC.region ?_))))))))
 obtain ⟨x_8, hr_9, hx⟩ := bnd_some hx
 refine JL.callC (vs := []) (args := []) (K := []) (rst := [_, _]) E19 rfl rfl rfl picks0 (law15_alive_ok _ _ hr_9) rfl (fun u_10 Ku_10 Hu_10 hRu_10 hleu_10 hfu_10 => ?_)
 obtain ⟨rfl, rfl, -⟩ := hRu_10
 refine JL.val rfl rfl (R.assign rfl) (JL.nil (JN.next (JC.seq (JC.seq (JC.region (JL.val rfl rfl (R.move rfl) (JL.val rfl rfl (R.not rfl) (JL.nil (JN.next (JC.condB rfl (fun c_11 => ?_) (fun c_11 => ?_)))))))))))
 ·
  replace hx := cond_t c_11 hx
  refine JC.seq (JC.region (JL.val rfl rfl (R.assign rfl) (JL.nil (JN.next (JC.ret (JN.passR (JN.outP (vs := [.bool false]) (K := []) (rst := [_, _]) (.inl rfl) rfl rfl (Res.tmp rfl rfl) picks0 ?_)))))))
  obtain rfl := Option.some.inj hx
  exact ⟨rfl, rfl, trivial⟩
 ·
  replace hx := cond_f c_11 hx
  refine JC.skip (JN.next (JC.seq (JC.region (JL.val rfl rfl (R.ldoN 1 (vs := [.slice aoa_2 na_2 capa_2, .slice aoa_3 na_3 capa_3, .slice aoa_4 na_4 capa_4, .int .u32 (p_1.Epoch.toNat : Int), .int .u32 (p_1.Count.toNat : Int)]) S50 rfl rfl rfl rfl) (JL.val rfl rfl (R.ldoN 0 (vs := [.int .i64 p_5.At, .int .u32 (p_5.Birth.toNat : Int), .int .u32 (p_5.Iv.toNat : Int), .int .u32 (p_5.Tag.toNat : Int), .int .u32 (p_5.Sum.toNat : Int)]) S28 rfl rfl rfl rfl) ?_)))))
  obtain ⟨x_12, hr_13, hx⟩ := bnd_some hx
  refine JL.callC (vs := [_, _, _]) (args := [_, _, _]) (K := []) (rst := [_, _]) E21 rfl rfl rfl picks0 (set_Walk_ok p_1 p_5 (0 : UInt32) _ (ha_2.mono (RSl.mono RU8.mono) hleu_10) (ha_3.mono R_Write.mono hleu_10) (ha_4.mono RU8.mono hleu_10) _ hr_13) rfl (fun u_14 Ku_14 Hu_14 hRu_14 hleu_14 hfu_14 => ?_)
  obtain ⟨aor_15, nr_15, capr_15, Kr_15, rfl, rfl, hr_15, hnewr_15, -⟩ := hRu_14
  replace hr_15 := (RowOf.base (RowOf.const (H2 := New H Hu_14) R_Ptr.const hr_15) (fun p hp => (hfu_14 p (mem_seg 0 rfl hp)).resolve_left (hnewr_15 p hp)))
  refine JL.val rfl rfl (R.move rfl) (JL.val rfl rfl (R.extract rfl rfl) (JL.val rfl rfl (R.extract rfl rfl) (JL.val rfl rfl (R.assign rfl) (JL.val rfl rfl (R.assign rfl) (JL.nil (JN.next (JC.seq (JC.seq (JC.region (JL.val rfl rfl (R.ldoN 2 (vs := [.slice aoa_2 na_2 capa_2, .slice aoa_3 na_3 capa_3, .slice aoa_4 na_4 capa_4, .int .u32 (p_1.Epoch.toNat : Int), .int .u32 (p_1.Count.toNat : Int)]) S50 rfl rfl rfl rfl) ?_))))))))))
  obtain ⟨x_16, hr_17, hx⟩ := bnd_some hx
  refine JL.callC (vs := [_]) (args := [_]) (K := []) (rst := [_, _, _]) E20 rfl rfl rfl picks0 (ref13_Great_ok p_1 _ (ha_2.mono (RSl.mono RU8.mono) (hleu_10.trans hleu_14)) (ha_3.mono R_Write.mono (hleu_10.trans hleu_14)) (ha_4.mono RU8.mono (hleu_10.trans hleu_14)) _ hr_17) rfl (fun u_18 Ku_18 Hu_18 hRu_18 hleu_18 hfu_18 => ?_)
  obtain ⟨rfl, rfl, rfl, -⟩ := hRu_18
  refine JL.val rfl rfl (R.move rfl) (JL.gSplit (t := 26) rfl (fun c_19 => ?_) (fun c_19 => ?_))
  ·
   replace hx := cond_t c_19 hx
   refine JL.gNo rfl rfl rfl rfl rfl (JL.gNo rfl rfl rfl rfl rfl (JL.val rfl rfl (R.pickT rfl rfl) (JL.nil (JN.next (JC.condT rfl (JC.seq ?_))))))
   obtain ⟨t_20, ht_22, hx⟩ := bnd_some hx
   refine JC.cut (fun l o g => l = [(4, .bool t_20)] ∧ o = [] ∧ Hu_14 = g) ?_ ?_
   ·
    rintro _ _ _ ⟨rfl, rfl, rfl⟩
    refine JN.next (JC.ret (JN.passR (JN.outP (vs := [.bool t_20]) (K := []) (rst := []) (.inl rfl) rfl rfl (Res.tmp rfl rfl) picks0 ?_)))
    obtain rfl := Option.some.inj hx
    exact ⟨rfl, rfl, trivial⟩
   ·
    have hxo_21 := hx; clear hx; have hx := ht_22; clear ht_22
    refine JC.region (JL.val rfl rfl (R.move rfl) (JL.val rfl rfl (R.move rfl) (JL.gSplit (t := 31) rfl (fun c_23 => ?_) (fun c_23 => ?_))))
    ·
     replace hx := cond_t c_23 hx
     refine JL.gYes rfl rfl rfl (JL.val rfl rfl (R.move rfl) (JL.gYes rfl rfl rfl (JL.val rfl rfl (R.eql_i rfl rfl) (JL.gYes rfl rfl rfl (JL.val rfl rfl (R.move rfl) (JL.gSplit (t := 34) rfl (fun c_24 => ?_) (fun c_24 => ?_)))))))
     ·
      replace hx := cond_t c_24 hx
      refine JL.gNo rfl rfl rfl rfl rfl (JL.gNo rfl rfl rfl rfl rfl (JL.gNo rfl rfl rfl rfl rfl (JL.gYes rfl rfl rfl (JL.val rfl rfl (R.pickT rfl rfl) (JL.val rfl rfl (R.pickT rfl rfl) (JL.val rfl rfl (R.assign rfl) (JL.nil ?_)))))))
      obtain rfl := Option.some.inj hx
      refine JN.forget 2 (JN.forget 1 (JN.forget 0 ?_))
      exact JN.cut ⟨rfl, rfl, rfl⟩ ⟨rfl, trivial⟩ rfl rfl
     ·
      replace hx := cond_f c_24 hx
      refine JL.gYes rfl rfl rfl (JL.val rfl rfl (R.move rfl) (JL.gYes rfl rfl rfl (JL.val rfl rfl (R.lenL U53 rfl (RowOf.long hr_15)) (JL.gYes rfl rfl rfl (JL.val rfl rfl (R.eql_i rfl rfl) (JL.gYes rfl rfl rfl (JL.val rfl rfl (R.pickF rfl rfl) (JL.val rfl rfl (R.pickT rfl rfl) (JL.val rfl rfl (R.assign rfl) (JL.nil ?_))))))))))
      obtain rfl := Option.some.inj hx
      refine JN.forget 2 (JN.forget 1 (JN.forget 0 ?_))
      exact JN.cut ⟨rfl, rfl, rfl⟩ ⟨rfl, trivial⟩ rfl rfl
    ·
     replace hx := cond_f c_23 hx
     refine JL.gNo rfl rfl rfl rfl rfl (JL.gNo rfl rfl rfl rfl rfl (JL.gNo rfl rfl rfl rfl rfl (JL.gNoU rfl rfl rfl rfl (JL.gNoU rfl rfl rfl rfl (JL.gNoU rfl rfl rfl rfl (JL.gNo rfl rfl rfl rfl rfl (JL.val rfl rfl (R.pickF rfl rfl) (JL.val rfl rfl (R.assign rfl) (JL.nil ?_)))))))))
     obtain rfl := Option.some.inj hx
     refine JN.forget 2 (JN.forget 1 (JN.forget 0 ?_))
     exact JN.cut ⟨rfl, rfl, rfl⟩ ⟨rfl, trivial⟩ rfl rfl
  ·
   replace hx := cond_f c_19 hx
   refine JL.gYes rfl rfl rfl (JL.val rfl rfl (R.move rfl) (JL.gYes rfl rfl rfl (JL.val rfl rfl (R.neq_i rfl rfl) (JL.val rfl rfl (R.pickF rfl rfl) (JL.nil (JN.next (JC.condB rfl (fun c_25 => ?_) (fun c_25 => ?_))))))))
   ·
    replace hx := cond_t c_25 hx
    refine JC.seq ?_
    obtain ⟨t_26, ht_28, hx⟩ := bnd_some hx
    refine JC.cut (fun l o g => l = [(4, .bool t_26)] ∧ o = [] ∧ Hu_14 = g) ?_ ?_
    ·
     rintro _ _ _ ⟨rfl, rfl, rfl⟩
     refine JN.next (JC.ret (JN.passR (JN.outP (vs := [.bool t_26]) (K := []) (rst := []) (.inl rfl) rfl rfl (Res.tmp rfl rfl) picks0 ?_)))
     obtain rfl := Option.some.inj hx
     exact ⟨rfl, rfl, trivial⟩
    ·
     have hxo_27 := hx; clear hx; have hx := ht_28; clear ht_28
     refine JC.region (JL.val rfl rfl (R.move rfl) (JL.val rfl rfl (R.move rfl) (JL.gSplit (t := 31) rfl (fun c_29 => ?_) (fun c_29 => ?_))))
     ·
      replace hx := cond_t c_29 hx
      refine JL.gYes rfl rfl rfl (JL.val rfl rfl (R.move rfl) (JL.gYes rfl rfl rfl (JL.val rfl rfl (R.eql_i rfl rfl) (JL.gYes rfl rfl rfl (JL.val rfl rfl (R.move rfl) (JL.gSplit (t := 34) rfl (fun c_30 => ?_) (fun c_30 => ?_)))))))
      ·
       replace hx := cond_t c_30 hx
       refine JL.gNo rfl rfl rfl rfl rfl (JL.gNo rfl rfl rfl rfl rfl (JL.gNo rfl rfl rfl rfl rfl (JL.gYes rfl rfl rfl (JL.val rfl rfl (R.pickT rfl rfl) (JL.val rfl rfl (R.pickT rfl rfl) (JL.val rfl rfl (R.assign rfl) (JL.nil ?_)))))))
       obtain rfl := Option.some.inj hx
       refine JN.forget 2 (JN.forget 1 (JN.forget 0 ?_))
       exact JN.cut ⟨rfl, rfl, rfl⟩ ⟨rfl, trivial⟩ rfl rfl
      ·
       replace hx := cond_f c_30 hx
       refine JL.gYes rfl rfl rfl (JL.val rfl rfl (R.move rfl) (JL.gYes rfl rfl rfl (JL.val rfl rfl (R.lenL U53 rfl (RowOf.long hr_15)) (JL.gYes rfl rfl rfl (JL.val rfl rfl (R.eql_i rfl rfl) (JL.gYes rfl rfl rfl (JL.val rfl rfl (R.pickF rfl rfl) (JL.val rfl rfl (R.pickT rfl rfl) (JL.val rfl rfl (R.assign rfl) (JL.nil ?_))))))))))
       obtain rfl := Option.some.inj hx
       refine JN.forget 2 (JN.forget 1 (JN.forget 0 ?_))
       exact JN.cut ⟨rfl, rfl, rfl⟩ ⟨rfl, trivial⟩ rfl rfl
     ·
      replace hx := cond_f c_29 hx
      refine JL.gNo rfl rfl rfl rfl rfl (JL.gNo rfl rfl rfl rfl rfl (JL.gNo rfl rfl rfl rfl rfl (JL.gNoU rfl rfl rfl rfl (JL.gNoU rfl rfl rfl rfl (JL.gNoU rfl rfl rfl rfl (JL.gNo rfl rfl rfl rfl rfl (JL.val rfl rfl (R.pickF rfl rfl) (JL.val rfl rfl (R.assign rfl) (JL.nil ?_)))))))))
      obtain rfl := Option.some.inj hx
      refine JN.forget 2 (JN.forget 1 (JN.forget 0 ?_))
      exact JN.cut ⟨rfl, rfl, rfl⟩ ⟨rfl, trivial⟩ rfl rfl
   ·
    replace hx := cond_f c_25 hx
    refine JC.skip (JN.next (JC.seq (JC.seq (JC.region (JL.val rfl rfl (R.ldoN 1 (vs := [.int .i64 p_5.At, .int .u32 (p_5.Birth.toNat : Int), .int .u32 (p_5.Iv.toNat : Int), .int .u32 (p_5.Tag.toNat : Int), .int .u32 (p_5.Sum.toNat : Int)]) S28 rfl rfl rfl rfl) (JL.val rfl rfl (R.bldP (vs := []) (cs := [.int .i64 0, .int .u32 ((0 : UInt32).toNat : Int), .int .u32 ((0 : UInt32).toNat : Int), .int .u32 ((0 : UInt32).toNat : Int), .int .u32 ((0 : UInt32).toNat : Int)]) Z28 B28 rfl rfl rfl) (JL.val rfl rfl (R.eqlAgg QU28 QP28 QG28 QF28 rfl rfl (EqF.i (by decide) S3 U3 rfl rfl (EqF.u32 (a := p_5.Birth) (b := (0 : UInt32)) (by decide) S26 U26 rfl rfl (EqF.u32 (a := p_5.Iv) (b := (0 : UInt32)) (by decide) S26 U26 rfl rfl (EqF.u32 (a := p_5.Tag) (b := (0 : UInt32)) (by decide) S26 U26 rfl rfl (EqF.u32 (a := p_5.Sum) (b := (0 : UInt32)) (by decide) S26 U26 rfl rfl EqF.nil)))))) (JL.nil (JN.next (JC.condB rfl (fun c_31 => ?_) (fun c_31 => ?_)))))))))))
    ·
     replace hx := cond_t c_31 hx
     refine JC.seq ?_
     obtain ⟨t_32, ht_34, hx⟩ := bnd_some hx
     refine JC.cut (fun l o g => l = [(4, .bool t_32)] ∧ o = [] ∧ Hu_14 = g) ?_ ?_
     ·
      rintro _ _ _ ⟨rfl, rfl, rfl⟩
      refine JN.next (JC.ret (JN.passR (JN.outP (vs := [.bool t_32]) (K := []) (rst := []) (.inl rfl) rfl rfl (Res.tmp rfl rfl) picks0 ?_)))
      obtain rfl := Option.some.inj hx
      exact ⟨rfl, rfl, trivial⟩
     ·
      have hxo_33 := hx; clear hx; have hx := ht_34; clear ht_34
      refine JC.region (JL.val rfl rfl (R.move rfl) (JL.val rfl rfl (R.move rfl) (JL.gSplit (t := 44) rfl (fun c_35 => ?_) (fun c_35 => ?_))))
      ·
       replace hx := cond_t c_35 hx
       refine JL.gYes rfl rfl rfl (JL.val rfl rfl (R.move rfl) (JL.gYes rfl rfl rfl (JL.val rfl rfl (R.lenL U53 rfl (RowOf.long hr_15)) (JL.gYes rfl rfl rfl (JL.val rfl rfl (R.eql_i rfl rfl) (JL.val rfl rfl (R.pickT rfl rfl) (JL.val rfl rfl (R.assign rfl) (JL.nil ?_))))))))
       obtain rfl := Option.some.inj hx
       refine JN.forget 2 (JN.forget 1 (JN.forget 0 ?_))
       exact JN.cut ⟨rfl, rfl, rfl⟩ ⟨rfl, trivial⟩ rfl rfl
      ·
       replace hx := cond_f c_35 hx
       refine JL.gNo rfl rfl rfl rfl rfl (JL.gNo rfl rfl rfl rfl rfl (JL.gNo rfl rfl rfl rfl rfl (JL.val rfl rfl (R.pickF rfl rfl) (JL.val rfl rfl (R.assign rfl) (JL.nil ?_)))))
       obtain rfl := Option.some.inj hx
       refine JN.forget 2 (JN.forget 1 (JN.forget 0 ?_))
       exact JN.cut ⟨rfl, rfl, rfl⟩ ⟨rfl, trivial⟩ rfl rfl
    ·
     replace hx := cond_f c_31 hx
     refine JC.skip (JN.next (JC.seq (JC.region (JL.val rfl rfl (R.ldoN 2 (vs := [.slice aoa_2 na_2 capa_2, .slice aoa_3 na_3 capa_3, .slice aoa_4 na_4 capa_4, .int .u32 (p_1.Epoch.toNat : Int), .int .u32 (p_1.Count.toNat : Int)]) S50 rfl rfl rfl rfl) (JL.val rfl rfl (R.ldoN 1 (vs := [.int .i64 p_5.At, .int .u32 (p_5.Birth.toNat : Int), .int .u32 (p_5.Iv.toNat : Int), .int .u32 (p_5.Tag.toNat : Int), .int .u32 (p_5.Sum.toNat : Int)]) S28 rfl rfl rfl rfl) ?_)))))
     obtain ⟨x_36, hr_37, hx⟩ := bnd_some hx
     refine JL.callC (vs := [_, _]) (args := [_, _]) (K := []) (rst := [_, _, _]) E24 rfl rfl rfl picks0 (set_Ptrs_ok p_1 p_5 _ (ha_2.mono (RSl.mono RU8.mono) (hleu_10.trans hleu_14)) (ha_3.mono R_Write.mono (hleu_10.trans hleu_14)) (ha_4.mono RU8.mono (hleu_10.trans hleu_14)) _ hr_37) rfl (fun u_38 Ku_38 Hu_38 hRu_38 hleu_38 hfu_38 => ?_)
     obtain ⟨aor_39, nr_39, capr_39, Kr_39, rfl, rfl, hr_39, hnewr_39, -⟩ := hRu_38
     replace hr_39 := (RowOf.base (RowOf.const (H2 := New H Hu_38) R_Ptr.const hr_39) (fun p hp => (hfu_38 p (mem_seg 0 rfl hp)).resolve_left (hnewr_39 p hp)))
     refine JL.val rfl rfl (R.move rfl) (JL.val rfl rfl (R.extract rfl rfl) (JL.val rfl rfl (R.extract rfl rfl) (JL.val rfl rfl (R.assign rfl) (JL.val rfl rfl (R.assign rfl) (JL.nil (JN.next (JC.seq (JC.seq (JC.draw (so := [_, _, _, _]) 19 rfl Mixed ⟨⟨0, rfl⟩, ⟨1, rfl⟩, ⟨2, rfl⟩, ⟨3, rfl⟩, trivial⟩ (JA.val ⟨by kernel_rfl, by kernel_rfl⟩ (calm_only _) (i := 0) rfl ⟨by kernel_rfl, by kernel_rfl, rfl⟩ trivial (stab_of (Hle.refl _) ⟨⟨0, rfl⟩, ⟨1, rfl⟩, ⟨2, rfl⟩, ⟨3, rfl⟩, trivial⟩) (R.move rfl) rfl (JA.val ⟨by kernel_rfl, by kernel_rfl⟩ (calm_only _) (i := 1) rfl ⟨by kernel_rfl, by kernel_rfl, rfl⟩ trivial (stab_of (Hle.refl _) ⟨⟨0, rfl⟩, ⟨1, rfl⟩, ⟨2, rfl⟩, ⟨3, rfl⟩, trivial⟩) (R.neq_i rfl rfl) rfl ?_)))))))))))
     refine JA.val ⟨by kernel_rfl, by kernel_rfl⟩ (calm_only _) (i := 2) rfl ⟨by kernel_rfl, by kernel_rfl, rfl⟩ trivial (stab_of (Hle.refl _) ⟨⟨0, rfl⟩, ⟨1, rfl⟩, ⟨2, rfl⟩, ⟨3, rfl⟩, trivial⟩) (R.move rfl) rfl (JA.gSplit (t := 57) rfl (fun c_40 => ?_) (fun c_40 => ?_))
     ·
      replace hx := cond_t c_40 hx
      refine JA.no ⟨by kernel_rfl, by kernel_rfl⟩ (calm_only _) (i := 3) rfl ⟨by kernel_rfl, by kernel_rfl, rfl⟩ rfl rfl rfl rfl (stab_of (Hle.refl _) ⟨⟨0, rfl⟩, ⟨1, rfl⟩, ⟨2, rfl⟩, ⟨3, rfl⟩, trivial⟩) rfl (JA.no ⟨by kernel_rfl, by kernel_rfl⟩ (calm_only _) (i := 4) rfl ⟨by kernel_rfl, by kernel_rfl, rfl⟩ rfl rfl rfl rfl (stab_of (Hle.refl _) ⟨⟨0, rfl⟩, ⟨1, rfl⟩, ⟨2, rfl⟩, ⟨3, rfl⟩, trivial⟩) rfl (JA.no ⟨by kernel_rfl, by kernel_rfl⟩ (calm_only _) (i := 5) rfl ⟨by kernel_rfl, by kernel_rfl, rfl⟩ rfl rfl rfl rfl (stab_of (Hle.refl _) ⟨⟨0, rfl⟩, ⟨1, rfl⟩, ⟨2, rfl⟩, ⟨3, rfl⟩, trivial⟩) rfl (JA.val ⟨by kernel_rfl, by kernel_rfl⟩ (calm_only _) (i := 6) rfl ⟨by kernel_rfl, by kernel_rfl, rfl⟩ trivial (stab_of (Hle.refl _) ⟨⟨0, rfl⟩, ⟨1, rfl⟩, ⟨2, rfl⟩, ⟨3, rfl⟩, trivial⟩) (R.pickT rfl rfl) rfl (JA.val ⟨by kernel_rfl, by kernel_rfl⟩ (calm_only _) (i := 7) rfl ⟨by kernel_rfl, by kernel_rfl, rfl⟩ trivial (stab_of (Hle.refl _) ⟨⟨0, rfl⟩, ⟨1, rfl⟩, ⟨2, rfl⟩, ⟨3, rfl⟩, trivial⟩) (R.move rfl) rfl (JA.no ⟨by kernel_rfl, by kernel_rfl⟩ (calm_only _) (i := 8) rfl ⟨by kernel_rfl, by kernel_rfl, rfl⟩ rfl rfl rfl rfl (stab_of (Hle.refl _) ⟨⟨0, rfl⟩, ⟨1, rfl⟩, ⟨2, rfl⟩, ⟨3, rfl⟩, trivial⟩) rfl (JA.no ⟨by kernel_rfl, by kernel_rfl⟩ (calm_only _) (i := 9) rfl ⟨by kernel_rfl, by kernel_rfl, rfl⟩ rfl rfl rfl rfl (stab_of (Hle.refl _) ⟨⟨0, rfl⟩, ⟨1, rfl⟩, ⟨2, rfl⟩, ⟨3, rfl⟩, trivial⟩) rfl (JA.no ⟨by kernel_rfl, by kernel_rfl⟩ (calm_only _) (i := 10) rfl ⟨by kernel_rfl, by kernel_rfl, rfl⟩ rfl rfl rfl rfl (stab_of (Hle.refl _) ⟨⟨0, rfl⟩, ⟨1, rfl⟩, ⟨2, rfl⟩, ⟨3, rfl⟩, trivial⟩) rfl (JA.val ⟨by kernel_rfl, by kernel_rfl⟩ (calm_only _) (i := 11) rfl ⟨by kernel_rfl, by kernel_rfl, rfl⟩ trivial (stab_of (Hle.refl _) ⟨⟨0, rfl⟩, ⟨1, rfl⟩, ⟨2, rfl⟩, ⟨3, rfl⟩, trivial⟩) (R.pickT rfl rfl) rfl (JA.val ⟨by kernel_rfl, by kernel_rfl⟩ (calm_only _) (i := 12) rfl ⟨by kernel_rfl, by kernel_rfl, rfl⟩ trivial (stab_of (Hle.refl _) ⟨⟨0, rfl⟩, ⟨1, rfl⟩, ⟨2, rfl⟩, ⟨3, rfl⟩, trivial⟩) (R.move rfl) rfl (JA.no ⟨by kernel_rfl, by kernel_rfl⟩ (calm_only _) (i := 13) rfl ⟨by kernel_rfl, by kernel_rfl, rfl⟩ rfl rfl rfl rfl (stab_of (Hle.refl _) ⟨⟨0, rfl⟩, ⟨1, rfl⟩, ⟨2, rfl⟩, ⟨3, rfl⟩, trivial⟩) rfl (JA.no ⟨by kernel_rfl, by kernel_rfl⟩ (calm_only _) (i := 14) rfl ⟨by kernel_rfl, by kernel_rfl, rfl⟩ rfl rfl rfl rfl (stab_of (Hle.refl _) ⟨⟨0, rfl⟩, ⟨1, rfl⟩, ⟨2, rfl⟩, ⟨3, rfl⟩, trivial⟩) rfl ?_)))))))))))
      refine JA.no ⟨by kernel_rfl, by kernel_rfl⟩ (calm_only _) (i := 15) rfl ⟨by kernel_rfl, by kernel_rfl, rfl⟩ rfl rfl rfl rfl (stab_of (Hle.refl _) ⟨⟨0, rfl⟩, ⟨1, rfl⟩, ⟨2, rfl⟩, ⟨3, rfl⟩, trivial⟩) rfl (JA.no ⟨by kernel_rfl, by kernel_rfl⟩ (calm_only _) (i := 16) rfl ⟨by kernel_rfl, by kernel_rfl, rfl⟩ rfl rfl rfl rfl (stab_of (Hle.refl _) ⟨⟨0, rfl⟩, ⟨1, rfl⟩, ⟨2, rfl⟩, ⟨3, rfl⟩, trivial⟩) rfl (JA.no ⟨by kernel_rfl, by kernel_rfl⟩ (calm_only _) (i := 17) rfl ⟨by kernel_rfl, by kernel_rfl, rfl⟩ rfl rfl rfl rfl (stab_of (Hle.refl _) ⟨⟨0, rfl⟩, ⟨1, rfl⟩, ⟨2, rfl⟩, ⟨3, rfl⟩, trivial⟩) rfl (JA.val ⟨by kernel_rfl, by kernel_rfl⟩ (calm_only _) (i := 18) rfl ⟨by kernel_rfl, by kernel_rfl, rfl⟩ trivial (stab_of (Hle.refl _) ⟨⟨0, rfl⟩, ⟨1, rfl⟩, ⟨2, rfl⟩, ⟨3, rfl⟩, trivial⟩) (R.pickT rfl rfl) rfl (JA.doneN (by kernel_rfl) (JN.next (JC.condT rfl (JC.seq (JC.region (JL.val rfl rfl (R.assign rfl) (JL.nil (JN.next ?_)))))))))))
      refine JC.ret (JN.passR (JN.outP (vs := [.bool false]) (K := []) (rst := [_, _, _, _]) (.inl rfl) rfl rfl (Res.tmp rfl rfl) picks0 ?_))
      obtain rfl := Option.some.inj hx
      exact ⟨rfl, rfl, trivial⟩
     ·
      replace hx := cond_f c_40 hx
      refine JA.val ⟨by kernel_rfl, by kernel_rfl⟩ (calm_only _) (i := 3) rfl ⟨by kernel_rfl, by kernel_rfl, rfl⟩ ⟨_, _, rfl, rfl, rfl⟩ (stab_of (Hle.refl _) ⟨⟨0, rfl⟩, ⟨1, rfl⟩, ⟨2, rfl⟩, ⟨3, rfl⟩, trivial⟩) (R.move rfl) rfl (JA.val ⟨by kernel_rfl, by kernel_rfl⟩ (calm_only _) (i := 4) rfl ⟨by kernel_rfl, by kernel_rfl, rfl⟩ ⟨_, _, rfl, rfl, rfl⟩ (stab_of (Hle.refl _) ⟨⟨0, rfl⟩, ⟨1, rfl⟩, ⟨2, rfl⟩, ⟨3, rfl⟩, trivial⟩) (R.lenL U53 rfl (RowOf.long hr_39)) rfl (JA.val ⟨by kernel_rfl, by kernel_rfl⟩ (calm_only _) (i := 5) rfl ⟨by kernel_rfl, by kernel_rfl, rfl⟩ ⟨_, _, rfl, rfl, rfl⟩ (stab_of (Hle.refl _) ⟨⟨0, rfl⟩, ⟨1, rfl⟩, ⟨2, rfl⟩, ⟨3, rfl⟩, trivial⟩) (R.neq_i rfl rfl) rfl (JA.val ⟨by kernel_rfl, by kernel_rfl⟩ (calm_only _) (i := 6) rfl ⟨by kernel_rfl, by kernel_rfl, rfl⟩ trivial (stab_of (Hle.refl _) ⟨⟨0, rfl⟩, ⟨1, rfl⟩, ⟨2, rfl⟩, ⟨3, rfl⟩, trivial⟩) (R.pickF rfl rfl) rfl (JA.val ⟨by kernel_rfl, by kernel_rfl⟩ (calm_only _) (i := 7) rfl ⟨by kernel_rfl, by kernel_rfl, rfl⟩ trivial (stab_of (Hle.refl _) ⟨⟨0, rfl⟩, ⟨1, rfl⟩, ⟨2, rfl⟩, ⟨3, rfl⟩, trivial⟩) (R.move rfl) rfl (JA.gSplit (t := 62) rfl (fun c_41 => ?_) (fun c_41 => ?_))))))
      ·
       replace hx := cond_t c_41 hx
       refine JA.no ⟨by kernel_rfl, by kernel_rfl⟩ (calm_only _) (i := 8) rfl ⟨by kernel_rfl, by kernel_rfl, rfl⟩ rfl rfl rfl rfl (stab_of (Hle.refl _) ⟨⟨0, rfl⟩, ⟨1, rfl⟩, ⟨2, rfl⟩, ⟨3, rfl⟩, trivial⟩) rfl (JA.no ⟨by kernel_rfl, by kernel_rfl⟩ (calm_only _) (i := 9) rfl ⟨by kernel_rfl, by kernel_rfl, rfl⟩ rfl rfl rfl rfl (stab_of (Hle.refl _) ⟨⟨0, rfl⟩, ⟨1, rfl⟩, ⟨2, rfl⟩, ⟨3, rfl⟩, trivial⟩) rfl (JA.no ⟨by kernel_rfl, by kernel_rfl⟩ (calm_only _) (i := 10) rfl ⟨by kernel_rfl, by kernel_rfl, rfl⟩ rfl rfl rfl rfl (stab_of (Hle.refl _) ⟨⟨0, rfl⟩, ⟨1, rfl⟩, ⟨2, rfl⟩, ⟨3, rfl⟩, trivial⟩) rfl (JA.val ⟨by kernel_rfl, by kernel_rfl⟩ (calm_only _) (i := 11) rfl ⟨by kernel_rfl, by kernel_rfl, rfl⟩ trivial (stab_of (Hle.refl _) ⟨⟨0, rfl⟩, ⟨1, rfl⟩, ⟨2, rfl⟩, ⟨3, rfl⟩, trivial⟩) (R.pickT rfl rfl) rfl (JA.val ⟨by kernel_rfl, by kernel_rfl⟩ (calm_only _) (i := 12) rfl ⟨by kernel_rfl, by kernel_rfl, rfl⟩ trivial (stab_of (Hle.refl _) ⟨⟨0, rfl⟩, ⟨1, rfl⟩, ⟨2, rfl⟩, ⟨3, rfl⟩, trivial⟩) (R.move rfl) rfl (JA.no ⟨by kernel_rfl, by kernel_rfl⟩ (calm_only _) (i := 13) rfl ⟨by kernel_rfl, by kernel_rfl, rfl⟩ rfl rfl rfl rfl (stab_of (Hle.refl _) ⟨⟨0, rfl⟩, ⟨1, rfl⟩, ⟨2, rfl⟩, ⟨3, rfl⟩, trivial⟩) rfl (JA.no ⟨by kernel_rfl, by kernel_rfl⟩ (calm_only _) (i := 14) rfl ⟨by kernel_rfl, by kernel_rfl, rfl⟩ rfl rfl rfl rfl (stab_of (Hle.refl _) ⟨⟨0, rfl⟩, ⟨1, rfl⟩, ⟨2, rfl⟩, ⟨3, rfl⟩, trivial⟩) rfl (JA.no ⟨by kernel_rfl, by kernel_rfl⟩ (calm_only _) (i := 15) rfl ⟨by kernel_rfl, by kernel_rfl, rfl⟩ rfl rfl rfl rfl (stab_of (Hle.refl _) ⟨⟨0, rfl⟩, ⟨1, rfl⟩, ⟨2, rfl⟩, ⟨3, rfl⟩, trivial⟩) rfl (JA.no ⟨by kernel_rfl, by kernel_rfl⟩ (calm_only _) (i := 16) rfl ⟨by kernel_rfl, by kernel_rfl, rfl⟩ rfl rfl rfl rfl (stab_of (Hle.refl _) ⟨⟨0, rfl⟩, ⟨1, rfl⟩, ⟨2, rfl⟩, ⟨3, rfl⟩, trivial⟩) rfl (JA.no ⟨by kernel_rfl, by kernel_rfl⟩ (calm_only _) (i := 17) rfl ⟨by kernel_rfl, by kernel_rfl, rfl⟩ rfl rfl rfl rfl (stab_of (Hle.refl _) ⟨⟨0, rfl⟩, ⟨1, rfl⟩, ⟨2, rfl⟩, ⟨3, rfl⟩, trivial⟩) rfl (JA.val ⟨by kernel_rfl, by kernel_rfl⟩ (calm_only _) (i := 18) rfl ⟨by kernel_rfl, by kernel_rfl, rfl⟩ trivial (stab_of (Hle.refl _) ⟨⟨0, rfl⟩, ⟨1, rfl⟩, ⟨2, rfl⟩, ⟨3, rfl⟩, trivial⟩) (R.pickT rfl rfl) rfl (JA.doneN (by kernel_rfl) ?_)))))))))))
       refine JN.next (JC.tidyP (l' := [(2, .pointer (some ⟨b_6, 0, none⟩)), (3, .pointer (some ⟨b_7, 0, none⟩)), (4, .bool false), (5, .bool x_8), (6, .slice aor_15 nr_15 capr_15), (8, .slice aor_39 nr_39 capr_39), (73, .bool true)]) (own' := [Kr_39, Kr_15, [(b_7, .cells #[.int .i64 p_5.At, .int .u32 (p_5.Birth.toNat : Int), .int .u32 (p_5.Iv.toNat : Int), .int .u32 (p_5.Tag.toNat : Int), .int .u32 (p_5.Sum.toNat : Int)] 28 (0, 0))], [(b_6, .cells #[.slice aoa_2 na_2 capa_2, .slice aoa_3 na_3 capa_3, .slice aoa_4 na_4 capa_4, .int .u32 (p_1.Epoch.toNat : Int), .int .u32 (p_1.Count.toNat : Int)] 50 (0, 0))]]) (rst := []) ⟨rfl, rfl, rfl, rfl, rfl, rfl, rfl, trivial⟩ (picks 0 rfl (picks 0 rfl (picks 0 rfl (picks 0 rfl picks0)))) (JC.condT rfl (JC.seq (JC.region (JL.val rfl rfl (R.assign rfl) (JL.nil (JN.next (JC.ret (JN.passR (JN.outP (vs := [.bool false]) (K := []) (rst := [_, _, _, _]) (.inl rfl) rfl rfl (Res.tmp rfl rfl) picks0 ?_))))))))))
       obtain rfl := Option.some.inj hx
       exact ⟨rfl, rfl, trivial⟩
      ·
       replace hx := cond_f c_41 hx
       refine JA.val ⟨by kernel_rfl, by kernel_rfl⟩ (calm_only _) (i := 8) rfl ⟨by kernel_rfl, by kernel_rfl, rfl⟩ ⟨_, _, rfl, rfl, rfl⟩ (stab_of (Hle.refl _) ⟨⟨0, rfl⟩, ⟨1, rfl⟩, ⟨2, rfl⟩, ⟨3, rfl⟩, trivial⟩) (R.move rfl) rfl (JA.val ⟨by kernel_rfl, by kernel_rfl⟩ (calm_only _) (i := 9) rfl ⟨by kernel_rfl, by kernel_rfl, rfl⟩ ⟨_, _, rfl, rfl, rfl⟩ (stab_of (Hle.refl _) ⟨⟨0, rfl⟩, ⟨1, rfl⟩, ⟨2, rfl⟩, ⟨3, rfl⟩, trivial⟩) (R.lenL U53 rfl (RowOf.long hr_15)) rfl (JA.val ⟨by kernel_rfl, by kernel_rfl⟩ (calm_only _) (i := 10) rfl ⟨by kernel_rfl, by kernel_rfl, rfl⟩ ⟨_, _, rfl, rfl, rfl⟩ (stab_of (Hle.refl _) ⟨⟨0, rfl⟩, ⟨1, rfl⟩, ⟨2, rfl⟩, ⟨3, rfl⟩, trivial⟩) (R.eql_i rfl rfl) rfl (JA.val ⟨by kernel_rfl, by kernel_rfl⟩ (calm_only _) (i := 11) rfl ⟨by kernel_rfl, by kernel_rfl, rfl⟩ trivial (stab_of (Hle.refl _) ⟨⟨0, rfl⟩, ⟨1, rfl⟩, ⟨2, rfl⟩, ⟨3, rfl⟩, trivial⟩) (R.pickF rfl rfl) rfl (JA.val ⟨by kernel_rfl, by kernel_rfl⟩ (calm_only _) (i := 12) rfl ⟨by kernel_rfl, by kernel_rfl, rfl⟩ trivial (stab_of (Hle.refl _) ⟨⟨0, rfl⟩, ⟨1, rfl⟩, ⟨2, rfl⟩, ⟨3, rfl⟩, trivial⟩) (R.move rfl) rfl (JA.gSplit (t := 67) rfl (fun c_42 => ?_) (fun c_42 => ?_))))))
       ·
        replace hx := cond_t c_42 hx
        refine JA.no ⟨by kernel_rfl, by kernel_rfl⟩ (calm_only _) (i := 13) rfl ⟨by kernel_rfl, by kernel_rfl, rfl⟩ rfl rfl rfl rfl (stab_of (Hle.refl _) ⟨⟨0, rfl⟩, ⟨1, rfl⟩, ⟨2, rfl⟩, ⟨3, rfl⟩, trivial⟩) rfl (JA.no ⟨by kernel_rfl, by kernel_rfl⟩ (calm_only _) (i := 14) rfl ⟨by kernel_rfl, by kernel_rfl, rfl⟩ rfl rfl rfl rfl (stab_of (Hle.refl _) ⟨⟨0, rfl⟩, ⟨1, rfl⟩, ⟨2, rfl⟩, ⟨3, rfl⟩, trivial⟩) rfl (JA.no ⟨by kernel_rfl, by kernel_rfl⟩ (calm_only _) (i := 15) rfl ⟨by kernel_rfl, by kernel_rfl, rfl⟩ rfl rfl rfl rfl (stab_of (Hle.refl _) ⟨⟨0, rfl⟩, ⟨1, rfl⟩, ⟨2, rfl⟩, ⟨3, rfl⟩, trivial⟩) rfl (JA.no ⟨by kernel_rfl, by kernel_rfl⟩ (calm_only _) (i := 16) rfl ⟨by kernel_rfl, by kernel_rfl, rfl⟩ rfl rfl rfl rfl (stab_of (Hle.refl _) ⟨⟨0, rfl⟩, ⟨1, rfl⟩, ⟨2, rfl⟩, ⟨3, rfl⟩, trivial⟩) rfl (JA.no ⟨by kernel_rfl, by kernel_rfl⟩ (calm_only _) (i := 17) rfl ⟨by kernel_rfl, by kernel_rfl, rfl⟩ rfl rfl rfl rfl (stab_of (Hle.refl _) ⟨⟨0, rfl⟩, ⟨1, rfl⟩, ⟨2, rfl⟩, ⟨3, rfl⟩, trivial⟩) rfl (JA.val ⟨by kernel_rfl, by kernel_rfl⟩ (calm_only _) (i := 18) rfl ⟨by kernel_rfl, by kernel_rfl, rfl⟩ trivial (stab_of (Hle.refl _) ⟨⟨0, rfl⟩, ⟨1, rfl⟩, ⟨2, rfl⟩, ⟨3, rfl⟩, trivial⟩) (R.pickT rfl rfl) rfl (JA.doneN (by kernel_rfl) (JN.next (JC.tidyP (l' := [(2, .pointer (some ⟨b_6, 0, none⟩)), (3, .pointer (some ⟨b_7, 0, none⟩)), (4, .bool false), (5, .bool x_8), (6, .slice aor_15 nr_15 capr_15), (8, .slice aor_39 nr_39 capr_39), (73, .bool true)]) (own' := [Kr_39, Kr_15, [(b_7, .cells #[.int .i64 p_5.At, .int .u32 (p_5.Birth.toNat : Int), .int .u32 (p_5.Iv.toNat : Int), .int .u32 (p_5.Tag.toNat : Int), .int .u32 (p_5.Sum.toNat : Int)] 28 (0, 0))], [(b_6, .cells #[.slice aoa_2 na_2 capa_2, .slice aoa_3 na_3 capa_3, .slice aoa_4 na_4 capa_4, .int .u32 (p_1.Epoch.toNat : Int), .int .u32 (p_1.Count.toNat : Int)] 50 (0, 0))]]) (rst := []) ⟨rfl, rfl, rfl, rfl, rfl, rfl, rfl, trivial⟩ (picks 0 rfl (picks 0 rfl (picks 0 rfl (picks 0 rfl picks0)))) (JC.condT rfl (JC.seq (JC.region ?_)))))))))))
        refine JL.val rfl rfl (R.assign rfl) (JL.nil (JN.next (JC.ret (JN.passR (JN.outP (vs := [.bool false]) (K := []) (rst := [_, _, _, _]) (.inl rfl) rfl rfl (Res.tmp rfl rfl) picks0 ?_)))))
        obtain rfl := Option.some.inj hx
        exact ⟨rfl, rfl, trivial⟩
       ·
        replace hx := cond_f c_42 hx
        refine JA.val ⟨by kernel_rfl, by kernel_rfl⟩ (calm_only _) (i := 13) rfl ⟨by kernel_rfl, by kernel_rfl, rfl⟩ ⟨_, _, rfl, rfl, rfl⟩ (stab_of (Hle.refl _) ⟨⟨0, rfl⟩, ⟨1, rfl⟩, ⟨2, rfl⟩, ⟨3, rfl⟩, trivial⟩) (R.move rfl) rfl ?_
        obtain ⟨y_43, hN_44, hx⟩ := idx_some hx
        obtain ⟨b_45, o_46, cs_47, cur_52, hK_53, hE_48, hR_49, hl_50, hc_51⟩ := RowOf.elem (hr_15.mono R_Ptr.mono (New.mono hleu_38)) hN_44
        subst hK_53
        obtain rfl := hR_49
        refine JA.val ⟨by kernel_rfl, by kernel_rfl⟩ (calm_only _) (i := 14) rfl ⟨by kernel_rfl, by kernel_rfl, rfl⟩ ⟨_, _, rfl, rfl, rfl⟩ (stab_of (Hle.refl _) ⟨⟨0, rfl⟩, ⟨1, rfl⟩, ⟨2, rfl⟩, ⟨3, rfl⟩, trivial⟩) (R.ix U53 S28 rfl rfl hE_48) rfl (JA.val ⟨by kernel_rfl, by kernel_rfl⟩ (calm_only _) (i := 15) rfl ⟨by kernel_rfl, by kernel_rfl, rfl⟩ ⟨_, _, rfl, rfl, rfl⟩ (stab_of (Hle.refl _) ⟨⟨0, rfl⟩, ⟨1, rfl⟩, ⟨2, rfl⟩, ⟨3, rfl⟩, trivial⟩) (R.ldoE 1 (cs := [.int .i64 y_43.At, .int .u32 (y_43.Birth.toNat : Int), .int .u32 (y_43.Iv.toNat : Int), .int .u32 (y_43.Tag.toNat : Int), .int .u32 (y_43.Sum.toNat : Int)]) (k := 0) (vs := [.int .i64 y_43.At, .int .u32 (y_43.Birth.toNat : Int), .int .u32 (y_43.Iv.toNat : Int), .int .u32 (y_43.Tag.toNat : Int), .int .u32 (y_43.Sum.toNat : Int)]) S28 rfl rfl hc_51 rfl rfl) rfl (JA.val ⟨by kernel_rfl, by kernel_rfl⟩ (calm_only _) (i := 16) rfl ⟨by kernel_rfl, by kernel_rfl, rfl⟩ ⟨_, _, rfl, rfl, rfl⟩ (stab_of (Hle.refl _) ⟨⟨0, rfl⟩, ⟨1, rfl⟩, ⟨2, rfl⟩, ⟨3, rfl⟩, trivial⟩) (R.ldoN 2 (vs := [.int .i64 p_5.At, .int .u32 (p_5.Birth.toNat : Int), .int .u32 (p_5.Iv.toNat : Int), .int .u32 (p_5.Tag.toNat : Int), .int .u32 (p_5.Sum.toNat : Int)]) S28 rfl rfl rfl rfl) rfl (JA.val ⟨by kernel_rfl, by kernel_rfl⟩ (calm_only _) (i := 17) rfl ⟨by kernel_rfl, by kernel_rfl, rfl⟩ ⟨_, _, rfl, rfl, rfl⟩ (stab_of (Hle.refl _) ⟨⟨0, rfl⟩, ⟨1, rfl⟩, ⟨2, rfl⟩, ⟨3, rfl⟩, trivial⟩) (R.neqAgg QU28 QP28 QG28 QF28 rfl rfl (EqF.i (by decide) S3 U3 rfl rfl (EqF.u32 (a := y_43.Birth) (b := p_5.Birth) (by decide) S26 U26 rfl rfl (EqF.u32 (a := y_43.Iv) (b := p_5.Iv) (by decide) S26 U26 rfl rfl (EqF.u32 (a := y_43.Tag) (b := p_5.Tag) (by decide) S26 U26 rfl rfl (EqF.u32 (a := y_43.Sum) (b := p_5.Sum) (by decide) S26 U26 rfl rfl EqF.nil)))))) rfl (JA.val ⟨by kernel_rfl, by kernel_rfl⟩ (calm_only _) (i := 18) rfl ⟨by kernel_rfl, by kernel_rfl, rfl⟩ trivial (stab_of (Hle.refl _) ⟨⟨0, rfl⟩, ⟨1, rfl⟩, ⟨2, rfl⟩, ⟨3, rfl⟩, trivial⟩) (R.pickF rfl rfl) rfl (JA.doneN (by kernel_rfl) (JN.next (JC.tidyP (l' := [(2, .pointer (some ⟨b_6, 0, none⟩)), (3, .pointer (some ⟨b_7, 0, none⟩)), (4, .bool false), (5, .bool x_8), (6, .slice aor_15 nr_15 capr_15), (8, .slice aor_39 nr_39 capr_39), (73, .bool (!(decide (y_43.At = p_5.At) && (decide (y_43.Birth = p_5.Birth) && (decide (y_43.Iv = p_5.Iv) && (decide (y_43.Tag = p_5.Tag) && (decide (y_43.Sum = p_5.Sum) && true)))))))]) (own' := [Kr_39, [(b_45, .cells cur_52 28 (0, 0))], [(b_7, .cells #[.int .i64 p_5.At, .int .u32 (p_5.Birth.toNat : Int), .int .u32 (p_5.Iv.toNat : Int), .int .u32 (p_5.Tag.toNat : Int), .int .u32 (p_5.Sum.toNat : Int)] 28 (0, 0))], [(b_6, .cells #[.slice aoa_2 na_2 capa_2, .slice aoa_3 na_3 capa_3, .slice aoa_4 na_4 capa_4, .int .u32 (p_1.Epoch.toNat : Int), .int .u32 (p_1.Count.toNat : Int)] 50 (0, 0))]]) (rst := []) ⟨rfl, rfl, rfl, rfl, rfl, rfl, rfl, trivial⟩ (picks 0 rfl (picks 0 rfl (picks 0 rfl (picks 0 rfl picks0)))) (JC.condB rfl (fun c_54 => ?_) (fun c_54 => ?_)))))))))
        ·
         replace hx := cond_t c_54 hx
         refine JC.seq (JC.region (JL.val rfl rfl (R.assign rfl) (JL.nil (JN.next (JC.ret (JN.passR (JN.outP (vs := [.bool false]) (K := []) (rst := [_, _, _, _]) (.inl rfl) rfl rfl (Res.tmp rfl rfl) picks0 ?_)))))))
         obtain rfl := Option.some.inj hx
         exact ⟨rfl, rfl, trivial⟩
        ·
         replace hx := cond_f c_54 hx
         refine JC.skip (JN.next (JC.seq (JC.region (JL.val rfl rfl (R.assign rfl) (JL.nil (JN.next (JC.seq (JC.seq (JC.region (JL.val rfl rfl (R.assign rfl) (JL.nil ?_)))))))))))
         refine JN.next ?_
         obtain ⟨t_55, ht_57, hx⟩ := bnd_some hx
         refine JC.cut (fun l o g => ∃ t_55a : Int, ∃ H_62 : Heaplet, l = [(5, .bool x_8), (6, .slice aor_15 nr_15 capr_15), (10, .int .i64 t_55a)] ∧ o = [[(b_45, .cells cur_52 28 (0, 0))]] ∧ H_62 = g ∧ t_55 = .inl t_55a ∧ Hle Hu_38 H_62) ?_ ?_
         ·
          rintro _ _ _ ⟨t_55a, H_62, rfl, rfl, rfl, rfl, hleH_62⟩
          simp only [Sum.elim_inl] at hx
          refine JN.next (JC.seq ?_)
          obtain ⟨t_64, ht_66, hx⟩ := bnd_some hx
          refine JC.cut (fun l o g => l = [(4, .bool t_64)] ∧ o = [] ∧ H_62 = g) ?_ ?_
          ·
           rintro _ _ _ ⟨rfl, rfl, rfl⟩
           refine JN.next (JC.ret (JN.outP (vs := [.bool t_64]) (K := []) (rst := []) (.inl rfl) rfl rfl (Res.tmp rfl rfl) picks0 ?_))
           obtain rfl := Option.some.inj hx
           exact ⟨rfl, rfl, trivial⟩
          ·
           have hxo_65 := hx; clear hx; have hx := ht_66; clear ht_66
           refine JC.region (JL.val rfl rfl (R.move rfl) (JL.val rfl rfl (R.move rfl) (JL.gSplit (t := 147) rfl (fun c_67 => ?_) (fun c_67 => ?_))))
           ·
            replace hx := cond_t c_67 hx
            refine JL.gYes rfl rfl rfl (JL.val rfl rfl (R.move rfl) (JL.gYes rfl rfl rfl (JL.val rfl rfl (R.move rfl) (JL.gYes rfl rfl rfl (JL.val rfl rfl (R.lenL U53 rfl (RowOf.long hr_15)) (JL.gYes rfl rfl rfl (JL.val rfl rfl (R.eql_i rfl rfl) (JL.val rfl rfl (R.pickT rfl rfl) (JL.val rfl rfl (R.assign rfl) (JL.nil ?_))))))))))
            obtain rfl := Option.some.inj hx
            refine JN.forget 0 ?_
            exact JN.cut ⟨rfl, rfl, rfl⟩ ⟨rfl, trivial⟩ rfl rfl
           ·
            replace hx := cond_f c_67 hx
            refine JL.gNo rfl rfl rfl rfl rfl (JL.gNo rfl rfl rfl rfl rfl (JL.gNo rfl rfl rfl rfl rfl (JL.gNo rfl rfl rfl rfl rfl (JL.val rfl rfl (R.pickF rfl rfl) (JL.val rfl rfl (R.assign rfl) (JL.nil ?_))))))
            obtain rfl := Option.some.inj hx
            refine JN.forget 0 ?_
            exact JN.cut ⟨rfl, rfl, rfl⟩ ⟨rfl, trivial⟩ rfl rfl
         ·
          have hxo_56 := hx; clear hx; have hx := ht_57; clear ht_57
          refine JC.block (JC.front 1 rfl (JC.front 2 rfl (JC.front 3 rfl (JC.loopI (fun n l o g => ∃ s_58 : Int × Nat, ∃ H_61 : Heaplet, l = [(2, .pointer (some ⟨b_6, 0, none⟩)), (3, .pointer (some ⟨b_7, 0, none⟩)), (5, .bool x_8), (6, .slice aor_15 nr_15 capr_15), (8, .slice aor_39 nr_39 capr_39), (10, .int .i64 s_58.1), (11, .int .i64 ((s_58.2 : Nat) : Int))] ∧ o = [[(b_6, .cells #[.slice aoa_2 na_2 capa_2, .slice aoa_3 na_3 capa_3, .slice aoa_4 na_4 capa_4, .int .u32 (p_1.Epoch.toNat : Int), .int .u32 (p_1.Count.toNat : Int)] 50 (0, 0))], [(b_7, .cells #[.int .i64 p_5.At, .int .u32 (p_5.Birth.toNat : Int), .int .u32 (p_5.Iv.toNat : Int), .int .u32 (p_5.Tag.toNat : Int), .int .u32 (p_5.Sum.toNat : Int)] 28 (0, 0))], [(b_45, .cells cur_52 28 (0, 0))], Kr_39] ∧ H_61 = g ∧ run (law15_SetParts_l2 p_1 p_5 x_12 x_36) n s_58 = some t_55 ∧ Hle Hu_38 H_61) FUEL ?_ ⟨(1, 0), Hu_38, rfl, rfl, rfl, hx, (Hle.refl _)⟩ ⟨rfl, rfl, rfl, rfl, rfl, rfl, rfl, trivial⟩ ?_))))
          ·
           rintro _ _ _ ⟨s_58, H_61, rfl, rfl, rfl, hn_59, hleH_61⟩
           exact run_zero hn_59
          ·
           rintro n_60 _ _ _ ⟨s_58, H_61, rfl, rfl, rfl, hn_59, hleH_61⟩
           clear hx; obtain ⟨oo_63, hx, hd_62⟩ := run_some hn_59
           unfold law15_SetParts_l2 at hx
           refine JC.seq (JC.seq (JC.region (JL.val rfl rfl (R.move rfl) (JL.val rfl rfl (R.lss_i rfl rfl) (JL.nil (JN.next (JC.condB rfl (fun c_62 => ?_) (fun c_62 => ?_))))))))
           ·
            replace hx := cond_t c_62 hx
            refine JC.skip (JN.next (JC.seq (JC.block (JC.seq (JC.region (JL.val rfl rfl (R.ldoN 0 (vs := [.slice aoa_2 na_2 capa_2, .slice aoa_3 na_3 capa_3, .slice aoa_4 na_4 capa_4, .int .u32 (p_1.Epoch.toNat : Int), .int .u32 (p_1.Count.toNat : Int)]) S50 rfl rfl rfl rfl) (JL.val rfl rfl (R.ldoN 1 (vs := [.int .i64 p_5.At, .int .u32 (p_5.Birth.toNat : Int), .int .u32 (p_5.Iv.toNat : Int), .int .u32 (p_5.Tag.toNat : Int), .int .u32 (p_5.Sum.toNat : Int)]) S28 rfl rfl rfl rfl) (JL.val rfl rfl (R.move rfl) ?_))))))))
            obtain ⟨x_63, hr_64, hx⟩ := bnd_some hx
            refine JL.callC (vs := [_, _, _]) (args := [_, _, _]) (K := []) (rst := [_, _, _, _]) E23 rfl rfl rfl picks0 (set_Object_ok p_1 p_5 ((s_58.2 : Nat) : Int) _ (ha_2.mono (RSl.mono RU8.mono) (hleu_10.trans (hleu_14.trans (hleu_38.trans hleH_61)))) (ha_3.mono R_Write.mono (hleu_10.trans (hleu_14.trans (hleu_38.trans hleH_61)))) (ha_4.mono RU8.mono (hleu_10.trans (hleu_14.trans (hleu_38.trans hleH_61)))) _ hr_64) rfl (fun u_65 Ku_65 Hu_65 hRu_65 hleu_65 hfu_65 => ?_)
            obtain ⟨aoz_66, nz_66, rfl, rfl, hz_66, -⟩ := hRu_65
            replace hz_66 := IsSlice.mono R_Ptr.mono (New.call (hleu_10.trans (hleu_14.trans (hleu_38.trans hleH_61)))) hz_66
            refine JL.val rfl rfl (R.move rfl) (JL.val rfl rfl (R.extract rfl rfl) (JL.val rfl rfl (R.extract rfl rfl) (JL.alloc Z60 rfl (fun b_67 hb_67 => JL.store 0 S60 rfl rfl rfl rfl rfl (Nat.le_of_ble_eq_true rfl) (JL.val rfl rfl (R.assign rfl) (JL.nil (JN.next (JC.seq (JC.seq (JC.region (JL.val rfl rfl (R.move rfl) ?_)))))))))))
            refine JL.val rfl rfl (R.move rfl) ?_
            obtain ⟨y_68, hN_69, hx⟩ := idx_some hx
            obtain ⟨b_70, o_71, cs_72, cur_77, hK_78, hE_73, hR_74, hl_75, hc_76⟩ := RowOf.elem (hr_39.mono R_Ptr.mono (New.mono (hleH_61.trans hleu_65))) hN_69
            subst hK_78
            obtain rfl := hR_74
            refine JL.val rfl rfl (R.ix U53 S28 rfl rfl hE_73) (JL.val rfl rfl (R.ldoE 4 (cs := [.int .i64 y_68.At, .int .u32 (y_68.Birth.toNat : Int), .int .u32 (y_68.Iv.toNat : Int), .int .u32 (y_68.Tag.toNat : Int), .int .u32 (y_68.Sum.toNat : Int)]) (k := 0) (vs := [.int .i64 y_68.At, .int .u32 (y_68.Birth.toNat : Int), .int .u32 (y_68.Iv.toNat : Int), .int .u32 (y_68.Tag.toNat : Int), .int .u32 (y_68.Sum.toNat : Int)]) S28 rfl rfl hc_76 rfl rfl) (JL.val rfl rfl (R.bldP (vs := []) (cs := [.int .i64 0, .int .u32 ((0 : UInt32).toNat : Int), .int .u32 ((0 : UInt32).toNat : Int), .int .u32 ((0 : UInt32).toNat : Int), .int .u32 ((0 : UInt32).toNat : Int)]) Z28 B28 rfl rfl rfl) (JL.val rfl rfl (R.eqlAgg QU28 QP28 QG28 QF28 rfl rfl (EqF.i (by decide) S3 U3 rfl rfl (EqF.u32 (a := y_68.Birth) (b := (0 : UInt32)) (by decide) S26 U26 rfl rfl (EqF.u32 (a := y_68.Iv) (b := (0 : UInt32)) (by decide) S26 U26 rfl rfl (EqF.u32 (a := y_68.Tag) (b := (0 : UInt32)) (by decide) S26 U26 rfl rfl (EqF.u32 (a := y_68.Sum) (b := (0 : UInt32)) (by decide) S26 U26 rfl rfl EqF.nil)))))) (JL.nil (JN.next (JC.condB rfl (fun c_79 => ?_) (fun c_79 => ?_)))))))
            ·
             replace hx := cond_t c_79 hx
             refine JC.seq (JC.seq (JC.region (JL.val rfl rfl (R.move rfl) (JL.val rfl rfl (R.neq_i rfl rfl) (JL.nil (JN.next (JC.condB rfl (fun c_80 => ?_) (fun c_80 => ?_))))))))
             ·
              replace hx := cond_t c_80 hx
              refine JC.seq (JC.region (JL.val rfl rfl (R.assign rfl) (JL.nil (JN.next (JC.ret (JN.passR (JN.passR (JN.blkR (JN.passR ?_)))))))))
              obtain rfl := run_done hd_62 hx
              refine JN.passR (JN.blkR ?_)
              clear hx; have hx := hxo_56
              simp only [Sum.elim_inl, Sum.elim_inr] at hx
              refine JN.passR (JN.passR (JN.outP (vs := [.bool false]) (K := []) (rst := [_, _, _, _, _]) (.inl rfl) rfl rfl (Res.tmp rfl rfl) picks0 ?_))
              obtain rfl := Option.some.inj hx
              exact ⟨rfl, rfl, trivial⟩
             ·
              replace hx := cond_f c_80 hx
              refine JC.skip (JN.next (JC.exit (JN.passX (JN.exitSame (JN.next (JC.region (JL.val rfl rfl (R.move rfl) (JL.val rfl rfl (R.inc rfl rfl (of_decide_eq_true c_62) (by decide)) (JL.val rfl rfl (R.assign rfl) (JL.nil ?_))))))))))
              replace hx := run_next hd_62 hx
              refine JN.forget 0 (JN.front 3 rfl (JN.front 3 rfl (JN.front 3 rfl (JN.front 3 rfl ?_))))
              exact JN.cut ⟨(s_58.1, s_58.2 + 1), Hu_65, rfl, rfl, rfl, hx, ((hleH_61.trans hleu_65))⟩ ⟨rfl, rfl, rfl, rfl, rfl, rfl, rfl, trivial⟩ rfl rfl
            ·
             replace hx := cond_f c_79 hx
             refine JC.skip (JN.next (JC.seq (JC.seq (JC.draw (so := [_, _, _, _, _]) 19 rfl Mixed ⟨⟨0, rfl⟩, ⟨1, rfl⟩, ⟨2, rfl⟩, ⟨3, rfl⟩, ⟨4, rfl⟩, trivial⟩ (JA.val ⟨by kernel_rfl, by kernel_rfl⟩ (calm_only _) (i := 0) rfl ⟨by kernel_rfl, by kernel_rfl, rfl⟩ trivial (stab_of (Hle.refl _) ⟨⟨0, rfl⟩, ⟨1, rfl⟩, ⟨2, rfl⟩, ⟨3, rfl⟩, ⟨4, rfl⟩, trivial⟩) (R.move rfl) rfl (JA.val ⟨by kernel_rfl, by kernel_rfl⟩ (calm_only _) (i := 1) rfl ⟨by kernel_rfl, by kernel_rfl, rfl⟩ trivial (stab_of (Hle.refl _) ⟨⟨0, rfl⟩, ⟨1, rfl⟩, ⟨2, rfl⟩, ⟨3, rfl⟩, ⟨4, rfl⟩, trivial⟩) (R.neq_i rfl rfl) rfl (JA.val ⟨by kernel_rfl, by kernel_rfl⟩ (calm_only _) (i := 2) rfl ⟨by kernel_rfl, by kernel_rfl, rfl⟩ trivial (stab_of (Hle.refl _) ⟨⟨0, rfl⟩, ⟨1, rfl⟩, ⟨2, rfl⟩, ⟨3, rfl⟩, ⟨4, rfl⟩, trivial⟩) (R.move rfl) rfl (JA.gSplit (t := 95) rfl (fun c_81 => ?_) (fun c_81 => ?_)))))))))
             ·
              replace hx := cond_t c_81 hx
              refine JA.no ⟨by kernel_rfl, by kernel_rfl⟩ (calm_only _) (i := 3) rfl ⟨by kernel_rfl, by kernel_rfl, rfl⟩ rfl rfl rfl rfl (stab_of (Hle.refl _) ⟨⟨0, rfl⟩, ⟨1, rfl⟩, ⟨2, rfl⟩, ⟨3, rfl⟩, ⟨4, rfl⟩, trivial⟩) rfl (JA.no ⟨by kernel_rfl, by kernel_rfl⟩ (calm_only _) (i := 4) rfl ⟨by kernel_rfl, by kernel_rfl, rfl⟩ rfl rfl rfl rfl (stab_of (Hle.refl _) ⟨⟨0, rfl⟩, ⟨1, rfl⟩, ⟨2, rfl⟩, ⟨3, rfl⟩, ⟨4, rfl⟩, trivial⟩) rfl (JA.no ⟨by kernel_rfl, by kernel_rfl⟩ (calm_only _) (i := 5) rfl ⟨by kernel_rfl, by kernel_rfl, rfl⟩ rfl rfl rfl rfl (stab_of (Hle.refl _) ⟨⟨0, rfl⟩, ⟨1, rfl⟩, ⟨2, rfl⟩, ⟨3, rfl⟩, ⟨4, rfl⟩, trivial⟩) rfl (JA.no ⟨by kernel_rfl, by kernel_rfl⟩ (calm_only _) (i := 6) rfl ⟨by kernel_rfl, by kernel_rfl, rfl⟩ rfl rfl rfl rfl (stab_of (Hle.refl _) ⟨⟨0, rfl⟩, ⟨1, rfl⟩, ⟨2, rfl⟩, ⟨3, rfl⟩, ⟨4, rfl⟩, trivial⟩) rfl (JA.val ⟨by kernel_rfl, by kernel_rfl⟩ (calm_only _) (i := 7) rfl ⟨by kernel_rfl, by kernel_rfl, rfl⟩ trivial (stab_of (Hle.refl _) ⟨⟨0, rfl⟩, ⟨1, rfl⟩, ⟨2, rfl⟩, ⟨3, rfl⟩, ⟨4, rfl⟩, trivial⟩) (R.pickT rfl rfl) rfl (JA.val ⟨by kernel_rfl, by kernel_rfl⟩ (calm_only _) (i := 8) rfl ⟨by kernel_rfl, by kernel_rfl, rfl⟩ trivial (stab_of (Hle.refl _) ⟨⟨0, rfl⟩, ⟨1, rfl⟩, ⟨2, rfl⟩, ⟨3, rfl⟩, ⟨4, rfl⟩, trivial⟩) (R.move rfl) rfl (JA.no ⟨by kernel_rfl, by kernel_rfl⟩ (calm_only _) (i := 9) rfl ⟨by kernel_rfl, by kernel_rfl, rfl⟩ rfl rfl rfl rfl (stab_of (Hle.refl _) ⟨⟨0, rfl⟩, ⟨1, rfl⟩, ⟨2, rfl⟩, ⟨3, rfl⟩, ⟨4, rfl⟩, trivial⟩) rfl (JA.no ⟨by kernel_rfl, by kernel_rfl⟩ (calm_only _) (i := 10) rfl ⟨by kernel_rfl, by kernel_rfl, rfl⟩ rfl rfl rfl rfl (stab_of (Hle.refl _) ⟨⟨0, rfl⟩, ⟨1, rfl⟩, ⟨2, rfl⟩, ⟨3, rfl⟩, ⟨4, rfl⟩, trivial⟩) rfl (JA.no ⟨by kernel_rfl, by kernel_rfl⟩ (calm_only _) (i := 11) rfl ⟨by kernel_rfl, by kernel_rfl, rfl⟩ rfl rfl rfl rfl (stab_of (Hle.refl _) ⟨⟨0, rfl⟩, ⟨1, rfl⟩, ⟨2, rfl⟩, ⟨3, rfl⟩, ⟨4, rfl⟩, trivial⟩) rfl (JA.no ⟨by kernel_rfl, by kernel_rfl⟩ (calm_only _) (i := 12) rfl ⟨by kernel_rfl, by kernel_rfl, rfl⟩ rfl rfl rfl rfl (stab_of (Hle.refl _) ⟨⟨0, rfl⟩, ⟨1, rfl⟩, ⟨2, rfl⟩, ⟨3, rfl⟩, ⟨4, rfl⟩, trivial⟩) rfl (JA.no ⟨by kernel_rfl, by kernel_rfl⟩ (calm_only _) (i := 13) rfl ⟨by kernel_rfl, by kernel_rfl, rfl⟩ rfl rfl rfl rfl (stab_of (Hle.refl _) ⟨⟨0, rfl⟩, ⟨1, rfl⟩, ⟨2, rfl⟩, ⟨3, rfl⟩, ⟨4, rfl⟩, trivial⟩) rfl (JA.no ⟨by kernel_rfl, by kernel_rfl⟩ (calm_only _) (i := 14) rfl ⟨by kernel_rfl, by kernel_rfl, rfl⟩ rfl rfl rfl rfl (stab_of (Hle.refl _) ⟨⟨0, rfl⟩, ⟨1, rfl⟩, ⟨2, rfl⟩, ⟨3, rfl⟩, ⟨4, rfl⟩, trivial⟩) rfl ?_)))))))))))
              refine JA.no ⟨by kernel_rfl, by kernel_rfl⟩ (calm_only _) (i := 15) rfl ⟨by kernel_rfl, by kernel_rfl, rfl⟩ rfl rfl rfl rfl (stab_of (Hle.refl _) ⟨⟨0, rfl⟩, ⟨1, rfl⟩, ⟨2, rfl⟩, ⟨3, rfl⟩, ⟨4, rfl⟩, trivial⟩) rfl (JA.no ⟨by kernel_rfl, by kernel_rfl⟩ (calm_only _) (i := 16) rfl ⟨by kernel_rfl, by kernel_rfl, rfl⟩ rfl rfl rfl rfl (stab_of (Hle.refl _) ⟨⟨0, rfl⟩, ⟨1, rfl⟩, ⟨2, rfl⟩, ⟨3, rfl⟩, ⟨4, rfl⟩, trivial⟩) rfl (JA.no ⟨by kernel_rfl, by kernel_rfl⟩ (calm_only _) (i := 17) rfl ⟨by kernel_rfl, by kernel_rfl, rfl⟩ rfl rfl rfl rfl (stab_of (Hle.refl _) ⟨⟨0, rfl⟩, ⟨1, rfl⟩, ⟨2, rfl⟩, ⟨3, rfl⟩, ⟨4, rfl⟩, trivial⟩) rfl (JA.val ⟨by kernel_rfl, by kernel_rfl⟩ (calm_only _) (i := 18) rfl ⟨by kernel_rfl, by kernel_rfl, rfl⟩ trivial (stab_of (Hle.refl _) ⟨⟨0, rfl⟩, ⟨1, rfl⟩, ⟨2, rfl⟩, ⟨3, rfl⟩, ⟨4, rfl⟩, trivial⟩) (R.pickT rfl rfl) rfl (JA.doneN (by kernel_rfl) (JN.next (JC.condT rfl (JC.seq (JC.region (JL.val rfl rfl (R.assign rfl) (JL.nil (JN.next ?_)))))))))))
              refine JC.ret (JN.passR (JN.blkR (JN.passR ?_)))
              obtain rfl := run_done hd_62 hx
              refine JN.passR (JN.blkR ?_)
              clear hx; have hx := hxo_56
              simp only [Sum.elim_inl, Sum.elim_inr] at hx
              refine JN.passR (JN.passR (JN.outP (vs := [.bool false]) (K := []) (rst := [_, _, _, _, _]) (.inl rfl) rfl rfl (Res.tmp rfl rfl) picks0 ?_))
              obtain rfl := Option.some.inj hx
              exact ⟨rfl, rfl, trivial⟩
             ·
              replace hx := cond_f c_81 hx
              refine JA.val ⟨by kernel_rfl, by kernel_rfl⟩ (calm_only _) (i := 3) rfl ⟨by kernel_rfl, by kernel_rfl, rfl⟩ ⟨_, _, rfl, rfl, rfl⟩ (stab_of (Hle.refl _) ⟨⟨0, rfl⟩, ⟨1, rfl⟩, ⟨2, rfl⟩, ⟨3, rfl⟩, ⟨4, rfl⟩, trivial⟩) (R.move rfl) rfl (JA.val ⟨by kernel_rfl, by kernel_rfl⟩ (calm_only _) (i := 4) rfl ⟨by kernel_rfl, by kernel_rfl, rfl⟩ ⟨_, _, rfl, rfl, rfl⟩ (stab_of (Hle.refl _) ⟨⟨0, rfl⟩, ⟨1, rfl⟩, ⟨2, rfl⟩, ⟨3, rfl⟩, ⟨4, rfl⟩, trivial⟩) (R.move rfl) rfl (JA.val ⟨by kernel_rfl, by kernel_rfl⟩ (calm_only _) (i := 5) rfl ⟨by kernel_rfl, by kernel_rfl, rfl⟩ ⟨_, _, rfl, rfl, rfl⟩ (stab_of (Hle.refl _) ⟨⟨0, rfl⟩, ⟨1, rfl⟩, ⟨2, rfl⟩, ⟨3, rfl⟩, ⟨4, rfl⟩, trivial⟩) (R.lenL U53 rfl (RowOf.long hr_15)) rfl (JA.val ⟨by kernel_rfl, by kernel_rfl⟩ (calm_only _) (i := 6) rfl ⟨by kernel_rfl, by kernel_rfl, rfl⟩ ⟨_, _, rfl, rfl, rfl⟩ (stab_of (Hle.refl _) ⟨⟨0, rfl⟩, ⟨1, rfl⟩, ⟨2, rfl⟩, ⟨3, rfl⟩, ⟨4, rfl⟩, trivial⟩) (R.geq_i rfl rfl) rfl (JA.val ⟨by kernel_rfl, by kernel_rfl⟩ (calm_only _) (i := 7) rfl ⟨by kernel_rfl, by kernel_rfl, rfl⟩ trivial (stab_of (Hle.refl _) ⟨⟨0, rfl⟩, ⟨1, rfl⟩, ⟨2, rfl⟩, ⟨3, rfl⟩, ⟨4, rfl⟩, trivial⟩) (R.pickF rfl rfl) rfl (JA.val ⟨by kernel_rfl, by kernel_rfl⟩ (calm_only _) (i := 8) rfl ⟨by kernel_rfl, by kernel_rfl, rfl⟩ trivial (stab_of (Hle.refl _) ⟨⟨0, rfl⟩, ⟨1, rfl⟩, ⟨2, rfl⟩, ⟨3, rfl⟩, ⟨4, rfl⟩, trivial⟩) (R.move rfl) rfl (JA.gSplit (t := 101) rfl (fun c_82 => ?_) (fun c_82 => ?_)))))))
              ·
               replace hx := cond_t c_82 hx
               refine JA.no ⟨by kernel_rfl, by kernel_rfl⟩ (calm_only _) (i := 9) rfl ⟨by kernel_rfl, by kernel_rfl, rfl⟩ rfl rfl rfl rfl (stab_of (Hle.refl _) ⟨⟨0, rfl⟩, ⟨1, rfl⟩, ⟨2, rfl⟩, ⟨3, rfl⟩, ⟨4, rfl⟩, trivial⟩) rfl (JA.no ⟨by kernel_rfl, by kernel_rfl⟩ (calm_only _) (i := 10) rfl ⟨by kernel_rfl, by kernel_rfl, rfl⟩ rfl rfl rfl rfl (stab_of (Hle.refl _) ⟨⟨0, rfl⟩, ⟨1, rfl⟩, ⟨2, rfl⟩, ⟨3, rfl⟩, ⟨4, rfl⟩, trivial⟩) rfl (JA.no ⟨by kernel_rfl, by kernel_rfl⟩ (calm_only _) (i := 11) rfl ⟨by kernel_rfl, by kernel_rfl, rfl⟩ rfl rfl rfl rfl (stab_of (Hle.refl _) ⟨⟨0, rfl⟩, ⟨1, rfl⟩, ⟨2, rfl⟩, ⟨3, rfl⟩, ⟨4, rfl⟩, trivial⟩) rfl (JA.no ⟨by kernel_rfl, by kernel_rfl⟩ (calm_only _) (i := 12) rfl ⟨by kernel_rfl, by kernel_rfl, rfl⟩ rfl rfl rfl rfl (stab_of (Hle.refl _) ⟨⟨0, rfl⟩, ⟨1, rfl⟩, ⟨2, rfl⟩, ⟨3, rfl⟩, ⟨4, rfl⟩, trivial⟩) rfl (JA.no ⟨by kernel_rfl, by kernel_rfl⟩ (calm_only _) (i := 13) rfl ⟨by kernel_rfl, by kernel_rfl, rfl⟩ rfl rfl rfl rfl (stab_of (Hle.refl _) ⟨⟨0, rfl⟩, ⟨1, rfl⟩, ⟨2, rfl⟩, ⟨3, rfl⟩, ⟨4, rfl⟩, trivial⟩) rfl (JA.no ⟨by kernel_rfl, by kernel_rfl⟩ (calm_only _) (i := 14) rfl ⟨by kernel_rfl, by kernel_rfl, rfl⟩ rfl rfl rfl rfl (stab_of (Hle.refl _) ⟨⟨0, rfl⟩, ⟨1, rfl⟩, ⟨2, rfl⟩, ⟨3, rfl⟩, ⟨4, rfl⟩, trivial⟩) rfl (JA.no ⟨by kernel_rfl, by kernel_rfl⟩ (calm_only _) (i := 15) rfl ⟨by kernel_rfl, by kernel_rfl, rfl⟩ rfl rfl rfl rfl (stab_of (Hle.refl _) ⟨⟨0, rfl⟩, ⟨1, rfl⟩, ⟨2, rfl⟩, ⟨3, rfl⟩, ⟨4, rfl⟩, trivial⟩) rfl (JA.no ⟨by kernel_rfl, by kernel_rfl⟩ (calm_only _) (i := 16) rfl ⟨by kernel_rfl, by kernel_rfl, rfl⟩ rfl rfl rfl rfl (stab_of (Hle.refl _) ⟨⟨0, rfl⟩, ⟨1, rfl⟩, ⟨2, rfl⟩, ⟨3, rfl⟩, ⟨4, rfl⟩, trivial⟩) rfl (JA.no ⟨by kernel_rfl, by kernel_rfl⟩ (calm_only _) (i := 17) rfl ⟨by kernel_rfl, by kernel_rfl, rfl⟩ rfl rfl rfl rfl (stab_of (Hle.refl _) ⟨⟨0, rfl⟩, ⟨1, rfl⟩, ⟨2, rfl⟩, ⟨3, rfl⟩, ⟨4, rfl⟩, trivial⟩) rfl (JA.val ⟨by kernel_rfl, by kernel_rfl⟩ (calm_only _) (i := 18) rfl ⟨by kernel_rfl, by kernel_rfl, rfl⟩ trivial (stab_of (Hle.refl _) ⟨⟨0, rfl⟩, ⟨1, rfl⟩, ⟨2, rfl⟩, ⟨3, rfl⟩, ⟨4, rfl⟩, trivial⟩) (R.pickT rfl rfl) rfl (JA.doneN (by kernel_rfl) (JN.next ?_)))))))))))
               refine JC.condT rfl (JC.seq (JC.region (JL.val rfl rfl (R.assign rfl) (JL.nil (JN.next (JC.ret (JN.passR (JN.blkR (JN.passR ?_)))))))))
               obtain rfl := run_done hd_62 hx
               refine JN.passR (JN.blkR ?_)
               clear hx; have hx := hxo_56
               simp only [Sum.elim_inl, Sum.elim_inr] at hx
               refine JN.passR (JN.passR (JN.outP (vs := [.bool false]) (K := []) (rst := [_, _, _, _, _]) (.inl rfl) rfl rfl (Res.tmp rfl rfl) picks0 ?_))
               obtain rfl := Option.some.inj hx
               exact ⟨rfl, rfl, trivial⟩
              ·
               replace hx := cond_f c_82 hx
               refine JA.val ⟨by kernel_rfl, by kernel_rfl⟩ (calm_only _) (i := 9) rfl ⟨by kernel_rfl, by kernel_rfl, rfl⟩ ⟨_, _, rfl, rfl, rfl⟩ (stab_of (Hle.refl _) ⟨⟨0, rfl⟩, ⟨1, rfl⟩, ⟨2, rfl⟩, ⟨3, rfl⟩, ⟨4, rfl⟩, trivial⟩) (R.move rfl) rfl (JA.val ⟨by kernel_rfl, by kernel_rfl⟩ (calm_only _) (i := 10) rfl ⟨by kernel_rfl, by kernel_rfl, rfl⟩ ⟨_, _, rfl, rfl, rfl⟩ (stab_of (Hle.refl _) ⟨⟨0, rfl⟩, ⟨1, rfl⟩, ⟨2, rfl⟩, ⟨3, rfl⟩, ⟨4, rfl⟩, trivial⟩) (R.move rfl) rfl ?_)
               obtain ⟨y_83, hN_84, hx⟩ := idx_some hx
               obtain ⟨b_85, o_86, cs_87, cur_92, hK_93, hE_88, hR_89, hl_90, hc_91⟩ := RowOf.elem (hr_15.mono R_Ptr.mono (New.mono (hleu_38.trans (hleH_61.trans hleu_65)))) hN_84
               obtain ⟨rfl, rfl⟩ : b_45 = b_85 ∧ cur_52 = cur_92 := by simpa using hK_93
               obtain rfl := hR_89
               refine JA.val ⟨by kernel_rfl, by kernel_rfl⟩ (calm_only _) (i := 11) rfl ⟨by kernel_rfl, by kernel_rfl, rfl⟩ ⟨_, _, rfl, rfl, rfl⟩ (stab_of (Hle.refl _) ⟨⟨0, rfl⟩, ⟨1, rfl⟩, ⟨2, rfl⟩, ⟨3, rfl⟩, ⟨4, rfl⟩, trivial⟩) (R.ix U53 S28 rfl rfl hE_88) rfl (JA.val ⟨by kernel_rfl, by kernel_rfl⟩ (calm_only _) (i := 12) rfl ⟨by kernel_rfl, by kernel_rfl, rfl⟩ ⟨_, _, rfl, rfl, rfl⟩ (stab_of (Hle.refl _) ⟨⟨0, rfl⟩, ⟨1, rfl⟩, ⟨2, rfl⟩, ⟨3, rfl⟩, ⟨4, rfl⟩, trivial⟩) (R.ldoE 3 (cs := [.int .i64 y_83.At, .int .u32 (y_83.Birth.toNat : Int), .int .u32 (y_83.Iv.toNat : Int), .int .u32 (y_83.Tag.toNat : Int), .int .u32 (y_83.Sum.toNat : Int)]) (k := 0) (vs := [.int .i64 y_83.At, .int .u32 (y_83.Birth.toNat : Int), .int .u32 (y_83.Iv.toNat : Int), .int .u32 (y_83.Tag.toNat : Int), .int .u32 (y_83.Sum.toNat : Int)]) S28 rfl rfl hc_91 rfl rfl) rfl (JA.val ⟨by kernel_rfl, by kernel_rfl⟩ (calm_only _) (i := 13) rfl ⟨by kernel_rfl, by kernel_rfl, rfl⟩ ⟨_, _, rfl, rfl, rfl⟩ (stab_of (Hle.refl _) ⟨⟨0, rfl⟩, ⟨1, rfl⟩, ⟨2, rfl⟩, ⟨3, rfl⟩, ⟨4, rfl⟩, trivial⟩) (R.move rfl) rfl (JA.val ⟨by kernel_rfl, by kernel_rfl⟩ (calm_only _) (i := 14) rfl ⟨by kernel_rfl, by kernel_rfl, rfl⟩ ⟨_, _, rfl, rfl, rfl⟩ (stab_of (Hle.refl _) ⟨⟨0, rfl⟩, ⟨1, rfl⟩, ⟨2, rfl⟩, ⟨3, rfl⟩, ⟨4, rfl⟩, trivial⟩) (R.move rfl) rfl ?_)))
               obtain ⟨y_94, hN_95, hx⟩ := idx_some hx
               obtain ⟨b_96, o_97, cs_98, cur_103, hK_104, hE_99, hR_100, hl_101, hc_102⟩ := RowOf.elem (hr_39.mono R_Ptr.mono (New.mono (hleH_61.trans hleu_65))) hN_95
               obtain ⟨rfl, rfl⟩ : b_70 = b_96 ∧ cur_77 = cur_103 := by simpa using hK_104
               obtain rfl := hR_100
               refine JA.val ⟨by kernel_rfl, by kernel_rfl⟩ (calm_only _) (i := 15) rfl ⟨by kernel_rfl, by kernel_rfl, rfl⟩ ⟨_, _, rfl, rfl, rfl⟩ (stab_of (Hle.refl _) ⟨⟨0, rfl⟩, ⟨1, rfl⟩, ⟨2, rfl⟩, ⟨3, rfl⟩, ⟨4, rfl⟩, trivial⟩) (R.ix U53 S28 rfl rfl hE_99) rfl (JA.val ⟨by kernel_rfl, by kernel_rfl⟩ (calm_only _) (i := 16) rfl ⟨by kernel_rfl, by kernel_rfl, rfl⟩ ⟨_, _, rfl, rfl, rfl⟩ (stab_of (Hle.refl _) ⟨⟨0, rfl⟩, ⟨1, rfl⟩, ⟨2, rfl⟩, ⟨3, rfl⟩, ⟨4, rfl⟩, trivial⟩) (R.ldoE 4 (cs := [.int .i64 y_94.At, .int .u32 (y_94.Birth.toNat : Int), .int .u32 (y_94.Iv.toNat : Int), .int .u32 (y_94.Tag.toNat : Int), .int .u32 (y_94.Sum.toNat : Int)]) (k := 0) (vs := [.int .i64 y_94.At, .int .u32 (y_94.Birth.toNat : Int), .int .u32 (y_94.Iv.toNat : Int), .int .u32 (y_94.Tag.toNat : Int), .int .u32 (y_94.Sum.toNat : Int)]) S28 rfl rfl hc_102 rfl rfl) rfl (JA.val ⟨by kernel_rfl, by kernel_rfl⟩ (calm_only _) (i := 17) rfl ⟨by kernel_rfl, by kernel_rfl, rfl⟩ ⟨_, _, rfl, rfl, rfl⟩ (stab_of (Hle.refl _) ⟨⟨0, rfl⟩, ⟨1, rfl⟩, ⟨2, rfl⟩, ⟨3, rfl⟩, ⟨4, rfl⟩, trivial⟩) (R.neqAgg QU28 QP28 QG28 QF28 rfl rfl (EqF.i (by decide) S3 U3 rfl rfl (EqF.u32 (a := y_83.Birth) (b := y_94.Birth) (by decide) S26 U26 rfl rfl (EqF.u32 (a := y_83.Iv) (b := y_94.Iv) (by decide) S26 U26 rfl rfl (EqF.u32 (a := y_83.Tag) (b := y_94.Tag) (by decide) S26 U26 rfl rfl (EqF.u32 (a := y_83.Sum) (b := y_94.Sum) (by decide) S26 U26 rfl rfl EqF.nil)))))) rfl (JA.val ⟨by kernel_rfl, by kernel_rfl⟩ (calm_only _) (i := 18) rfl ⟨by kernel_rfl, by kernel_rfl, rfl⟩ trivial (stab_of (Hle.refl _) ⟨⟨0, rfl⟩, ⟨1, rfl⟩, ⟨2, rfl⟩, ⟨3, rfl⟩, ⟨4, rfl⟩, trivial⟩) (R.pickF rfl rfl) rfl (JA.doneN (by kernel_rfl) (JN.next (JC.condB rfl (fun c_105 => ?_) (fun c_105 => ?_)))))))
               ·
                replace hx := cond_t c_105 hx
                refine JC.seq (JC.region (JL.val rfl rfl (R.assign rfl) (JL.nil (JN.next (JC.ret (JN.passR (JN.blkR (JN.passR ?_))))))))
                obtain rfl := run_done hd_62 hx
                refine JN.passR (JN.blkR ?_)
                clear hx; have hx := hxo_56
                simp only [Sum.elim_inl, Sum.elim_inr] at hx
                refine JN.passR (JN.passR (JN.outP (vs := [.bool false]) (K := []) (rst := [_, _, _, _, _]) (.inl rfl) rfl rfl (Res.tmp rfl rfl) picks0 ?_))
                obtain rfl := Option.some.inj hx
                exact ⟨rfl, rfl, trivial⟩
               ·
                replace hx := cond_f c_105 hx
                refine JC.skip (JN.next (JC.seq (JC.region (JL.val rfl rfl (R.move rfl) (JL.val rfl rfl (R.add_i rfl rfl) (JL.val rfl rfl (R.assign rfl) (JL.nil (JN.next (JC.seq (JC.region (JL.val rfl rfl (R.assign rfl) ?_)))))))))))
                refine JL.nil (JN.next ?_)
                obtain ⟨t_106, ht_108, hx⟩ := bnd_some hx
                refine JC.cut (fun l o g => ∃ t_106a : Int, l = [(2, .pointer (some ⟨b_6, 0, none⟩)), (3, .pointer (some ⟨b_7, 0, none⟩)), (5, .bool x_8), (6, .slice aor_15 nr_15 capr_15), (8, .slice aor_39 nr_39 capr_39), (10, .int .i64 t_106a), (11, .int .i64 ((s_58.2 : Nat) : Int))] ∧ o = [[(b_6, .cells #[.slice aoa_2 na_2 capa_2, .slice aoa_3 na_3 capa_3, .slice aoa_4 na_4 capa_4, .int .u32 (p_1.Epoch.toNat : Int), .int .u32 (p_1.Count.toNat : Int)] 50 (0, 0))], [(b_7, .cells #[.int .i64 p_5.At, .int .u32 (p_5.Birth.toNat : Int), .int .u32 (p_5.Iv.toNat : Int), .int .u32 (p_5.Tag.toNat : Int), .int .u32 (p_5.Sum.toNat : Int)] 28 (0, 0))], [(b_45, .cells cur_52 28 (0, 0))], [(b_70, .cells cur_77 28 (0, 0))]] ∧ Hu_65 = g ∧ t_106 = .inl t_106a) ?_ ?_
                ·
                 rintro _ _ _ ⟨t_106a, rfl, rfl, rfl, rfl⟩
                 simp only [Sum.elim_inl] at hx
                 refine JN.blkN (JN.next (JC.region (JL.val rfl rfl (R.move rfl) (JL.val rfl rfl (R.inc rfl rfl (of_decide_eq_true c_62) (by decide)) (JL.val rfl rfl (R.assign rfl) (JL.nil ?_))))))
                 replace hx := run_next hd_62 hx
                 refine JN.front 3 rfl (JN.front 3 rfl (JN.front 3 rfl (JN.front 3 rfl ?_)))
                 exact JN.cut ⟨(t_106a, s_58.2 + 1), Hu_65, rfl, rfl, rfl, hx, ((hleH_61.trans hleu_65))⟩ ⟨rfl, rfl, rfl, rfl, rfl, rfl, rfl, trivial⟩ rfl rfl
                ·
                 have hxo_107 := hx; clear hx; have hx := ht_108; clear ht_108
                 refine JC.block (JC.front 4 rfl (JC.front 4 rfl (JC.front 4 rfl (JC.front 4 rfl (JC.loopI (fun n l o g => ∃ s_109 : Int × Nat, l = [(2, .pointer (some ⟨b_6, 0, none⟩)), (3, .pointer (some ⟨b_7, 0, none⟩)), (5, .bool x_8), (6, .slice aor_15 nr_15 capr_15), (8, .slice aor_39 nr_39 capr_39), (10, .int .i64 s_109.1), (11, .int .i64 ((s_58.2 : Nat) : Int)), (12, .pointer (some ⟨b_67, 0, none⟩)), (14, .int .i64 ((s_109.2 : Nat) : Int))] ∧ o = [[(b_6, .cells #[.slice aoa_2 na_2 capa_2, .slice aoa_3 na_3 capa_3, .slice aoa_4 na_4 capa_4, .int .u32 (p_1.Epoch.toNat : Int), .int .u32 (p_1.Count.toNat : Int)] 50 (0, 0))], [(b_7, .cells #[.int .i64 p_5.At, .int .u32 (p_5.Birth.toNat : Int), .int .u32 (p_5.Iv.toNat : Int), .int .u32 (p_5.Tag.toNat : Int), .int .u32 (p_5.Sum.toNat : Int)] 28 (0, 0))], [(b_45, .cells cur_52 28 (0, 0))], [(b_70, .cells cur_77 28 (0, 0))], [(b_67, .cells #[.int .u8 (x_63.1.Kind.toNat : Int), .int .i64 x_63.1.Links, .int .i64 x_63.1.Size, .slice aoz_66 nz_66 nz_66] 60 (0, 0))]] ∧ Hu_65 = g ∧ run (law15_SetParts_l1 x_12 x_63) n s_109 = some t_106) FUEL ?_ ⟨(w64 (s_58.1 + 1), 0), rfl, rfl, rfl, hx⟩ ⟨rfl, rfl, rfl, rfl, rfl, rfl, rfl, rfl, rfl, trivial⟩ ?_)))))
                 ·
                  rintro _ _ _ ⟨s_109, rfl, rfl, rfl, hn_110⟩
                  exact run_zero hn_110
                 ·
                  rintro n_111 _ _ _ ⟨s_109, rfl, rfl, rfl, hn_110⟩
                  clear hx; obtain ⟨oo_113, hx, hd_112⟩ := run_some hn_110
                  unfold law15_SetParts_l1 at hx
                  refine JC.seq (JC.seq (JC.region (JL.val rfl rfl (R.move rfl) (JL.val rfl rfl (R.fa F60_3 rfl) (JL.val rfl rfl (R.ldo 4 S53 rfl rfl rfl) (JL.val rfl rfl (R.lenL U53 rfl (IsSlice.long hz_66)) (JL.val rfl rfl (R.lss_i rfl rfl) (JL.nil (JN.next (JC.condB rfl (fun c_112 => ?_) (fun c_112 => ?_)))))))))))
                  ·
                   replace hx := cond_t c_112 hx
                   refine JC.skip (JN.next (JC.seq (JC.block (JC.seq (JC.seq (JC.region (JL.val rfl rfl (R.fa F60_3 rfl) (JL.val rfl rfl (R.ldo 4 S53 rfl rfl rfl) (JL.val rfl rfl (R.move rfl) ?_)))))))))
                   obtain ⟨y_113, hN_114, hx⟩ := idx_some hx
                   obtain ⟨b_115, o_116, cs_117, hE_118, hR_119, hl_120, hc_121⟩ := IsSlice.elem hz_66 hN_114
                   obtain rfl := hR_119
                   refine JL.val rfl rfl (R.ix U53 S28 rfl rfl hE_118) (JL.val rfl rfl (R.ldHE (cs := [.int .i64 y_113.At, .int .u32 (y_113.Birth.toNat : Int), .int .u32 (y_113.Iv.toNat : Int), .int .u32 (y_113.Tag.toNat : Int), .int .u32 (y_113.Sum.toNat : Int)]) (k := 0) (vs := [.int .i64 y_113.At, .int .u32 (y_113.Birth.toNat : Int), .int .u32 (y_113.Iv.toNat : Int), .int .u32 (y_113.Tag.toNat : Int), .int .u32 (y_113.Sum.toNat : Int)]) S28 rfl (fun j u e => New.le _ _ _ _ _ (hc_121 j u e)) rfl rfl) (JL.val rfl rfl (R.bldP (vs := []) (cs := [.int .i64 0, .int .u32 ((0 : UInt32).toNat : Int), .int .u32 ((0 : UInt32).toNat : Int), .int .u32 ((0 : UInt32).toNat : Int), .int .u32 ((0 : UInt32).toNat : Int)]) Z28 B28 rfl rfl rfl) (JL.val rfl rfl (R.eqlAgg QU28 QP28 QG28 QF28 rfl rfl (EqF.i (by decide) S3 U3 rfl rfl (EqF.u32 (a := y_113.Birth) (b := (0 : UInt32)) (by decide) S26 U26 rfl rfl (EqF.u32 (a := y_113.Iv) (b := (0 : UInt32)) (by decide) S26 U26 rfl rfl (EqF.u32 (a := y_113.Tag) (b := (0 : UInt32)) (by decide) S26 U26 rfl rfl (EqF.u32 (a := y_113.Sum) (b := (0 : UInt32)) (by decide) S26 U26 rfl rfl EqF.nil)))))) (JL.nil (JN.next (JC.condB rfl (fun c_122 => ?_) (fun c_122 => ?_)))))))
                   ·
                    replace hx := cond_t c_122 hx
                    refine JC.exit (JN.passX (JN.exitSame (JN.next (JC.region (JL.val rfl rfl (R.move rfl) (JL.val rfl rfl (R.inc rfl rfl (of_decide_eq_true c_112) (IsSlice.lenI hz_66)) (JL.val rfl rfl (R.assign rfl) (JL.nil ?_))))))))
                    replace hx := run_next hd_112 hx
                    refine JN.front 4 rfl (JN.front 4 rfl (JN.front 4 rfl (JN.front 4 rfl (JN.front 4 rfl ?_))))
                    exact JN.cut ⟨(s_109.1, s_109.2 + 1), rfl, rfl, rfl, hx⟩ ⟨rfl, rfl, rfl, rfl, rfl, rfl, rfl, rfl, rfl, trivial⟩ rfl rfl
                   ·
                    replace hx := cond_f c_122 hx
                    refine JC.skip (JN.next (JC.seq (JC.seq (JC.draw (so := [_, _, _, _, _]) 16 rfl Mixed ⟨⟨0, rfl⟩, ⟨1, rfl⟩, ⟨2, rfl⟩, ⟨3, rfl⟩, ⟨4, rfl⟩, trivial⟩ (JA.val ⟨by kernel_rfl, by kernel_rfl⟩ (calm_only _) (i := 0) rfl ⟨by kernel_rfl, by kernel_rfl, rfl⟩ trivial (stab_of (Hle.refl _) ⟨⟨0, rfl⟩, ⟨1, rfl⟩, ⟨2, rfl⟩, ⟨3, rfl⟩, ⟨4, rfl⟩, trivial⟩) (R.move rfl) rfl (JA.val ⟨by kernel_rfl, by kernel_rfl⟩ (calm_only _) (i := 1) rfl ⟨by kernel_rfl, by kernel_rfl, rfl⟩ trivial (stab_of (Hle.refl _) ⟨⟨0, rfl⟩, ⟨1, rfl⟩, ⟨2, rfl⟩, ⟨3, rfl⟩, ⟨4, rfl⟩, trivial⟩) (R.move rfl) rfl (JA.val ⟨by kernel_rfl, by kernel_rfl⟩ (calm_only _) (i := 2) rfl ⟨by kernel_rfl, by kernel_rfl, rfl⟩ trivial (stab_of (Hle.refl _) ⟨⟨0, rfl⟩, ⟨1, rfl⟩, ⟨2, rfl⟩, ⟨3, rfl⟩, ⟨4, rfl⟩, trivial⟩) (R.lenL U53 rfl (RowOf.long hr_15)) rfl (JA.val ⟨by kernel_rfl, by kernel_rfl⟩ (calm_only _) (i := 3) rfl ⟨by kernel_rfl, by kernel_rfl, rfl⟩ trivial (stab_of (Hle.refl _) ⟨⟨0, rfl⟩, ⟨1, rfl⟩, ⟨2, rfl⟩, ⟨3, rfl⟩, ⟨4, rfl⟩, trivial⟩) (R.geq_i rfl rfl) rfl (JA.val ⟨by kernel_rfl, by kernel_rfl⟩ (calm_only _) (i := 4) rfl ⟨by kernel_rfl, by kernel_rfl, rfl⟩ trivial (stab_of (Hle.refl _) ⟨⟨0, rfl⟩, ⟨1, rfl⟩, ⟨2, rfl⟩, ⟨3, rfl⟩, ⟨4, rfl⟩, trivial⟩) (R.move rfl) rfl (JA.gSplit (t := 132) rfl (fun c_123 => ?_) (fun c_123 => ?_)))))))))))
                    ·
                     replace hx := cond_t c_123 hx
                     refine JA.no ⟨by kernel_rfl, by kernel_rfl⟩ (calm_only _) (i := 5) rfl ⟨by kernel_rfl, by kernel_rfl, rfl⟩ rfl rfl rfl rfl (stab_of (Hle.refl _) ⟨⟨0, rfl⟩, ⟨1, rfl⟩, ⟨2, rfl⟩, ⟨3, rfl⟩, ⟨4, rfl⟩, trivial⟩) rfl (JA.no ⟨by kernel_rfl, by kernel_rfl⟩ (calm_only _) (i := 6) rfl ⟨by kernel_rfl, by kernel_rfl, rfl⟩ rfl rfl rfl rfl (stab_of (Hle.refl _) ⟨⟨0, rfl⟩, ⟨1, rfl⟩, ⟨2, rfl⟩, ⟨3, rfl⟩, ⟨4, rfl⟩, trivial⟩) rfl (JA.no ⟨by kernel_rfl, by kernel_rfl⟩ (calm_only _) (i := 7) rfl ⟨by kernel_rfl, by kernel_rfl, rfl⟩ rfl rfl rfl rfl (stab_of (Hle.refl _) ⟨⟨0, rfl⟩, ⟨1, rfl⟩, ⟨2, rfl⟩, ⟨3, rfl⟩, ⟨4, rfl⟩, trivial⟩) rfl (JA.no ⟨by kernel_rfl, by kernel_rfl⟩ (calm_only _) (i := 8) rfl ⟨by kernel_rfl, by kernel_rfl, rfl⟩ rfl rfl rfl rfl (stab_of (Hle.refl _) ⟨⟨0, rfl⟩, ⟨1, rfl⟩, ⟨2, rfl⟩, ⟨3, rfl⟩, ⟨4, rfl⟩, trivial⟩) rfl (JA.no ⟨by kernel_rfl, by kernel_rfl⟩ (calm_only _) (i := 9) rfl ⟨by kernel_rfl, by kernel_rfl, rfl⟩ rfl rfl rfl rfl (stab_of (Hle.refl _) ⟨⟨0, rfl⟩, ⟨1, rfl⟩, ⟨2, rfl⟩, ⟨3, rfl⟩, ⟨4, rfl⟩, trivial⟩) rfl (JA.no ⟨by kernel_rfl, by kernel_rfl⟩ (calm_only _) (i := 10) rfl ⟨by kernel_rfl, by kernel_rfl, rfl⟩ rfl rfl rfl rfl (stab_of (Hle.refl _) ⟨⟨0, rfl⟩, ⟨1, rfl⟩, ⟨2, rfl⟩, ⟨3, rfl⟩, ⟨4, rfl⟩, trivial⟩) rfl (JA.no ⟨by kernel_rfl, by kernel_rfl⟩ (calm_only _) (i := 11) rfl ⟨by kernel_rfl, by kernel_rfl, rfl⟩ rfl rfl rfl rfl (stab_of (Hle.refl _) ⟨⟨0, rfl⟩, ⟨1, rfl⟩, ⟨2, rfl⟩, ⟨3, rfl⟩, ⟨4, rfl⟩, trivial⟩) rfl (JA.no ⟨by kernel_rfl, by kernel_rfl⟩ (calm_only _) (i := 12) rfl ⟨by kernel_rfl, by kernel_rfl, rfl⟩ rfl rfl rfl rfl (stab_of (Hle.refl _) ⟨⟨0, rfl⟩, ⟨1, rfl⟩, ⟨2, rfl⟩, ⟨3, rfl⟩, ⟨4, rfl⟩, trivial⟩) rfl (JA.no ⟨by kernel_rfl, by kernel_rfl⟩ (calm_only _) (i := 13) rfl ⟨by kernel_rfl, by kernel_rfl, rfl⟩ rfl rfl rfl rfl (stab_of (Hle.refl _) ⟨⟨0, rfl⟩, ⟨1, rfl⟩, ⟨2, rfl⟩, ⟨3, rfl⟩, ⟨4, rfl⟩, trivial⟩) rfl (JA.no ⟨by kernel_rfl, by kernel_rfl⟩ (calm_only _) (i := 14) rfl ⟨by kernel_rfl, by kernel_rfl, rfl⟩ rfl rfl rfl rfl (stab_of (Hle.refl _) ⟨⟨0, rfl⟩, ⟨1, rfl⟩, ⟨2, rfl⟩, ⟨3, rfl⟩, ⟨4, rfl⟩, trivial⟩) rfl (JA.val ⟨by kernel_rfl, by kernel_rfl⟩ (calm_only _) (i := 15) rfl ⟨by kernel_rfl, by kernel_rfl, rfl⟩ trivial (stab_of (Hle.refl _) ⟨⟨0, rfl⟩, ⟨1, rfl⟩, ⟨2, rfl⟩, ⟨3, rfl⟩, ⟨4, rfl⟩, trivial⟩) (R.pickT rfl rfl) rfl (JA.doneN (by kernel_rfl) ?_)))))))))))
                     refine JN.next (JC.condT rfl (JC.seq (JC.region (JL.val rfl rfl (R.assign rfl) (JL.nil (JN.next (JC.ret (JN.passR (JN.blkR (JN.passR ?_))))))))))
                     obtain rfl := run_done hd_112 hx
                     refine JN.passR (JN.blkR ?_)
                     clear hx; have hx := hxo_107
                     simp only [Sum.elim_inl, Sum.elim_inr] at hx
                     refine JN.passR (JN.blkR (JN.passR ?_))
                     obtain rfl := run_done hd_62 hx
                     refine JN.passR (JN.blkR ?_)
                     clear hx; have hx := hxo_56
                     simp only [Sum.elim_inl, Sum.elim_inr] at hx
                     refine JN.passR (JN.passR (JN.outP (vs := [.bool false]) (K := []) (rst := [_, _, _, _, _]) (.inl rfl) rfl rfl (Res.tmp rfl rfl) picks0 ?_))
                     obtain rfl := Option.some.inj hx
                     exact ⟨rfl, rfl, trivial⟩
                    ·
                     replace hx := cond_f c_123 hx
                     refine JA.val ⟨by kernel_rfl, by kernel_rfl⟩ (calm_only _) (i := 5) rfl ⟨by kernel_rfl, by kernel_rfl, rfl⟩ ⟨_, _, rfl, rfl, rfl⟩ (stab_of (Hle.refl _) ⟨⟨0, rfl⟩, ⟨1, rfl⟩, ⟨2, rfl⟩, ⟨3, rfl⟩, ⟨4, rfl⟩, trivial⟩) (R.move rfl) rfl (JA.val ⟨by kernel_rfl, by kernel_rfl⟩ (calm_only _) (i := 6) rfl ⟨by kernel_rfl, by kernel_rfl, rfl⟩ ⟨_, _, rfl, rfl, rfl⟩ (stab_of (Hle.refl _) ⟨⟨0, rfl⟩, ⟨1, rfl⟩, ⟨2, rfl⟩, ⟨3, rfl⟩, ⟨4, rfl⟩, trivial⟩) (R.move rfl) rfl ?_)
                     obtain ⟨y_124, hN_125, hx⟩ := idx_some hx
                     obtain ⟨b_126, o_127, cs_128, cur_133, hK_134, hE_129, hR_130, hl_131, hc_132⟩ := RowOf.elem (hr_15.mono R_Ptr.mono (New.mono (hleu_38.trans (hleH_61.trans hleu_65)))) hN_125
                     obtain ⟨rfl, rfl⟩ : b_45 = b_126 ∧ cur_52 = cur_133 := by simpa using hK_134
                     obtain rfl := hR_130
                     refine JA.val ⟨by kernel_rfl, by kernel_rfl⟩ (calm_only _) (i := 7) rfl ⟨by kernel_rfl, by kernel_rfl, rfl⟩ ⟨_, _, rfl, rfl, rfl⟩ (stab_of (Hle.refl _) ⟨⟨0, rfl⟩, ⟨1, rfl⟩, ⟨2, rfl⟩, ⟨3, rfl⟩, ⟨4, rfl⟩, trivial⟩) (R.ix U53 S28 rfl rfl hE_129) rfl (JA.val ⟨by kernel_rfl, by kernel_rfl⟩ (calm_only _) (i := 8) rfl ⟨by kernel_rfl, by kernel_rfl, rfl⟩ ⟨_, _, rfl, rfl, rfl⟩ (stab_of (Hle.refl _) ⟨⟨0, rfl⟩, ⟨1, rfl⟩, ⟨2, rfl⟩, ⟨3, rfl⟩, ⟨4, rfl⟩, trivial⟩) (R.ldoE 2 (cs := [.int .i64 y_124.At, .int .u32 (y_124.Birth.toNat : Int), .int .u32 (y_124.Iv.toNat : Int), .int .u32 (y_124.Tag.toNat : Int), .int .u32 (y_124.Sum.toNat : Int)]) (k := 0) (vs := [.int .i64 y_124.At, .int .u32 (y_124.Birth.toNat : Int), .int .u32 (y_124.Iv.toNat : Int), .int .u32 (y_124.Tag.toNat : Int), .int .u32 (y_124.Sum.toNat : Int)]) S28 rfl rfl hc_132 rfl rfl) rfl (JA.val ⟨by kernel_rfl, by kernel_rfl⟩ (calm_only _) (i := 9) rfl ⟨by kernel_rfl, by kernel_rfl, rfl⟩ ⟨_, _, rfl, rfl, rfl⟩ (stab_of (Hle.refl _) ⟨⟨0, rfl⟩, ⟨1, rfl⟩, ⟨2, rfl⟩, ⟨3, rfl⟩, ⟨4, rfl⟩, trivial⟩) (R.fa F60_3 rfl) rfl (JA.val ⟨by kernel_rfl, by kernel_rfl⟩ (calm_only _) (i := 10) rfl ⟨by kernel_rfl, by kernel_rfl, rfl⟩ ⟨_, _, rfl, rfl, rfl⟩ (stab_of (Hle.refl _) ⟨⟨0, rfl⟩, ⟨1, rfl⟩, ⟨2, rfl⟩, ⟨3, rfl⟩, ⟨4, rfl⟩, trivial⟩) (R.ldo 4 S53 rfl rfl rfl) rfl (JA.val ⟨by kernel_rfl, by kernel_rfl⟩ (calm_only _) (i := 11) rfl ⟨by kernel_rfl, by kernel_rfl, rfl⟩ ⟨_, _, rfl, rfl, rfl⟩ (stab_of (Hle.refl _) ⟨⟨0, rfl⟩, ⟨1, rfl⟩, ⟨2, rfl⟩, ⟨3, rfl⟩, ⟨4, rfl⟩, trivial⟩) (R.move rfl) rfl ?_))))
                     obtain ⟨y_135, hN_136, hx⟩ := idx_some hx
                     obtain ⟨b_137, o_138, cs_139, hE_140, hR_141, hl_142, hc_143⟩ := IsSlice.elem hz_66 hN_136
                     obtain rfl := hR_141
                     refine JA.val ⟨by kernel_rfl, by kernel_rfl⟩ (calm_only _) (i := 12) rfl ⟨by kernel_rfl, by kernel_rfl, rfl⟩ ⟨_, _, rfl, rfl, rfl⟩ (stab_of (Hle.refl _) ⟨⟨0, rfl⟩, ⟨1, rfl⟩, ⟨2, rfl⟩, ⟨3, rfl⟩, ⟨4, rfl⟩, trivial⟩) (R.ix U53 S28 rfl rfl hE_140) rfl (JA.val ⟨by kernel_rfl, by kernel_rfl⟩ (calm_only _) (i := 13) rfl ⟨by kernel_rfl, by kernel_rfl, rfl⟩ ⟨_, _, rfl, rfl, rfl⟩ (stab_of (Hle.refl _) ⟨⟨0, rfl⟩, ⟨1, rfl⟩, ⟨2, rfl⟩, ⟨3, rfl⟩, ⟨4, rfl⟩, trivial⟩) (R.ldHE (cs := [.int .i64 y_135.At, .int .u32 (y_135.Birth.toNat : Int), .int .u32 (y_135.Iv.toNat : Int), .int .u32 (y_135.Tag.toNat : Int), .int .u32 (y_135.Sum.toNat : Int)]) (k := 0) (vs := [.int .i64 y_135.At, .int .u32 (y_135.Birth.toNat : Int), .int .u32 (y_135.Iv.toNat : Int), .int .u32 (y_135.Tag.toNat : Int), .int .u32 (y_135.Sum.toNat : Int)]) S28 rfl (fun j u e => New.le _ _ _ _ _ (hc_143 j u e)) rfl rfl) rfl (JA.val ⟨by kernel_rfl, by kernel_rfl⟩ (calm_only _) (i := 14) rfl ⟨by kernel_rfl, by kernel_rfl, rfl⟩ ⟨_, _, rfl, rfl, rfl⟩ (stab_of (Hle.refl _) ⟨⟨0, rfl⟩, ⟨1, rfl⟩, ⟨2, rfl⟩, ⟨3, rfl⟩, ⟨4, rfl⟩, trivial⟩) (R.neqAgg QU28 QP28 QG28 QF28 rfl rfl (EqF.i (by decide) S3 U3 rfl rfl (EqF.u32 (a := y_124.Birth) (b := y_135.Birth) (by decide) S26 U26 rfl rfl (EqF.u32 (a := y_124.Iv) (b := y_135.Iv) (by decide) S26 U26 rfl rfl (EqF.u32 (a := y_124.Tag) (b := y_135.Tag) (by decide) S26 U26 rfl rfl (EqF.u32 (a := y_124.Sum) (b := y_135.Sum) (by decide) S26 U26 rfl rfl EqF.nil)))))) rfl (JA.val ⟨by kernel_rfl, by kernel_rfl⟩ (calm_only _) (i := 15) rfl ⟨by kernel_rfl, by kernel_rfl, rfl⟩ trivial (stab_of (Hle.refl _) ⟨⟨0, rfl⟩, ⟨1, rfl⟩, ⟨2, rfl⟩, ⟨3, rfl⟩, ⟨4, rfl⟩, trivial⟩) (R.pickF rfl rfl) rfl (JA.doneN (by kernel_rfl) (JN.next (JC.condB rfl (fun c_144 => ?_) (fun c_144 => ?_)))))))
                     ·
                      replace hx := cond_t c_144 hx
                      refine JC.seq (JC.region (JL.val rfl rfl (R.assign rfl) (JL.nil (JN.next (JC.ret (JN.passR (JN.blkR (JN.passR ?_))))))))
                      obtain rfl := run_done hd_112 hx
                      refine JN.passR (JN.blkR ?_)
                      clear hx; have hx := hxo_107
                      simp only [Sum.elim_inl, Sum.elim_inr] at hx
                      refine JN.passR (JN.blkR (JN.passR ?_))
                      obtain rfl := run_done hd_62 hx
                      refine JN.passR (JN.blkR ?_)
                      clear hx; have hx := hxo_56
                      simp only [Sum.elim_inl, Sum.elim_inr] at hx
                      refine JN.passR (JN.passR (JN.outP (vs := [.bool false]) (K := []) (rst := [_, _, _, _, _]) (.inl rfl) rfl rfl (Res.tmp rfl rfl) picks0 ?_))
                      obtain rfl := Option.some.inj hx
                      exact ⟨rfl, rfl, trivial⟩
                     ·
                      replace hx := cond_f c_144 hx
                      refine JC.skip (JN.next (JC.region (JL.val rfl rfl (R.move rfl) (JL.val rfl rfl (R.add_i rfl rfl) (JL.val rfl rfl (R.assign rfl) (JL.nil (JN.blkN (JN.next (JC.region (JL.val rfl rfl (R.move rfl) (JL.val rfl rfl (R.inc rfl rfl (of_decide_eq_true c_112) (IsSlice.lenI hz_66)) ?_)))))))))))
                      refine JL.val rfl rfl (R.assign rfl) (JL.nil ?_)
                      replace hx := run_next hd_112 hx
                      refine JN.front 4 rfl (JN.front 4 rfl (JN.front 4 rfl (JN.front 4 rfl (JN.front 4 rfl ?_))))
                      exact JN.cut ⟨(w64 (s_109.1 + 1), s_109.2 + 1), rfl, rfl, rfl, hx⟩ ⟨rfl, rfl, rfl, rfl, rfl, rfl, rfl, rfl, rfl, trivial⟩ rfl rfl
                  ·
                   replace hx := cond_f c_112 hx
                   refine JC.exit (JN.passX ?_)
                   obtain rfl := run_done hd_112 hx
                   refine JN.passX (JN.exitSame (JN.forget 4 (JN.front 3 rfl (JN.front 3 rfl (JN.front 3 rfl (JN.front 3 rfl ?_))))))
                   exact JN.cut ⟨s_109.1, rfl, rfl, rfl, rfl⟩ ⟨rfl, rfl, rfl, rfl, rfl, rfl, rfl, trivial⟩ rfl rfl
           ·
            replace hx := cond_f c_62 hx
            refine JC.exit (JN.passX ?_)
            obtain rfl := run_done hd_62 hx
            refine JN.passX (JN.exitSame (JN.forget 3 (JN.forget 1 (JN.forget 0 ?_))))
            exact JN.cut ⟨s_58.1, H_61, rfl, rfl, rfl, rfl, (hleH_61)⟩ ⟨rfl, rfl, rfl, trivial⟩ rfl rfl
end Go.Proofs.Ytdoebbgjjlicjaa
