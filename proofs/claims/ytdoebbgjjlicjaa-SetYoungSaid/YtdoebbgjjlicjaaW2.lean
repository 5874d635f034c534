import Derived.Test.YtdoebbgjjlicjaaW2p2
/- walks: what the code computes, function by function. -/
namespace Go.Proofs.Ytdoebbgjjlicjaa
open Go.Ow Go.RowKit Go.Proofs
set_option linter.unusedVariables false
set_option linter.unusedSimpArgs false
set_option maxHeartbeats 8000000 in
theorem set_Object_ok (p_1 : Store) (p_5 : Ptr) (p_6 : Int) (H : Heaplet) {aoa_2 : Option Addr} {na_2 : Nat} {capa_2 : Nat} {aoa_3 : Option Addr} {na_3 : Nat} {capa_3 : Nat} {aoa_4 : Option Addr} {na_4 : Nat} {capa_4 : Nat} (ha_2 : IsSlice H (RSl RU8 1) 1 (.slice aoa_2 na_2 capa_2) p_1.Disk.Blocks) (ha_3 : IsSlice H R_Write 2 (.slice aoa_3 na_3 capa_3) p_1.Disk.Waits) (ha_4 : IsSlice H RU8 1 (.slice aoa_4 na_4 capa_4) p_1.Space) (r : Object × Int) (hx : set_Object p_1 p_5 p_6 = some r) :
  Does Try.prog 23 #[.agg #[.slice aoa_2 na_2 capa_2, .slice aoa_3 na_3 capa_3, .slice aoa_4 na_4 capa_4, .int .u32 (p_1.Epoch.toNat : Int), .int .u32 (p_1.Count.toNat : Int)], .agg #[.int .i64 p_5.At, .int .u32 (p_5.Birth.toNat : Int), .int .u32 (p_5.Iv.toNat : Int), .int .u32 (p_5.Tag.toNat : Int), .int .u32 (p_5.Sum.toNat : Int)], .int .i64 p_6] [] H (fun u K' H' => ∃ ao0 : Option Addr, ∃ n0 : Nat, u = .tuple #[.agg #[.int .u8 (r.1.Kind.toNat : Int), .int .i64 r.1.Links, .int .i64 r.1.Size, .slice ao0 n0 n0], .int .i64 r.2] ∧ K' = [] ∧ IsSlice (New H H') R_Ptr 5 (.slice ao0 n0 n0) r.1.Data ∧ True) := by
 refine Does.enterL (vs := [.agg #[.slice aoa_2 na_2 capa_2, .slice aoa_3 na_3 capa_3, .slice aoa_4 na_4 capa_4, .int .u32 (p_1.Epoch.toNat : Int), .int .u32 (p_1.Count.toNat : Int)], .agg #[.int .i64 p_5.At, .int .u32 (p_5.Birth.toNat : Int), .int .u32 (p_5.Iv.toNat : Int), .int .u32 (p_5.Tag.toNat : Int), .int .u32 (p_5.Sum.toNat : Int)], .int .i64 p_6]) (l := [(0, .agg #[.slice aoa_2 na_2 capa_2, .slice aoa_3 na_3 capa_3, .slice aoa_4 na_4 capa_4, .int .u32 (p_1.Epoch.toNat : Int), .int .u32 (p_1.Count.toNat : Int)]), (1, .agg #[.int .i64 p_5.At, .int .u32 (p_5.Birth.toNat : Int), .int .u32 (p_5.Iv.toNat : Int), .int .u32 (p_5.Tag.toNat : Int), .int .u32 (p_5.Sum.toNat : Int)]), (2, .int .i64 p_6)]) Try.func23 rfl rfl ⟨rfl, rfl, rfl, trivial⟩ (fun w hlt => ?_)
 unfold set_Object at hx
 refine JC.seq (JC.region (JL.box rfl rfl (fun b_7 hb_7 => JL.box rfl rfl (fun b_8 hb_8 => JL.alloc Z60 rfl (fun b_9 hb_9 => JL.val rfl rfl (R.assign rfl) (JL.nil (JN.next (JC.seq (JC.seq (JC.region (JL.val rfl rfl (R.ldoN 2 (vs := [.slice aoa_2 na_2 capa_2, .slice aoa_3 na_3 capa_3, .slice aoa_4 na_4 capa_4, .int .u32 (p_1.Epoch.toNat : Int), .int .u32 (p_1.Count.toNat : Int)]) S50 rfl rfl rfl rfl) ?_)))))))))))
 obtain ⟨x_10, hr_11, hx⟩ := bnd_some hx
 refine JL.callC (vs := [_]) (args := [_]) (K := []) (rst := [_, _, _]) E26 rfl rfl rfl picks0 (store_Check_ok p_1 _ ha_2 ha_3 ha_4 _ hr_11) rfl (fun u_12 Ku_12 Hu_12 hRu_12 hleu_12 hfu_12 => ?_)
 obtain ⟨rfl, rfl, rfl, -⟩ := hRu_12
 refine JL.val rfl rfl (R.neq_i rfl rfl) (JL.val rfl rfl (R.move rfl) (JL.gSplit (t := 13) rfl (fun c_13 => ?_) (fun c_13 => ?_)))
 ·
  replace hx := cond_t c_13 hx
  refine JL.gNo rfl rfl rfl rfl rfl (JL.gNo rfl rfl rfl rfl rfl (JL.gNo rfl rfl rfl rfl rfl (JL.val rfl rfl (R.pickT rfl rfl) (JL.nil (JN.next (JC.condT rfl (JC.seq (JC.region (JL.val rfl rfl (R.bldP (vs := []) (cs := [.int .u8 ((0 : UInt8).toNat : Int), .int .i64 0, .int .i64 0, .slice none 0 0]) Z60 B60 rfl rfl rfl) (JL.store 0 S60 rfl rfl rfl rfl rfl (Nat.le_of_ble_eq_true rfl) (JL.val rfl rfl (R.assign rfl) ?_)))))))))))
  refine JL.nil (JN.next (JC.ret (JN.passR (JN.outP (vs := [.agg #[.int .u8 ((0 : UInt8).toNat : Int), .int .i64 0, .int .i64 0, .slice none 0 0], .int .i64 8]) (K := []) (rst := [_, _, _]) (.inl rfl) rfl rfl (Res.cellN 0 rfl rfl S60 (Res.tmp rfl rfl)) picks0 ?_))))
  obtain rfl := Option.some.inj hx
  exact ⟨none, 0, rfl, rfl, (IsSlice.nil _ _ _), trivial⟩
 ·
  replace hx := cond_f c_13 hx
  refine JL.gYes rfl rfl rfl (JL.val rfl rfl (R.ldoN 1 (vs := [.int .i64 p_5.At, .int .u32 (p_5.Birth.toNat : Int), .int .u32 (p_5.Iv.toNat : Int), .int .u32 (p_5.Tag.toNat : Int), .int .u32 (p_5.Sum.toNat : Int)]) S28 rfl rfl rfl rfl) (JL.gYes rfl rfl rfl ?_))
  obtain ⟨x_14, hr_15, hx⟩ := bnd_some hx
  refine JL.callC (vs := [_]) (args := [_]) (K := []) (rst := [_, _, _]) E49 rfl rfl rfl picks0 (ptr_Check_ok p_5 _ _ hr_15) rfl (fun u_16 Ku_16 Hu_16 hRu_16 hleu_16 hfu_16 => ?_)
  obtain ⟨rfl, rfl, rfl, -⟩ := hRu_16
  refine JL.gYes rfl rfl rfl (JL.val rfl rfl (R.neq_i rfl rfl) (JL.val rfl rfl (R.pickF rfl rfl) (JL.nil (JN.next (JC.condB rfl (fun c_17 => ?_) (fun c_17 => ?_))))))
  ·
   replace hx := cond_t c_17 hx
   refine JC.seq (JC.region (JL.val rfl rfl (R.bldP (vs := []) (cs := [.int .u8 ((0 : UInt8).toNat : Int), .int .i64 0, .int .i64 0, .slice none 0 0]) Z60 B60 rfl rfl rfl) (JL.store 0 S60 rfl rfl rfl rfl rfl (Nat.le_of_ble_eq_true rfl) (JL.val rfl rfl (R.assign rfl) (JL.nil (JN.next (JC.ret (JN.passR (JN.outP (vs := [.agg #[.int .u8 ((0 : UInt8).toNat : Int), .int .i64 0, .int .i64 0, .slice none 0 0], .int .i64 8]) (K := []) (rst := [_, _, _]) (.inl rfl) rfl rfl (Res.cellN 0 rfl rfl S60 (Res.tmp rfl rfl)) picks0 ?_)))))))))
   obtain rfl := Option.some.inj hx
   exact ⟨none, 0, rfl, rfl, (IsSlice.nil _ _ _), trivial⟩
  ·
   replace hx := cond_f c_17 hx
   refine JC.skip (JN.next (JC.seq (JC.seq (JC.region (JL.val rfl rfl (R.move rfl) (JL.val rfl rfl (R.lss_i rfl rfl) (JL.val rfl rfl (R.move rfl) (JL.gSplit (t := 21) rfl (fun c_18 => ?_) (fun c_18 => ?_)))))))))
   ·
    replace hx := cond_t c_18 hx
    refine JL.gNo rfl rfl rfl rfl rfl (JL.gNo rfl rfl rfl rfl rfl (JL.val rfl rfl (R.pickT rfl rfl) (JL.nil (JN.next (JC.condT rfl (JC.seq (JC.region (JL.val rfl rfl (R.bldP (vs := []) (cs := [.int .u8 ((0 : UInt8).toNat : Int), .int .i64 0, .int .i64 0, .slice none 0 0]) Z60 B60 rfl rfl rfl) (JL.store 0 S60 rfl rfl rfl rfl rfl (Nat.le_of_ble_eq_true rfl) (JL.val rfl rfl (R.assign rfl) (JL.nil ?_)))))))))))
    refine JN.next (JC.ret (JN.passR (JN.outP (vs := [.agg #[.int .u8 ((0 : UInt8).toNat : Int), .int .i64 0, .int .i64 0, .slice none 0 0], .int .i64 2]) (K := []) (rst := [_, _, _]) (.inl rfl) rfl rfl (Res.cellN 0 rfl rfl S60 (Res.tmp rfl rfl)) picks0 ?_)))
    obtain rfl := Option.some.inj hx
    exact ⟨none, 0, rfl, rfl, (IsSlice.nil _ _ _), trivial⟩
   ·
    replace hx := cond_f c_18 hx
    refine JL.gYes rfl rfl rfl (JL.val rfl rfl (R.move rfl) (JL.gYes rfl rfl rfl (JL.val rfl rfl (R.geq_i rfl rfl) (JL.val rfl rfl (R.pickF rfl rfl) (JL.nil (JN.next (JC.condB rfl (fun c_19 => ?_) (fun c_19 => ?_))))))))
    ·
     replace hx := cond_t c_19 hx
     refine JC.seq (JC.region (JL.val rfl rfl (R.bldP (vs := []) (cs := [.int .u8 ((0 : UInt8).toNat : Int), .int .i64 0, .int .i64 0, .slice none 0 0]) Z60 B60 rfl rfl rfl) (JL.store 0 S60 rfl rfl rfl rfl rfl (Nat.le_of_ble_eq_true rfl) (JL.val rfl rfl (R.assign rfl) (JL.nil (JN.next (JC.ret (JN.passR (JN.outP (vs := [.agg #[.int .u8 ((0 : UInt8).toNat : Int), .int .i64 0, .int .i64 0, .slice none 0 0], .int .i64 2]) (K := []) (rst := [_, _, _]) (.inl rfl) rfl rfl (Res.cellN 0 rfl rfl S60 (Res.tmp rfl rfl)) picks0 ?_)))))))))
     obtain rfl := Option.some.inj hx
     exact ⟨none, 0, rfl, rfl, (IsSlice.nil _ _ _), trivial⟩
    ·
     replace hx := cond_f c_19 hx
     refine JC.skip (JN.next (JC.seq (JC.region (JL.val rfl rfl (R.ldoN 2 (vs := [.slice aoa_2 na_2 capa_2, .slice aoa_3 na_3 capa_3, .slice aoa_4 na_4 capa_4, .int .u32 (p_1.Epoch.toNat : Int), .int .u32 (p_1.Count.toNat : Int)]) S50 rfl rfl rfl rfl) (JL.val rfl rfl (R.ldoN 1 (vs := [.int .i64 p_5.At, .int .u32 (p_5.Birth.toNat : Int), .int .u32 (p_5.Iv.toNat : Int), .int .u32 (p_5.Tag.toNat : Int), .int .u32 (p_5.Sum.toNat : Int)]) S28 rfl rfl rfl rfl) ?_)))))
     obtain ⟨x_20, hr_21, hx⟩ := bnd_some hx
     refine JL.callC (vs := [_, _]) (args := [_, _]) (K := []) (rst := [_, _, _]) E24 rfl rfl rfl picks0 (set_Ptrs_ok p_1 p_5 _ ha_2 ha_3 ha_4 _ hr_21) rfl (fun u_22 Ku_22 Hu_22 hRu_22 hleu_22 hfu_22 => ?_)
     obtain ⟨aor_23, nr_23, capr_23, Kr_23, rfl, rfl, hr_23, hnewr_23, -⟩ := hRu_22
     replace hr_23 := (RowOf.base (RowOf.const (H2 := New H Hu_22) R_Ptr.const hr_23) (fun p hp => (hfu_22 p (mem_seg 0 rfl hp)).resolve_left (hnewr_23 p hp)))
     refine JL.val rfl rfl (R.move rfl) (JL.val rfl rfl (R.extract rfl rfl) (JL.val rfl rfl (R.extract rfl rfl) (JL.val rfl rfl (R.assign rfl) (JL.val rfl rfl (R.assign rfl) (JL.nil (JN.next (JC.seq (JC.seq (JC.region (JL.val rfl rfl (R.move rfl) (JL.val rfl rfl (R.neq_i rfl rfl) ?_)))))))))))
     refine JL.nil (JN.next (JC.condB rfl (fun c_24 => ?_) (fun c_24 => ?_)))
     ·
      replace hx := cond_t c_24 hx
      refine JC.seq (JC.region (JL.val rfl rfl (R.bldP (vs := []) (cs := [.int .u8 ((0 : UInt8).toNat : Int), .int .i64 0, .int .i64 0, .slice none 0 0]) Z60 B60 rfl rfl rfl) (JL.val rfl rfl (R.move rfl) (JL.store 1 S60 rfl rfl rfl rfl rfl (Nat.le_of_ble_eq_true rfl) (JL.val rfl rfl (R.assign rfl) (JL.nil (JN.next (JC.ret (JN.passR (JN.outP (vs := [.agg #[.int .u8 ((0 : UInt8).toNat : Int), .int .i64 0, .int .i64 0, .slice none 0 0], .int .i64 x_20.2]) (K := []) (rst := [_, _, _, _]) (.inl rfl) rfl rfl (Res.cellN 1 rfl rfl S60 (Res.tmp rfl rfl)) picks0 ?_))))))))))
      obtain rfl := Option.some.inj hx
      exact ⟨none, 0, rfl, rfl, (IsSlice.nil _ _ _), trivial⟩
     ·
      replace hx := cond_f c_24 hx
      refine JC.skip (JN.next (JC.seq (JC.draw (so := [_, _, _]) 10 rfl Mixed ⟨⟨0, rfl⟩, ⟨2, rfl⟩, ⟨3, rfl⟩, trivial⟩ (JA.val ⟨by kernel_rfl, by kernel_rfl⟩ (calm_only _) (i := 0) rfl ⟨by kernel_rfl, by kernel_rfl, rfl⟩ trivial (stab_of (Hle.refl _) ⟨⟨0, rfl⟩, ⟨2, rfl⟩, ⟨3, rfl⟩, trivial⟩) (R.ldoN 2 (vs := [.slice aoa_2 na_2 capa_2, .slice aoa_3 na_3 capa_3, .slice aoa_4 na_4 capa_4, .int .u32 (p_1.Epoch.toNat : Int), .int .u32 (p_1.Count.toNat : Int)]) S50 rfl rfl rfl rfl) rfl (JA.val ⟨by kernel_rfl, by kernel_rfl⟩ (calm_only _) (i := 1) rfl ⟨by kernel_rfl, by kernel_rfl, rfl⟩ trivial (stab_of (Hle.refl _) ⟨⟨0, rfl⟩, ⟨2, rfl⟩, ⟨3, rfl⟩, trivial⟩) (R.move rfl) rfl (JA.val ⟨by kernel_rfl, by kernel_rfl⟩ (calm_only _) (i := 2) rfl ⟨by kernel_rfl, by kernel_rfl, rfl⟩ trivial (stab_of (Hle.refl _) ⟨⟨0, rfl⟩, ⟨2, rfl⟩, ⟨3, rfl⟩, trivial⟩) (R.move rfl) rfl ?_))))))
      obtain ⟨y_25, hN_26, hx⟩ := idx_some hx
      obtain ⟨b_27, o_28, cs_29, cur_34, hK_35, hE_30, hR_31, hl_32, hc_33⟩ := RowOf.elem hr_23 hN_26
      subst hK_35
      obtain rfl := hR_31
      refine JA.val ⟨by kernel_rfl, by kernel_rfl⟩ (calm_only _) (i := 3) rfl ⟨by kernel_rfl, by kernel_rfl, rfl⟩ trivial (stab_of (Hle.refl _) ⟨⟨0, rfl⟩, ⟨2, rfl⟩, ⟨3, rfl⟩, trivial⟩) (R.ix U53 S28 rfl rfl hE_30) rfl (JA.val ⟨by kernel_rfl, by kernel_rfl⟩ (calm_only _) (i := 4) rfl ⟨by kernel_rfl, by kernel_rfl, rfl⟩ trivial (stab_of (Hle.refl _) ⟨⟨0, rfl⟩, ⟨2, rfl⟩, ⟨3, rfl⟩, trivial⟩) (R.ldoE 0 (cs := [.int .i64 y_25.At, .int .u32 (y_25.Birth.toNat : Int), .int .u32 (y_25.Iv.toNat : Int), .int .u32 (y_25.Tag.toNat : Int), .int .u32 (y_25.Sum.toNat : Int)]) (k := 0) (vs := [.int .i64 y_25.At, .int .u32 (y_25.Birth.toNat : Int), .int .u32 (y_25.Iv.toNat : Int), .int .u32 (y_25.Tag.toNat : Int), .int .u32 (y_25.Sum.toNat : Int)]) S28 rfl rfl hc_33 rfl rfl) rfl (JA.one (i := 5) (by kernel_rfl) (JO.step rfl trivial rfl (fun K hK => ?_))))
      obtain ⟨x_36, hr_37, hx⟩ := bnd_some hx
      refine JL.callC (vs := [_, _]) (args := [_, _]) (K := []) (rst := [_, _, _, _]) E54 rfl rfl rfl picks0 (set_one_ok p_1 y_25 _ (ha_2.mono (RSl.mono RU8.mono) hleu_22) (ha_3.mono R_Write.mono hleu_22) (ha_4.mono RU8.mono hleu_22) _ hr_37) rfl (fun u_38 Ku_38 Hu_38 hRu_38 hleu_38 hfu_38 => ?_)
      obtain ⟨aoz_39, nz_39, rfl, rfl, hz_39, -⟩ := hRu_38
      replace hz_39 := IsSlice.mono R_Ptr.mono (New.call hleu_22) hz_39
      refine JL.nil (hK _ _ _ (stab_of hleu_38 ⟨⟨0, rfl⟩, ⟨2, rfl⟩, ⟨3, rfl⟩, trivial⟩) (JA.val ⟨by kernel_rfl, by kernel_rfl⟩ (calm_only _) (i := 6) rfl ⟨by kernel_rfl, by kernel_rfl, rfl⟩ trivial (stab_of hleu_38 ⟨⟨0, rfl⟩, ⟨2, rfl⟩, ⟨3, rfl⟩, trivial⟩) (R.extract rfl rfl) rfl (JA.val ⟨by kernel_rfl, by kernel_rfl⟩ (calm_only _) (i := 7) rfl ⟨by kernel_rfl, by kernel_rfl, rfl⟩ trivial (stab_of hleu_38 ⟨⟨0, rfl⟩, ⟨2, rfl⟩, ⟨3, rfl⟩, trivial⟩) (R.extract rfl rfl) rfl (JA.one (i := 8) (by kernel_rfl) (JO.step rfl trivial rfl (fun K hK => JL.store 1 S60 rfl rfl rfl rfl rfl (Nat.le_of_ble_eq_true rfl) (JL.nil (hK _ _ _ (stab_of hleu_38 ⟨⟨0, rfl⟩, ⟨2, rfl⟩, ⟨3, rfl⟩, trivial⟩) (JA.val ⟨by kernel_rfl, by kernel_rfl⟩ (calm_only _) (i := 9) rfl ⟨by kernel_rfl, by kernel_rfl, rfl⟩ trivial (stab_of hleu_38 ⟨⟨0, rfl⟩, ⟨2, rfl⟩, ⟨3, rfl⟩, trivial⟩) (R.assign rfl) rfl (JA.doneN (by kernel_rfl) (JN.next ?_)))))))))))
      refine JC.ret (JN.outP (vs := [.agg #[.int .u8 (x_36.1.Kind.toNat : Int), .int .i64 x_36.1.Links, .int .i64 x_36.1.Size, .slice aoz_39 nz_39 nz_39], .int .i64 x_36.2]) (K := []) (rst := [_, _, _, _]) (.inl rfl) rfl rfl (Res.cellN 1 rfl rfl S60 (Res.tmp rfl rfl)) picks0 ?_)
      obtain rfl := Option.some.inj hx
      exact ⟨aoz_39, nz_39, rfl, rfl, hz_39, trivial⟩

set_option maxHeartbeats 8000000 in
theorem law15_falls_ok (p_1 : Store) (p_5 : Ptr) (H : Heaplet) {aoa_2 : Option Addr} {na_2 : Nat} {capa_2 : Nat} {aoa_3 : Option Addr} {na_3 : Nat} {capa_3 : Nat} {aoa_4 : Option Addr} {na_4 : Nat} {capa_4 : Nat} (ha_2 : IsSlice H (RSl RU8 1) 1 (.slice aoa_2 na_2 capa_2) p_1.Disk.Blocks) (ha_3 : IsSlice H R_Write 2 (.slice aoa_3 na_3 capa_3) p_1.Disk.Waits) (ha_4 : IsSlice H RU8 1 (.slice aoa_4 na_4 capa_4) p_1.Space) (r : Bool) (hx : law15_falls p_1 p_5 = some r) :
  Does Try.prog 25 #[.agg #[.slice aoa_2 na_2 capa_2, .slice aoa_3 na_3 capa_3, .slice aoa_4 na_4 capa_4, .int .u32 (p_1.Epoch.toNat : Int), .int .u32 (p_1.Count.toNat : Int)], .agg #[.int .i64 p_5.At, .int .u32 (p_5.Birth.toNat : Int), .int .u32 (p_5.Iv.toNat : Int), .int .u32 (p_5.Tag.toNat : Int), .int .u32 (p_5.Sum.toNat : Int)]] [] H (fun u K' H' => u = .bool r ∧ K' = [] ∧ True) := by
 refine Does.enterL (vs := [.agg #[.slice aoa_2 na_2 capa_2, .slice aoa_3 na_3 capa_3, .slice aoa_4 na_4 capa_4, .int .u32 (p_1.Epoch.toNat : Int), .int .u32 (p_1.Count.toNat : Int)], .agg #[.int .i64 p_5.At, .int .u32 (p_5.Birth.toNat : Int), .int .u32 (p_5.Iv.toNat : Int), .int .u32 (p_5.Tag.toNat : Int), .int .u32 (p_5.Sum.toNat : Int)]]) (l := [(0, .agg #[.slice aoa_2 na_2 capa_2, .slice aoa_3 na_3 capa_3, .slice aoa_4 na_4 capa_4, .int .u32 (p_1.Epoch.toNat : Int), .int .u32 (p_1.Count.toNat : Int)]), (1, .agg #[.int .i64 p_5.At, .int .u32 (p_5.Birth.toNat : Int), .int .u32 (p_5.Iv.toNat : Int), .int .u32 (p_5.Tag.toNat : Int), .int .u32 (p_5.Sum.toNat : Int)])]) Try.func25 rfl rfl ⟨rfl, rfl, trivial⟩ (fun w hlt => ?_)
 unfold law15_falls at hx
 refine JC.seq (JC.region (JL.box rfl rfl (fun b_6 hb_6 => JL.box rfl rfl (fun b_7 hb_7 => JL.val rfl rfl (R.assign rfl) (JL.nil (JN.next (JC.seq (JC.region (JL.val rfl rfl (R.ldoN 1 (vs := [.slice aoa_2 na_2 capa_2, .slice aoa_3 na_3 capa_3, .slice aoa_4 na_4 capa_4, .int .u32 (p_1.Epoch.toNat : Int), .int .u32 (p_1.Count.toNat : Int)]) S50 rfl rfl rfl rfl) (JL.val rfl rfl (R.ldoN 0 (vs := [.int .i64 p_5.At, .int .u32 (p_5.Birth.toNat : Int), .int .u32 (p_5.Iv.toNat : Int), .int .u32 (p_5.Tag.toNat : Int), .int .u32 (p_5.Sum.toNat : Int)]) S28 rfl rfl rfl rfl) ?_))))))))))
 obtain ⟨x_8, hr_9, hx⟩ := bnd_some hx
 refine JL.callC (vs := [_, _]) (args := [_, _]) (K := []) (rst := [_, _]) E24 rfl rfl rfl picks0 (set_Ptrs_ok p_1 p_5 _ ha_2 ha_3 ha_4 _ hr_9) rfl (fun u_10 Ku_10 Hu_10 hRu_10 hleu_10 hfu_10 => ?_)
 obtain ⟨aor_11, nr_11, capr_11, Kr_11, rfl, rfl, hr_11, hnewr_11, -⟩ := hRu_10
 replace hr_11 := (RowOf.base (RowOf.const (H2 := New H Hu_10) R_Ptr.const hr_11) (fun p hp => (hfu_10 p (mem_seg 0 rfl hp)).resolve_left (hnewr_11 p hp)))
 refine JL.val rfl rfl (R.move rfl) (JL.val rfl rfl (R.extract rfl rfl) (JL.val rfl rfl (R.extract rfl rfl) (JL.val rfl rfl (R.assign rfl) (JL.val rfl rfl (R.assign rfl) (JL.nil (JN.next (JC.seq (JC.seq (JC.region (JL.val rfl rfl (R.move rfl) (JL.val rfl rfl (R.neq_i rfl rfl) ?_)))))))))))
 refine JL.nil (JN.next (JC.condB rfl (fun c_12 => ?_) (fun c_12 => ?_)))
 ·
  replace hx := cond_t c_12 hx
  refine JC.seq (JC.region (JL.val rfl rfl (R.assign rfl) (JL.nil (JN.next (JC.ret (JN.passR (JN.outP (vs := [.bool false]) (K := []) (rst := [_, _, _]) (.inl rfl) rfl rfl (Res.tmp rfl rfl) picks0 ?_)))))))
  obtain rfl := Option.some.inj hx
  exact ⟨rfl, rfl, trivial⟩
 ·
  replace hx := cond_f c_12 hx
  refine JC.skip (JN.next (JC.seq (JC.seq (JC.region (JL.val rfl rfl (R.assign rfl) (JL.nil (JN.next ?_)))))))
  obtain ⟨t_13, ht_15, hx⟩ := bnd_some hx
  refine JC.cut (fun l o g => ∃ t_13a : Unit, ∃ H_20 : Heaplet, l = [] ∧ o = [] ∧ H_20 = g ∧ t_13 = .inl t_13a ∧ Hle Hu_10 H_20) ?_ ?_
  ·
   rintro _ _ _ ⟨t_13a, H_20, rfl, rfl, rfl, rfl, hleH_20⟩
   simp only [Sum.elim_inl] at hx
   refine JN.next (JC.seq (JC.region (JL.val rfl rfl (R.assign rfl) (JL.nil (JN.next (JC.ret (JN.outP (vs := [.bool true]) (K := []) (rst := []) (.inl rfl) rfl rfl (Res.tmp rfl rfl) picks0 ?_)))))))
   obtain rfl := Option.some.inj hx
   exact ⟨rfl, rfl, trivial⟩
  ·
   have hxo_14 := hx; clear hx; have hx := ht_15; clear ht_15
   refine JC.block (JC.front 1 rfl (JC.front 2 rfl (JC.loopI (fun n l o g => ∃ s_16 : Nat, ∃ H_19 : Heaplet, l = [(2, .pointer (some ⟨b_6, 0, none⟩)), (3, .pointer (some ⟨b_7, 0, none⟩)), (5, .slice aor_11 nr_11 capr_11), (7, .int .i64 ((s_16 : Nat) : Int))] ∧ o = [[(b_6, .cells #[.slice aoa_2 na_2 capa_2, .slice aoa_3 na_3 capa_3, .slice aoa_4 na_4 capa_4, .int .u32 (p_1.Epoch.toNat : Int), .int .u32 (p_1.Count.toNat : Int)] 50 (0, 0))], [(b_7, .cells #[.int .i64 p_5.At, .int .u32 (p_5.Birth.toNat : Int), .int .u32 (p_5.Iv.toNat : Int), .int .u32 (p_5.Tag.toNat : Int), .int .u32 (p_5.Sum.toNat : Int)] 28 (0, 0))], Kr_11] ∧ H_19 = g ∧ run (law15_falls_l2 p_1 p_5 x_8) n s_16 = some t_13 ∧ Hle Hu_10 H_19) FUEL ?_ ⟨0, Hu_10, rfl, rfl, rfl, hx, (Hle.refl _)⟩ ⟨rfl, rfl, rfl, rfl, trivial⟩ ?_)))
   ·
    rintro _ _ _ ⟨s_16, H_19, rfl, rfl, rfl, hn_17, hleH_19⟩
    exact run_zero hn_17
   ·
    rintro n_18 _ _ _ ⟨s_16, H_19, rfl, rfl, rfl, hn_17, hleH_19⟩
    clear hx; obtain ⟨oo_21, hx, hd_20⟩ := run_some hn_17
    unfold law15_falls_l2 at hx
    refine JC.seq (JC.seq (JC.region (JL.val rfl rfl (R.move rfl) (JL.val rfl rfl (R.move rfl) (JL.val rfl rfl (R.lenL U53 rfl (RowOf.long hr_11)) (JL.val rfl rfl (R.lss_i rfl rfl) (JL.nil (JN.next (JC.condB rfl (fun c_20 => ?_) (fun c_20 => ?_))))))))))
    ·
     replace hx := cond_t c_20 hx
     refine JC.skip (JN.next (JC.seq (JC.block (JC.seq (JC.seq (JC.region (JL.val rfl rfl (R.move rfl) (JL.val rfl rfl (R.move rfl) ?_))))))))
     obtain ⟨y_21, hN_22, hx⟩ := idx_some hx
     obtain ⟨b_23, o_24, cs_25, cur_30, hK_31, hE_26, hR_27, hl_28, hc_29⟩ := RowOf.elem (hr_11.mono R_Ptr.mono (New.mono hleH_19)) hN_22
     subst hK_31
     obtain rfl := hR_27
     refine JL.val rfl rfl (R.ix U53 S28 rfl rfl hE_26) (JL.val rfl rfl (R.ldoE 2 (cs := [.int .i64 y_21.At, .int .u32 (y_21.Birth.toNat : Int), .int .u32 (y_21.Iv.toNat : Int), .int .u32 (y_21.Tag.toNat : Int), .int .u32 (y_21.Sum.toNat : Int)]) (k := 0) (vs := [.int .i64 y_21.At, .int .u32 (y_21.Birth.toNat : Int), .int .u32 (y_21.Iv.toNat : Int), .int .u32 (y_21.Tag.toNat : Int), .int .u32 (y_21.Sum.toNat : Int)]) S28 rfl rfl hc_29 rfl rfl) (JL.val rfl rfl (R.bldP (vs := []) (cs := [.int .i64 0, .int .u32 ((0 : UInt32).toNat : Int), .int .u32 ((0 : UInt32).toNat : Int), .int .u32 ((0 : UInt32).toNat : Int), .int .u32 ((0 : UInt32).toNat : Int)]) Z28 B28 rfl rfl rfl) (JL.val rfl rfl (R.eqlAgg QU28 QP28 QG28 QF28 rfl rfl (EqF.i (by decide) S3 U3 rfl rfl (EqF.u32 (a := y_21.Birth) (b := (0 : UInt32)) (by decide) S26 U26 rfl rfl (EqF.u32 (a := y_21.Iv) (b := (0 : UInt32)) (by decide) S26 U26 rfl rfl (EqF.u32 (a := y_21.Tag) (b := (0 : UInt32)) (by decide) S26 U26 rfl rfl (EqF.u32 (a := y_21.Sum) (b := (0 : UInt32)) (by decide) S26 U26 rfl rfl EqF.nil)))))) (JL.nil (JN.next (JC.condB rfl (fun c_32 => ?_) (fun c_32 => ?_)))))))
     ·
      replace hx := cond_t c_32 hx
      refine JC.exit (JN.passX (JN.exitSame (JN.next (JC.region (JL.val rfl rfl (R.move rfl) (JL.val rfl rfl (R.inc rfl rfl (of_decide_eq_true c_20) (RowOf.lenI hr_11)) (JL.val rfl rfl (R.assign rfl) (JL.nil ?_))))))))
      replace hx := run_next hd_20 hx
      refine JN.front 2 rfl (JN.front 2 rfl (JN.front 2 rfl ?_))
      exact JN.cut ⟨s_16 + 1, H_19, rfl, rfl, rfl, hx, (hleH_19)⟩ ⟨rfl, rfl, rfl, rfl, trivial⟩ rfl rfl
     ·
      replace hx := cond_f c_32 hx
      refine JC.skip (JN.next (JC.seq (JC.region (JL.val rfl rfl (R.ldoN 0 (vs := [.slice aoa_2 na_2 capa_2, .slice aoa_3 na_3 capa_3, .slice aoa_4 na_4 capa_4, .int .u32 (p_1.Epoch.toNat : Int), .int .u32 (p_1.Count.toNat : Int)]) S50 rfl rfl rfl rfl) (JL.val rfl rfl (R.ldoN 1 (vs := [.int .i64 p_5.At, .int .u32 (p_5.Birth.toNat : Int), .int .u32 (p_5.Iv.toNat : Int), .int .u32 (p_5.Tag.toNat : Int), .int .u32 (p_5.Sum.toNat : Int)]) S28 rfl rfl rfl rfl) (JL.val rfl rfl (R.move rfl) ?_))))))
      obtain ⟨x_33, hr_34, hx⟩ := bnd_some hx
      refine JL.callC (vs := [_, _, _]) (args := [_, _, _]) (K := []) (rst := [_, _, _]) E23 rfl rfl rfl picks0 (set_Object_ok p_1 p_5 ((s_16 : Nat) : Int) _ (ha_2.mono (RSl.mono RU8.mono) (hleu_10.trans hleH_19)) (ha_3.mono R_Write.mono (hleu_10.trans hleH_19)) (ha_4.mono RU8.mono (hleu_10.trans hleH_19)) _ hr_34) rfl (fun u_35 Ku_35 Hu_35 hRu_35 hleu_35 hfu_35 => ?_)
      obtain ⟨aoz_36, nz_36, rfl, rfl, hz_36, -⟩ := hRu_35
      replace hz_36 := IsSlice.mono R_Ptr.mono (New.call (hleu_10.trans hleH_19)) hz_36
      refine JL.val rfl rfl (R.move rfl) (JL.val rfl rfl (R.extract rfl rfl) (JL.val rfl rfl (R.extract rfl rfl) (JL.alloc Z60 rfl (fun b_37 hb_37 => JL.store 0 S60 rfl rfl rfl rfl rfl (Nat.le_of_ble_eq_true rfl) (JL.val rfl rfl (R.assign rfl) (JL.nil (JN.next (JC.seq (JC.seq (JC.draw (so := [_, _, _, _]) 12 rfl Mixed ⟨⟨0, rfl⟩, ⟨1, rfl⟩, ⟨2, rfl⟩, ⟨3, rfl⟩, trivial⟩ (JA.val ⟨by kernel_rfl, by kernel_rfl⟩ (calm_only _) (i := 0) rfl ⟨by kernel_rfl, by kernel_rfl, rfl⟩ trivial (stab_of (Hle.refl _) ⟨⟨0, rfl⟩, ⟨1, rfl⟩, ⟨2, rfl⟩, ⟨3, rfl⟩, trivial⟩) (R.move rfl) rfl ?_)))))))))))
      refine JA.val ⟨by kernel_rfl, by kernel_rfl⟩ (calm_only _) (i := 1) rfl ⟨by kernel_rfl, by kernel_rfl, rfl⟩ trivial (stab_of (Hle.refl _) ⟨⟨0, rfl⟩, ⟨1, rfl⟩, ⟨2, rfl⟩, ⟨3, rfl⟩, trivial⟩) (R.neq_i rfl rfl) rfl (JA.val ⟨by kernel_rfl, by kernel_rfl⟩ (calm_only _) (i := 2) rfl ⟨by kernel_rfl, by kernel_rfl, rfl⟩ trivial (stab_of (Hle.refl _) ⟨⟨0, rfl⟩, ⟨1, rfl⟩, ⟨2, rfl⟩, ⟨3, rfl⟩, trivial⟩) (R.move rfl) rfl (JA.gSplit (t := 40) rfl (fun c_38 => ?_) (fun c_38 => ?_)))
      ·
       replace hx := cond_t c_38 hx
       refine JA.no ⟨by kernel_rfl, by kernel_rfl⟩ (calm_only _) (i := 3) rfl ⟨by kernel_rfl, by kernel_rfl, rfl⟩ rfl rfl rfl rfl (stab_of (Hle.refl _) ⟨⟨0, rfl⟩, ⟨1, rfl⟩, ⟨2, rfl⟩, ⟨3, rfl⟩, trivial⟩) rfl (JA.no ⟨by kernel_rfl, by kernel_rfl⟩ (calm_only _) (i := 4) rfl ⟨by kernel_rfl, by kernel_rfl, rfl⟩ rfl rfl rfl rfl (stab_of (Hle.refl _) ⟨⟨0, rfl⟩, ⟨1, rfl⟩, ⟨2, rfl⟩, ⟨3, rfl⟩, trivial⟩) rfl (JA.no ⟨by kernel_rfl, by kernel_rfl⟩ (calm_only _) (i := 5) rfl ⟨by kernel_rfl, by kernel_rfl, rfl⟩ rfl rfl rfl rfl (stab_of (Hle.refl _) ⟨⟨0, rfl⟩, ⟨1, rfl⟩, ⟨2, rfl⟩, ⟨3, rfl⟩, trivial⟩) rfl (JA.no ⟨by kernel_rfl, by kernel_rfl⟩ (calm_only _) (i := 6) rfl ⟨by kernel_rfl, by kernel_rfl, rfl⟩ rfl rfl rfl rfl (stab_of (Hle.refl _) ⟨⟨0, rfl⟩, ⟨1, rfl⟩, ⟨2, rfl⟩, ⟨3, rfl⟩, trivial⟩) rfl (JA.no ⟨by kernel_rfl, by kernel_rfl⟩ (calm_only _) (i := 7) rfl ⟨by kernel_rfl, by kernel_rfl, rfl⟩ rfl rfl rfl rfl (stab_of (Hle.refl _) ⟨⟨0, rfl⟩, ⟨1, rfl⟩, ⟨2, rfl⟩, ⟨3, rfl⟩, trivial⟩) rfl (JA.no ⟨by kernel_rfl, by kernel_rfl⟩ (calm_only _) (i := 8) rfl ⟨by kernel_rfl, by kernel_rfl, rfl⟩ rfl rfl rfl rfl (stab_of (Hle.refl _) ⟨⟨0, rfl⟩, ⟨1, rfl⟩, ⟨2, rfl⟩, ⟨3, rfl⟩, trivial⟩) rfl (JA.no ⟨by kernel_rfl, by kernel_rfl⟩ (calm_only _) (i := 9) rfl ⟨by kernel_rfl, by kernel_rfl, rfl⟩ rfl rfl rfl rfl (stab_of (Hle.refl _) ⟨⟨0, rfl⟩, ⟨1, rfl⟩, ⟨2, rfl⟩, ⟨3, rfl⟩, trivial⟩) rfl (JA.no ⟨by kernel_rfl, by kernel_rfl⟩ (calm_only _) (i := 10) rfl ⟨by kernel_rfl, by kernel_rfl, rfl⟩ rfl rfl rfl rfl (stab_of (Hle.refl _) ⟨⟨0, rfl⟩, ⟨1, rfl⟩, ⟨2, rfl⟩, ⟨3, rfl⟩, trivial⟩) rfl (JA.val ⟨by kernel_rfl, by kernel_rfl⟩ (calm_only _) (i := 11) rfl ⟨by kernel_rfl, by kernel_rfl, rfl⟩ trivial (stab_of (Hle.refl _) ⟨⟨0, rfl⟩, ⟨1, rfl⟩, ⟨2, rfl⟩, ⟨3, rfl⟩, trivial⟩) (R.pickT rfl rfl) rfl (JA.doneN (by kernel_rfl) (JN.next (JC.condT rfl ?_)))))))))))
       refine JC.seq (JC.region (JL.val rfl rfl (R.assign rfl) (JL.nil (JN.next (JC.ret (JN.passR (JN.blkR (JN.passR ?_))))))))
       obtain rfl := run_done hd_20 hx
       refine JN.passR (JN.blkR ?_)
       clear hx; have hx := hxo_14
       simp only [Sum.elim_inl, Sum.elim_inr] at hx
       refine JN.passR (JN.passR (JN.outP (vs := [.bool false]) (K := []) (rst := [_, _, _, _]) (.inl rfl) rfl rfl (Res.tmp rfl rfl) picks0 ?_))
       obtain rfl := Option.some.inj hx
       exact ⟨rfl, rfl, trivial⟩
      ·
       replace hx := cond_f c_38 hx
       refine JA.val ⟨by kernel_rfl, by kernel_rfl⟩ (calm_only _) (i := 3) rfl ⟨by kernel_rfl, by kernel_rfl, rfl⟩ ⟨_, _, rfl, rfl, rfl⟩ (stab_of (Hle.refl _) ⟨⟨0, rfl⟩, ⟨1, rfl⟩, ⟨2, rfl⟩, ⟨3, rfl⟩, trivial⟩) (R.move rfl) rfl (JA.val ⟨by kernel_rfl, by kernel_rfl⟩ (calm_only _) (i := 4) rfl ⟨by kernel_rfl, by kernel_rfl, rfl⟩ ⟨_, _, rfl, rfl, rfl⟩ (stab_of (Hle.refl _) ⟨⟨0, rfl⟩, ⟨1, rfl⟩, ⟨2, rfl⟩, ⟨3, rfl⟩, trivial⟩) (R.move rfl) rfl ?_)
       obtain ⟨y_39, hN_40, hx⟩ := idx_some hx
       obtain ⟨b_41, o_42, cs_43, cur_48, hK_49, hE_44, hR_45, hl_46, hc_47⟩ := RowOf.elem (hr_11.mono R_Ptr.mono (New.mono (hleH_19.trans hleu_35))) hN_40
       obtain ⟨rfl, rfl⟩ : b_23 = b_41 ∧ cur_30 = cur_48 := by simpa using hK_49
       obtain rfl := hR_45
       refine JA.val ⟨by kernel_rfl, by kernel_rfl⟩ (calm_only _) (i := 5) rfl ⟨by kernel_rfl, by kernel_rfl, rfl⟩ ⟨_, _, rfl, rfl, rfl⟩ (stab_of (Hle.refl _) ⟨⟨0, rfl⟩, ⟨1, rfl⟩, ⟨2, rfl⟩, ⟨3, rfl⟩, trivial⟩) (R.ix U53 S28 rfl rfl hE_44) rfl (JA.val ⟨by kernel_rfl, by kernel_rfl⟩ (calm_only _) (i := 6) rfl ⟨by kernel_rfl, by kernel_rfl, rfl⟩ ⟨_, _, rfl, rfl, rfl⟩ (stab_of (Hle.refl _) ⟨⟨0, rfl⟩, ⟨1, rfl⟩, ⟨2, rfl⟩, ⟨3, rfl⟩, trivial⟩) (R.fa F28_1 rfl) rfl (JA.val ⟨by kernel_rfl, by kernel_rfl⟩ (calm_only _) (i := 7) rfl ⟨by kernel_rfl, by kernel_rfl, rfl⟩ ⟨_, _, rfl, rfl, rfl⟩ (stab_of (Hle.refl _) ⟨⟨0, rfl⟩, ⟨1, rfl⟩, ⟨2, rfl⟩, ⟨3, rfl⟩, trivial⟩) (R.ldo 3 S26 rfl rfl (hc_47 1 _ rfl)) rfl (JA.val ⟨by kernel_rfl, by kernel_rfl⟩ (calm_only _) (i := 8) rfl ⟨by kernel_rfl, by kernel_rfl, rfl⟩ ⟨_, _, rfl, rfl, rfl⟩ (stab_of (Hle.refl _) ⟨⟨0, rfl⟩, ⟨1, rfl⟩, ⟨2, rfl⟩, ⟨3, rfl⟩, trivial⟩) (R.fa F28_1 rfl) rfl (JA.val ⟨by kernel_rfl, by kernel_rfl⟩ (calm_only _) (i := 9) rfl ⟨by kernel_rfl, by kernel_rfl, rfl⟩ ⟨_, _, rfl, rfl, rfl⟩ (stab_of (Hle.refl _) ⟨⟨0, rfl⟩, ⟨1, rfl⟩, ⟨2, rfl⟩, ⟨3, rfl⟩, trivial⟩) (R.ldo 2 S26 rfl rfl rfl) rfl (JA.val ⟨by kernel_rfl, by kernel_rfl⟩ (calm_only _) (i := 10) rfl ⟨by kernel_rfl, by kernel_rfl, rfl⟩ ⟨_, _, rfl, rfl, rfl⟩ (stab_of (Hle.refl _) ⟨⟨0, rfl⟩, ⟨1, rfl⟩, ⟨2, rfl⟩, ⟨3, rfl⟩, trivial⟩) (R.gtr32 (a := y_39.Birth) (b := p_5.Birth) rfl rfl) rfl (JA.val ⟨by kernel_rfl, by kernel_rfl⟩ (calm_only _) (i := 11) rfl ⟨by kernel_rfl, by kernel_rfl, rfl⟩ trivial (stab_of (Hle.refl _) ⟨⟨0, rfl⟩, ⟨1, rfl⟩, ⟨2, rfl⟩, ⟨3, rfl⟩, trivial⟩) (R.pickF rfl rfl) rfl (JA.doneN (by kernel_rfl) (JN.next (JC.condB rfl (fun c_50 => ?_) (fun c_50 => ?_))))))))))
       ·
        replace hx := cond_t c_50 hx
        refine JC.seq (JC.region (JL.val rfl rfl (R.assign rfl) (JL.nil (JN.next (JC.ret (JN.passR (JN.blkR (JN.passR ?_))))))))
        obtain rfl := run_done hd_20 hx
        refine JN.passR (JN.blkR ?_)
        clear hx; have hx := hxo_14
        simp only [Sum.elim_inl, Sum.elim_inr] at hx
        refine JN.passR (JN.passR (JN.outP (vs := [.bool false]) (K := []) (rst := [_, _, _, _]) (.inl rfl) rfl rfl (Res.tmp rfl rfl) picks0 ?_))
        obtain rfl := Option.some.inj hx
        exact ⟨rfl, rfl, trivial⟩
       ·
        replace hx := cond_f c_50 hx
        refine JC.skip (JN.next (JC.seq (JC.region (JL.val rfl rfl (R.assign rfl) (JL.nil (JN.next ?_))))))
        obtain ⟨t_51, ht_53, hx⟩ := bnd_some hx
        refine JC.cut (fun l o g => ∃ t_51a : Unit, l = [(2, .pointer (some ⟨b_6, 0, none⟩)), (3, .pointer (some ⟨b_7, 0, none⟩)), (5, .slice aor_11 nr_11 capr_11), (7, .int .i64 ((s_16 : Nat) : Int))] ∧ o = [[(b_6, .cells #[.slice aoa_2 na_2 capa_2, .slice aoa_3 na_3 capa_3, .slice aoa_4 na_4 capa_4, .int .u32 (p_1.Epoch.toNat : Int), .int .u32 (p_1.Count.toNat : Int)] 50 (0, 0))], [(b_7, .cells #[.int .i64 p_5.At, .int .u32 (p_5.Birth.toNat : Int), .int .u32 (p_5.Iv.toNat : Int), .int .u32 (p_5.Tag.toNat : Int), .int .u32 (p_5.Sum.toNat : Int)] 28 (0, 0))], [(b_23, .cells cur_30 28 (0, 0))]] ∧ Hu_35 = g ∧ t_51 = .inl t_51a) ?_ ?_
        ·
         rintro _ _ _ ⟨t_51a, rfl, rfl, rfl, rfl⟩
         simp only [Sum.elim_inl] at hx
         refine JN.blkN (JN.next (JC.region (JL.val rfl rfl (R.move rfl) (JL.val rfl rfl (R.inc rfl rfl (of_decide_eq_true c_20) (RowOf.lenI hr_11)) (JL.val rfl rfl (R.assign rfl) (JL.nil ?_))))))
         replace hx := run_next hd_20 hx
         refine JN.front 2 rfl (JN.front 2 rfl (JN.front 2 rfl ?_))
         exact JN.cut ⟨s_16 + 1, Hu_35, rfl, rfl, rfl, hx, ((hleH_19.trans hleu_35))⟩ ⟨rfl, rfl, rfl, rfl, trivial⟩ rfl rfl
        ·
         have hxo_52 := hx; clear hx; have hx := ht_53; clear ht_53
         refine JC.block (JC.front 3 rfl (JC.front 3 rfl (JC.front 3 rfl (JC.loopI (fun n l o g => ∃ s_54 : Nat, l = [(2, .pointer (some ⟨b_6, 0, none⟩)), (3, .pointer (some ⟨b_7, 0, none⟩)), (5, .slice aor_11 nr_11 capr_11), (7, .int .i64 ((s_16 : Nat) : Int)), (8, .pointer (some ⟨b_37, 0, none⟩)), (10, .int .i64 ((s_54 : Nat) : Int))] ∧ o = [[(b_6, .cells #[.slice aoa_2 na_2 capa_2, .slice aoa_3 na_3 capa_3, .slice aoa_4 na_4 capa_4, .int .u32 (p_1.Epoch.toNat : Int), .int .u32 (p_1.Count.toNat : Int)] 50 (0, 0))], [(b_7, .cells #[.int .i64 p_5.At, .int .u32 (p_5.Birth.toNat : Int), .int .u32 (p_5.Iv.toNat : Int), .int .u32 (p_5.Tag.toNat : Int), .int .u32 (p_5.Sum.toNat : Int)] 28 (0, 0))], [(b_23, .cells cur_30 28 (0, 0))], [(b_37, .cells #[.int .u8 (x_33.1.Kind.toNat : Int), .int .i64 x_33.1.Links, .int .i64 x_33.1.Size, .slice aoz_36 nz_36 nz_36] 60 (0, 0))]] ∧ Hu_35 = g ∧ run (law15_falls_l1 x_8 s_16 x_33) n s_54 = some t_51) FUEL ?_ ⟨0, rfl, rfl, rfl, hx⟩ ⟨rfl, rfl, rfl, rfl, rfl, rfl, trivial⟩ ?_))))
         ·
          rintro _ _ _ ⟨s_54, rfl, rfl, rfl, hn_55⟩
          exact run_zero hn_55
         ·
          rintro n_56 _ _ _ ⟨s_54, rfl, rfl, rfl, hn_55⟩
          clear hx; obtain ⟨oo_58, hx, hd_57⟩ := run_some hn_55
          unfold law15_falls_l1 at hx
          refine JC.seq (JC.seq (JC.region (JL.val rfl rfl (R.move rfl) (JL.val rfl rfl (R.fa F60_3 rfl) (JL.val rfl rfl (R.ldo 3 S53 rfl rfl rfl) (JL.val rfl rfl (R.lenL U53 rfl (IsSlice.long hz_36)) (JL.val rfl rfl (R.lss_i rfl rfl) (JL.nil (JN.next (JC.condB rfl (fun c_57 => ?_) (fun c_57 => ?_)))))))))))
          ·
           replace hx := cond_t c_57 hx
           refine JC.skip (JN.next (JC.seq (JC.block (JC.seq (JC.draw (so := [_, _, _, _]) 12 rfl Mixed ⟨⟨0, rfl⟩, ⟨1, rfl⟩, ⟨2, rfl⟩, ⟨3, rfl⟩, trivial⟩ (JA.val ⟨by kernel_rfl, by kernel_rfl⟩ (calm_only _) (i := 0) rfl ⟨by kernel_rfl, by kernel_rfl, rfl⟩ trivial (stab_of (Hle.refl _) ⟨⟨0, rfl⟩, ⟨1, rfl⟩, ⟨2, rfl⟩, ⟨3, rfl⟩, trivial⟩) (R.fa F60_3 rfl) rfl (JA.val ⟨by kernel_rfl, by kernel_rfl⟩ (calm_only _) (i := 1) rfl ⟨by kernel_rfl, by kernel_rfl, rfl⟩ trivial (stab_of (Hle.refl _) ⟨⟨0, rfl⟩, ⟨1, rfl⟩, ⟨2, rfl⟩, ⟨3, rfl⟩, trivial⟩) (R.ldo 3 S53 rfl rfl rfl) rfl (JA.val ⟨by kernel_rfl, by kernel_rfl⟩ (calm_only _) (i := 2) rfl ⟨by kernel_rfl, by kernel_rfl, rfl⟩ trivial (stab_of (Hle.refl _) ⟨⟨0, rfl⟩, ⟨1, rfl⟩, ⟨2, rfl⟩, ⟨3, rfl⟩, trivial⟩) (R.move rfl) rfl ?_))))))))
           obtain ⟨y_58, hN_59, hx⟩ := idx_some hx
           obtain ⟨b_60, o_61, cs_62, hE_63, hR_64, hl_65, hc_66⟩ := IsSlice.elem hz_36 hN_59
           obtain rfl := hR_64
           refine JA.val ⟨by kernel_rfl, by kernel_rfl⟩ (calm_only _) (i := 3) rfl ⟨by kernel_rfl, by kernel_rfl, rfl⟩ trivial (stab_of (Hle.refl _) ⟨⟨0, rfl⟩, ⟨1, rfl⟩, ⟨2, rfl⟩, ⟨3, rfl⟩, trivial⟩) (R.ix U53 S28 rfl rfl hE_63) rfl (JA.val ⟨by kernel_rfl, by kernel_rfl⟩ (calm_only _) (i := 4) rfl ⟨by kernel_rfl, by kernel_rfl, rfl⟩ trivial (stab_of (Hle.refl _) ⟨⟨0, rfl⟩, ⟨1, rfl⟩, ⟨2, rfl⟩, ⟨3, rfl⟩, trivial⟩) (R.fa F28_1 rfl) rfl (JA.val ⟨by kernel_rfl, by kernel_rfl⟩ (calm_only _) (i := 5) rfl ⟨by kernel_rfl, by kernel_rfl, rfl⟩ trivial (stab_of (Hle.refl _) ⟨⟨0, rfl⟩, ⟨1, rfl⟩, ⟨2, rfl⟩, ⟨3, rfl⟩, trivial⟩) (R.ldH S26 rfl ((fun j u e => New.le _ _ _ _ _ (hc_66 j u e)) 1 _ rfl)) rfl (JA.val ⟨by kernel_rfl, by kernel_rfl⟩ (calm_only _) (i := 6) rfl ⟨by kernel_rfl, by kernel_rfl, rfl⟩ trivial (stab_of (Hle.refl _) ⟨⟨0, rfl⟩, ⟨1, rfl⟩, ⟨2, rfl⟩, ⟨3, rfl⟩, trivial⟩) (R.move rfl) rfl (JA.val ⟨by kernel_rfl, by kernel_rfl⟩ (calm_only _) (i := 7) rfl ⟨by kernel_rfl, by kernel_rfl, rfl⟩ trivial (stab_of (Hle.refl _) ⟨⟨0, rfl⟩, ⟨1, rfl⟩, ⟨2, rfl⟩, ⟨3, rfl⟩, trivial⟩) (R.move rfl) rfl ?_))))
           obtain ⟨y_67, hN_68, hx⟩ := idx_some hx
           obtain ⟨b_69, o_70, cs_71, cur_76, hK_77, hE_72, hR_73, hl_74, hc_75⟩ := RowOf.elem (hr_11.mono R_Ptr.mono (New.mono (hleH_19.trans hleu_35))) hN_68
           obtain ⟨rfl, rfl⟩ : b_23 = b_69 ∧ cur_30 = cur_76 := by simpa using hK_77
           obtain rfl := hR_73
           refine JA.val ⟨by kernel_rfl, by kernel_rfl⟩ (calm_only _) (i := 8) rfl ⟨by kernel_rfl, by kernel_rfl, rfl⟩ trivial (stab_of (Hle.refl _) ⟨⟨0, rfl⟩, ⟨1, rfl⟩, ⟨2, rfl⟩, ⟨3, rfl⟩, trivial⟩) (R.ix U53 S28 rfl rfl hE_72) rfl (JA.val ⟨by kernel_rfl, by kernel_rfl⟩ (calm_only _) (i := 9) rfl ⟨by kernel_rfl, by kernel_rfl, rfl⟩ trivial (stab_of (Hle.refl _) ⟨⟨0, rfl⟩, ⟨1, rfl⟩, ⟨2, rfl⟩, ⟨3, rfl⟩, trivial⟩) (R.fa F28_1 rfl) rfl (JA.val ⟨by kernel_rfl, by kernel_rfl⟩ (calm_only _) (i := 10) rfl ⟨by kernel_rfl, by kernel_rfl, rfl⟩ trivial (stab_of (Hle.refl _) ⟨⟨0, rfl⟩, ⟨1, rfl⟩, ⟨2, rfl⟩, ⟨3, rfl⟩, trivial⟩) (R.ldo 2 S26 rfl rfl (hc_75 1 _ rfl)) rfl (JA.val ⟨by kernel_rfl, by kernel_rfl⟩ (calm_only _) (i := 11) rfl ⟨by kernel_rfl, by kernel_rfl, rfl⟩ trivial (stab_of (Hle.refl _) ⟨⟨0, rfl⟩, ⟨1, rfl⟩, ⟨2, rfl⟩, ⟨3, rfl⟩, trivial⟩) (R.gtr32 (a := y_58.Birth) (b := y_67.Birth) rfl rfl) rfl (JA.doneN (by kernel_rfl) (JN.next (JC.condB rfl (fun c_78 => ?_) (fun c_78 => ?_)))))))
           ·
            replace hx := cond_t c_78 hx
            refine JC.seq (JC.region (JL.val rfl rfl (R.assign rfl) (JL.nil (JN.next (JC.ret (JN.blkR (JN.passR ?_)))))))
            obtain rfl := run_done hd_57 hx
            refine JN.passR (JN.blkR ?_)
            clear hx; have hx := hxo_52
            simp only [Sum.elim_inl, Sum.elim_inr] at hx
            refine JN.passR (JN.blkR (JN.passR ?_))
            obtain rfl := run_done hd_20 hx
            refine JN.passR (JN.blkR ?_)
            clear hx; have hx := hxo_14
            simp only [Sum.elim_inl, Sum.elim_inr] at hx
            refine JN.passR (JN.passR (JN.outP (vs := [.bool false]) (K := []) (rst := [_, _, _, _]) (.inl rfl) rfl rfl (Res.tmp rfl rfl) picks0 ?_))
            obtain rfl := Option.some.inj hx
            exact ⟨rfl, rfl, trivial⟩
           ·
            replace hx := cond_f c_78 hx
            refine JC.skip (JN.blkN (JN.next (JC.region (JL.val rfl rfl (R.move rfl) (JL.val rfl rfl (R.inc rfl rfl (of_decide_eq_true c_57) (IsSlice.lenI hz_36)) (JL.val rfl rfl (R.assign rfl) (JL.nil ?_)))))))
            replace hx := run_next hd_57 hx
            refine JN.front 3 rfl (JN.front 3 rfl (JN.front 3 rfl (JN.front 3 rfl ?_)))
            exact JN.cut ⟨s_54 + 1, rfl, rfl, rfl, hx⟩ ⟨rfl, rfl, rfl, rfl, rfl, rfl, trivial⟩ rfl rfl
          ·
           replace hx := cond_f c_57 hx
           refine JC.exit (JN.passX ?_)
           obtain rfl := run_done hd_57 hx
           refine JN.passX (JN.exitSame (JN.forget 3 (JN.front 2 rfl (JN.front 2 rfl (JN.front 2 rfl ?_)))))
           exact JN.cut ⟨(), rfl, rfl, rfl, rfl⟩ ⟨rfl, rfl, rfl, rfl, trivial⟩ rfl rfl
    ·
     replace hx := cond_f c_20 hx
     refine JC.exit (JN.passX ?_)
     obtain rfl := run_done hd_20 hx
     refine JN.passX (JN.exitSame (JN.forget 2 (JN.forget 1 (JN.forget 0 ?_))))
     exact JN.cut ⟨(), H_19, rfl, rfl, rfl, rfl, (hleH_19)⟩ trivial rfl rfl

set_option maxHeartbeats 8000000 in
theorem law15_SetYoung_ok (p_1 : Store) (p_5 : Ptr) (p_6 : UInt32) (H : Heaplet) {aoa_2 : Option Addr} {na_2 : Nat} {capa_2 : Nat} {aoa_3 : Option Addr} {na_3 : Nat} {capa_3 : Nat} {aoa_4 : Option Addr} {na_4 : Nat} {capa_4 : Nat} (ha_2 : IsSlice H (RSl RU8 1) 1 (.slice aoa_2 na_2 capa_2) p_1.Disk.Blocks) (ha_3 : IsSlice H R_Write 2 (.slice aoa_3 na_3 capa_3) p_1.Disk.Waits) (ha_4 : IsSlice H RU8 1 (.slice aoa_4 na_4 capa_4) p_1.Space) (r : Bool) (hx : law15_SetYoung p_1 p_5 p_6 = some r) :
  Does Try.prog 6 #[.agg #[.slice aoa_2 na_2 capa_2, .slice aoa_3 na_3 capa_3, .slice aoa_4 na_4 capa_4, .int .u32 (p_1.Epoch.toNat : Int), .int .u32 (p_1.Count.toNat : Int)], .agg #[.int .i64 p_5.At, .int .u32 (p_5.Birth.toNat : Int), .int .u32 (p_5.Iv.toNat : Int), .int .u32 (p_5.Tag.toNat : Int), .int .u32 (p_5.Sum.toNat : Int)], .int .u32 (p_6.toNat : Int)] [] H (fun u K' H' => u = .bool r ∧ K' = [] ∧ True) := by
 refine Does.enterL (vs := [.agg #[.slice aoa_2 na_2 capa_2, .slice aoa_3 na_3 capa_3, .slice aoa_4 na_4 capa_4, .int .u32 (p_1.Epoch.toNat : Int), .int .u32 (p_1.Count.toNat : Int)], .agg #[.int .i64 p_5.At, .int .u32 (p_5.Birth.toNat : Int), .int .u32 (p_5.Iv.toNat : Int), .int .u32 (p_5.Tag.toNat : Int), .int .u32 (p_5.Sum.toNat : Int)], .int .u32 (p_6.toNat : Int)]) (l := [(0, .agg #[.slice aoa_2 na_2 capa_2, .slice aoa_3 na_3 capa_3, .slice aoa_4 na_4 capa_4, .int .u32 (p_1.Epoch.toNat : Int), .int .u32 (p_1.Count.toNat : Int)]), (1, .agg #[.int .i64 p_5.At, .int .u32 (p_5.Birth.toNat : Int), .int .u32 (p_5.Iv.toNat : Int), .int .u32 (p_5.Tag.toNat : Int), .int .u32 (p_5.Sum.toNat : Int)]), (2, .int .u32 (p_6.toNat : Int))]) Try.func6 rfl rfl ⟨rfl, rfl, rfl, trivial⟩ (fun w hlt => ?_)
 unfold law15_SetYoung at hx
 refine JC.seq (JC.region (JL.box rfl rfl (fun b_7 hb_7 => JL.box rfl rfl (fun b_8 hb_8 => JL.val rfl rfl (R.assign rfl) (JL.nil (JN.next (JC.seq (JC.region ?_))))))))
 obtain ⟨x_9, hr_10, hx⟩ := bnd_some hx
 refine JL.callC (vs := []) (args := []) (K := []) (rst := [_, _]) E19 rfl rfl rfl picks0 (law15_alive_ok _ _ hr_10) rfl (fun u_11 Ku_11 Hu_11 hRu_11 hleu_11 hfu_11 => ?_)
 obtain ⟨rfl, rfl, -⟩ := hRu_11
 refine JL.val rfl rfl (R.assign rfl) (JL.nil (JN.next (JC.seq (JC.seq (JC.region (JL.val rfl rfl (R.move rfl) (JL.val rfl rfl (R.not rfl) (JL.nil (JN.next (JC.condB rfl (fun c_12 => ?_) (fun c_12 => ?_)))))))))))
 ·
  replace hx := cond_t c_12 hx
  refine JC.seq (JC.region (JL.val rfl rfl (R.assign rfl) (JL.nil (JN.next (JC.ret (JN.passR (JN.outP (vs := [.bool false]) (K := []) (rst := [_, _]) (.inl rfl) rfl rfl (Res.tmp rfl rfl) picks0 ?_)))))))
  obtain rfl := Option.some.inj hx
  exact ⟨rfl, rfl, trivial⟩
 ·
  replace hx := cond_f c_12 hx
  refine JC.skip (JN.next (JC.seq (JC.seq (JC.region (JL.val rfl rfl (R.ldoN 1 (vs := [.slice aoa_2 na_2 capa_2, .slice aoa_3 na_3 capa_3, .slice aoa_4 na_4 capa_4, .int .u32 (p_1.Epoch.toNat : Int), .int .u32 (p_1.Count.toNat : Int)]) S50 rfl rfl rfl rfl) ?_)))))
  obtain ⟨x_13, hr_14, hx⟩ := bnd_some hx
  refine JL.callC (vs := [_]) (args := [_]) (K := []) (rst := [_, _]) E20 rfl rfl rfl picks0 (ref13_Great_ok p_1 _ (ha_2.mono (RSl.mono RU8.mono) hleu_11) (ha_3.mono R_Write.mono hleu_11) (ha_4.mono RU8.mono hleu_11) _ hr_14) rfl (fun u_15 Ku_15 Hu_15 hRu_15 hleu_15 hfu_15 => ?_)
  obtain ⟨rfl, rfl, rfl, -⟩ := hRu_15
  refine JL.val rfl rfl (R.move rfl) (JL.gSplit (t := 19) rfl (fun c_16 => ?_) (fun c_16 => ?_))
  ·
   replace hx := cond_t c_16 hx
   refine JL.gNo rfl rfl rfl rfl rfl (JL.gNo rfl rfl rfl rfl rfl (JL.gNo rfl rfl rfl rfl rfl (JL.gNo rfl rfl rfl rfl rfl (JL.val rfl rfl (R.pickT rfl rfl) (JL.nil (JN.next (JC.condT rfl (JC.seq (JC.region (JL.val rfl rfl (R.move rfl) (JL.val rfl rfl (R.assign rfl) ?_)))))))))))
   refine JL.nil (JN.next (JC.ret (JN.passR (JN.outP (vs := [.bool x_9]) (K := []) (rst := [_, _]) (.inl rfl) rfl rfl (Res.tmp rfl rfl) picks0 ?_))))
   obtain rfl := Option.some.inj hx
   exact ⟨rfl, rfl, trivial⟩
  ·
   replace hx := cond_f c_16 hx
   refine JL.gYes rfl rfl rfl (JL.val rfl rfl (R.ldoN 1 (vs := [.slice aoa_2 na_2 capa_2, .slice aoa_3 na_3 capa_3, .slice aoa_4 na_4 capa_4, .int .u32 (p_1.Epoch.toNat : Int), .int .u32 (p_1.Count.toNat : Int)]) S50 rfl rfl rfl rfl) (JL.gYes rfl rfl rfl (JL.val rfl rfl (R.ldoN 0 (vs := [.int .i64 p_5.At, .int .u32 (p_5.Birth.toNat : Int), .int .u32 (p_5.Iv.toNat : Int), .int .u32 (p_5.Tag.toNat : Int), .int .u32 (p_5.Sum.toNat : Int)]) S28 rfl rfl rfl rfl) (JL.gYes rfl rfl rfl ?_))))
   obtain ⟨x_17, hr_18, hx⟩ := bnd_some hx
   refine JL.callC (vs := [_, _]) (args := [_, _]) (K := []) (rst := [_, _]) E25 rfl rfl rfl picks0 (law15_falls_ok p_1 p_5 _ (ha_2.mono (RSl.mono RU8.mono) hleu_11) (ha_3.mono R_Write.mono hleu_11) (ha_4.mono RU8.mono hleu_11) _ hr_18) rfl (fun u_19 Ku_19 Hu_19 hRu_19 hleu_19 hfu_19 => ?_)
   obtain ⟨rfl, rfl, -⟩ := hRu_19
   refine JL.gYes rfl rfl rfl (JL.val rfl rfl (R.not rfl) (JL.val rfl rfl (R.pickF rfl rfl) (JL.nil (JN.next (JC.condB rfl (fun c_20 => ?_) (fun c_20 => ?_))))))
   ·
    replace hx := cond_t c_20 hx
    refine JC.seq (JC.region (JL.val rfl rfl (R.move rfl) (JL.val rfl rfl (R.assign rfl) (JL.nil (JN.next (JC.ret (JN.passR (JN.outP (vs := [.bool x_9]) (K := []) (rst := [_, _]) (.inl rfl) rfl rfl (Res.tmp rfl rfl) picks0 ?_))))))))
    obtain rfl := Option.some.inj hx
    exact ⟨rfl, rfl, trivial⟩
   ·
    replace hx := cond_f c_20 hx
    refine JC.skip (JN.next (JC.seq (JC.region (JL.val rfl rfl (R.ldoN 1 (vs := [.slice aoa_2 na_2 capa_2, .slice aoa_3 na_3 capa_3, .slice aoa_4 na_4 capa_4, .int .u32 (p_1.Epoch.toNat : Int), .int .u32 (p_1.Count.toNat : Int)]) S50 rfl rfl rfl rfl) (JL.val rfl rfl (R.ldoN 0 (vs := [.int .i64 p_5.At, .int .u32 (p_5.Birth.toNat : Int), .int .u32 (p_5.Iv.toNat : Int), .int .u32 (p_5.Tag.toNat : Int), .int .u32 (p_5.Sum.toNat : Int)]) S28 rfl rfl rfl rfl) ?_)))))
    obtain ⟨x_21, hr_22, hx⟩ := bnd_some hx
    refine JL.callC (vs := [_, _, _]) (args := [_, _, _]) (K := []) (rst := [_, _]) E21 rfl rfl rfl picks0 (set_Walk_ok p_1 p_5 (0 : UInt32) _ (ha_2.mono (RSl.mono RU8.mono) (hleu_11.trans hleu_19)) (ha_3.mono R_Write.mono (hleu_11.trans hleu_19)) (ha_4.mono RU8.mono (hleu_11.trans hleu_19)) _ hr_22) rfl (fun u_23 Ku_23 Hu_23 hRu_23 hleu_23 hfu_23 => ?_)
    obtain ⟨aor_24, nr_24, capr_24, Kr_24, rfl, rfl, hr_24, hnewr_24, -⟩ := hRu_23
    replace hr_24 := (RowOf.base (RowOf.const (H2 := New H Hu_23) R_Ptr.const hr_24) (fun p hp => (hfu_23 p (mem_seg 0 rfl hp)).resolve_left (hnewr_24 p hp)))
    refine JL.val rfl rfl (R.move rfl) (JL.val rfl rfl (R.extract rfl rfl) (JL.val rfl rfl (R.extract rfl rfl) (JL.val rfl rfl (R.assign rfl) (JL.val rfl rfl (R.assign rfl) (JL.nil (JN.next (JC.seq (JC.region (JL.val rfl rfl (R.ldoN 2 (vs := [.slice aoa_2 na_2 capa_2, .slice aoa_3 na_3 capa_3, .slice aoa_4 na_4 capa_4, .int .u32 (p_1.Epoch.toNat : Int), .int .u32 (p_1.Count.toNat : Int)]) S50 rfl rfl rfl rfl) (JL.val rfl rfl (R.ldoN 1 (vs := [.int .i64 p_5.At, .int .u32 (p_5.Birth.toNat : Int), .int .u32 (p_5.Iv.toNat : Int), .int .u32 (p_5.Tag.toNat : Int), .int .u32 (p_5.Sum.toNat : Int)]) S28 rfl rfl rfl rfl) (JL.val rfl rfl (R.move rfl) ?_)))))))))))
    obtain ⟨x_25, hr_26, hx⟩ := bnd_some hx
    refine JL.callC (vs := [_, _, _]) (args := [_, _, _]) (K := []) (rst := [_, _, _]) E21 rfl rfl rfl picks0 (set_Walk_ok p_1 p_5 p_6 _ (ha_2.mono (RSl.mono RU8.mono) (hleu_11.trans (hleu_19.trans hleu_23))) (ha_3.mono R_Write.mono (hleu_11.trans (hleu_19.trans hleu_23))) (ha_4.mono RU8.mono (hleu_11.trans (hleu_19.trans hleu_23))) _ hr_26) rfl (fun u_27 Ku_27 Hu_27 hRu_27 hleu_27 hfu_27 => ?_)
    obtain ⟨aor_28, nr_28, capr_28, Kr_28, rfl, rfl, hr_28, hnewr_28, -⟩ := hRu_27
    replace hr_28 := (RowOf.base (RowOf.const (H2 := New H Hu_27) R_Ptr.const hr_28) (fun p hp => (hfu_27 p (mem_seg 0 rfl hp)).resolve_left (hnewr_28 p hp)))
    refine JL.val rfl rfl (R.move rfl) (JL.val rfl rfl (R.extract rfl rfl) (JL.val rfl rfl (R.extract rfl rfl) (JL.val rfl rfl (R.assign rfl) (JL.val rfl rfl (R.assign rfl) (JL.nil (JN.next (JC.seq (JC.seq (JC.region (JL.val rfl rfl (R.move rfl) (JL.val rfl rfl (R.neq_i rfl rfl) ?_)))))))))))
    refine JL.val rfl rfl (R.move rfl) (JL.gSplit (t := 41) rfl (fun c_29 => ?_) (fun c_29 => ?_))
    ·
     replace hx := cond_t c_29 hx
     refine JL.gNo rfl rfl rfl rfl rfl (JL.gNo rfl rfl rfl rfl rfl (JL.val rfl rfl (R.pickT rfl rfl) (JL.val rfl rfl (R.move rfl) (JL.gNo rfl rfl rfl rfl rfl (JL.gNo rfl rfl rfl rfl rfl (JL.gNo rfl rfl rfl rfl rfl (JL.val rfl rfl (R.pickT rfl rfl) (JL.nil (JN.next (JC.condT rfl (JC.seq ?_)))))))))))
     refine JC.region (JL.val rfl rfl (R.assign rfl) (JL.nil (JN.next (JC.ret (JN.passR (JN.outP (vs := [.bool false]) (K := []) (rst := [_, _, _, _]) (.inl rfl) rfl rfl (Res.tmp rfl rfl) picks0 ?_))))))
     obtain rfl := Option.some.inj hx
     exact ⟨rfl, rfl, trivial⟩
    ·
     replace hx := cond_f c_29 hx
     refine JL.gYes rfl rfl rfl (JL.val rfl rfl (R.move rfl) (JL.gYes rfl rfl rfl (JL.val rfl rfl (R.neq_i rfl rfl) (JL.val rfl rfl (R.pickF rfl rfl) (JL.val rfl rfl (R.move rfl) (JL.gSplit (t := 45) rfl (fun c_30 => ?_) (fun c_30 => ?_)))))))
     ·
      replace hx := cond_t c_30 hx
      refine JL.gNo rfl rfl rfl rfl rfl (JL.gNo rfl rfl rfl rfl rfl (JL.gNo rfl rfl rfl rfl rfl (JL.val rfl rfl (R.pickT rfl rfl) (JL.nil (JN.next (JC.condT rfl (JC.seq (JC.region (JL.val rfl rfl (R.assign rfl) (JL.nil (JN.next ?_)))))))))))
      refine JC.ret (JN.passR (JN.outP (vs := [.bool false]) (K := []) (rst := [_, _, _, _]) (.inl rfl) rfl rfl (Res.tmp rfl rfl) picks0 ?_))
      obtain rfl := Option.some.inj hx
      exact ⟨rfl, rfl, trivial⟩
     ·
      replace hx := cond_f c_30 hx
      refine JL.gYes rfl rfl rfl (JL.val rfl rfl (R.move rfl) (JL.gYes rfl rfl rfl (JL.val rfl rfl (R.lenL U53 rfl (RowOf.long hr_24)) (JL.gYes rfl rfl rfl (JL.val rfl rfl (R.gtr_i rfl rfl) (JL.val rfl rfl (R.pickF rfl rfl) (JL.nil (JN.next (JC.tidyP (l' := [(2, .int .u32 (p_6.toNat : Int)), (4, .pointer (some ⟨b_8, 0, none⟩)), (6, .bool false), (7, .bool x_9), (8, .slice aor_24 nr_24 capr_24), (10, .slice aor_28 nr_28 capr_28), (49, .bool (decide (257 < (x_21.1.length : Int))))]) (own' := [Kr_28, Kr_24, [(b_8, .cells #[.int .i64 p_5.At, .int .u32 (p_5.Birth.toNat : Int), .int .u32 (p_5.Iv.toNat : Int), .int .u32 (p_5.Tag.toNat : Int), .int .u32 (p_5.Sum.toNat : Int)] 28 (0, 0))]]) (rst := [_]) ⟨rfl, rfl, rfl, rfl, rfl, rfl, rfl, trivial⟩ (picks 0 rfl (picks 0 rfl (picks 0 rfl picks0))) (JC.condB rfl (fun c_31 => ?_) (fun c_31 => ?_)))))))))))
      ·
       replace hx := cond_t c_31 hx
       refine JC.seq (JC.region (JL.val rfl rfl (R.assign rfl) (JL.nil (JN.next (JC.ret (JN.passR (JN.outP (vs := [.bool false]) (K := []) (rst := [_, _, _]) (.inl rfl) rfl rfl (Res.tmp rfl rfl) picks0 ?_)))))))
       obtain rfl := Option.some.inj hx
       exact ⟨rfl, rfl, trivial⟩
      ·
       replace hx := cond_f c_31 hx
       refine JC.skip (JN.next (JC.seq (JC.region (JL.val rfl rfl (R.assign rfl) (JL.nil (JN.next (JC.seq (JC.seq (JC.region (JL.val rfl rfl (R.assign rfl) (JL.nil ?_)))))))))))
       refine JN.next ?_
       obtain ⟨t_32, ht_34, hx⟩ := bnd_some hx
       refine JC.cut (fun l o g => ∃ t_32a : Int, l = [(2, .int .u32 (p_6.toNat : Int)), (4, .pointer (some ⟨b_8, 0, none⟩)), (7, .bool x_9), (10, .slice aor_28 nr_28 capr_28), (12, .int .i64 t_32a)] ∧ o = [[(b_8, .cells #[.int .i64 p_5.At, .int .u32 (p_5.Birth.toNat : Int), .int .u32 (p_5.Iv.toNat : Int), .int .u32 (p_5.Tag.toNat : Int), .int .u32 (p_5.Sum.toNat : Int)] 28 (0, 0))], Kr_28] ∧ Hu_27 = g ∧ t_32 = .inl t_32a) ?_ ?_
       ·
        rintro _ _ _ ⟨t_32a, rfl, rfl, rfl, rfl⟩
        simp only [Sum.elim_inl] at hx
        refine JN.next (JC.seq ?_)
        obtain ⟨t_38, ht_40, hx⟩ := bnd_some hx
        refine JC.cut (fun l o g => l = [(6, .bool t_38)] ∧ o = [] ∧ Hu_27 = g) ?_ ?_
        ·
         rintro _ _ _ ⟨rfl, rfl, rfl⟩
         refine JN.next (JC.ret (JN.outP (vs := [.bool t_38]) (K := []) (rst := []) (.inl rfl) rfl rfl (Res.tmp rfl rfl) picks0 ?_))
         obtain rfl := Option.some.inj hx
         exact ⟨rfl, rfl, trivial⟩
        ·
         have hxo_39 := hx; clear hx; have hx := ht_40; clear ht_40
         refine JC.region (JL.val rfl rfl (R.move rfl) (JL.val rfl rfl (R.move rfl) (JL.gSplit (t := 81) rfl (fun c_41 => ?_) (fun c_41 => ?_))))
         ·
          replace hx := cond_t c_41 hx
          refine JL.gYes rfl rfl rfl (JL.val rfl rfl (R.move rfl) (JL.gYes rfl rfl rfl (JL.val rfl rfl (R.move rfl) (JL.gYes rfl rfl rfl (JL.val rfl rfl (R.lenL U53 rfl (RowOf.long hr_28)) (JL.gYes rfl rfl rfl (JL.val rfl rfl (R.eql_i rfl rfl) (JL.val rfl rfl (R.pickT rfl rfl) (JL.val rfl rfl (R.move rfl) (JL.gSplit (t := 87) rfl (fun c_42 => ?_) (fun c_42 => ?_)))))))))))
          ·
           replace hx := cond_t c_42 hx
           refine JL.gYes rfl rfl rfl (JL.val rfl rfl (R.move rfl) (JL.gYes rfl rfl rfl (JL.val rfl rfl (R.fa F28_1 rfl) (JL.gYes rfl rfl rfl (JL.val rfl rfl (R.ldo 0 S26 rfl rfl rfl) (JL.gYes rfl rfl rfl (JL.val rfl rfl (R.lss32 (a := p_6) (b := p_5.Birth) rfl rfl) (JL.gYes rfl rfl rfl (JL.val rfl rfl (R.move rfl) (JL.gSplit (t := 92) rfl (fun c_43 => ?_) (fun c_43 => ?_)))))))))))
           ·
            replace hx := cond_t c_43 hx
            refine JL.gNo rfl rfl rfl rfl rfl (JL.gNo rfl rfl rfl rfl rfl (JL.gNo rfl rfl rfl rfl rfl (JL.gYes rfl rfl rfl (JL.val rfl rfl (R.pickT rfl rfl) (JL.val rfl rfl (R.pickT rfl rfl) (JL.val rfl rfl (R.assign rfl) (JL.nil ?_)))))))
            obtain rfl := Option.some.inj hx
            refine JN.forget 1 (JN.forget 0 ?_)
            exact JN.cut ⟨rfl, rfl, rfl⟩ ⟨rfl, trivial⟩ rfl rfl
           ·
            replace hx := cond_f c_43 hx
            refine JL.gYes rfl rfl rfl (JL.val rfl rfl (R.move rfl) (JL.gYes rfl rfl rfl (JL.val rfl rfl (R.lenL U53 rfl (RowOf.long hr_28)) (JL.gYes rfl rfl rfl (JL.val rfl rfl (R.eql_i rfl rfl) (JL.gYes rfl rfl rfl (JL.val rfl rfl (R.pickF rfl rfl) (JL.val rfl rfl (R.pickT rfl rfl) (JL.val rfl rfl (R.assign rfl) (JL.nil ?_))))))))))
            obtain rfl := Option.some.inj hx
            refine JN.forget 1 (JN.forget 0 ?_)
            exact JN.cut ⟨rfl, rfl, rfl⟩ ⟨rfl, trivial⟩ rfl rfl
          ·
           replace hx := cond_f c_42 hx
           refine JL.gNo rfl rfl rfl rfl rfl (JL.gNo rfl rfl rfl rfl rfl (JL.gNo rfl rfl rfl rfl rfl (JL.gNo rfl rfl rfl rfl rfl (JL.gNo rfl rfl rfl rfl rfl (JL.gNoU rfl rfl rfl rfl (JL.gNoU rfl rfl rfl rfl (JL.gNoU rfl rfl rfl rfl (JL.gNo rfl rfl rfl rfl rfl (JL.val rfl rfl (R.pickF rfl rfl) (JL.val rfl rfl (R.assign rfl) (JL.nil ?_)))))))))))
           obtain rfl := Option.some.inj hx
           refine JN.forget 1 (JN.forget 0 ?_)
           exact JN.cut ⟨rfl, rfl, rfl⟩ ⟨rfl, trivial⟩ rfl rfl
         ·
          replace hx := cond_f c_41 hx
          refine JL.gNo rfl rfl rfl rfl rfl (JL.gNo rfl rfl rfl rfl rfl (JL.gNo rfl rfl rfl rfl rfl (JL.gNo rfl rfl rfl rfl rfl (JL.val rfl rfl (R.pickF rfl rfl) (JL.val rfl rfl (R.move rfl) (JL.gNo rfl rfl rfl rfl rfl (JL.gNo rfl rfl rfl rfl rfl (JL.gNo rfl rfl rfl rfl rfl (JL.gNo rfl rfl rfl rfl rfl (JL.gNo rfl rfl rfl rfl rfl (JL.gNoU rfl rfl rfl rfl ?_)))))))))))
          refine JL.gNoU rfl rfl rfl rfl (JL.gNoU rfl rfl rfl rfl (JL.gNo rfl rfl rfl rfl rfl (JL.val rfl rfl (R.pickF rfl rfl) (JL.val rfl rfl (R.assign rfl) (JL.nil ?_)))))
          obtain rfl := Option.some.inj hx
          refine JN.forget 1 (JN.forget 0 ?_)
          exact JN.cut ⟨rfl, rfl, rfl⟩ ⟨rfl, trivial⟩ rfl rfl
       ·
        have hxo_33 := hx; clear hx; have hx := ht_34; clear ht_34
        refine JC.block (JC.front 1 rfl (JC.front 2 rfl (JC.loopI (fun n l o g => ∃ s_35 : Int × Nat, l = [(2, .int .u32 (p_6.toNat : Int)), (4, .pointer (some ⟨b_8, 0, none⟩)), (7, .bool x_9), (8, .slice aor_24 nr_24 capr_24), (10, .slice aor_28 nr_28 capr_28), (12, .int .i64 s_35.1), (13, .int .i64 ((s_35.2 : Nat) : Int))] ∧ o = [[(b_8, .cells #[.int .i64 p_5.At, .int .u32 (p_5.Birth.toNat : Int), .int .u32 (p_5.Iv.toNat : Int), .int .u32 (p_5.Tag.toNat : Int), .int .u32 (p_5.Sum.toNat : Int)] 28 (0, 0))], Kr_24, Kr_28] ∧ Hu_27 = g ∧ run (law15_SetYoung_l1 p_6 x_21 x_25) n s_35 = some t_32) FUEL ?_ ⟨(0, 0), rfl, rfl, rfl, hx⟩ ⟨rfl, rfl, rfl, rfl, rfl, rfl, rfl, trivial⟩ ?_)))
        ·
         rintro _ _ _ ⟨s_35, rfl, rfl, rfl, hn_36⟩
         exact run_zero hn_36
        ·
         rintro n_37 _ _ _ ⟨s_35, rfl, rfl, rfl, hn_36⟩
         clear hx; obtain ⟨oo_39, hx, hd_38⟩ := run_some hn_36
         unfold law15_SetYoung_l1 at hx
         refine JC.seq (JC.seq (JC.region (JL.val rfl rfl (R.move rfl) (JL.val rfl rfl (R.move rfl) (JL.val rfl rfl (R.lenL U53 rfl (RowOf.long hr_24)) (JL.val rfl rfl (R.lss_i rfl rfl) (JL.nil (JN.next (JC.condB rfl (fun c_38 => ?_) (fun c_38 => ?_))))))))))
         ·
          replace hx := cond_t c_38 hx
          refine JC.skip (JN.next (JC.seq (JC.block (JC.seq (JC.seq (JC.region (JL.val rfl rfl (R.move rfl) (JL.val rfl rfl (R.move rfl) ?_))))))))
          obtain ⟨y_39, hN_40, hx⟩ := idx_some hx
          obtain ⟨b_41, o_42, cs_43, cur_48, hK_49, hE_44, hR_45, hl_46, hc_47⟩ := RowOf.elem (hr_24.mono R_Ptr.mono (New.mono hleu_27)) hN_40
          subst hK_49
          obtain rfl := hR_45
          refine JL.val rfl rfl (R.ix U53 S28 rfl rfl hE_44) (JL.val rfl rfl (R.fa F28_1 rfl) (JL.val rfl rfl (R.ldo 1 S26 rfl rfl (hc_47 1 _ rfl)) (JL.val rfl rfl (R.move rfl) (JL.val rfl rfl (R.leq32 (a := y_39.Birth) (b := p_6) rfl rfl) (JL.nil (JN.next (JC.condB rfl (fun c_50 => ?_) (fun c_50 => ?_))))))))
          ·
           replace hx := cond_t c_50 hx
           refine JC.exit (JN.passX (JN.exitSame (JN.next (JC.region (JL.val rfl rfl (R.move rfl) (JL.val rfl rfl (R.inc rfl rfl (of_decide_eq_true c_38) (RowOf.lenI hr_24)) (JL.val rfl rfl (R.assign rfl) (JL.nil ?_))))))))
           replace hx := run_next hd_38 hx
           refine JN.front 2 rfl (JN.front 2 rfl (JN.front 2 rfl ?_))
           exact JN.cut ⟨(s_35.1, s_35.2 + 1), rfl, rfl, rfl, hx⟩ ⟨rfl, rfl, rfl, rfl, rfl, rfl, rfl, trivial⟩ rfl rfl
          ·
           replace hx := cond_f c_50 hx
           refine JC.skip (JN.next (JC.seq (JC.seq (JC.draw (so := [_, _, _]) 15 rfl Mixed ⟨⟨0, rfl⟩, ⟨1, rfl⟩, ⟨2, rfl⟩, trivial⟩ (JA.val ⟨by kernel_rfl, by kernel_rfl⟩ (calm_only _) (i := 0) rfl ⟨by kernel_rfl, by kernel_rfl, rfl⟩ trivial (stab_of (Hle.refl _) ⟨⟨0, rfl⟩, ⟨1, rfl⟩, ⟨2, rfl⟩, trivial⟩) (R.move rfl) rfl (JA.val ⟨by kernel_rfl, by kernel_rfl⟩ (calm_only _) (i := 1) rfl ⟨by kernel_rfl, by kernel_rfl, rfl⟩ trivial (stab_of (Hle.refl _) ⟨⟨0, rfl⟩, ⟨1, rfl⟩, ⟨2, rfl⟩, trivial⟩) (R.move rfl) rfl (JA.val ⟨by kernel_rfl, by kernel_rfl⟩ (calm_only _) (i := 2) rfl ⟨by kernel_rfl, by kernel_rfl, rfl⟩ trivial (stab_of (Hle.refl _) ⟨⟨0, rfl⟩, ⟨1, rfl⟩, ⟨2, rfl⟩, trivial⟩) (R.lenL U53 rfl (RowOf.long hr_28)) rfl (JA.val ⟨by kernel_rfl, by kernel_rfl⟩ (calm_only _) (i := 3) rfl ⟨by kernel_rfl, by kernel_rfl, rfl⟩ trivial (stab_of (Hle.refl _) ⟨⟨0, rfl⟩, ⟨1, rfl⟩, ⟨2, rfl⟩, trivial⟩) (R.geq_i rfl rfl) rfl (JA.val ⟨by kernel_rfl, by kernel_rfl⟩ (calm_only _) (i := 4) rfl ⟨by kernel_rfl, by kernel_rfl, rfl⟩ trivial (stab_of (Hle.refl _) ⟨⟨0, rfl⟩, ⟨1, rfl⟩, ⟨2, rfl⟩, trivial⟩) (R.move rfl) rfl (JA.gSplit (t := 67) rfl (fun c_51 => ?_) (fun c_51 => ?_)))))))))))
           ·
            replace hx := cond_t c_51 hx
            refine JA.no ⟨by kernel_rfl, by kernel_rfl⟩ (calm_only _) (i := 5) rfl ⟨by kernel_rfl, by kernel_rfl, rfl⟩ rfl rfl rfl rfl (stab_of (Hle.refl _) ⟨⟨0, rfl⟩, ⟨1, rfl⟩, ⟨2, rfl⟩, trivial⟩) rfl (JA.no ⟨by kernel_rfl, by kernel_rfl⟩ (calm_only _) (i := 6) rfl ⟨by kernel_rfl, by kernel_rfl, rfl⟩ rfl rfl rfl rfl (stab_of (Hle.refl _) ⟨⟨0, rfl⟩, ⟨1, rfl⟩, ⟨2, rfl⟩, trivial⟩) rfl (JA.no ⟨by kernel_rfl, by kernel_rfl⟩ (calm_only _) (i := 7) rfl ⟨by kernel_rfl, by kernel_rfl, rfl⟩ rfl rfl rfl rfl (stab_of (Hle.refl _) ⟨⟨0, rfl⟩, ⟨1, rfl⟩, ⟨2, rfl⟩, trivial⟩) rfl (JA.no ⟨by kernel_rfl, by kernel_rfl⟩ (calm_only _) (i := 8) rfl ⟨by kernel_rfl, by kernel_rfl, rfl⟩ rfl rfl rfl rfl (stab_of (Hle.refl _) ⟨⟨0, rfl⟩, ⟨1, rfl⟩, ⟨2, rfl⟩, trivial⟩) rfl (JA.no ⟨by kernel_rfl, by kernel_rfl⟩ (calm_only _) (i := 9) rfl ⟨by kernel_rfl, by kernel_rfl, rfl⟩ rfl rfl rfl rfl (stab_of (Hle.refl _) ⟨⟨0, rfl⟩, ⟨1, rfl⟩, ⟨2, rfl⟩, trivial⟩) rfl (JA.no ⟨by kernel_rfl, by kernel_rfl⟩ (calm_only _) (i := 10) rfl ⟨by kernel_rfl, by kernel_rfl, rfl⟩ rfl rfl rfl rfl (stab_of (Hle.refl _) ⟨⟨0, rfl⟩, ⟨1, rfl⟩, ⟨2, rfl⟩, trivial⟩) rfl (JA.no ⟨by kernel_rfl, by kernel_rfl⟩ (calm_only _) (i := 11) rfl ⟨by kernel_rfl, by kernel_rfl, rfl⟩ rfl rfl rfl rfl (stab_of (Hle.refl _) ⟨⟨0, rfl⟩, ⟨1, rfl⟩, ⟨2, rfl⟩, trivial⟩) rfl (JA.no ⟨by kernel_rfl, by kernel_rfl⟩ (calm_only _) (i := 12) rfl ⟨by kernel_rfl, by kernel_rfl, rfl⟩ rfl rfl rfl rfl (stab_of (Hle.refl _) ⟨⟨0, rfl⟩, ⟨1, rfl⟩, ⟨2, rfl⟩, trivial⟩) rfl (JA.no ⟨by kernel_rfl, by kernel_rfl⟩ (calm_only _) (i := 13) rfl ⟨by kernel_rfl, by kernel_rfl, rfl⟩ rfl rfl rfl rfl (stab_of (Hle.refl _) ⟨⟨0, rfl⟩, ⟨1, rfl⟩, ⟨2, rfl⟩, trivial⟩) rfl (JA.val ⟨by kernel_rfl, by kernel_rfl⟩ (calm_only _) (i := 14) rfl ⟨by kernel_rfl, by kernel_rfl, rfl⟩ trivial (stab_of (Hle.refl _) ⟨⟨0, rfl⟩, ⟨1, rfl⟩, ⟨2, rfl⟩, trivial⟩) (R.pickT rfl rfl) rfl (JA.doneN (by kernel_rfl) (JN.next ?_)))))))))))
            refine JC.condT rfl (JC.seq (JC.region (JL.val rfl rfl (R.assign rfl) (JL.nil (JN.next (JC.ret (JN.passR (JN.blkR (JN.passR ?_)))))))))
            obtain rfl := run_done hd_38 hx
            refine JN.passR (JN.blkR ?_)
            clear hx; have hx := hxo_33
            simp only [Sum.elim_inl, Sum.elim_inr] at hx
            refine JN.passR (JN.passR (JN.outP (vs := [.bool false]) (K := []) (rst := [_, _, _]) (.inl rfl) rfl rfl (Res.tmp rfl rfl) picks0 ?_))
            obtain rfl := Option.some.inj hx
            exact ⟨rfl, rfl, trivial⟩
           ·
            replace hx := cond_f c_51 hx
            refine JA.val ⟨by kernel_rfl, by kernel_rfl⟩ (calm_only _) (i := 5) rfl ⟨by kernel_rfl, by kernel_rfl, rfl⟩ ⟨_, _, rfl, rfl, rfl⟩ (stab_of (Hle.refl _) ⟨⟨0, rfl⟩, ⟨1, rfl⟩, ⟨2, rfl⟩, trivial⟩) (R.move rfl) rfl (JA.val ⟨by kernel_rfl, by kernel_rfl⟩ (calm_only _) (i := 6) rfl ⟨by kernel_rfl, by kernel_rfl, rfl⟩ ⟨_, _, rfl, rfl, rfl⟩ (stab_of (Hle.refl _) ⟨⟨0, rfl⟩, ⟨1, rfl⟩, ⟨2, rfl⟩, trivial⟩) (R.move rfl) rfl ?_)
            obtain ⟨y_52, hN_53, hx⟩ := idx_some hx
            obtain ⟨b_54, o_55, cs_56, cur_61, hK_62, hE_57, hR_58, hl_59, hc_60⟩ := RowOf.elem hr_28 hN_53
            subst hK_62
            obtain rfl := hR_58
            refine JA.val ⟨by kernel_rfl, by kernel_rfl⟩ (calm_only _) (i := 7) rfl ⟨by kernel_rfl, by kernel_rfl, rfl⟩ ⟨_, _, rfl, rfl, rfl⟩ (stab_of (Hle.refl _) ⟨⟨0, rfl⟩, ⟨1, rfl⟩, ⟨2, rfl⟩, trivial⟩) (R.ix U53 S28 rfl rfl hE_57) rfl (JA.val ⟨by kernel_rfl, by kernel_rfl⟩ (calm_only _) (i := 8) rfl ⟨by kernel_rfl, by kernel_rfl, rfl⟩ ⟨_, _, rfl, rfl, rfl⟩ (stab_of (Hle.refl _) ⟨⟨0, rfl⟩, ⟨1, rfl⟩, ⟨2, rfl⟩, trivial⟩) (R.ldoE 2 (cs := [.int .i64 y_52.At, .int .u32 (y_52.Birth.toNat : Int), .int .u32 (y_52.Iv.toNat : Int), .int .u32 (y_52.Tag.toNat : Int), .int .u32 (y_52.Sum.toNat : Int)]) (k := 0) (vs := [.int .i64 y_52.At, .int .u32 (y_52.Birth.toNat : Int), .int .u32 (y_52.Iv.toNat : Int), .int .u32 (y_52.Tag.toNat : Int), .int .u32 (y_52.Sum.toNat : Int)]) S28 rfl rfl hc_60 rfl rfl) rfl (JA.val ⟨by kernel_rfl, by kernel_rfl⟩ (calm_only _) (i := 9) rfl ⟨by kernel_rfl, by kernel_rfl, rfl⟩ ⟨_, _, rfl, rfl, rfl⟩ (stab_of (Hle.refl _) ⟨⟨0, rfl⟩, ⟨1, rfl⟩, ⟨2, rfl⟩, trivial⟩) (R.move rfl) rfl (JA.val ⟨by kernel_rfl, by kernel_rfl⟩ (calm_only _) (i := 10) rfl ⟨by kernel_rfl, by kernel_rfl, rfl⟩ ⟨_, _, rfl, rfl, rfl⟩ (stab_of (Hle.refl _) ⟨⟨0, rfl⟩, ⟨1, rfl⟩, ⟨2, rfl⟩, trivial⟩) (R.move rfl) rfl ?_)))
            obtain ⟨y_63, hN_64, hx⟩ := idx_some hx
            obtain ⟨b_65, o_66, cs_67, cur_72, hK_73, hE_68, hR_69, hl_70, hc_71⟩ := RowOf.elem (hr_24.mono R_Ptr.mono (New.mono hleu_27)) hN_64
            obtain ⟨rfl, rfl⟩ : b_41 = b_65 ∧ cur_48 = cur_72 := by simpa using hK_73
            obtain rfl := hR_69
            refine JA.val ⟨by kernel_rfl, by kernel_rfl⟩ (calm_only _) (i := 11) rfl ⟨by kernel_rfl, by kernel_rfl, rfl⟩ ⟨_, _, rfl, rfl, rfl⟩ (stab_of (Hle.refl _) ⟨⟨0, rfl⟩, ⟨1, rfl⟩, ⟨2, rfl⟩, trivial⟩) (R.ix U53 S28 rfl rfl hE_68) rfl (JA.val ⟨by kernel_rfl, by kernel_rfl⟩ (calm_only _) (i := 12) rfl ⟨by kernel_rfl, by kernel_rfl, rfl⟩ ⟨_, _, rfl, rfl, rfl⟩ (stab_of (Hle.refl _) ⟨⟨0, rfl⟩, ⟨1, rfl⟩, ⟨2, rfl⟩, trivial⟩) (R.ldoE 1 (cs := [.int .i64 y_63.At, .int .u32 (y_63.Birth.toNat : Int), .int .u32 (y_63.Iv.toNat : Int), .int .u32 (y_63.Tag.toNat : Int), .int .u32 (y_63.Sum.toNat : Int)]) (k := 0) (vs := [.int .i64 y_63.At, .int .u32 (y_63.Birth.toNat : Int), .int .u32 (y_63.Iv.toNat : Int), .int .u32 (y_63.Tag.toNat : Int), .int .u32 (y_63.Sum.toNat : Int)]) S28 rfl rfl hc_71 rfl rfl) rfl (JA.val ⟨by kernel_rfl, by kernel_rfl⟩ (calm_only _) (i := 13) rfl ⟨by kernel_rfl, by kernel_rfl, rfl⟩ ⟨_, _, rfl, rfl, rfl⟩ (stab_of (Hle.refl _) ⟨⟨0, rfl⟩, ⟨1, rfl⟩, ⟨2, rfl⟩, trivial⟩) (R.neqAgg QU28 QP28 QG28 QF28 rfl rfl (EqF.i (by decide) S3 U3 rfl rfl (EqF.u32 (a := y_52.Birth) (b := y_63.Birth) (by decide) S26 U26 rfl rfl (EqF.u32 (a := y_52.Iv) (b := y_63.Iv) (by decide) S26 U26 rfl rfl (EqF.u32 (a := y_52.Tag) (b := y_63.Tag) (by decide) S26 U26 rfl rfl (EqF.u32 (a := y_52.Sum) (b := y_63.Sum) (by decide) S26 U26 rfl rfl EqF.nil)))))) rfl (JA.val ⟨by kernel_rfl, by kernel_rfl⟩ (calm_only _) (i := 14) rfl ⟨by kernel_rfl, by kernel_rfl, rfl⟩ trivial (stab_of (Hle.refl _) ⟨⟨0, rfl⟩, ⟨1, rfl⟩, ⟨2, rfl⟩, trivial⟩) (R.pickF rfl rfl) rfl (JA.doneN (by kernel_rfl) (JN.next (JC.condB rfl (fun c_74 => ?_) (fun c_74 => ?_)))))))
            ·
             replace hx := cond_t c_74 hx
             refine JC.seq (JC.region (JL.val rfl rfl (R.assign rfl) (JL.nil (JN.next (JC.ret (JN.passR (JN.blkR (JN.passR ?_))))))))
             obtain rfl := run_done hd_38 hx
             refine JN.passR (JN.blkR ?_)
             clear hx; have hx := hxo_33
             simp only [Sum.elim_inl, Sum.elim_inr] at hx
             refine JN.passR (JN.passR (JN.outP (vs := [.bool false]) (K := []) (rst := [_, _, _]) (.inl rfl) rfl rfl (Res.tmp rfl rfl) picks0 ?_))
             obtain rfl := Option.some.inj hx
             exact ⟨rfl, rfl, trivial⟩
            ·
             replace hx := cond_f c_74 hx
             refine JC.skip (JN.next (JC.region (JL.val rfl rfl (R.move rfl) (JL.val rfl rfl (R.add_i rfl rfl) (JL.val rfl rfl (R.assign rfl) (JL.nil (JN.blkN (JN.next (JC.region (JL.val rfl rfl (R.move rfl) (JL.val rfl rfl (R.inc rfl rfl (of_decide_eq_true c_38) (RowOf.lenI hr_24)) ?_)))))))))))
             refine JL.val rfl rfl (R.assign rfl) (JL.nil ?_)
             replace hx := run_next hd_38 hx
             refine JN.front 2 rfl (JN.front 2 rfl (JN.front 2 rfl ?_))
             exact JN.cut ⟨(w64 (s_35.1 + 1), s_35.2 + 1), rfl, rfl, rfl, hx⟩ ⟨rfl, rfl, rfl, rfl, rfl, rfl, rfl, trivial⟩ rfl rfl
         ·
          replace hx := cond_f c_38 hx
          refine JC.exit (JN.passX ?_)
          obtain rfl := run_done hd_38 hx
          refine JN.passX (JN.exitSame (JN.forget 1 (JN.front 1 rfl (JN.front 1 rfl ?_))))
          exact JN.cut ⟨s_35.1, rfl, rfl, rfl, rfl⟩ ⟨rfl, rfl, rfl, rfl, rfl, trivial⟩ rfl rfl
end Go.Proofs.Ytdoebbgjjlicjaa
