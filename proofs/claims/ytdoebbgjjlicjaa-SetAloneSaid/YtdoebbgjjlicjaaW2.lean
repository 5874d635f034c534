import Derived.Test.YtdoebbgjjlicjaaW2p2
/- walks: what the code computes, function by function. -/
namespace Go.Proofs.Ytdoebbgjjlicjaa
open Go.Ow Go.RowKit Go.Proofs
set_option linter.unusedVariables false
set_option linter.unusedSimpArgs false
set_option maxHeartbeats 8000000 in
theorem set_Object_ok (p_1 : Store) (p_5 : Ptr) (p_6 : Int) (H : Heaplet) {aoa_2 : Option Addr} {na_2 : Nat} {capa_2 : Nat} {aoa_3 : Option Addr} {na_3 : Nat} {capa_3 : Nat} {aoa_4 : Option Addr} {na_4 : Nat} {capa_4 : Nat} (ha_2 : IsSlice H (RSl RU8 1) 1 (.slice aoa_2 na_2 capa_2) p_1.Disk.Blocks) (ha_3 : IsSlice H R_Write 2 (.slice aoa_3 na_3 capa_3) p_1.Disk.Waits) (ha_4 : IsSlice H RU8 1 (.slice aoa_4 na_4 capa_4) p_1.Space) (r : Object × Int) (hx : set_Object p_1 p_5 p_6 = some r) :
  Does Try.prog 23 #[.agg #[.slice aoa_2 na_2 capa_2, .slice aoa_3 na_3 capa_3, .slice aoa_4 na_4 capa_4, .int .u32 (p_1.Epoch.toNat : Int), .int .u32 (p_1.Count.toNat : Int)], .agg #[.int .i64 p_5.At, .int .u32 (p_5.Birth.toNat : Int), .int .u32 (p_5.Iv.toNat : Int), .int .u32 (p_5.Tag.toNat : Int), .int .u32 (p_5.Sum.toNat : Int)], .int .i64 p_6] [] H (fun u K' H' => ∃ ao0 : Option Addr, ∃ n0 : Nat, u = .tuple #[.agg #[.int .u8 (r.1.Kind.toNat : Int), .int .i64 r.1.Links, .int .i64 r.1.Size, .slice ao0 n0 n0], .int .i64 r.2] ∧ K' = [] ∧ IsSlice (New H H') R_Ptr 5 (.slice ao0 n0 n0) r.1.Data ∧ True) := by
 refine Does.enterL (vs := [.agg #[.slice aoa_2 na_2 capa_2, .slice aoa_3 na_3 capa_3, .slice aoa_4 na_4 capa_4, .int .u32 (p_1.Epoch.toNat : Int), .int .u32 (p_1.Count.toNat : Int)], .agg #[.int .i64 p_5.At, .int .u32 (p_5.Birth.toNat : Int), .int .u32 (p_5.Iv.toNat : Int), .int .u32 (p_5.Tag.toNat : Int), .int .u32 (p_5.Sum.toNat : Int)], .int .i64 p_6]) (l := [(0, .agg #[.slice aoa_2 na_2 capa_2, .slice aoa_3 na_3 capa_3, .slice aoa_4 na_4 capa_4, .int .u32 (p_1.Epoch.toNat : Int), .int .u32 (p_1.Count.toNat : Int)]), (1, .agg #[.int .i64 p_5.At, .int .u32 (p_5.Birth.toNat : Int), .int .u32 (p_5.Iv.toNat : Int), .int .u32 (p_5.Tag.toNat : Int), .int .u32 (p_5.Sum.toNat : Int)]), (2, .int .i64 p_6)]) Try.func23 rfl rfl ⟨rfl, rfl, rfl, trivial⟩ (fun w hlt => ?_)
 unfold set_Object at hx
 refine JC.seq (JC.region (JL.box rfl rfl (fun b_7 hb_7 => JL.box rfl rfl (fun b_8 hb_8 => JL.alloc Z60 rfl (fun b_9 hb_9 => JL.val rfl rfl (R.assign rfl) (JL.nil (JN.next (JC.seq (JC.seq (JC.region (JL.val rfl rfl (R.ldoN 2 (vs := [.slice aoa_2 na_2 capa_2, .slice aoa_3 na_3 capa_3, .slice aoa_4 na_4 capa_4, .int .u32 (p_1.Epoch.toNat : Int), .int .u32 (p_1.Count.toNat : Int)]) S50 rfl rfl rfl rfl) ?_)))))))))))
 obtain ⟨x_10, hr_11, hx⟩ := bnd_some hx
 refine JL.callC (vs := [_]) (args := [_]) (K := []) (rst := [_, _, _]) E26 rfl rfl rfl picks0 (store_Check_ok p_1 _ ha_2 ha_3 ha_4 _ hr_11) rfl (fun u_12 Ku_12 Hu_12 hRu_12 hleu_12 hfu_12 => ?_)
 obtain ⟨rfl, rfl, rfl, -⟩ := hRu_12
 refine JL.val rfl rfl (R.neq_i rfl rfl) (JL.val rfl rfl (R.move rfl) (JL.gSplit (t := 13) rfl (fun c_13 => ?_) (fun c_13 => ?_)))
 ·
  replace hx := cond_t c_13 hx
  refine JL.gNo rfl rfl rfl rfl rfl (JL.gNo rfl rfl rfl rfl rfl (JL.gNo rfl rfl rfl rfl rfl (JL.val rfl rfl (R.pickT rfl rfl) (JL.nil (JN.next (JC.condT rfl (JC.seq (JC.region (JL.val rfl rfl (R.bldP (vs := []) (cs := [.int .u8 ((0 : UInt8).toNat : Int), .int .i64 0, .int .i64 0, .slice none 0 0]) Z60 B60 rfl rfl rfl) (JL.store 0 S60 rfl rfl rfl rfl rfl (Nat.le_of_ble_eq_true rfl) (JL.val rfl rfl (R.assign rfl) ?_)))))))))))
  refine JL.nil (JN.next (JC.ret (JN.passR (JN.outP (vs := [.agg #[.int .u8 ((0 : UInt8).toNat : Int), .int .i64 0, .int .i64 0, .slice none 0 0], .int .i64 8]) (K := []) (rst := [_, _, _]) (.inl rfl) rfl rfl (Res.cellN 0 rfl rfl S60 (Res.tmp rfl rfl)) picks0 ?_))))
  obtain rfl := Option.some.inj hx
  exact ⟨none, 0, rfl, rfl, (IsSlice.nil _ _ _), trivial⟩
 ·
  replace hx := cond_f c_13 hx
  refine JL.gYes rfl rfl rfl (JL.val rfl rfl (R.ldoN 1 (vs := [.int .i64 p_5.At, .int .u32 (p_5.Birth.toNat : Int), .int .u32 (p_5.Iv.toNat : Int), .int .u32 (p_5.Tag.toNat : Int), .int .u32 (p_5.Sum.toNat : Int)]) S28 rfl rfl rfl rfl) (JL.gYes rfl rfl rfl ?_))
  obtain ⟨x_14, hr_15, hx⟩ := bnd_some hx
  refine JL.callC (vs := [_]) (args := [_]) (K := []) (rst := [_, _, _]) E49 rfl rfl rfl picks0 (ptr_Check_ok p_5 _ _ hr_15) rfl (fun u_16 Ku_16 Hu_16 hRu_16 hleu_16 hfu_16 => ?_)
  obtain ⟨rfl, rfl, rfl, -⟩ := hRu_16
  refine JL.gYes rfl rfl rfl (JL.val rfl rfl (R.neq_i rfl rfl) (JL.val rfl rfl (R.pickF rfl rfl) (JL.nil (JN.next (JC.condB rfl (fun c_17 => ?_) (fun c_17 => ?_))))))
  ·
   replace hx := cond_t c_17 hx
   refine JC.seq (JC.region (JL.val rfl rfl (R.bldP (vs := []) (cs := [.int .u8 ((0 : UInt8).toNat : Int), .int .i64 0, .int .i64 0, .slice none 0 0]) Z60 B60 rfl rfl rfl) (JL.store 0 S60 rfl rfl rfl rfl rfl (Nat.le_of_ble_eq_true rfl) (JL.val rfl rfl (R.assign rfl) (JL.nil (JN.next (JC.ret (JN.passR (JN.outP (vs := [.agg #[.int .u8 ((0 : UInt8).toNat : Int), .int .i64 0, .int .i64 0, .slice none 0 0], .int .i64 8]) (K := []) (rst := [_, _, _]) (.inl rfl) rfl rfl (Res.cellN 0 rfl rfl S60 (Res.tmp rfl rfl)) picks0 ?_)))))))))
   obtain rfl := Option.some.inj hx
   exact ⟨none, 0, rfl, rfl, (IsSlice.nil _ _ _), trivial⟩
  ·
   replace hx := cond_f c_17 hx
   refine JC.skip (JN.next (JC.seq (JC.seq (JC.region (JL.val rfl rfl (R.move rfl) (JL.val rfl rfl (R.lss_i rfl rfl) (JL.val rfl rfl (R.move rfl) (JL.gSplit (t := 21) rfl (fun c_18 => ?_) (fun c_18 => ?_)))))))))
   ·
    replace hx := cond_t c_18 hx
    refine JL.gNo rfl rfl rfl rfl rfl (JL.gNo rfl rfl rfl rfl rfl (JL.val rfl rfl (R.pickT rfl rfl) (JL.nil (JN.next (JC.condT rfl (JC.seq (JC.region (JL.val rfl rfl (R.bldP (vs := []) (cs := [.int .u8 ((0 : UInt8).toNat : Int), .int .i64 0, .int .i64 0, .slice none 0 0]) Z60 B60 rfl rfl rfl) (JL.store 0 S60 rfl rfl rfl rfl rfl (Nat.le_of_ble_eq_true rfl) (JL.val rfl rfl (R.assign rfl) (JL.nil ?_)))))))))))
    refine JN.next (JC.ret (JN.passR (JN.outP (vs := [.agg #[.int .u8 ((0 : UInt8).toNat : Int), .int .i64 0, .int .i64 0, .slice none 0 0], .int .i64 2]) (K := []) (rst := [_, _, _]) (.inl rfl) rfl rfl (Res.cellN 0 rfl rfl S60 (Res.tmp rfl rfl)) picks0 ?_)))
    obtain rfl := Option.some.inj hx
    exact ⟨none, 0, rfl, rfl, (IsSlice.nil _ _ _), trivial⟩
   ·
    replace hx := cond_f c_18 hx
    refine JL.gYes rfl rfl rfl (JL.val rfl rfl (R.move rfl) (JL.gYes rfl rfl rfl (JL.val rfl rfl (R.geq_i rfl rfl) (JL.val rfl rfl (R.pickF rfl rfl) (JL.nil (JN.next (JC.condB rfl (fun c_19 => ?_) (fun c_19 => ?_))))))))
    ·
     replace hx := cond_t c_19 hx
     refine JC.seq (JC.region (JL.val rfl rfl (R.bldP (vs := []) (cs := [.int .u8 ((0 : UInt8).toNat : Int), .int .i64 0, .int .i64 0, .slice none 0 0]) Z60 B60 rfl rfl rfl) (JL.store 0 S60 rfl rfl rfl rfl rfl (Nat.le_of_ble_eq_true rfl) (JL.val rfl rfl (R.assign rfl) (JL.nil (JN.next (JC.ret (JN.passR (JN.outP (vs := [.agg #[.int .u8 ((0 : UInt8).toNat : Int), .int .i64 0, .int .i64 0, .slice none 0 0], .int .i64 2]) (K := []) (rst := [_, _, _]) (.inl rfl) rfl rfl (Res.cellN 0 rfl rfl S60 (Res.tmp rfl rfl)) picks0 ?_)))))))))
     obtain rfl := Option.some.inj hx
     exact ⟨none, 0, rfl, rfl, (IsSlice.nil _ _ _), trivial⟩
    ·
     replace hx := cond_f c_19 hx
     refine JC.skip (JN.next (JC.seq (JC.region (JL.val rfl rfl (R.ldoN 2 (vs := [.slice aoa_2 na_2 capa_2, .slice aoa_3 na_3 capa_3, .slice aoa_4 na_4 capa_4, .int .u32 (p_1.Epoch.toNat : Int), .int .u32 (p_1.Count.toNat : Int)]) S50 rfl rfl rfl rfl) (JL.val rfl rfl (R.ldoN 1 (vs := [.int .i64 p_5.At, .int .u32 (p_5.Birth.toNat : Int), .int .u32 (p_5.Iv.toNat : Int), .int .u32 (p_5.Tag.toNat : Int), .int .u32 (p_5.Sum.toNat : Int)]) S28 rfl rfl rfl rfl) ?_)))))
     obtain ⟨x_20, hr_21, hx⟩ := bnd_some hx
     refine JL.callC (vs := [_, _]) (args := [_, _]) (K := []) (rst := [_, _, _]) E24 rfl rfl rfl picks0 (set_Ptrs_ok p_1 p_5 _ ha_2 ha_3 ha_4 _ hr_21) rfl (fun u_22 Ku_22 Hu_22 hRu_22 hleu_22 hfu_22 => ?_)
     obtain ⟨aor_23, nr_23, capr_23, Kr_23, rfl, rfl, hr_23, hnewr_23, -⟩ := hRu_22
     replace hr_23 := (RowOf.base (RowOf.const (H2 := New H Hu_22) R_Ptr.const hr_23) (fun p hp => (hfu_22 p (mem_seg 0 rfl hp)).resolve_left (hnewr_23 p hp)))
     refine JL.val rfl rfl (R.move rfl) (JL.val rfl rfl (R.extract rfl rfl) (JL.val rfl rfl (R.extract rfl rfl) (JL.val rfl rfl (R.assign rfl) (JL.val rfl rfl (R.assign rfl) (JL.nil (JN.next (JC.seq (JC.seq (JC.region (JL.val rfl rfl (R.move rfl) (JL.val rfl rfl (R.neq_i rfl rfl) ?_)))))))))))
     refine JL.nil (JN.next (JC.condB rfl (fun c_24 => ?_) (fun c_24 => ?_)))
     ·
      replace hx := cond_t c_24 hx
      refine JC.seq (JC.region (JL.val rfl rfl (R.bldP (vs := []) (cs := [.int .u8 ((0 : UInt8).toNat : Int), .int .i64 0, .int .i64 0, .slice none 0 0]) Z60 B60 rfl rfl rfl) (JL.val rfl rfl (R.move rfl) (JL.store 1 S60 rfl rfl rfl rfl rfl (Nat.le_of_ble_eq_true rfl) (JL.val rfl rfl (R.assign rfl) (JL.nil (JN.next (JC.ret (JN.passR (JN.outP (vs := [.agg #[.int .u8 ((0 : UInt8).toNat : Int), .int .i64 0, .int .i64 0, .slice none 0 0], .int .i64 x_20.2]) (K := []) (rst := [_, _, _, _]) (.inl rfl) rfl rfl (Res.cellN 1 rfl rfl S60 (Res.tmp rfl rfl)) picks0 ?_))))))))))
      obtain rfl := Option.some.inj hx
      exact ⟨none, 0, rfl, rfl, (IsSlice.nil _ _ _), trivial⟩
     ·
      replace hx := cond_f c_24 hx
      refine JC.skip (JN.next (JC.seq (JC.draw (so := [_, _, _]) 10 rfl Mixed ⟨⟨0, rfl⟩, ⟨2, rfl⟩, ⟨3, rfl⟩, trivial⟩ (JA.val ⟨by kernel_rfl, by kernel_rfl⟩ (calm_only _) (i := 0) rfl ⟨by kernel_rfl, by kernel_rfl, rfl⟩ trivial (stab_of (Hle.refl _) ⟨⟨0, rfl⟩, ⟨2, rfl⟩, ⟨3, rfl⟩, trivial⟩) (R.ldoN 2 (vs := [.slice aoa_2 na_2 capa_2, .slice aoa_3 na_3 capa_3, .slice aoa_4 na_4 capa_4, .int .u32 (p_1.Epoch.toNat : Int), .int .u32 (p_1.Count.toNat : Int)]) S50 rfl rfl rfl rfl) rfl (JA.val ⟨by kernel_rfl, by kernel_rfl⟩ (calm_only _) (i := 1) rfl ⟨by kernel_rfl, by kernel_rfl, rfl⟩ trivial (stab_of (Hle.refl _) ⟨⟨0, rfl⟩, ⟨2, rfl⟩, ⟨3, rfl⟩, trivial⟩) (R.move rfl) rfl (JA.val ⟨by kernel_rfl, by kernel_rfl⟩ (calm_only _) (i := 2) rfl ⟨by kernel_rfl, by kernel_rfl, rfl⟩ trivial (stab_of (Hle.refl _) ⟨⟨0, rfl⟩, ⟨2, rfl⟩, ⟨3, rfl⟩, trivial⟩) (R.move rfl) rfl ?_))))))
      obtain ⟨y_25, hN_26, hx⟩ := idx_some hx
      obtain ⟨b_27, o_28, cs_29, cur_34, hK_35, hE_30, hR_31, hl_32, hc_33⟩ := RowOf.elem hr_23 hN_26
      subst hK_35
      obtain rfl := hR_31
      refine JA.val ⟨by kernel_rfl, by kernel_rfl⟩ (calm_only _) (i := 3) rfl ⟨by kernel_rfl, by kernel_rfl, rfl⟩ trivial (stab_of (Hle.refl _) ⟨⟨0, rfl⟩, ⟨2, rfl⟩, ⟨3, rfl⟩, trivial⟩) (R.ix U53 S28 rfl rfl hE_30) rfl (JA.val ⟨by kernel_rfl, by kernel_rfl⟩ (calm_only _) (i := 4) rfl ⟨by kernel_rfl, by kernel_rfl, rfl⟩ trivial (stab_of (Hle.refl _) ⟨⟨0, rfl⟩, ⟨2, rfl⟩, ⟨3, rfl⟩, trivial⟩) (R.ldoE 0 (cs := [.int .i64 y_25.At, .int .u32 (y_25.Birth.toNat : Int), .int .u32 (y_25.Iv.toNat : Int), .int .u32 (y_25.Tag.toNat : Int), .int .u32 (y_25.Sum.toNat : Int)]) (k := 0) (vs := [.int .i64 y_25.At, .int .u32 (y_25.Birth.toNat : Int), .int .u32 (y_25.Iv.toNat : Int), .int .u32 (y_25.Tag.toNat : Int), .int .u32 (y_25.Sum.toNat : Int)]) S28 rfl rfl hc_33 rfl rfl) rfl (JA.one (i := 5) (by kernel_rfl) (JO.step rfl trivial rfl (fun K hK => ?_))))
      obtain ⟨x_36, hr_37, hx⟩ := bnd_some hx
      refine JL.callC (vs := [_, _]) (args := [_, _]) (K := []) (rst := [_, _, _, _]) E54 rfl rfl rfl picks0 (set_one_ok p_1 y_25 _ (ha_2.mono (RSl.mono RU8.mono) hleu_22) (ha_3.mono R_Write.mono hleu_22) (ha_4.mono RU8.mono hleu_22) _ hr_37) rfl (fun u_38 Ku_38 Hu_38 hRu_38 hleu_38 hfu_38 => ?_)
      obtain ⟨aoz_39, nz_39, rfl, rfl, hz_39, -⟩ := hRu_38
      replace hz_39 := IsSlice.mono R_Ptr.mono (New.call hleu_22) hz_39
      refine JL.nil (hK _ _ _ (stab_of hleu_38 ⟨⟨0, rfl⟩, ⟨2, rfl⟩, ⟨3, rfl⟩, trivial⟩) (JA.val ⟨by kernel_rfl, by kernel_rfl⟩ (calm_only _) (i := 6) rfl ⟨by kernel_rfl, by kernel_rfl, rfl⟩ trivial (stab_of hleu_38 ⟨⟨0, rfl⟩, ⟨2, rfl⟩, ⟨3, rfl⟩, trivial⟩) (R.extract rfl rfl) rfl (JA.val ⟨by kernel_rfl, by kernel_rfl⟩ (calm_only _) (i := 7) rfl ⟨by kernel_rfl, by kernel_rfl, rfl⟩ trivial (stab_of hleu_38 ⟨⟨0, rfl⟩, ⟨2, rfl⟩, ⟨3, rfl⟩, trivial⟩) (R.extract rfl rfl) rfl (JA.one (i := 8) (by kernel_rfl) (JO.step rfl trivial rfl (fun K hK => JL.store 1 S60 rfl rfl rfl rfl rfl (Nat.le_of_ble_eq_true rfl) (JL.nil (hK _ _ _ (stab_of hleu_38 ⟨⟨0, rfl⟩, ⟨2, rfl⟩, ⟨3, rfl⟩, trivial⟩) (JA.val ⟨by kernel_rfl, by kernel_rfl⟩ (calm_only _) (i := 9) rfl ⟨by kernel_rfl, by kernel_rfl, rfl⟩ trivial (stab_of hleu_38 ⟨⟨0, rfl⟩, ⟨2, rfl⟩, ⟨3, rfl⟩, trivial⟩) (R.assign rfl) rfl (JA.doneN (by kernel_rfl) (JN.next ?_)))))))))))
      refine JC.ret (JN.outP (vs := [.agg #[.int .u8 (x_36.1.Kind.toNat : Int), .int .i64 x_36.1.Links, .int .i64 x_36.1.Size, .slice aoz_39 nz_39 nz_39], .int .i64 x_36.2]) (K := []) (rst := [_, _, _, _]) (.inl rfl) rfl rfl (Res.cellN 1 rfl rfl S60 (Res.tmp rfl rfl)) picks0 ?_)
      obtain rfl := Option.some.inj hx
      exact ⟨aoz_39, nz_39, rfl, rfl, hz_39, trivial⟩

set_option maxHeartbeats 8000000 in
theorem slices_Equal_Ptr_ok (p_1 : List Ptr) (p_3 : List Ptr) (H : Heaplet) {aoa_2 : Option Addr} {na_2 : Nat} {capa_2 : Nat} {aoa_4 : Option Addr} {na_4 : Nat} {capa_4 : Nat} (ha_2 : IsSlice H R_Ptr 5 (.slice aoa_2 na_2 capa_2) p_1) (ha_4 : IsSlice H R_Ptr 5 (.slice aoa_4 na_4 capa_4) p_3) (r : Bool) (hx : slices_Equal_Ptr p_1 p_3 = some r) :
  Does Try.prog 59 #[.slice aoa_2 na_2 capa_2, .slice aoa_4 na_4 capa_4] [] H (fun u K' H' => u = .bool r ∧ K' = [] ∧ H = H' ∧ True) := by
 refine Does.enterL (vs := [.slice aoa_2 na_2 capa_2, .slice aoa_4 na_4 capa_4]) (l := [(0, .slice aoa_2 na_2 capa_2), (1, .slice aoa_4 na_4 capa_4)]) Try.func59 rfl rfl ⟨rfl, rfl, trivial⟩ (fun w hlt => ?_)
 unfold slices_Equal_Ptr at hx
 refine JC.seq (JC.region (JL.val rfl rfl (R.assign rfl) (JL.nil (JN.next (JC.seq (JC.seq (JC.region (JL.val rfl rfl (R.move rfl) (JL.val rfl rfl (R.lenL U53 rfl (IsSlice.long ha_2)) (JL.val rfl rfl (R.move rfl) (JL.val rfl rfl (R.lenL U53 rfl (IsSlice.long ha_4)) ?_)))))))))))
 refine JL.val rfl rfl (R.neq_i rfl rfl) (JL.nil (JN.next (JC.condB rfl (fun c_5 => ?_) (fun c_5 => ?_))))
 ·
  replace hx := cond_t c_5 hx
  refine JC.seq (JC.region (JL.val rfl rfl (R.assign rfl) (JL.nil (JN.next (JC.ret (JN.passR (JN.outP (vs := [.bool false]) (K := []) (rst := []) (.inl rfl) rfl rfl (Res.tmp rfl rfl) picks0 ?_)))))))
  obtain rfl := Option.some.inj hx
  exact ⟨rfl, rfl, rfl, trivial⟩
 ·
  replace hx := cond_f c_5 hx
  refine JC.skip (JN.next (JC.seq (JC.seq (JC.region (JL.val rfl rfl (R.move rfl) (JL.val rfl rfl (R.lenL U53 rfl (IsSlice.long ha_2)) (JL.val rfl rfl (R.move rfl) (JL.nil (JN.next ?_)))))))))
  obtain ⟨t_6, ht_8, hx⟩ := bnd_some hx
  refine JC.cut (fun l o g => ∃ t_6a : Unit, l = [] ∧ o = [] ∧ H = g ∧ t_6 = .inl t_6a) ?_ ?_
  ·
   rintro _ _ _ ⟨t_6a, rfl, rfl, rfl, rfl⟩
   simp only [Sum.elim_inl] at hx
   refine JN.next (JC.seq (JC.region (JL.val rfl rfl (R.assign rfl) (JL.nil (JN.next (JC.ret (JN.outP (vs := [.bool true]) (K := []) (rst := []) (.inl rfl) rfl rfl (Res.tmp rfl rfl) picks0 ?_)))))))
   obtain rfl := Option.some.inj hx
   exact ⟨rfl, rfl, rfl, trivial⟩
  ·
   have hxo_7 := hx; clear hx; have hx := ht_8; clear ht_8
   refine JC.block (JC.loopI (fun n l o g => ∃ s_9 : Nat, l = [(0, .slice aoa_2 na_2 capa_2), (1, .slice aoa_4 na_4 capa_4), (12, .int .i64 (p_1.length : Int)), (13, .int .i64 ((s_9 : Nat) : Int))] ∧ o = [] ∧ H = g ∧ run (slices_Equal_Ptr_l1 p_1 p_3) n s_9 = some t_6) FUEL ?_ ⟨0, rfl, rfl, rfl, hx⟩ ⟨rfl, rfl, rfl, rfl, trivial⟩ ?_)
   ·
    rintro _ _ _ ⟨s_9, rfl, rfl, rfl, hn_10⟩
    exact run_zero hn_10
   ·
    rintro n_11 _ _ _ ⟨s_9, rfl, rfl, rfl, hn_10⟩
    clear hx; obtain ⟨oo_13, hx, hd_12⟩ := run_some hn_10
    unfold slices_Equal_Ptr_l1 at hx
    refine JC.seq (JC.region (JL.val rfl rfl (R.lss_i rfl rfl) (JL.nil (JN.next (JC.seq (JC.condB rfl (fun c_12 => ?_) (fun c_12 => ?_)))))))
    ·
     replace hx := cond_t c_12 hx
     refine JC.skip (JN.next (JC.seq (JC.block (JC.seq (JC.region (JL.val rfl rfl (R.move rfl) (JL.val rfl rfl (R.assign rfl) (JL.nil (JN.next (JC.seq (JC.draw (so := []) 9 rfl Mixed trivial ?_)))))))))))
     refine JA.val ⟨by kernel_rfl, by kernel_rfl⟩ (calm_only _) (i := 0) rfl ⟨by kernel_rfl, by kernel_rfl, rfl⟩ trivial (stab_of (Hle.refl _) trivial) (R.move rfl) rfl (JA.val ⟨by kernel_rfl, by kernel_rfl⟩ (calm_only _) (i := 1) rfl ⟨by kernel_rfl, by kernel_rfl, rfl⟩ trivial (stab_of (Hle.refl _) trivial) (R.move rfl) rfl ?_)
     obtain ⟨y_13, hN_14, hx⟩ := idx_some hx
     obtain ⟨b_15, o_16, cs_17, hE_18, hR_19, hl_20, hc_21⟩ := IsSlice.elem ha_2 hN_14
     obtain rfl := hR_19
     refine JA.val ⟨by kernel_rfl, by kernel_rfl⟩ (calm_only _) (i := 2) rfl ⟨by kernel_rfl, by kernel_rfl, rfl⟩ trivial (stab_of (Hle.refl _) trivial) (R.ix U53 S28 rfl rfl hE_18) rfl (JA.val ⟨by kernel_rfl, by kernel_rfl⟩ (calm_only _) (i := 3) rfl ⟨by kernel_rfl, by kernel_rfl, rfl⟩ trivial (stab_of (Hle.refl _) trivial) (R.ldHE (cs := [.int .i64 y_13.At, .int .u32 (y_13.Birth.toNat : Int), .int .u32 (y_13.Iv.toNat : Int), .int .u32 (y_13.Tag.toNat : Int), .int .u32 (y_13.Sum.toNat : Int)]) (k := 0) (vs := [.int .i64 y_13.At, .int .u32 (y_13.Birth.toNat : Int), .int .u32 (y_13.Iv.toNat : Int), .int .u32 (y_13.Tag.toNat : Int), .int .u32 (y_13.Sum.toNat : Int)]) S28 rfl hc_21 rfl rfl) rfl (JA.val ⟨by kernel_rfl, by kernel_rfl⟩ (calm_only _) (i := 4) rfl ⟨by kernel_rfl, by kernel_rfl, rfl⟩ trivial (stab_of (Hle.refl _) trivial) (R.move rfl) rfl (JA.val ⟨by kernel_rfl, by kernel_rfl⟩ (calm_only _) (i := 5) rfl ⟨by kernel_rfl, by kernel_rfl, rfl⟩ trivial (stab_of (Hle.refl _) trivial) (R.move rfl) rfl ?_)))
     obtain ⟨y_22, hN_23, hx⟩ := idx_some hx
     obtain ⟨b_24, o_25, cs_26, hE_27, hR_28, hl_29, hc_30⟩ := IsSlice.elem ha_4 hN_23
     obtain rfl := hR_28
     refine JA.val ⟨by kernel_rfl, by kernel_rfl⟩ (calm_only _) (i := 6) rfl ⟨by kernel_rfl, by kernel_rfl, rfl⟩ trivial (stab_of (Hle.refl _) trivial) (R.ix U53 S28 rfl rfl hE_27) rfl (JA.val ⟨by kernel_rfl, by kernel_rfl⟩ (calm_only _) (i := 7) rfl ⟨by kernel_rfl, by kernel_rfl, rfl⟩ trivial (stab_of (Hle.refl _) trivial) (R.ldHE (cs := [.int .i64 y_22.At, .int .u32 (y_22.Birth.toNat : Int), .int .u32 (y_22.Iv.toNat : Int), .int .u32 (y_22.Tag.toNat : Int), .int .u32 (y_22.Sum.toNat : Int)]) (k := 0) (vs := [.int .i64 y_22.At, .int .u32 (y_22.Birth.toNat : Int), .int .u32 (y_22.Iv.toNat : Int), .int .u32 (y_22.Tag.toNat : Int), .int .u32 (y_22.Sum.toNat : Int)]) S28 rfl hc_30 rfl rfl) rfl (JA.val ⟨by kernel_rfl, by kernel_rfl⟩ (calm_only _) (i := 8) rfl ⟨by kernel_rfl, by kernel_rfl, rfl⟩ trivial (stab_of (Hle.refl _) trivial) (R.neqAgg QU28 QP28 QG28 QF28 rfl rfl (EqF.i (by decide) S3 U3 rfl rfl (EqF.u32 (a := y_13.Birth) (b := y_22.Birth) (by decide) S26 U26 rfl rfl (EqF.u32 (a := y_13.Iv) (b := y_22.Iv) (by decide) S26 U26 rfl rfl (EqF.u32 (a := y_13.Tag) (b := y_22.Tag) (by decide) S26 U26 rfl rfl (EqF.u32 (a := y_13.Sum) (b := y_22.Sum) (by decide) S26 U26 rfl rfl EqF.nil)))))) rfl (JA.doneN (by kernel_rfl) (JN.next (JC.condB rfl (fun c_31 => ?_) (fun c_31 => ?_))))))
     ·
      replace hx := cond_t c_31 hx
      refine JC.seq (JC.region (JL.val rfl rfl (R.assign rfl) (JL.nil (JN.next (JC.ret (JN.blkR (JN.passR ?_)))))))
      obtain rfl := run_done hd_12 hx
      refine JN.passR (JN.blkR ?_)
      clear hx; have hx := hxo_7
      simp only [Sum.elim_inl, Sum.elim_inr] at hx
      refine JN.passR (JN.passR (JN.outP (vs := [.bool false]) (K := []) (rst := []) (.inl rfl) rfl rfl (Res.tmp rfl rfl) picks0 ?_))
      obtain rfl := Option.some.inj hx
      exact ⟨rfl, rfl, rfl, trivial⟩
     ·
      replace hx := cond_f c_31 hx
      refine JC.skip (JN.blkN (JN.next (JC.region (JL.val rfl rfl (R.inc rfl rfl (of_decide_eq_true c_12) (IsSlice.lenI ha_2)) (JL.val rfl rfl (R.move rfl) (JL.nil ?_))))))
      replace hx := run_next hd_12 hx
      exact JN.cut ⟨s_9 + 1, rfl, rfl, rfl, hx⟩ ⟨rfl, rfl, rfl, rfl, trivial⟩ rfl rfl
    ·
     replace hx := cond_f c_12 hx
     refine JC.exit (JN.passX ?_)
     obtain rfl := run_done hd_12 hx
     refine JN.passX (JN.exitSame ?_)
     exact JN.cut ⟨(), rfl, rfl, rfl, rfl⟩ trivial rfl rfl

set_option maxHeartbeats 8000000 in
theorem obj_Same_ok (p_1 : Object) (p_3 : Object) (H : Heaplet) {aoa_2 : Option Addr} {na_2 : Nat} {capa_2 : Nat} {aoa_4 : Option Addr} {na_4 : Nat} {capa_4 : Nat} (ha_2 : IsSlice H R_Ptr 5 (.slice aoa_2 na_2 capa_2) p_1.Data) (ha_4 : IsSlice H R_Ptr 5 (.slice aoa_4 na_4 capa_4) p_3.Data) (r : Bool) (hx : obj_Same p_1 p_3 = some r) :
  Does Try.prog 28 #[.agg #[.int .u8 (p_1.Kind.toNat : Int), .int .i64 p_1.Links, .int .i64 p_1.Size, .slice aoa_2 na_2 capa_2], .agg #[.int .u8 (p_3.Kind.toNat : Int), .int .i64 p_3.Links, .int .i64 p_3.Size, .slice aoa_4 na_4 capa_4]] [] H (fun u K' H' => u = .bool r ∧ K' = [] ∧ H = H' ∧ True) := by
 refine Does.enterL (vs := [.agg #[.int .u8 (p_1.Kind.toNat : Int), .int .i64 p_1.Links, .int .i64 p_1.Size, .slice aoa_2 na_2 capa_2], .agg #[.int .u8 (p_3.Kind.toNat : Int), .int .i64 p_3.Links, .int .i64 p_3.Size, .slice aoa_4 na_4 capa_4]]) (l := [(0, .agg #[.int .u8 (p_1.Kind.toNat : Int), .int .i64 p_1.Links, .int .i64 p_1.Size, .slice aoa_2 na_2 capa_2]), (1, .agg #[.int .u8 (p_3.Kind.toNat : Int), .int .i64 p_3.Links, .int .i64 p_3.Size, .slice aoa_4 na_4 capa_4])]) Try.func28 rfl rfl ⟨rfl, rfl, trivial⟩ (fun w hlt => ?_)
 unfold obj_Same at hx
 refine JC.seq (JC.region (JL.box rfl rfl (fun b_5 hb_5 => JL.box rfl rfl (fun b_6 hb_6 => JL.val rfl rfl (R.assign rfl) (JL.nil (JN.next (JC.seq ?_)))))))
 obtain ⟨t_7, ht_9, hx⟩ := bnd_some hx
 refine JC.cut (fun l o g => l = [(4, .bool t_7)] ∧ o = [] ∧ H = g) ?_ ?_
 ·
  rintro _ _ _ ⟨rfl, rfl, rfl⟩
  refine JN.next (JC.ret (JN.outP (vs := [.bool t_7]) (K := []) (rst := []) (.inl rfl) rfl rfl (Res.tmp rfl rfl) picks0 ?_))
  obtain rfl := Option.some.inj hx
  exact ⟨rfl, rfl, rfl, trivial⟩
 ·
  have hxo_8 := hx; clear hx; have hx := ht_9; clear ht_9
  refine JC.region (JL.val rfl rfl (R.fa F60_0 rfl) (JL.val rfl rfl (R.ldo 1 S5 rfl rfl rfl) (JL.val rfl rfl (R.fa F60_0 rfl) (JL.val rfl rfl (R.ldo 0 S5 rfl rfl rfl) (JL.val rfl rfl (R.eql8 (a := p_1.Kind) (b := p_3.Kind) rfl rfl) (JL.val rfl rfl (R.move rfl) (JL.gSplit (t := 10) rfl (fun c_10 => ?_) (fun c_10 => ?_))))))))
  ·
   replace hx := cond_t c_10 hx
   refine JL.gYes rfl rfl rfl (JL.val rfl rfl (R.fa F60_1 rfl) (JL.gYes rfl rfl rfl (JL.val rfl rfl (R.ldo 1 S3 rfl rfl rfl) (JL.gYes rfl rfl rfl (JL.val rfl rfl (R.fa F60_1 rfl) (JL.gYes rfl rfl rfl (JL.val rfl rfl (R.ldo 0 S3 rfl rfl rfl) (JL.gYes rfl rfl rfl (JL.val rfl rfl (R.eql_i rfl rfl) (JL.val rfl rfl (R.pickT rfl rfl) (JL.val rfl rfl (R.move rfl) ?_)))))))))))
   refine JL.gSplit (t := 17) rfl (fun c_11 => ?_) (fun c_11 => ?_)
   ·
    replace hx := cond_t c_11 hx
    refine JL.gYes rfl rfl rfl (JL.val rfl rfl (R.fa F60_2 rfl) (JL.gYes rfl rfl rfl (JL.val rfl rfl (R.ldo 1 S3 rfl rfl rfl) (JL.gYes rfl rfl rfl (JL.val rfl rfl (R.fa F60_2 rfl) (JL.gYes rfl rfl rfl (JL.val rfl rfl (R.ldo 0 S3 rfl rfl rfl) (JL.gYes rfl rfl rfl (JL.val rfl rfl (R.eql_i rfl rfl) (JL.val rfl rfl (R.pickT rfl rfl) (JL.val rfl rfl (R.move rfl) ?_)))))))))))
    refine JL.gSplit (t := 24) rfl (fun c_12 => ?_) (fun c_12 => ?_)
    ·
     replace hx := cond_t c_12 hx
     refine JL.gYes rfl rfl rfl (JL.val rfl rfl (R.fa F60_3 rfl) (JL.gYes rfl rfl rfl (JL.val rfl rfl (R.ldo 1 S53 rfl rfl rfl) (JL.gYes rfl rfl rfl (JL.val rfl rfl (R.fa F60_3 rfl) (JL.gYes rfl rfl rfl (JL.val rfl rfl (R.ldo 0 S53 rfl rfl rfl) (JL.gYes rfl rfl rfl ?_))))))))
     obtain ⟨x_13, hr_14, hx⟩ := bnd_some hx
     refine JL.callC (vs := [_, _]) (args := [_, _]) (K := []) (rst := [_, _]) E59 rfl rfl rfl picks0 (slices_Equal_Ptr_ok p_1.Data p_3.Data _ ha_2 ha_4 _ hr_14) rfl (fun u_15 Ku_15 Hu_15 hRu_15 hleu_15 hfu_15 => ?_)
     obtain ⟨rfl, rfl, rfl, -⟩ := hRu_15
     refine JL.val rfl rfl (R.pickT rfl rfl) (JL.val rfl rfl (R.assign rfl) (JL.nil ?_))
     obtain rfl := Option.some.inj hx
     refine JN.forget 1 (JN.forget 0 ?_)
     exact JN.cut ⟨rfl, rfl, rfl⟩ ⟨rfl, trivial⟩ rfl rfl
    ·
     replace hx := cond_f c_12 hx
     refine JL.gNo rfl rfl rfl rfl rfl (JL.gNo rfl rfl rfl rfl rfl (JL.gNo rfl rfl rfl rfl rfl (JL.gNo rfl rfl rfl rfl rfl (JL.gNo rfl rfl rfl rfl rfl (JL.val rfl rfl (R.pickF rfl rfl) (JL.val rfl rfl (R.assign rfl) (JL.nil ?_)))))))
     obtain rfl := Option.some.inj hx
     refine JN.forget 1 (JN.forget 0 ?_)
     exact JN.cut ⟨rfl, rfl, rfl⟩ ⟨rfl, trivial⟩ rfl rfl
   ·
    replace hx := cond_f c_11 hx
    refine JL.gNo rfl rfl rfl rfl rfl (JL.gNo rfl rfl rfl rfl rfl (JL.gNo rfl rfl rfl rfl rfl (JL.gNo rfl rfl rfl rfl rfl (JL.gNo rfl rfl rfl rfl rfl (JL.val rfl rfl (R.pickF rfl rfl) (JL.val rfl rfl (R.move rfl) (JL.gNo rfl rfl rfl rfl rfl (JL.gNo rfl rfl rfl rfl rfl (JL.gNo rfl rfl rfl rfl rfl (JL.gNo rfl rfl rfl rfl rfl (JL.gNo rfl rfl rfl rfl rfl ?_)))))))))))
    refine JL.val rfl rfl (R.pickF rfl rfl) (JL.val rfl rfl (R.assign rfl) (JL.nil ?_))
    obtain rfl := Option.some.inj hx
    refine JN.forget 1 (JN.forget 0 ?_)
    exact JN.cut ⟨rfl, rfl, rfl⟩ ⟨rfl, trivial⟩ rfl rfl
  ·
   replace hx := cond_f c_10 hx
   refine JL.gNo rfl rfl rfl rfl rfl (JL.gNo rfl rfl rfl rfl rfl (JL.gNo rfl rfl rfl rfl rfl (JL.gNo rfl rfl rfl rfl rfl (JL.gNo rfl rfl rfl rfl rfl (JL.val rfl rfl (R.pickF rfl rfl) (JL.val rfl rfl (R.move rfl) (JL.gNo rfl rfl rfl rfl rfl (JL.gNo rfl rfl rfl rfl rfl (JL.gNo rfl rfl rfl rfl rfl (JL.gNo rfl rfl rfl rfl rfl (JL.gNo rfl rfl rfl rfl rfl ?_)))))))))))
   refine JL.val rfl rfl (R.pickF rfl rfl) (JL.val rfl rfl (R.move rfl) (JL.gNo rfl rfl rfl rfl rfl (JL.gNo rfl rfl rfl rfl rfl (JL.gNo rfl rfl rfl rfl rfl (JL.gNo rfl rfl rfl rfl rfl (JL.gNo rfl rfl rfl rfl rfl (JL.val rfl rfl (R.pickF rfl rfl) (JL.val rfl rfl (R.assign rfl) (JL.nil ?_)))))))))
   obtain rfl := Option.some.inj hx
   refine JN.forget 1 (JN.forget 0 ?_)
   exact JN.cut ⟨rfl, rfl, rfl⟩ ⟨rfl, trivial⟩ rfl rfl

set_option maxHeartbeats 8000000 in
theorem law15_SetAlone_ok (p_1 : Store) (p_5 : Ptr) (p_6 : Int) (p_7 : UInt32) (p_8 : List UInt8) (H : Heaplet) {aoa_2 : Option Addr} {na_2 : Nat} {capa_2 : Nat} {aoa_3 : Option Addr} {na_3 : Nat} {capa_3 : Nat} {aoa_4 : Option Addr} {na_4 : Nat} {capa_4 : Nat} {aoa_9 : Option Addr} {na_9 : Nat} {capa_9 : Nat} (ha_2 : IsSlice H (RSl RU8 1) 1 (.slice aoa_2 na_2 capa_2) p_1.Disk.Blocks) (ha_3 : IsSlice H R_Write 2 (.slice aoa_3 na_3 capa_3) p_1.Disk.Waits) (ha_4 : IsSlice H RU8 1 (.slice aoa_4 na_4 capa_4) p_1.Space) (ha_9 : IsSlice H RU8 1 (.slice aoa_9 na_9 capa_9) p_8) (r : Bool) (hx : law15_SetAlone p_1 p_5 p_6 p_7 p_8 = some r) :
  Does Try.prog 8 #[.agg #[.slice aoa_2 na_2 capa_2, .slice aoa_3 na_3 capa_3, .slice aoa_4 na_4 capa_4, .int .u32 (p_1.Epoch.toNat : Int), .int .u32 (p_1.Count.toNat : Int)], .agg #[.int .i64 p_5.At, .int .u32 (p_5.Birth.toNat : Int), .int .u32 (p_5.Iv.toNat : Int), .int .u32 (p_5.Tag.toNat : Int), .int .u32 (p_5.Sum.toNat : Int)], .int .i64 p_6, .int .u32 (p_7.toNat : Int), .slice aoa_9 na_9 capa_9] [] H (fun u K' H' => u = .bool r ∧ K' = [] ∧ True) := by
 refine Does.enterL (vs := [.agg #[.slice aoa_2 na_2 capa_2, .slice aoa_3 na_3 capa_3, .slice aoa_4 na_4 capa_4, .int .u32 (p_1.Epoch.toNat : Int), .int .u32 (p_1.Count.toNat : Int)], .agg #[.int .i64 p_5.At, .int .u32 (p_5.Birth.toNat : Int), .int .u32 (p_5.Iv.toNat : Int), .int .u32 (p_5.Tag.toNat : Int), .int .u32 (p_5.Sum.toNat : Int)], .int .i64 p_6, .int .u32 (p_7.toNat : Int), .slice aoa_9 na_9 capa_9]) (l := [(0, .agg #[.slice aoa_2 na_2 capa_2, .slice aoa_3 na_3 capa_3, .slice aoa_4 na_4 capa_4, .int .u32 (p_1.Epoch.toNat : Int), .int .u32 (p_1.Count.toNat : Int)]), (1, .agg #[.int .i64 p_5.At, .int .u32 (p_5.Birth.toNat : Int), .int .u32 (p_5.Iv.toNat : Int), .int .u32 (p_5.Tag.toNat : Int), .int .u32 (p_5.Sum.toNat : Int)]), (2, .int .i64 p_6), (3, .int .u32 (p_7.toNat : Int)), (4, .slice aoa_9 na_9 capa_9)]) Try.func8 rfl rfl ⟨rfl, rfl, rfl, rfl, rfl, trivial⟩ (fun w hlt => ?_)
 unfold law15_SetAlone at hx
 refine JC.seq (JC.region (JL.box rfl rfl (fun b_10 hb_10 => JL.box rfl rfl (fun b_11 hb_11 => JL.val rfl rfl (R.assign rfl) (JL.nil (JN.next (JC.seq (JC.region ?_))))))))
 obtain ⟨x_12, hr_13, hx⟩ := bnd_some hx
 refine JL.callC (vs := []) (args := []) (K := []) (rst := [_, _]) E19 rfl rfl rfl picks0 (law15_alive_ok _ _ hr_13) rfl (fun u_14 Ku_14 Hu_14 hRu_14 hleu_14 hfu_14 => ?_)
 obtain ⟨rfl, rfl, -⟩ := hRu_14
 refine JL.val rfl rfl (R.assign rfl) (JL.nil (JN.next (JC.seq (JC.seq (JC.region (JL.val rfl rfl (R.move rfl) (JL.val rfl rfl (R.not rfl) (JL.nil (JN.next (JC.condB rfl (fun c_15 => ?_) (fun c_15 => ?_)))))))))))
 ·
  replace hx := cond_t c_15 hx
  refine JC.seq (JC.region (JL.val rfl rfl (R.assign rfl) (JL.nil (JN.next (JC.ret (JN.passR (JN.outP (vs := [.bool false]) (K := []) (rst := [_, _]) (.inl rfl) rfl rfl (Res.tmp rfl rfl) picks0 ?_)))))))
  obtain rfl := Option.some.inj hx
  exact ⟨rfl, rfl, trivial⟩
 ·
  replace hx := cond_f c_15 hx
  refine JC.skip (JN.next (JC.seq (JC.seq (JC.region (JL.val rfl rfl (R.ldoN 1 (vs := [.slice aoa_2 na_2 capa_2, .slice aoa_3 na_3 capa_3, .slice aoa_4 na_4 capa_4, .int .u32 (p_1.Epoch.toNat : Int), .int .u32 (p_1.Count.toNat : Int)]) S50 rfl rfl rfl rfl) ?_)))))
  obtain ⟨x_16, hr_17, hx⟩ := bnd_some hx
  refine JL.callC (vs := [_]) (args := [_]) (K := []) (rst := [_, _]) E20 rfl rfl rfl picks0 (ref13_Great_ok p_1 _ (ha_2.mono (RSl.mono RU8.mono) hleu_14) (ha_3.mono R_Write.mono hleu_14) (ha_4.mono RU8.mono hleu_14) _ hr_17) rfl (fun u_18 Ku_18 Hu_18 hRu_18 hleu_18 hfu_18 => ?_)
  obtain ⟨rfl, rfl, rfl, -⟩ := hRu_18
  refine JL.val rfl rfl (R.move rfl) (JL.gSplit (t := 32) rfl (fun c_19 => ?_) (fun c_19 => ?_))
  ·
   replace hx := cond_t c_19 hx
   refine JL.gNo rfl rfl rfl rfl rfl (JL.gNo rfl rfl rfl rfl rfl (JL.gNo rfl rfl rfl rfl rfl (JL.val rfl rfl (R.pickT rfl rfl) (JL.val rfl rfl (R.move rfl) (JL.gNo rfl rfl rfl rfl rfl (JL.gNo rfl rfl rfl rfl rfl (JL.gNo rfl rfl rfl rfl rfl (JL.val rfl rfl (R.pickT rfl rfl) (JL.nil (JN.next (JC.condT rfl ?_)))))))))))
   refine JC.seq (JC.region (JL.val rfl rfl (R.move rfl) (JL.val rfl rfl (R.assign rfl) (JL.nil (JN.next (JC.ret (JN.passR (JN.outP (vs := [.bool x_12]) (K := []) (rst := [_, _]) (.inl rfl) rfl rfl (Res.tmp rfl rfl) picks0 ?_))))))))
   obtain rfl := Option.some.inj hx
   exact ⟨rfl, rfl, trivial⟩
  ·
   replace hx := cond_f c_19 hx
   refine JL.gYes rfl rfl rfl (JL.val rfl rfl (R.move rfl) (JL.gYes rfl rfl rfl (JL.val rfl rfl (R.lenL U45 rfl (IsSlice.long ha_9)) (JL.gYes rfl rfl rfl (JL.val rfl rfl (R.gtr_i rfl rfl) (JL.val rfl rfl (R.pickF rfl rfl) (JL.val rfl rfl (R.move rfl) (JL.gSplit (t := 37) rfl (fun c_20 => ?_) (fun c_20 => ?_)))))))))
   ·
    replace hx := cond_t c_20 hx
    refine JL.gNo rfl rfl rfl rfl rfl (JL.gNo rfl rfl rfl rfl rfl (JL.gNo rfl rfl rfl rfl rfl (JL.val rfl rfl (R.pickT rfl rfl) (JL.nil (JN.next (JC.condT rfl (JC.seq (JC.region (JL.val rfl rfl (R.move rfl) (JL.val rfl rfl (R.assign rfl) (JL.nil ?_)))))))))))
    refine JN.next (JC.ret (JN.passR (JN.outP (vs := [.bool x_12]) (K := []) (rst := [_, _]) (.inl rfl) rfl rfl (Res.tmp rfl rfl) picks0 ?_)))
    obtain rfl := Option.some.inj hx
    exact ⟨rfl, rfl, trivial⟩
   ·
    replace hx := cond_f c_20 hx
    refine JL.gYes rfl rfl rfl (JL.val rfl rfl (R.ldoN 1 (vs := [.slice aoa_2 na_2 capa_2, .slice aoa_3 na_3 capa_3, .slice aoa_4 na_4 capa_4, .int .u32 (p_1.Epoch.toNat : Int), .int .u32 (p_1.Count.toNat : Int)]) S50 rfl rfl rfl rfl) (JL.gYes rfl rfl rfl ?_))
    obtain ⟨x_21, hr_22, hx⟩ := bnd_some hx
    refine JL.callC (vs := [_]) (args := [_]) (K := []) (rst := [_, _]) E26 rfl rfl rfl picks0 (store_Check_ok p_1 _ (ha_2.mono (RSl.mono RU8.mono) hleu_14) (ha_3.mono R_Write.mono hleu_14) (ha_4.mono RU8.mono hleu_14) _ hr_22) rfl (fun u_23 Ku_23 Hu_23 hRu_23 hleu_23 hfu_23 => ?_)
    obtain ⟨rfl, rfl, rfl, -⟩ := hRu_23
    refine JL.gYes rfl rfl rfl (JL.val rfl rfl (R.neq_i rfl rfl) (JL.val rfl rfl (R.pickF rfl rfl) (JL.nil (JN.next (JC.condB rfl (fun c_24 => ?_) (fun c_24 => ?_))))))
    ·
     replace hx := cond_t c_24 hx
     refine JC.seq (JC.region (JL.val rfl rfl (R.move rfl) (JL.val rfl rfl (R.assign rfl) (JL.nil (JN.next (JC.ret (JN.passR (JN.outP (vs := [.bool x_12]) (K := []) (rst := [_, _]) (.inl rfl) rfl rfl (Res.tmp rfl rfl) picks0 ?_))))))))
     obtain rfl := Option.some.inj hx
     exact ⟨rfl, rfl, trivial⟩
    ·
     replace hx := cond_f c_24 hx
     refine JC.skip (JN.next (JC.seq (JC.region (JL.val rfl rfl (R.ldoN 1 (vs := [.slice aoa_2 na_2 capa_2, .slice aoa_3 na_3 capa_3, .slice aoa_4 na_4 capa_4, .int .u32 (p_1.Epoch.toNat : Int), .int .u32 (p_1.Count.toNat : Int)]) S50 rfl rfl rfl rfl) (JL.val rfl rfl (R.ldoN 0 (vs := [.int .i64 p_5.At, .int .u32 (p_5.Birth.toNat : Int), .int .u32 (p_5.Iv.toNat : Int), .int .u32 (p_5.Tag.toNat : Int), .int .u32 (p_5.Sum.toNat : Int)]) S28 rfl rfl rfl rfl) ?_)))))
     obtain ⟨x_25, hr_26, hx⟩ := bnd_some hx
     refine JL.callC (vs := [_, _, _]) (args := [_, _, _]) (K := []) (rst := [_, _]) E21 rfl rfl rfl picks0 (set_Walk_ok p_1 p_5 (0 : UInt32) _ (ha_2.mono (RSl.mono RU8.mono) hleu_14) (ha_3.mono R_Write.mono hleu_14) (ha_4.mono RU8.mono hleu_14) _ hr_26) rfl (fun u_27 Ku_27 Hu_27 hRu_27 hleu_27 hfu_27 => ?_)
     obtain ⟨aor_28, nr_28, capr_28, Kr_28, rfl, rfl, hr_28, hnewr_28, -⟩ := hRu_27
     replace hr_28 := (RowOf.base (RowOf.const (H2 := New H Hu_27) R_Ptr.const hr_28) (fun p hp => (hfu_27 p (mem_seg 0 rfl hp)).resolve_left (hnewr_28 p hp)))
     refine JL.val rfl rfl (R.move rfl) (JL.val rfl rfl (R.extract rfl rfl) (JL.val rfl rfl (R.extract rfl rfl) (JL.val rfl rfl (R.assign rfl) (JL.val rfl rfl (R.assign rfl) (JL.nil (JN.next (JC.seq (JC.seq (JC.region (JL.val rfl rfl (R.move rfl) (JL.val rfl rfl (R.neq_i rfl rfl) ?_)))))))))))
     refine JL.nil (JN.next (JC.condB rfl (fun c_29 => ?_) (fun c_29 => ?_)))
     ·
      replace hx := cond_t c_29 hx
      refine JC.seq (JC.region (JL.val rfl rfl (R.move rfl) (JL.val rfl rfl (R.assign rfl) (JL.nil (JN.next (JC.ret (JN.passR (JN.outP (vs := [.bool x_12]) (K := []) (rst := [_, _, _]) (.inl rfl) rfl rfl (Res.tmp rfl rfl) picks0 ?_))))))))
      obtain rfl := Option.some.inj hx
      exact ⟨rfl, rfl, trivial⟩
     ·
      replace hx := cond_f c_29 hx
      refine JC.skip (JN.next (JC.seq (JC.seq (JC.region (JL.val rfl rfl (R.assign rfl) (JL.nil (JN.next ?_)))))))
      obtain ⟨t_30, ht_32, hx⟩ := bnd_some hx
      refine JC.cut (fun l o g => ∃ t_30a : Unit, l = [(2, .int .i64 p_6), (3, .int .u32 (p_7.toNat : Int)), (4, .slice aoa_9 na_9 capa_9), (5, .pointer (some ⟨b_10, 0, none⟩)), (6, .pointer (some ⟨b_11, 0, none⟩)), (11, .bool x_12)] ∧ o = [[(b_10, .cells #[.slice aoa_2 na_2 capa_2, .slice aoa_3 na_3 capa_3, .slice aoa_4 na_4 capa_4, .int .u32 (p_1.Epoch.toNat : Int), .int .u32 (p_1.Count.toNat : Int)] 50 (0, 0))], [(b_11, .cells #[.int .i64 p_5.At, .int .u32 (p_5.Birth.toNat : Int), .int .u32 (p_5.Iv.toNat : Int), .int .u32 (p_5.Tag.toNat : Int), .int .u32 (p_5.Sum.toNat : Int)] 28 (0, 0))]] ∧ Hu_27 = g ∧ t_30 = .inl t_30a) ?_ ?_
      ·
       rintro _ _ _ ⟨t_30a, rfl, rfl, rfl, rfl⟩
       simp only [Sum.elim_inl] at hx
       refine JN.next (JC.seq (JC.region (JL.val rfl rfl (R.ldoN 0 (vs := [.slice aoa_2 na_2 capa_2, .slice aoa_3 na_3 capa_3, .slice aoa_4 na_4 capa_4, .int .u32 (p_1.Epoch.toNat : Int), .int .u32 (p_1.Count.toNat : Int)]) S50 rfl rfl rfl rfl) (JL.val rfl rfl (R.move rfl) ?_))))
       obtain ⟨x_36, hr_37, hx⟩ := bnd_some hx
       refine JL.callC (vs := [_, _, _]) (args := [_, _, _]) (K := []) (rst := [_, _]) E27 rfl rfl rfl picks0 (store_Lay_ok p_1 (1 : UInt32) p_8 _ (ha_2.mono (RSl.mono RU8.mono) (hleu_14.trans hleu_27)) (ha_3.mono R_Write.mono (hleu_14.trans hleu_27)) (ha_4.mono RU8.mono (hleu_14.trans hleu_27)) (ha_9.mono RU8.mono (hleu_14.trans hleu_27)) _ hr_37) rfl (fun u_38 Ku_38 Hu_38 hRu_38 hleu_38 hfu_38 => ?_)
       obtain ⟨aoz_39, nz_39, capz_39, aor_40, nr_40, capr_40, Kr_40, aor_41, nr_41, capr_41, Kr_41, rfl, rfl, hz_39, hr_40, hnewr_40, hr_41, hnewr_41, -⟩ := hRu_38
       replace hr_40 := (RowOf.base (RowOf.mono R_Write.mono (New.call (hleu_14.trans hleu_27)) hr_40) (fun p hp => (hfu_38 p (mem_seg 0 rfl hp)).resolve_left (hnewr_40 p hp)))
       replace hr_41 := (RowOf.base (RowOf.const (H2 := New H Hu_38) RU8.const hr_41) (fun p hp => (hfu_38 p (mem_seg 1 rfl hp)).resolve_left (hnewr_41 p hp)))
       replace hz_39 := IsSlice.mono (RSl.mono RU8.mono) (New.call (hleu_14.trans hleu_27)) hz_39
       refine JL.val rfl rfl (R.move rfl) (JL.val rfl rfl (R.extract rfl rfl) (JL.val rfl rfl (R.extract rfl rfl) (JL.val rfl rfl (R.extract rfl rfl) (JL.alloc Z50 rfl (fun b_42 hb_42 => JL.alloc Z28 rfl (fun b_43 hb_43 => JL.store 1 S50 rfl rfl rfl rfl rfl (Nat.le_of_ble_eq_true rfl) (JL.store 0 S28 rfl rfl rfl rfl rfl (Nat.le_of_ble_eq_true rfl) (JL.val rfl rfl (R.assign rfl) (JL.nil (JN.next (JC.seq ?_)))))))))))
       refine JC.seq (JC.region (JL.val rfl rfl (R.move rfl) (JL.val rfl rfl (R.neq_i rfl rfl) (JL.nil (JN.next (JC.condB rfl (fun c_44 => ?_) (fun c_44 => ?_)))))))
       ·
        replace hx := cond_t c_44 hx
        refine JC.seq (JC.region (JL.val rfl rfl (R.move rfl) (JL.val rfl rfl (R.assign rfl) (JL.nil (JN.next (JC.ret (JN.passR (JN.outP (vs := [.bool x_12]) (K := []) (rst := [_, _, _, _, _, _]) (.inl rfl) rfl rfl (Res.tmp rfl rfl) picks0 ?_))))))))
        obtain rfl := Option.some.inj hx
        exact ⟨rfl, rfl, trivial⟩
       ·
        replace hx := cond_f c_44 hx
        refine JC.skip (JN.next (JC.seq (JC.region (JL.val rfl rfl (R.ldoN 4 (vs := [.slice aoa_2 na_2 capa_2, .slice aoa_3 na_3 capa_3, .slice aoa_4 na_4 capa_4, .int .u32 (p_1.Epoch.toNat : Int), .int .u32 (p_1.Count.toNat : Int)]) S50 rfl rfl rfl rfl) (JL.val rfl rfl (R.ldoN 5 (vs := [.int .i64 p_5.At, .int .u32 (p_5.Birth.toNat : Int), .int .u32 (p_5.Iv.toNat : Int), .int .u32 (p_5.Tag.toNat : Int), .int .u32 (p_5.Sum.toNat : Int)]) S28 rfl rfl rfl rfl) (JL.val rfl rfl (R.move rfl) ?_))))))
        obtain ⟨x_45, hr_46, hx⟩ := bnd_some hx
        refine JL.callC (vs := [_, _, _]) (args := [_, _, _]) (K := []) (rst := [_, _, _, _, _, _]) E23 rfl rfl rfl picks0 (set_Object_ok p_1 p_5 p_6 _ (ha_2.mono (RSl.mono RU8.mono) (hleu_14.trans (hleu_27.trans hleu_38))) (ha_3.mono R_Write.mono (hleu_14.trans (hleu_27.trans hleu_38))) (ha_4.mono RU8.mono (hleu_14.trans (hleu_27.trans hleu_38))) _ hr_46) rfl (fun u_47 Ku_47 Hu_47 hRu_47 hleu_47 hfu_47 => ?_)
        obtain ⟨aoz_48, nz_48, rfl, rfl, hz_48, -⟩ := hRu_47
        replace hz_48 := IsSlice.mono R_Ptr.mono (New.call (hleu_14.trans (hleu_27.trans hleu_38))) hz_48
        refine JL.val rfl rfl (R.move rfl) (JL.val rfl rfl (R.extract rfl rfl) (JL.val rfl rfl (R.extract rfl rfl) (JL.alloc Z60 rfl (fun b_49 hb_49 => JL.store 0 S60 rfl rfl rfl rfl rfl (Nat.le_of_ble_eq_true rfl) (JL.val rfl rfl (R.assign rfl) (JL.nil (JN.next (JC.seq (JC.region (JL.val rfl rfl (R.ldoN 2 (vs := [.slice aoz_39 nz_39 capz_39, .slice aor_40 nr_40 capr_40, .slice aor_41 nr_41 capr_41, .int .u32 (x_36.1.Epoch.toNat : Int), .int .u32 (x_36.1.Count.toNat : Int)]) S50 rfl rfl rfl rfl) (JL.val rfl rfl (R.ldoN 6 (vs := [.int .i64 p_5.At, .int .u32 (p_5.Birth.toNat : Int), .int .u32 (p_5.Iv.toNat : Int), .int .u32 (p_5.Tag.toNat : Int), .int .u32 (p_5.Sum.toNat : Int)]) S28 rfl rfl rfl rfl) ?_)))))))))))
        refine JL.val rfl rfl (R.move rfl) (JL.pubN 3 R_Write.mono rfl (hr_40.mono R_Write.mono (New.mono hleu_47)) (Nat.le_refl _) (fun H_50 hleH_50 hsH_50 => JL.forget 3 (JL.pubN 3 RU8.mono rfl (hr_41.mono RU8.mono (New.mono (hleu_47.trans hleH_50))) (Nat.le_refl _) (fun H_51 hleH_51 hsH_51 => JL.forget 3 ?_))))
        obtain ⟨x_52, hr_53, hx⟩ := bnd_some hx
        refine JL.callC (vs := [_, _, _]) (args := [_, _, _]) (K := []) (rst := [_, _, _, _, _]) E23 rfl rfl rfl picks0 (set_Object_ok x_36.1 p_5 p_6 _ ((hz_39.mono (RSl.mono RU8.mono) (New.mono (hleu_47.trans (hleH_50.trans hleH_51)))).old (RSl.mono RU8.mono)) ((hsH_50.mono R_Write.mono (New.mono hleH_51)).old R_Write.mono) (hsH_51.old RU8.mono) _ hr_53) rfl (fun u_54 Ku_54 Hu_54 hRu_54 hleu_54 hfu_54 => ?_)
        obtain ⟨aoz_55, nz_55, rfl, rfl, hz_55, -⟩ := hRu_54
        replace hz_55 := IsSlice.mono R_Ptr.mono (New.call (hleu_14.trans (hleu_27.trans (hleu_38.trans (hleu_47.trans (hleH_50.trans hleH_51)))))) hz_55
        refine JL.val rfl rfl (R.move rfl) (JL.val rfl rfl (R.extract rfl rfl) (JL.val rfl rfl (R.extract rfl rfl) (JL.alloc Z60 rfl (fun b_56 hb_56 => JL.store 0 S60 rfl rfl rfl rfl rfl (Nat.le_of_ble_eq_true rfl) (JL.val rfl rfl (R.assign rfl) (JL.nil (JN.next (JC.seq (JC.region (JL.val rfl rfl (R.ldoN 4 (vs := [.slice aoa_2 na_2 capa_2, .slice aoa_3 na_3 capa_3, .slice aoa_4 na_4 capa_4, .int .u32 (p_1.Epoch.toNat : Int), .int .u32 (p_1.Count.toNat : Int)]) S50 rfl rfl rfl rfl) (JL.val rfl rfl (R.ldoN 5 (vs := [.int .i64 p_5.At, .int .u32 (p_5.Birth.toNat : Int), .int .u32 (p_5.Iv.toNat : Int), .int .u32 (p_5.Tag.toNat : Int), .int .u32 (p_5.Sum.toNat : Int)]) S28 rfl rfl rfl rfl) ?_)))))))))))
        refine JL.val rfl rfl (R.move rfl) ?_
        obtain ⟨x_57, hr_58, hx⟩ := bnd_some hx
        refine JL.callC (vs := [_, _, _]) (args := [_, _, _]) (K := []) (rst := [_, _, _, _, _, _]) E21 rfl rfl rfl picks0 (set_Walk_ok p_1 p_5 p_7 _ (ha_2.mono (RSl.mono RU8.mono) (hleu_14.trans (hleu_27.trans (hleu_38.trans (hleu_47.trans (hleH_50.trans (hleH_51.trans hleu_54))))))) (ha_3.mono R_Write.mono (hleu_14.trans (hleu_27.trans (hleu_38.trans (hleu_47.trans (hleH_50.trans (hleH_51.trans hleu_54))))))) (ha_4.mono RU8.mono (hleu_14.trans (hleu_27.trans (hleu_38.trans (hleu_47.trans (hleH_50.trans (hleH_51.trans hleu_54))))))) _ hr_58) rfl (fun u_59 Ku_59 Hu_59 hRu_59 hleu_59 hfu_59 => ?_)
        obtain ⟨aor_60, nr_60, capr_60, Kr_60, rfl, rfl, hr_60, hnewr_60, -⟩ := hRu_59
        replace hr_60 := (RowOf.base (RowOf.const (H2 := New H Hu_59) R_Ptr.const hr_60) (fun p hp => (hfu_59 p (mem_seg 0 rfl hp)).resolve_left (hnewr_60 p hp)))
        refine JL.val rfl rfl (R.move rfl) (JL.val rfl rfl (R.extract rfl rfl) (JL.val rfl rfl (R.extract rfl rfl) (JL.val rfl rfl (R.assign rfl) (JL.val rfl rfl (R.assign rfl) (JL.nil (JN.next (JC.tidyP (l' := [(3, .int .u32 (p_7.toNat : Int)), (6, .pointer (some ⟨b_11, 0, none⟩)), (11, .bool x_12), (15, .pointer (some ⟨b_42, 0, none⟩)), (18, .pointer (some ⟨b_49, 0, none⟩)), (19, .int .i64 x_45.2), (20, .pointer (some ⟨b_56, 0, none⟩)), (21, .int .i64 x_52.2), (22, .slice aor_60 nr_60 capr_60), (23, .int .i64 x_57.2)]) (own' := [Kr_60, [(b_56, .cells #[.int .u8 (x_52.1.Kind.toNat : Int), .int .i64 x_52.1.Links, .int .i64 x_52.1.Size, .slice aoz_55 nz_55 nz_55] 60 (0, 0))], [(b_49, .cells #[.int .u8 (x_45.1.Kind.toNat : Int), .int .i64 x_45.1.Links, .int .i64 x_45.1.Size, .slice aoz_48 nz_48 nz_48] 60 (0, 0))], [(b_42, .cells #[.slice aoz_39 nz_39 capz_39, .slice aor_40 nr_40 capr_40, .slice aor_41 nr_41 capr_41, .int .u32 (x_36.1.Epoch.toNat : Int), .int .u32 (x_36.1.Count.toNat : Int)] 50 (0, 0))], [(b_11, .cells #[.int .i64 p_5.At, .int .u32 (p_5.Birth.toNat : Int), .int .u32 (p_5.Iv.toNat : Int), .int .u32 (p_5.Tag.toNat : Int), .int .u32 (p_5.Sum.toNat : Int)] 28 (0, 0))]]) (rst := [_, _]) ⟨rfl, rfl, rfl, rfl, rfl, rfl, rfl, rfl, rfl, rfl, trivial⟩ (picks 0 rfl (picks 0 rfl (picks 0 rfl (picks 1 rfl (picks 2 rfl picks0))))) (JC.seq (JC.region (JL.val rfl rfl (R.ldoN 3 (vs := [.slice aoz_39 nz_39 capz_39, .slice aor_40 nr_40 capr_40, .slice aor_41 nr_41 capr_41, .int .u32 (x_36.1.Epoch.toNat : Int), .int .u32 (x_36.1.Count.toNat : Int)]) S50 rfl rfl rfl rfl) (JL.val rfl rfl (R.ldoN 4 (vs := [.int .i64 p_5.At, .int .u32 (p_5.Birth.toNat : Int), .int .u32 (p_5.Iv.toNat : Int), .int .u32 (p_5.Tag.toNat : Int), .int .u32 (p_5.Sum.toNat : Int)]) S28 rfl rfl rfl rfl) ?_)))))))))))
        refine JL.val rfl rfl (R.move rfl) ?_
        obtain ⟨x_61, hr_62, hx⟩ := bnd_some hx
        refine JL.callC (vs := [_, _, _]) (args := [_, _, _]) (K := []) (rst := [_, _, _, _, _]) E21 rfl rfl rfl picks0 (set_Walk_ok x_36.1 p_5 p_7 _ ((hz_39.mono (RSl.mono RU8.mono) (New.mono (hleu_47.trans (hleH_50.trans (hleH_51.trans (hleu_54.trans hleu_59)))))).old (RSl.mono RU8.mono)) ((hsH_50.mono R_Write.mono (New.mono (hleH_51.trans (hleu_54.trans hleu_59)))).old R_Write.mono) ((hsH_51.mono RU8.mono (New.mono (hleu_54.trans hleu_59))).old RU8.mono) _ hr_62) rfl (fun u_63 Ku_63 Hu_63 hRu_63 hleu_63 hfu_63 => ?_)
        obtain ⟨aor_64, nr_64, capr_64, Kr_64, rfl, rfl, hr_64, hnewr_64, -⟩ := hRu_63
        replace hr_64 := (RowOf.base (RowOf.const (H2 := New H Hu_63) R_Ptr.const hr_64) (fun p hp => (hfu_63 p (mem_seg 0 rfl hp)).resolve_left (hnewr_64 p hp)))
        refine JL.val rfl rfl (R.move rfl) (JL.val rfl rfl (R.extract rfl rfl) (JL.val rfl rfl (R.extract rfl rfl) (JL.val rfl rfl (R.assign rfl) (JL.val rfl rfl (R.assign rfl) (JL.nil (JN.next (JC.seq (JC.seq (JC.region (JL.val rfl rfl (R.move rfl) (JL.val rfl rfl (R.move rfl) ?_)))))))))))
        refine JL.val rfl rfl (R.neq_i rfl rfl) (JL.val rfl rfl (R.move rfl) (JL.gSplit (t := 110) rfl (fun c_65 => ?_) (fun c_65 => ?_)))
        ·
         replace hx := cond_t c_65 hx
         refine JL.gNo rfl rfl rfl rfl rfl (JL.gNo rfl rfl rfl rfl rfl (JL.gNo rfl rfl rfl rfl rfl (JL.gNo rfl rfl rfl rfl rfl (JL.val rfl rfl (R.pickT rfl rfl) (JL.val rfl rfl (R.move rfl) (JL.gNo rfl rfl rfl rfl rfl (JL.gNo rfl rfl rfl rfl rfl (JL.gNo rfl rfl rfl rfl rfl (JL.val rfl rfl (R.pickT rfl rfl) (JL.val rfl rfl (R.move rfl) (JL.gNo rfl rfl rfl rfl rfl ?_)))))))))))
         refine JL.gNo rfl rfl rfl rfl rfl (JL.gNo rfl rfl rfl rfl rfl (JL.gNo rfl rfl rfl rfl rfl (JL.gNo rfl rfl rfl rfl rfl (JL.val rfl rfl (R.pickT rfl rfl) (JL.nil (JN.next (JC.condT rfl (JC.seq (JC.region (JL.val rfl rfl (R.assign rfl) (JL.nil ?_)))))))))))
         refine JN.next (JC.ret (JN.passR (JN.outP (vs := [.bool false]) (K := []) (rst := [_, _, _, _, _, _]) (.inl rfl) rfl rfl (Res.tmp rfl rfl) picks0 ?_)))
         obtain rfl := Option.some.inj hx
         exact ⟨rfl, rfl, trivial⟩
        ·
         replace hx := cond_f c_65 hx
         refine JL.gYes rfl rfl rfl (JL.val rfl rfl (R.ldoN 3 (vs := [.int .u8 (x_45.1.Kind.toNat : Int), .int .i64 x_45.1.Links, .int .i64 x_45.1.Size, .slice aoz_48 nz_48 nz_48]) S60 rfl rfl rfl rfl) (JL.gYes rfl rfl rfl (JL.val rfl rfl (R.ldoN 2 (vs := [.int .u8 (x_52.1.Kind.toNat : Int), .int .i64 x_52.1.Links, .int .i64 x_52.1.Size, .slice aoz_55 nz_55 nz_55]) S60 rfl rfl rfl rfl) (JL.gYes rfl rfl rfl ?_))))
         obtain ⟨x_66, hr_67, hx⟩ := bnd_some hx
         refine JL.callC (vs := [_, _]) (args := [_, _]) (K := []) (rst := [_, _, _, _, _, _]) E28 rfl rfl rfl picks0 (obj_Same_ok x_45.1 x_52.1 _ ((hz_48.mono R_Ptr.mono (New.mono (hleH_50.trans (hleH_51.trans (hleu_54.trans (hleu_59.trans hleu_63)))))).old R_Ptr.mono) ((hz_55.mono R_Ptr.mono (New.mono (hleu_59.trans hleu_63))).old R_Ptr.mono) _ hr_67) rfl (fun u_68 Ku_68 Hu_68 hRu_68 hleu_68 hfu_68 => ?_)
         obtain ⟨rfl, rfl, rfl, -⟩ := hRu_68
         refine JL.gYes rfl rfl rfl (JL.val rfl rfl (R.not rfl) (JL.val rfl rfl (R.pickF rfl rfl) (JL.val rfl rfl (R.move rfl) (JL.gSplit (t := 116) rfl (fun c_69 => ?_) (fun c_69 => ?_)))))
         ·
          replace hx := cond_t c_69 hx
          refine JL.gNo rfl rfl rfl rfl rfl (JL.gNo rfl rfl rfl rfl rfl (JL.gNo rfl rfl rfl rfl rfl (JL.val rfl rfl (R.pickT rfl rfl) (JL.val rfl rfl (R.move rfl) (JL.gNo rfl rfl rfl rfl rfl (JL.gNo rfl rfl rfl rfl rfl (JL.gNo rfl rfl rfl rfl rfl (JL.gNo rfl rfl rfl rfl rfl (JL.gNo rfl rfl rfl rfl rfl (JL.val rfl rfl (R.pickT rfl rfl) (JL.nil ?_)))))))))))
          refine JN.next (JC.condT rfl (JC.seq (JC.region (JL.val rfl rfl (R.assign rfl) (JL.nil (JN.next (JC.ret (JN.passR (JN.outP (vs := [.bool false]) (K := []) (rst := [_, _, _, _, _, _]) (.inl rfl) rfl rfl (Res.tmp rfl rfl) picks0 ?_)))))))))
          obtain rfl := Option.some.inj hx
          exact ⟨rfl, rfl, trivial⟩
         ·
          replace hx := cond_f c_69 hx
          refine JL.gYes rfl rfl rfl (JL.val rfl rfl (R.move rfl) (JL.gYes rfl rfl rfl (JL.val rfl rfl (R.move rfl) (JL.gYes rfl rfl rfl (JL.val rfl rfl (R.neq_i rfl rfl) (JL.val rfl rfl (R.pickF rfl rfl) (JL.val rfl rfl (R.move rfl) (JL.gSplit (t := 121) rfl (fun c_70 => ?_) (fun c_70 => ?_)))))))))
          ·
           replace hx := cond_t c_70 hx
           refine JL.gNo rfl rfl rfl rfl rfl (JL.gNo rfl rfl rfl rfl rfl (JL.gNo rfl rfl rfl rfl rfl (JL.gNo rfl rfl rfl rfl rfl (JL.gNo rfl rfl rfl rfl rfl (JL.val rfl rfl (R.pickT rfl rfl) (JL.nil (JN.next (JC.condT rfl (JC.seq (JC.region (JL.val rfl rfl (R.assign rfl) ?_)))))))))))
           refine JL.nil (JN.next (JC.ret (JN.passR (JN.outP (vs := [.bool false]) (K := []) (rst := [_, _, _, _, _, _]) (.inl rfl) rfl rfl (Res.tmp rfl rfl) picks0 ?_))))
           obtain rfl := Option.some.inj hx
           exact ⟨rfl, rfl, trivial⟩
          ·
           replace hx := cond_f c_70 hx
           refine JL.gYes rfl rfl rfl (JL.val rfl rfl (R.move rfl) (JL.gYes rfl rfl rfl (JL.val rfl rfl (R.lenL U53 rfl (RowOf.long hr_60)) (JL.gYes rfl rfl rfl (JL.val rfl rfl (R.move rfl) (JL.gYes rfl rfl rfl (JL.val rfl rfl (R.lenL U53 rfl (RowOf.long hr_64)) (JL.gYes rfl rfl rfl (JL.val rfl rfl (R.neq_i rfl rfl) (JL.val rfl rfl (R.pickF rfl rfl) (JL.nil ?_)))))))))))
           refine JN.next (JC.condB rfl (fun c_71 => ?_) (fun c_71 => ?_))
           ·
            replace hx := cond_t c_71 hx
            refine JC.seq (JC.region (JL.val rfl rfl (R.assign rfl) (JL.nil (JN.next (JC.ret (JN.passR (JN.outP (vs := [.bool false]) (K := []) (rst := [_, _, _, _, _, _]) (.inl rfl) rfl rfl (Res.tmp rfl rfl) picks0 ?_)))))))
            obtain rfl := Option.some.inj hx
            exact ⟨rfl, rfl, trivial⟩
           ·
            replace hx := cond_f c_71 hx
            refine JC.skip (JN.next (JC.seq (JC.seq (JC.region (JL.val rfl rfl (R.assign rfl) (JL.nil (JN.next ?_)))))))
            obtain ⟨t_72, ht_74, hx⟩ := bnd_some hx
            refine JC.cut (fun l o g => ∃ t_72a : Unit, l = [(11, .bool x_12)] ∧ o = [] ∧ Hu_63 = g ∧ t_72 = .inl t_72a) ?_ ?_
            ·
             rintro _ _ _ ⟨t_72a, rfl, rfl, rfl, rfl⟩
             simp only [Sum.elim_inl] at hx
             refine JN.next (JC.seq (JC.region (JL.val rfl rfl (R.move rfl) (JL.val rfl rfl (R.assign rfl) (JL.nil (JN.next (JC.ret (JN.outP (vs := [.bool x_12]) (K := []) (rst := []) (.inl rfl) rfl rfl (Res.tmp rfl rfl) picks0 ?_))))))))
             obtain rfl := Option.some.inj hx
             exact ⟨rfl, rfl, trivial⟩
            ·
             have hxo_73 := hx; clear hx; have hx := ht_74; clear ht_74
             refine JC.block (JC.forget 5 (JC.forget 4 (JC.forget 3 (JC.forget 2 (JC.front 1 rfl (JC.loopI (fun n l o g => ∃ s_75 : Nat, l = [(11, .bool x_12), (22, .slice aor_60 nr_60 capr_60), (24, .slice aor_64 nr_64 capr_64), (26, .int .i64 ((s_75 : Nat) : Int))] ∧ o = [Kr_60, Kr_64] ∧ Hu_63 = g ∧ run (law15_SetAlone_l2 x_57 x_61) n s_75 = some t_72) FUEL ?_ ⟨0, rfl, rfl, rfl, hx⟩ ⟨rfl, rfl, rfl, rfl, trivial⟩ ?_))))))
             ·
              rintro _ _ _ ⟨s_75, rfl, rfl, rfl, hn_76⟩
              exact run_zero hn_76
             ·
              rintro n_77 _ _ _ ⟨s_75, rfl, rfl, rfl, hn_76⟩
              clear hx; obtain ⟨oo_79, hx, hd_78⟩ := run_some hn_76
              unfold law15_SetAlone_l2 at hx
              refine JC.seq (JC.seq (JC.region (JL.val rfl rfl (R.move rfl) (JL.val rfl rfl (R.move rfl) (JL.val rfl rfl (R.lenL U53 rfl (RowOf.long hr_60)) (JL.val rfl rfl (R.lss_i rfl rfl) (JL.nil (JN.next (JC.condB rfl (fun c_78 => ?_) (fun c_78 => ?_))))))))))
              ·
               replace hx := cond_t c_78 hx
               refine JC.skip (JN.next (JC.seq (JC.block (JC.seq (JC.draw (so := [_, _]) 9 rfl Mixed ⟨⟨0, rfl⟩, ⟨1, rfl⟩, trivial⟩ (JA.val ⟨by kernel_rfl, by kernel_rfl⟩ (calm_only _) (i := 0) rfl ⟨by kernel_rfl, by kernel_rfl, rfl⟩ trivial (stab_of (Hle.refl _) ⟨⟨0, rfl⟩, ⟨1, rfl⟩, trivial⟩) (R.move rfl) rfl (JA.val ⟨by kernel_rfl, by kernel_rfl⟩ (calm_only _) (i := 1) rfl ⟨by kernel_rfl, by kernel_rfl, rfl⟩ trivial (stab_of (Hle.refl _) ⟨⟨0, rfl⟩, ⟨1, rfl⟩, trivial⟩) (R.move rfl) rfl ?_)))))))
               obtain ⟨y_79, hN_80, hx⟩ := idx_some hx
               obtain ⟨b_81, o_82, cs_83, cur_88, hK_89, hE_84, hR_85, hl_86, hc_87⟩ := RowOf.elem (hr_60.mono R_Ptr.mono (New.mono hleu_63)) hN_80
               subst hK_89
               obtain rfl := hR_85
               refine JA.val ⟨by kernel_rfl, by kernel_rfl⟩ (calm_only _) (i := 2) rfl ⟨by kernel_rfl, by kernel_rfl, rfl⟩ trivial (stab_of (Hle.refl _) ⟨⟨0, rfl⟩, ⟨1, rfl⟩, trivial⟩) (R.ix U53 S28 rfl rfl hE_84) rfl (JA.val ⟨by kernel_rfl, by kernel_rfl⟩ (calm_only _) (i := 3) rfl ⟨by kernel_rfl, by kernel_rfl, rfl⟩ trivial (stab_of (Hle.refl _) ⟨⟨0, rfl⟩, ⟨1, rfl⟩, trivial⟩) (R.ldoE 0 (cs := [.int .i64 y_79.At, .int .u32 (y_79.Birth.toNat : Int), .int .u32 (y_79.Iv.toNat : Int), .int .u32 (y_79.Tag.toNat : Int), .int .u32 (y_79.Sum.toNat : Int)]) (k := 0) (vs := [.int .i64 y_79.At, .int .u32 (y_79.Birth.toNat : Int), .int .u32 (y_79.Iv.toNat : Int), .int .u32 (y_79.Tag.toNat : Int), .int .u32 (y_79.Sum.toNat : Int)]) S28 rfl rfl hc_87 rfl rfl) rfl (JA.val ⟨by kernel_rfl, by kernel_rfl⟩ (calm_only _) (i := 4) rfl ⟨by kernel_rfl, by kernel_rfl, rfl⟩ trivial (stab_of (Hle.refl _) ⟨⟨0, rfl⟩, ⟨1, rfl⟩, trivial⟩) (R.move rfl) rfl (JA.val ⟨by kernel_rfl, by kernel_rfl⟩ (calm_only _) (i := 5) rfl ⟨by kernel_rfl, by kernel_rfl, rfl⟩ trivial (stab_of (Hle.refl _) ⟨⟨0, rfl⟩, ⟨1, rfl⟩, trivial⟩) (R.move rfl) rfl ?_)))
               obtain ⟨y_90, hN_91, hx⟩ := idx_some hx
               obtain ⟨b_92, o_93, cs_94, cur_99, hK_100, hE_95, hR_96, hl_97, hc_98⟩ := RowOf.elem hr_64 hN_91
               subst hK_100
               obtain rfl := hR_96
               refine JA.val ⟨by kernel_rfl, by kernel_rfl⟩ (calm_only _) (i := 6) rfl ⟨by kernel_rfl, by kernel_rfl, rfl⟩ trivial (stab_of (Hle.refl _) ⟨⟨0, rfl⟩, ⟨1, rfl⟩, trivial⟩) (R.ix U53 S28 rfl rfl hE_95) rfl (JA.val ⟨by kernel_rfl, by kernel_rfl⟩ (calm_only _) (i := 7) rfl ⟨by kernel_rfl, by kernel_rfl, rfl⟩ trivial (stab_of (Hle.refl _) ⟨⟨0, rfl⟩, ⟨1, rfl⟩, trivial⟩) (R.ldoE 1 (cs := [.int .i64 y_90.At, .int .u32 (y_90.Birth.toNat : Int), .int .u32 (y_90.Iv.toNat : Int), .int .u32 (y_90.Tag.toNat : Int), .int .u32 (y_90.Sum.toNat : Int)]) (k := 0) (vs := [.int .i64 y_90.At, .int .u32 (y_90.Birth.toNat : Int), .int .u32 (y_90.Iv.toNat : Int), .int .u32 (y_90.Tag.toNat : Int), .int .u32 (y_90.Sum.toNat : Int)]) S28 rfl rfl hc_98 rfl rfl) rfl (JA.val ⟨by kernel_rfl, by kernel_rfl⟩ (calm_only _) (i := 8) rfl ⟨by kernel_rfl, by kernel_rfl, rfl⟩ trivial (stab_of (Hle.refl _) ⟨⟨0, rfl⟩, ⟨1, rfl⟩, trivial⟩) (R.neqAgg QU28 QP28 QG28 QF28 rfl rfl (EqF.i (by decide) S3 U3 rfl rfl (EqF.u32 (a := y_79.Birth) (b := y_90.Birth) (by decide) S26 U26 rfl rfl (EqF.u32 (a := y_79.Iv) (b := y_90.Iv) (by decide) S26 U26 rfl rfl (EqF.u32 (a := y_79.Tag) (b := y_90.Tag) (by decide) S26 U26 rfl rfl (EqF.u32 (a := y_79.Sum) (b := y_90.Sum) (by decide) S26 U26 rfl rfl EqF.nil)))))) rfl (JA.doneN (by kernel_rfl) (JN.next (JC.condB rfl (fun c_101 => ?_) (fun c_101 => ?_))))))
               ·
                replace hx := cond_t c_101 hx
                refine JC.seq (JC.region (JL.val rfl rfl (R.assign rfl) (JL.nil (JN.next (JC.ret (JN.blkR (JN.passR ?_)))))))
                obtain rfl := run_done hd_78 hx
                refine JN.passR (JN.blkR ?_)
                clear hx; have hx := hxo_73
                simp only [Sum.elim_inl, Sum.elim_inr] at hx
                refine JN.passR (JN.passR (JN.outP (vs := [.bool false]) (K := []) (rst := [_, _]) (.inl rfl) rfl rfl (Res.tmp rfl rfl) picks0 ?_))
                obtain rfl := Option.some.inj hx
                exact ⟨rfl, rfl, trivial⟩
               ·
                replace hx := cond_f c_101 hx
                refine JC.skip (JN.blkN (JN.next (JC.region (JL.val rfl rfl (R.move rfl) (JL.val rfl rfl (R.inc rfl rfl (of_decide_eq_true c_78) (RowOf.lenI hr_60)) (JL.val rfl rfl (R.assign rfl) (JL.nil ?_)))))))
                replace hx := run_next hd_78 hx
                refine JN.front 1 rfl (JN.front 1 rfl ?_)
                exact JN.cut ⟨s_75 + 1, rfl, rfl, rfl, hx⟩ ⟨rfl, rfl, rfl, rfl, trivial⟩ rfl rfl
              ·
               replace hx := cond_f c_78 hx
               refine JC.exit (JN.passX ?_)
               obtain rfl := run_done hd_78 hx
               refine JN.passX (JN.exitSame (JN.forget 1 (JN.forget 0 ?_)))
               exact JN.cut ⟨(), rfl, rfl, rfl, rfl⟩ ⟨rfl, trivial⟩ rfl rfl
      ·
       have hxo_31 := hx; clear hx; have hx := ht_32; clear ht_32
       refine JC.block (JC.front 1 rfl (JC.front 2 rfl (JC.loopI (fun n l o g => ∃ s_33 : Nat, l = [(2, .int .i64 p_6), (3, .int .u32 (p_7.toNat : Int)), (4, .slice aoa_9 na_9 capa_9), (5, .pointer (some ⟨b_10, 0, none⟩)), (6, .pointer (some ⟨b_11, 0, none⟩)), (11, .bool x_12), (12, .slice aor_28 nr_28 capr_28), (14, .int .i64 ((s_33 : Nat) : Int))] ∧ o = [[(b_10, .cells #[.slice aoa_2 na_2 capa_2, .slice aoa_3 na_3 capa_3, .slice aoa_4 na_4 capa_4, .int .u32 (p_1.Epoch.toNat : Int), .int .u32 (p_1.Count.toNat : Int)] 50 (0, 0))], [(b_11, .cells #[.int .i64 p_5.At, .int .u32 (p_5.Birth.toNat : Int), .int .u32 (p_5.Iv.toNat : Int), .int .u32 (p_5.Tag.toNat : Int), .int .u32 (p_5.Sum.toNat : Int)] 28 (0, 0))], Kr_28] ∧ Hu_27 = g ∧ run (law15_SetAlone_l1 p_1 x_25) n s_33 = some t_30) FUEL ?_ ⟨0, rfl, rfl, rfl, hx⟩ ⟨rfl, rfl, rfl, rfl, rfl, rfl, rfl, rfl, trivial⟩ ?_)))
       ·
        rintro _ _ _ ⟨s_33, rfl, rfl, rfl, hn_34⟩
        exact run_zero hn_34
       ·
        rintro n_35 _ _ _ ⟨s_33, rfl, rfl, rfl, hn_34⟩
        clear hx; obtain ⟨oo_37, hx, hd_36⟩ := run_some hn_34
        unfold law15_SetAlone_l1 at hx
        refine JC.seq (JC.seq (JC.region (JL.val rfl rfl (R.move rfl) (JL.val rfl rfl (R.move rfl) (JL.val rfl rfl (R.lenL U53 rfl (RowOf.long hr_28)) (JL.val rfl rfl (R.lss_i rfl rfl) (JL.nil (JN.next (JC.condB rfl (fun c_36 => ?_) (fun c_36 => ?_))))))))))
        ·
         replace hx := cond_t c_36 hx
         refine JC.skip (JN.next (JC.seq (JC.block (JC.seq (JC.draw (so := [_, _, _]) 10 rfl Mixed ⟨⟨0, rfl⟩, ⟨1, rfl⟩, ⟨2, rfl⟩, trivial⟩ (JA.val ⟨by kernel_rfl, by kernel_rfl⟩ (calm_only _) (i := 0) rfl ⟨by kernel_rfl, by kernel_rfl, rfl⟩ trivial (stab_of (Hle.refl _) ⟨⟨0, rfl⟩, ⟨1, rfl⟩, ⟨2, rfl⟩, trivial⟩) (R.fa F50_1 rfl) rfl (JA.val ⟨by kernel_rfl, by kernel_rfl⟩ (calm_only _) (i := 1) rfl ⟨by kernel_rfl, by kernel_rfl, rfl⟩ trivial (stab_of (Hle.refl _) ⟨⟨0, rfl⟩, ⟨1, rfl⟩, ⟨2, rfl⟩, trivial⟩) (R.ldo 0 S45 rfl rfl rfl) rfl (JA.val ⟨by kernel_rfl, by kernel_rfl⟩ (calm_only _) (i := 2) rfl ⟨by kernel_rfl, by kernel_rfl, rfl⟩ trivial (stab_of (Hle.refl _) ⟨⟨0, rfl⟩, ⟨1, rfl⟩, ⟨2, rfl⟩, trivial⟩) (R.move rfl) rfl (JA.val ⟨by kernel_rfl, by kernel_rfl⟩ (calm_only _) (i := 3) rfl ⟨by kernel_rfl, by kernel_rfl, rfl⟩ trivial (stab_of (Hle.refl _) ⟨⟨0, rfl⟩, ⟨1, rfl⟩, ⟨2, rfl⟩, trivial⟩) (R.move rfl) rfl ?_)))))))))
         obtain ⟨y_37, hN_38, hx⟩ := idx_some hx
         obtain ⟨b_39, o_40, cs_41, cur_46, hK_47, hE_42, hR_43, hl_44, hc_45⟩ := RowOf.elem hr_28 hN_38
         subst hK_47
         obtain rfl := hR_43
         refine JA.val ⟨by kernel_rfl, by kernel_rfl⟩ (calm_only _) (i := 4) rfl ⟨by kernel_rfl, by kernel_rfl, rfl⟩ trivial (stab_of (Hle.refl _) ⟨⟨0, rfl⟩, ⟨1, rfl⟩, ⟨2, rfl⟩, trivial⟩) (R.ix U53 S28 rfl rfl hE_42) rfl (JA.val ⟨by kernel_rfl, by kernel_rfl⟩ (calm_only _) (i := 5) rfl ⟨by kernel_rfl, by kernel_rfl, rfl⟩ trivial (stab_of (Hle.refl _) ⟨⟨0, rfl⟩, ⟨1, rfl⟩, ⟨2, rfl⟩, trivial⟩) (R.fa F28_0 rfl) rfl (JA.val ⟨by kernel_rfl, by kernel_rfl⟩ (calm_only _) (i := 6) rfl ⟨by kernel_rfl, by kernel_rfl, rfl⟩ trivial (stab_of (Hle.refl _) ⟨⟨0, rfl⟩, ⟨1, rfl⟩, ⟨2, rfl⟩, trivial⟩) (R.ldo 2 S3 rfl rfl (hc_45 0 _ rfl)) rfl ?_))
         obtain ⟨y_48, hN_49, hx⟩ := idx_some hx
         obtain ⟨b_50, o_51, cs_52, hE_53, hR_54, hl_55, hc_56⟩ := IsSlice.elem (ha_4.mono RU8.mono (hleu_14.trans hleu_27)) hN_49
         obtain rfl := hR_54
         refine JA.val ⟨by kernel_rfl, by kernel_rfl⟩ (calm_only _) (i := 7) rfl ⟨by kernel_rfl, by kernel_rfl, rfl⟩ trivial (stab_of (Hle.refl _) ⟨⟨0, rfl⟩, ⟨1, rfl⟩, ⟨2, rfl⟩, trivial⟩) (R.ix U45 S5 rfl rfl hE_53) rfl (JA.val ⟨by kernel_rfl, by kernel_rfl⟩ (calm_only _) (i := 8) rfl ⟨by kernel_rfl, by kernel_rfl, rfl⟩ trivial (stab_of (Hle.refl _) ⟨⟨0, rfl⟩, ⟨1, rfl⟩, ⟨2, rfl⟩, trivial⟩) (R.ldH S5 rfl (hc_56 0 _ rfl)) rfl (JA.val ⟨by kernel_rfl, by kernel_rfl⟩ (calm_only _) (i := 9) rfl ⟨by kernel_rfl, by kernel_rfl, rfl⟩ trivial (stab_of (Hle.refl _) ⟨⟨0, rfl⟩, ⟨1, rfl⟩, ⟨2, rfl⟩, trivial⟩) (R.eql8 (a := y_48) (b := (0 : UInt8)) rfl rfl) rfl (JA.doneN (by kernel_rfl) (JN.next (JC.condB rfl (fun c_57 => ?_) (fun c_57 => ?_))))))
         ·
          replace hx := cond_t c_57 hx
          refine JC.seq (JC.region (JL.val rfl rfl (R.move rfl) (JL.val rfl rfl (R.assign rfl) (JL.nil (JN.next (JC.ret (JN.blkR (JN.passR ?_))))))))
          obtain rfl := run_done hd_36 hx
          refine JN.passR (JN.blkR ?_)
          clear hx; have hx := hxo_31
          simp only [Sum.elim_inl, Sum.elim_inr] at hx
          refine JN.passR (JN.passR (JN.outP (vs := [.bool x_12]) (K := []) (rst := [_, _, _]) (.inl rfl) rfl rfl (Res.tmp rfl rfl) picks0 ?_))
          obtain rfl := Option.some.inj hx
          exact ⟨rfl, rfl, trivial⟩
         ·
          replace hx := cond_f c_57 hx
          refine JC.skip (JN.blkN (JN.next (JC.region (JL.val rfl rfl (R.move rfl) (JL.val rfl rfl (R.inc rfl rfl (of_decide_eq_true c_36) (RowOf.lenI hr_28)) (JL.val rfl rfl (R.assign rfl) (JL.nil ?_)))))))
          replace hx := run_next hd_36 hx
          refine JN.front 2 rfl (JN.front 2 rfl (JN.front 2 rfl ?_))
          exact JN.cut ⟨s_33 + 1, rfl, rfl, rfl, hx⟩ ⟨rfl, rfl, rfl, rfl, rfl, rfl, rfl, rfl, trivial⟩ rfl rfl
        ·
         replace hx := cond_f c_36 hx
         refine JC.exit (JN.passX ?_)
         obtain rfl := run_done hd_36 hx
         refine JN.passX (JN.exitSame (JN.forget 2 (JN.front 1 rfl (JN.front 1 rfl ?_))))
         exact JN.cut ⟨(), rfl, rfl, rfl, rfl⟩ ⟨rfl, rfl, rfl, rfl, rfl, rfl, trivial⟩ rfl rfl
end Go.Proofs.Ytdoebbgjjlicjaa
