import Derived.Test.YtdoebbgjjlicjaaW2p2
/- walks: what the code computes, function by function. -/
namespace Go.Proofs.Ytdoebbgjjlicjaa
open Go.Ow Go.RowKit Go.Proofs
set_option linter.unusedVariables false
set_option linter.unusedSimpArgs false
set_option maxHeartbeats 8000000 in
theorem law15_SetNames_ok (H : Heaplet) (r : Bool) (hx : law15_SetNames = some r) :
    Does Try.prog 5 #[] [] H (fun u K' H' => u = .bool r ∧ K' = [] ∧ True) := by
  refine Does.enterL (vs := []) (l := []) Try.func5 rfl rfl trivial (fun w hlt => ?_)
  unfold law15_SetNames at hx
  refine JC.seq ?_
  refine JC.region ?_
  refine JL.val rfl rfl (R.assign rfl) ?_
  refine JL.nil ?_
  refine JN.next ?_
  refine JC.seq ?_
  refine JC.seq ?_
  refine JC.region ?_
  obtain ⟨x_1, hr_2, hx⟩ := bnd_some hx
  refine JL.callC (vs := []) (args := []) (K := []) (rst := []) E19 rfl rfl rfl picks0 (law15_alive_ok _ _ hr_2) rfl (fun u_3 Ku_3 Hu_3 hRu_3 hleu_3 hfu_3 => ?_)
  obtain ⟨rfl, rfl, -⟩ := hRu_3
  refine JL.val rfl rfl (R.not rfl) ?_
  refine JL.nil ?_
  refine JN.next ?_
  refine JC.condB rfl (fun c_4 => ?_) (fun c_4 => ?_)
  · replace hx := cond_t c_4 hx
    refine JC.seq ?_
    refine JC.region ?_
    refine JL.val rfl rfl (R.assign rfl) ?_
    refine JL.nil ?_
    refine JN.next ?_
    refine JC.ret ?_
    refine JN.passR ?_
    refine JN.outP (vs := [.bool false]) (K := []) (rst := []) (.inl rfl) rfl rfl (Res.tmp rfl rfl) picks0 ?_
    obtain rfl := Option.some.inj hx
    exact ⟨rfl, rfl, trivial⟩
  · replace hx := cond_f c_4 hx
    refine JC.skip ?_
    refine JN.next ?_
    refine JC.seq ?_
    refine JC.region ?_
    obtain ⟨x_5, hr_6, hx⟩ := bnd_some hx
    refine JL.callC (vs := []) (args := []) (K := []) (rst := []) E22 rfl rfl rfl picks0 (law15_made_ok _ _ hr_6) rfl (fun u_7 Ku_7 Hu_7 hRu_7 hleu_7 hfu_7 => ?_)
    obtain ⟨aoz_8, nz_8, capz_8, aor_9, nr_9, capr_9, Kr_9, aor_10, nr_10, capr_10, Kr_10, rfl, rfl, hz_8, hr_9, hnewr_9, hr_10, hnewr_10, -⟩ := hRu_7
    replace hr_9 := (RowOf.base (RowOf.mono R_Write.mono (New.call hleu_3) hr_9) (fun p hp => (hfu_7 p (mem_seg 0 rfl hp)).resolve_left (hnewr_9 p hp)))
    replace hr_10 := (RowOf.base (RowOf.const (H2 := New H Hu_7) RU8.const hr_10) (fun p hp => (hfu_7 p (mem_seg 1 rfl hp)).resolve_left (hnewr_10 p hp)))
    replace hz_8 := IsSlice.mono (RSl.mono RU8.mono) (New.call hleu_3) hz_8
    refine JL.val rfl rfl (R.move rfl) ?_
    refine JL.val rfl rfl (R.extract rfl rfl) ?_
    refine JL.val rfl rfl (R.extract rfl rfl) ?_
    refine JL.val rfl rfl (R.extract rfl rfl) ?_
    refine JL.alloc Z50 rfl (fun b_11 hb_11 => ?_)
    refine JL.alloc Z28 rfl (fun b_12 hb_12 => ?_)
    refine JL.store 1 S50 rfl rfl rfl rfl rfl (Nat.le_of_ble_eq_true rfl) ?_
    refine JL.store 0 S28 rfl rfl rfl rfl rfl (Nat.le_of_ble_eq_true rfl) ?_
    refine JL.val rfl rfl (R.assign rfl) ?_
    refine JL.nil ?_
    refine JN.next ?_
    refine JC.seq ?_
    refine JC.region ?_
    refine JL.val rfl rfl (R.ldoN 1 (vs := [.slice aoz_8 nz_8 capz_8, .slice aor_9 nr_9 capr_9, .slice aor_10 nr_10 capr_10, .int .u32 (x_5.1.Epoch.toNat : Int), .int .u32 (x_5.1.Count.toNat : Int)]) S50 rfl rfl rfl rfl) ?_
    refine JL.val rfl rfl (R.ldoN 0 (vs := [.int .i64 x_5.2.1.At, .int .u32 (x_5.2.1.Birth.toNat : Int), .int .u32 (x_5.2.1.Iv.toNat : Int), .int .u32 (x_5.2.1.Tag.toNat : Int), .int .u32 (x_5.2.1.Sum.toNat : Int)]) S28 rfl rfl rfl rfl) ?_
    obtain ⟨x_16, hr_17, hx⟩ := bnd_some hx
    refine JL.callL3 (vs := [_, _, _]) E21 rfl rfl (fun H_15 hle_14 hl_13 => set_Walk_ok x_5.1 x_5.2.1 (3 : UInt32) _ (IsSlice.mono (RSl.mono RU8.mono) hle_14 (hz_8.old (RSl.mono RU8.mono))) (Lent.row' 2 hl_13 R_Write.mono hle_14 rfl (hr_9.old R_Write.mono)) (Lent.row' 3 hl_13 RU8.mono hle_14 rfl (hr_10.old RU8.mono)) _ hr_17) rfl (fun _ _ _ _ hR_19 hf_20 => ?_)
    obtain ⟨aor_18, nr_18, capr_18, Kr_18, rfl, rfl, hr_18, -, -⟩ := hR_19
    replace hr_18 := RowOf.base (RowOf.const (H2 := New H Hu_7) R_Ptr.const hr_18) (fun p hp => hf_20 p (mem_seg 0 rfl hp))
    refine JL.val rfl rfl (R.move rfl) ?_
    refine JL.val rfl rfl (R.extract rfl rfl) ?_
    refine JL.val rfl rfl (R.extract rfl rfl) ?_
    refine JL.val rfl rfl (R.assign rfl) ?_
    refine JL.val rfl rfl (R.assign rfl) ?_
    refine JL.nil ?_
    refine JN.next ?_
    refine JC.seq ?_
    refine JC.region ?_
    refine JL.val rfl rfl (R.ldoN 2 (vs := [.slice aoz_8 nz_8 capz_8, .slice aor_9 nr_9 capr_9, .slice aor_10 nr_10 capr_10, .int .u32 (x_5.1.Epoch.toNat : Int), .int .u32 (x_5.1.Count.toNat : Int)]) S50 rfl rfl rfl rfl) ?_
    refine JL.val rfl rfl (R.ldoN 1 (vs := [.int .i64 x_5.2.1.At, .int .u32 (x_5.2.1.Birth.toNat : Int), .int .u32 (x_5.2.1.Iv.toNat : Int), .int .u32 (x_5.2.1.Tag.toNat : Int), .int .u32 (x_5.2.1.Sum.toNat : Int)]) S28 rfl rfl rfl rfl) ?_
    obtain ⟨x_24, hr_25, hx⟩ := bnd_some hx
    refine JL.callL3 (vs := [_, _, _]) E21 rfl rfl (fun H_23 hle_22 hl_21 => set_Walk_ok x_5.1 x_5.2.1 (5 : UInt32) _ (IsSlice.mono (RSl.mono RU8.mono) hle_22 (hz_8.old (RSl.mono RU8.mono))) (Lent.row' 3 hl_21 R_Write.mono hle_22 rfl (hr_9.old R_Write.mono)) (Lent.row' 4 hl_21 RU8.mono hle_22 rfl (hr_10.old RU8.mono)) _ hr_25) rfl (fun _ _ _ _ hR_27 hf_28 => ?_)
    obtain ⟨aor_26, nr_26, capr_26, Kr_26, rfl, rfl, hr_26, -, -⟩ := hR_27
    replace hr_26 := RowOf.base (RowOf.const (H2 := New H Hu_7) R_Ptr.const hr_26) (fun p hp => hf_28 p (mem_seg 0 rfl hp))
    refine JL.val rfl rfl (R.move rfl) ?_
    refine JL.val rfl rfl (R.extract rfl rfl) ?_
    refine JL.val rfl rfl (R.extract rfl rfl) ?_
    refine JL.val rfl rfl (R.assign rfl) ?_
    refine JL.val rfl rfl (R.assign rfl) ?_
    refine JL.nil ?_
    refine JN.next ?_
    refine JC.seq ?_
    refine JC.region ?_
    refine JL.val rfl rfl (R.ldoN 3 (vs := [.slice aoz_8 nz_8 capz_8, .slice aor_9 nr_9 capr_9, .slice aor_10 nr_10 capr_10, .int .u32 (x_5.1.Epoch.toNat : Int), .int .u32 (x_5.1.Count.toNat : Int)]) S50 rfl rfl rfl rfl) ?_
    refine JL.val rfl rfl (R.ldoN 2 (vs := [.int .i64 x_5.2.1.At, .int .u32 (x_5.2.1.Birth.toNat : Int), .int .u32 (x_5.2.1.Iv.toNat : Int), .int .u32 (x_5.2.1.Tag.toNat : Int), .int .u32 (x_5.2.1.Sum.toNat : Int)]) S28 rfl rfl rfl rfl) ?_
    refine JL.pubN 4 R_Write.mono rfl hr_9 (Nat.le_refl _) (fun H_29 hleH_29 hsH_29 => ?_)
    refine JL.forget 4 ?_
    refine JL.pubN 4 RU8.mono rfl (hr_10.mono RU8.mono (New.mono hleH_29)) (Nat.le_refl _) (fun H_30 hleH_30 hsH_30 => ?_)
    refine JL.forget 4 ?_
    obtain ⟨x_31, hr_32, hx⟩ := bnd_some hx
    refine JL.callC (vs := [_, _, _]) (args := [_, _, _]) (K := []) (rst := [_, _, _, _]) E23 rfl rfl rfl picks0 (set_Object_ok x_5.1 x_5.2.1 2 _ ((hz_8.mono (RSl.mono RU8.mono) (New.mono (hleH_29.trans hleH_30))).old (RSl.mono RU8.mono)) ((hsH_29.mono R_Write.mono (New.mono hleH_30)).old R_Write.mono) (hsH_30.old RU8.mono) _ hr_32) rfl (fun u_33 Ku_33 Hu_33 hRu_33 hleu_33 hfu_33 => ?_)
    obtain ⟨aoz_34, nz_34, rfl, rfl, hz_34, -⟩ := hRu_33
    replace hz_34 := IsSlice.mono R_Ptr.mono (New.call (hleu_3.trans (hleu_7.trans (hleH_29.trans hleH_30)))) hz_34
    refine JL.val rfl rfl (R.move rfl) ?_
    refine JL.val rfl rfl (R.extract rfl rfl) ?_
    refine JL.val rfl rfl (R.extract rfl rfl) ?_
    refine JL.alloc Z60 rfl (fun b_35 hb_35 => ?_)
    refine JL.store 0 S60 rfl rfl rfl rfl rfl (Nat.le_of_ble_eq_true rfl) ?_
    refine JL.val rfl rfl (R.assign rfl) ?_
    refine JL.nil ?_
    refine JN.next ?_
    refine JC.seq ?_
    refine JC.region ?_
    refine JL.val rfl rfl (R.ldoN 4 (vs := [.slice aoz_8 nz_8 capz_8, .slice aor_9 nr_9 capr_9, .slice aor_10 nr_10 capr_10, .int .u32 (x_5.1.Epoch.toNat : Int), .int .u32 (x_5.1.Count.toNat : Int)]) S50 rfl rfl rfl rfl) ?_
    refine JL.val rfl rfl (R.ldoN 3 (vs := [.int .i64 x_5.2.1.At, .int .u32 (x_5.2.1.Birth.toNat : Int), .int .u32 (x_5.2.1.Iv.toNat : Int), .int .u32 (x_5.2.1.Tag.toNat : Int), .int .u32 (x_5.2.1.Sum.toNat : Int)]) S28 rfl rfl rfl rfl) ?_
    obtain ⟨x_36, hr_37, hx⟩ := bnd_some hx
    refine JL.callC (vs := [_, _, _]) (args := [_, _, _]) (K := []) (rst := [_, _, _, _, _]) E23 rfl rfl rfl picks0 (set_Object_ok x_5.1 x_5.2.1 3 _ ((hz_8.mono (RSl.mono RU8.mono) (New.mono (hleH_29.trans (hleH_30.trans hleu_33)))).old (RSl.mono RU8.mono)) ((hsH_29.mono R_Write.mono (New.mono (hleH_30.trans hleu_33))).old R_Write.mono) ((hsH_30.mono RU8.mono (New.mono hleu_33)).old RU8.mono) _ hr_37) rfl (fun u_38 Ku_38 Hu_38 hRu_38 hleu_38 hfu_38 => ?_)
    obtain ⟨aoz_39, nz_39, rfl, rfl, hz_39, -⟩ := hRu_38
    replace hz_39 := IsSlice.mono R_Ptr.mono (New.call (hleu_3.trans (hleu_7.trans (hleH_29.trans (hleH_30.trans hleu_33))))) hz_39
    refine JL.val rfl rfl (R.move rfl) ?_
    refine JL.val rfl rfl (R.extract rfl rfl) ?_
    refine JL.val rfl rfl (R.extract rfl rfl) ?_
    refine JL.alloc Z60 rfl (fun b_40 hb_40 => ?_)
    refine JL.store 0 S60 rfl rfl rfl rfl rfl (Nat.le_of_ble_eq_true rfl) ?_
    refine JL.val rfl rfl (R.assign rfl) ?_
    refine JL.nil ?_
    refine JN.next ?_
    refine JC.tidyP (l' := [(0, .bool false), (1, .pointer (some ⟨b_11, 0, none⟩)), (2, .pointer (some ⟨b_12, 0, none⟩)), (4, .slice aor_18 nr_18 capr_18), (5, .int .i64 x_16.2), (6, .slice aor_26 nr_26 capr_26), (7, .int .i64 x_24.2), (8, .pointer (some ⟨b_35, 0, none⟩)), (9, .int .i64 x_31.2), (11, .int .i64 x_36.2)]) (own' := [[(b_35, .cells #[.int .u8 (x_31.1.Kind.toNat : Int), .int .i64 x_31.1.Links, .int .i64 x_31.1.Size, .slice aoz_34 nz_34 nz_34] 60 (0, 0))], Kr_26, Kr_18, [(b_12, .cells #[.int .i64 x_5.2.1.At, .int .u32 (x_5.2.1.Birth.toNat : Int), .int .u32 (x_5.2.1.Iv.toNat : Int), .int .u32 (x_5.2.1.Tag.toNat : Int), .int .u32 (x_5.2.1.Sum.toNat : Int)] 28 (0, 0))], [(b_11, .cells #[.slice aoz_8 nz_8 capz_8, .slice aor_9 nr_9 capr_9, .slice aor_10 nr_10 capr_10, .int .u32 (x_5.1.Epoch.toNat : Int), .int .u32 (x_5.1.Count.toNat : Int)] 50 (0, 0))]]) (rst := [_]) ⟨rfl, rfl, rfl, rfl, rfl, rfl, rfl, rfl, rfl, rfl, trivial⟩ (picks 1 rfl (picks 1 rfl (picks 1 rfl (picks 1 rfl (picks 1 rfl picks0))))) ?_
    refine JC.seq ?_
    refine JC.region ?_
    refine JL.val rfl rfl (R.ldoN 4 (vs := [.slice aoz_8 nz_8 capz_8, .slice aor_9 nr_9 capr_9, .slice aor_10 nr_10 capr_10, .int .u32 (x_5.1.Epoch.toNat : Int), .int .u32 (x_5.1.Count.toNat : Int)]) S50 rfl rfl rfl rfl) ?_
    refine JL.val rfl rfl (R.ldoN 3 (vs := [.int .i64 x_5.2.1.At, .int .u32 (x_5.2.1.Birth.toNat : Int), .int .u32 (x_5.2.1.Iv.toNat : Int), .int .u32 (x_5.2.1.Tag.toNat : Int), .int .u32 (x_5.2.1.Sum.toNat : Int)]) S28 rfl rfl rfl rfl) ?_
    obtain ⟨x_41, hr_42, hx⟩ := bnd_some hx
    refine JL.callC (vs := [_, _, _]) (args := [_, _, _]) (K := []) (rst := [_, _, _, _, _]) E23 rfl rfl rfl picks0 (set_Object_ok x_5.1 x_5.2.1 16 _ ((hz_8.mono (RSl.mono RU8.mono) (New.mono (hleH_29.trans (hleH_30.trans (hleu_33.trans hleu_38))))).old (RSl.mono RU8.mono)) ((hsH_29.mono R_Write.mono (New.mono (hleH_30.trans (hleu_33.trans hleu_38)))).old R_Write.mono) ((hsH_30.mono RU8.mono (New.mono (hleu_33.trans hleu_38))).old RU8.mono) _ hr_42) rfl (fun u_43 Ku_43 Hu_43 hRu_43 hleu_43 hfu_43 => ?_)
    obtain ⟨aoz_44, nz_44, rfl, rfl, hz_44, -⟩ := hRu_43
    replace hz_44 := IsSlice.mono R_Ptr.mono (New.call (hleu_3.trans (hleu_7.trans (hleH_29.trans (hleH_30.trans (hleu_33.trans hleu_38)))))) hz_44
    refine JL.val rfl rfl (R.move rfl) ?_
    refine JL.val rfl rfl (R.extract rfl rfl) ?_
    refine JL.val rfl rfl (R.extract rfl rfl) ?_
    refine JL.alloc Z60 rfl (fun b_45 hb_45 => ?_)
    refine JL.store 0 S60 rfl rfl rfl rfl rfl (Nat.le_of_ble_eq_true rfl) ?_
    refine JL.val rfl rfl (R.assign rfl) ?_
    refine JL.nil ?_
    refine JN.next ?_
    refine JC.seq ?_
    refine JC.region ?_
    refine JL.val rfl rfl (R.ldoN 5 (vs := [.slice aoz_8 nz_8 capz_8, .slice aor_9 nr_9 capr_9, .slice aor_10 nr_10 capr_10, .int .u32 (x_5.1.Epoch.toNat : Int), .int .u32 (x_5.1.Count.toNat : Int)]) S50 rfl rfl rfl rfl) ?_
    refine JL.val rfl rfl (R.bldP (vs := []) (cs := [.int .i64 0, .int .u32 ((0 : UInt32).toNat : Int), .int .u32 ((0 : UInt32).toNat : Int), .int .u32 ((0 : UInt32).toNat : Int), .int .u32 ((0 : UInt32).toNat : Int)]) Z28 B28 rfl rfl rfl) ?_
    obtain ⟨x_46, hr_47, hx⟩ := bnd_some hx
    refine JL.callC (vs := [_, _]) (args := [_, _]) (K := []) (rst := [_, _, _, _, _, _]) E24 rfl rfl rfl picks0 (set_Ptrs_ok x_5.1 (Ptr.mk 0 (0 : UInt32) (0 : UInt32) (0 : UInt32) (0 : UInt32)) _ ((hz_8.mono (RSl.mono RU8.mono) (New.mono (hleH_29.trans (hleH_30.trans (hleu_33.trans (hleu_38.trans hleu_43)))))).old (RSl.mono RU8.mono)) ((hsH_29.mono R_Write.mono (New.mono (hleH_30.trans (hleu_33.trans (hleu_38.trans hleu_43))))).old R_Write.mono) ((hsH_30.mono RU8.mono (New.mono (hleu_33.trans (hleu_38.trans hleu_43)))).old RU8.mono) _ hr_47) rfl (fun u_48 Ku_48 Hu_48 hRu_48 hleu_48 hfu_48 => ?_)
    obtain ⟨aor_49, nr_49, capr_49, Kr_49, rfl, rfl, hr_49, hnewr_49, -⟩ := hRu_48
    replace hr_49 := (RowOf.base (RowOf.const (H2 := New H Hu_48) R_Ptr.const hr_49) (fun p hp => (hfu_48 p (mem_seg 0 rfl hp)).resolve_left (hnewr_49 p hp)))
    refine JL.val rfl rfl (R.move rfl) ?_
    refine JL.val rfl rfl (R.extract rfl rfl) ?_
    refine JL.val rfl rfl (R.extract rfl rfl) ?_
    refine JL.val rfl rfl (R.assign rfl) ?_
    refine JL.val rfl rfl (R.assign rfl) ?_
    refine JL.nil ?_
    refine JN.next ?_
    refine JC.seq ?_
    refine JC.seq ?_
    refine JC.region ?_
    refine JL.val rfl rfl (R.fa F60_3 rfl) ?_
    refine JL.val rfl rfl (R.ldo 2 S53 rfl rfl rfl) ?_
    refine JL.val rfl rfl (R.lenL U53 rfl (IsSlice.long hz_34)) ?_
    refine JL.val rfl rfl (R.neq_i rfl rfl) ?_
    refine JL.nil ?_
    refine JN.next ?_
    refine JC.condB rfl (fun c_50 => ?_) (fun c_50 => ?_)
    · replace hx := cond_t c_50 hx
      refine JC.seq ?_
      refine JC.region ?_
      refine JL.val rfl rfl (R.assign rfl) ?_
      refine JL.nil ?_
      refine JN.next ?_
      refine JC.ret ?_
      refine JN.passR ?_
      refine JN.outP (vs := [.bool false]) (K := []) (rst := [_, _, _, _, _, _, _]) (.inl rfl) rfl rfl (Res.tmp rfl rfl) picks0 ?_
      obtain rfl := Option.some.inj hx
      exact ⟨rfl, rfl, trivial⟩
    · replace hx := cond_f c_50 hx
      refine JC.skip ?_
      refine JN.next ?_
      refine JC.seq ?_
      obtain ⟨t_51, ht_53, hx⟩ := bnd_some hx
      refine JC.cut (fun l o g => l = [(0, .bool t_51)] ∧ o = [] ∧ Hu_48 = g) ?_ ?_
      · rintro _ _ _ ⟨rfl, rfl, rfl⟩
        refine JN.next ?_
        refine JC.ret ?_
        refine JN.outP (vs := [.bool t_51]) (K := []) (rst := []) (.inl rfl) rfl rfl (Res.tmp rfl rfl) picks0 ?_
        obtain rfl := Option.some.inj hx
        exact ⟨rfl, rfl, trivial⟩
      · have hxo_52 := hx; clear hx; have hx := ht_53; clear ht_53
        refine JC.region ?_
        refine JL.val rfl rfl (R.move rfl) ?_
        refine JL.gYes rfl rfl rfl ?_
        refine JL.val rfl rfl (R.move rfl) ?_
        refine JL.gYes rfl rfl rfl ?_
        refine JL.val rfl rfl (R.eql_i rfl rfl) ?_
        refine JL.val rfl rfl (R.pickT rfl rfl) ?_
        refine JL.val rfl rfl (R.move rfl) ?_
        refine JL.gSplit (t := 67) rfl (fun c_54 => ?_) (fun c_54 => ?_)
        · replace hx := cond_t c_54 hx
          refine JL.gYes rfl rfl rfl ?_
          refine JL.val rfl rfl (R.move rfl) ?_
          refine JL.gYes rfl rfl rfl ?_
          refine JL.val rfl rfl (R.lenL U53 rfl (RowOf.long hr_18)) ?_
          refine JL.gYes rfl rfl rfl ?_
          refine JL.val rfl rfl (R.eql_i rfl rfl) ?_
          refine JL.val rfl rfl (R.pickT rfl rfl) ?_
          refine JL.val rfl rfl (R.move rfl) ?_
          refine JL.gSplit (t := 72) rfl (fun c_55 => ?_) (fun c_55 => ?_)
          · replace hx := cond_t c_55 hx
            refine JL.gYes rfl rfl rfl ?_
            refine JL.val rfl rfl (R.move rfl) ?_
            refine JL.gYes rfl rfl rfl ?_
            refine JL.val rfl rfl (R.eql_i rfl rfl) ?_
            refine JL.val rfl rfl (R.pickT rfl rfl) ?_
            refine JL.val rfl rfl (R.move rfl) ?_
            refine JL.gSplit (t := 76) rfl (fun c_56 => ?_) (fun c_56 => ?_)
            · replace hx := cond_t c_56 hx
              refine JL.gYes rfl rfl rfl ?_
              refine JL.val rfl rfl (R.move rfl) ?_
              refine JL.gYes rfl rfl rfl ?_
              refine JL.val rfl rfl (R.lenL U53 rfl (RowOf.long hr_26)) ?_
              refine JL.gYes rfl rfl rfl ?_
              refine JL.val rfl rfl (R.eql_i rfl rfl) ?_
              refine JL.val rfl rfl (R.pickT rfl rfl) ?_
              refine JL.val rfl rfl (R.move rfl) ?_
              refine JL.gSplit (t := 81) rfl (fun c_57 => ?_) (fun c_57 => ?_)
              · replace hx := cond_t c_57 hx
                refine JL.gYes rfl rfl rfl ?_
                refine JL.val rfl rfl (R.move rfl) ?_
                refine JL.gYes rfl rfl rfl ?_
                refine JL.val rfl rfl (R.eql_i rfl rfl) ?_
                refine JL.val rfl rfl (R.pickT rfl rfl) ?_
                refine JL.val rfl rfl (R.move rfl) ?_
                refine JL.gSplit (t := 85) rfl (fun c_58 => ?_) (fun c_58 => ?_)
                · replace hx := cond_t c_58 hx
                  refine JL.gYes rfl rfl rfl ?_
                  refine JL.val rfl rfl (R.fa F60_3 rfl) ?_
                  refine JL.gYes rfl rfl rfl ?_
                  refine JL.val rfl rfl (R.ldo 2 S53 rfl rfl rfl) ?_
                  refine JL.gYes rfl rfl rfl ?_
                  obtain ⟨y_59, hN_60, hx⟩ := idx_some hx
                  obtain ⟨b_61, o_62, cs_63, hE_64, hR_65, hl_66, hc_67⟩ := IsSlice.elem (hz_34.mono R_Ptr.mono (New.mono (hleu_38.trans (hleu_43.trans hleu_48)))) hN_60
                  obtain rfl := hR_65
                  refine JL.val rfl rfl (R.ix U53 S28 rfl rfl hE_64) ?_
                  refine JL.gYes rfl rfl rfl ?_
                  refine JL.val rfl rfl (R.fa F28_1 rfl) ?_
                  refine JL.gYes rfl rfl rfl ?_
                  refine JL.val rfl rfl (R.ldH S26 rfl ((fun j u e => New.le _ _ _ _ _ (hc_67 j u e)) 1 _ rfl)) ?_
                  refine JL.gYes rfl rfl rfl ?_
                  refine JL.val rfl rfl (R.eql32 (a := y_59.Birth) (b := (5 : UInt32)) rfl rfl) ?_
                  refine JL.val rfl rfl (R.pickT rfl rfl) ?_
                  refine JL.val rfl rfl (R.move rfl) ?_
                  refine JL.gSplit (t := 93) rfl (fun c_68 => ?_) (fun c_68 => ?_)
                  · replace hx := cond_t c_68 hx
                    refine JL.gYes rfl rfl rfl ?_
                    refine JL.val rfl rfl (R.fa F60_3 rfl) ?_
                    refine JL.gYes rfl rfl rfl ?_
                    refine JL.val rfl rfl (R.ldo 2 S53 rfl rfl rfl) ?_
                    refine JL.gYes rfl rfl rfl ?_
                    obtain ⟨y_69, hN_70, hx⟩ := idx_some hx
                    obtain ⟨b_71, o_72, cs_73, hE_74, hR_75, hl_76, hc_77⟩ := IsSlice.elem (hz_34.mono R_Ptr.mono (New.mono (hleu_38.trans (hleu_43.trans hleu_48)))) hN_70
                    obtain rfl := hR_75
                    refine JL.val rfl rfl (R.ix U53 S28 rfl rfl hE_74) ?_
                    refine JL.gYes rfl rfl rfl ?_
                    refine JL.val rfl rfl (R.fa F28_1 rfl) ?_
                    refine JL.gYes rfl rfl rfl ?_
                    refine JL.val rfl rfl (R.ldH S26 rfl ((fun j u e => New.le _ _ _ _ _ (hc_77 j u e)) 1 _ rfl)) ?_
                    refine JL.gYes rfl rfl rfl ?_
                    refine JL.val rfl rfl (R.eql32 (a := y_69.Birth) (b := (3 : UInt32)) rfl rfl) ?_
                    refine JL.val rfl rfl (R.pickT rfl rfl) ?_
                    refine JL.val rfl rfl (R.move rfl) ?_
                    refine JL.gSplit (t := 101) rfl (fun c_78 => ?_) (fun c_78 => ?_)
                    · replace hx := cond_t c_78 hx
                      refine JL.gYes rfl rfl rfl ?_
                      refine JL.val rfl rfl (R.move rfl) ?_
                      refine JL.gYes rfl rfl rfl ?_
                      refine JL.val rfl rfl (R.eql_i rfl rfl) ?_
                      refine JL.val rfl rfl (R.pickT rfl rfl) ?_
                      refine JL.val rfl rfl (R.move rfl) ?_
                      refine JL.gSplit (t := 105) rfl (fun c_79 => ?_) (fun c_79 => ?_)
                      · replace hx := cond_t c_79 hx
                        refine JL.gYes rfl rfl rfl ?_
                        refine JL.val rfl rfl (R.move rfl) ?_
                        refine JL.gYes rfl rfl rfl ?_
                        refine JL.val rfl rfl (R.eql_i rfl rfl) ?_
                        refine JL.val rfl rfl (R.pickT rfl rfl) ?_
                        refine JL.val rfl rfl (R.move rfl) ?_
                        refine JL.gSplit (t := 109) rfl (fun c_80 => ?_) (fun c_80 => ?_)
                        · replace hx := cond_t c_80 hx
                          refine JL.gYes rfl rfl rfl ?_
                          refine JL.val rfl rfl (R.move rfl) ?_
                          refine JL.gYes rfl rfl rfl ?_
                          refine JL.val rfl rfl (R.eql_i rfl rfl) ?_
                          refine JL.val rfl rfl (R.pickT rfl rfl) ?_
                          refine JL.val rfl rfl (R.move rfl) ?_
                          refine JL.gSplit (t := 113) rfl (fun c_81 => ?_) (fun c_81 => ?_)
                          · replace hx := cond_t c_81 hx
                            refine JL.gYes rfl rfl rfl ?_
                            refine JL.val rfl rfl (R.move rfl) ?_
                            refine JL.gYes rfl rfl rfl ?_
                            refine JL.val rfl rfl (R.lenL U53 rfl (RowOf.long hr_49)) ?_
                            refine JL.gYes rfl rfl rfl ?_
                            refine JL.val rfl rfl (R.eql_i rfl rfl) ?_
                            refine JL.val rfl rfl (R.pickT rfl rfl) ?_
                            refine JL.val rfl rfl (R.assign rfl) ?_
                            refine JL.nil ?_
                            obtain rfl := Option.some.inj hx
                            refine JN.forget 6 ?_
                            refine JN.forget 5 ?_
                            refine JN.forget 4 ?_
                            refine JN.forget 3 ?_
                            refine JN.forget 2 ?_
                            refine JN.forget 1 ?_
                            refine JN.forget 0 ?_
                            exact JN.cut ⟨rfl, rfl, rfl⟩ ⟨rfl, trivial⟩ rfl rfl
                          · replace hx := cond_f c_81 hx
                            refine JL.gNo rfl rfl rfl rfl rfl ?_
                            refine JL.gNo rfl rfl rfl rfl rfl ?_
                            refine JL.gNo rfl rfl rfl rfl rfl ?_
                            refine JL.val rfl rfl (R.pickF rfl rfl) ?_
                            refine JL.val rfl rfl (R.assign rfl) ?_
                            refine JL.nil ?_
                            obtain rfl := Option.some.inj hx
                            refine JN.forget 6 ?_
                            refine JN.forget 5 ?_
                            refine JN.forget 4 ?_
                            refine JN.forget 3 ?_
                            refine JN.forget 2 ?_
                            refine JN.forget 1 ?_
                            refine JN.forget 0 ?_
                            exact JN.cut ⟨rfl, rfl, rfl⟩ ⟨rfl, trivial⟩ rfl rfl
                        · replace hx := cond_f c_80 hx
                          refine JL.gNo rfl rfl rfl rfl rfl ?_
                          refine JL.gNo rfl rfl rfl rfl rfl ?_
                          refine JL.val rfl rfl (R.pickF rfl rfl) ?_
                          refine JL.val rfl rfl (R.move rfl) ?_
                          refine JL.gNo rfl rfl rfl rfl rfl ?_
                          refine JL.gNo rfl rfl rfl rfl rfl ?_
                          refine JL.gNo rfl rfl rfl rfl rfl ?_
                          refine JL.val rfl rfl (R.pickF rfl rfl) ?_
                          refine JL.val rfl rfl (R.assign rfl) ?_
                          refine JL.nil ?_
                          obtain rfl := Option.some.inj hx
                          refine JN.forget 6 ?_
                          refine JN.forget 5 ?_
                          refine JN.forget 4 ?_
                          refine JN.forget 3 ?_
                          refine JN.forget 2 ?_
                          refine JN.forget 1 ?_
                          refine JN.forget 0 ?_
                          exact JN.cut ⟨rfl, rfl, rfl⟩ ⟨rfl, trivial⟩ rfl rfl
                      · replace hx := cond_f c_79 hx
                        refine JL.gNo rfl rfl rfl rfl rfl ?_
                        refine JL.gNo rfl rfl rfl rfl rfl ?_
                        refine JL.val rfl rfl (R.pickF rfl rfl) ?_
                        refine JL.val rfl rfl (R.move rfl) ?_
                        refine JL.gNo rfl rfl rfl rfl rfl ?_
                        refine JL.gNo rfl rfl rfl rfl rfl ?_
                        refine JL.val rfl rfl (R.pickF rfl rfl) ?_
                        refine JL.val rfl rfl (R.move rfl) ?_
                        refine JL.gNo rfl rfl rfl rfl rfl ?_
                        refine JL.gNo rfl rfl rfl rfl rfl ?_
                        refine JL.gNo rfl rfl rfl rfl rfl ?_
                        refine JL.val rfl rfl (R.pickF rfl rfl) ?_
                        refine JL.val rfl rfl (R.assign rfl) ?_
                        refine JL.nil ?_
                        obtain rfl := Option.some.inj hx
                        refine JN.forget 6 ?_
                        refine JN.forget 5 ?_
                        refine JN.forget 4 ?_
                        refine JN.forget 3 ?_
                        refine JN.forget 2 ?_
                        refine JN.forget 1 ?_
                        refine JN.forget 0 ?_
                        exact JN.cut ⟨rfl, rfl, rfl⟩ ⟨rfl, trivial⟩ rfl rfl
                    · replace hx := cond_f c_78 hx
                      refine JL.gNo rfl rfl rfl rfl rfl ?_
                      refine JL.gNo rfl rfl rfl rfl rfl ?_
                      refine JL.val rfl rfl (R.pickF rfl rfl) ?_
                      refine JL.val rfl rfl (R.move rfl) ?_
                      refine JL.gNo rfl rfl rfl rfl rfl ?_
                      refine JL.gNo rfl rfl rfl rfl rfl ?_
                      refine JL.val rfl rfl (R.pickF rfl rfl) ?_
                      refine JL.val rfl rfl (R.move rfl) ?_
                      refine JL.gNo rfl rfl rfl rfl rfl ?_
                      refine JL.gNo rfl rfl rfl rfl rfl ?_
                      refine JL.val rfl rfl (R.pickF rfl rfl) ?_
                      refine JL.val rfl rfl (R.move rfl) ?_
                      refine JL.gNo rfl rfl rfl rfl rfl ?_
                      refine JL.gNo rfl rfl rfl rfl rfl ?_
                      refine JL.gNo rfl rfl rfl rfl rfl ?_
                      refine JL.val rfl rfl (R.pickF rfl rfl) ?_
                      refine JL.val rfl rfl (R.assign rfl) ?_
                      refine JL.nil ?_
                      obtain rfl := Option.some.inj hx
                      refine JN.forget 6 ?_
                      refine JN.forget 5 ?_
                      refine JN.forget 4 ?_
                      refine JN.forget 3 ?_
                      refine JN.forget 2 ?_
                      refine JN.forget 1 ?_
                      refine JN.forget 0 ?_
                      exact JN.cut ⟨rfl, rfl, rfl⟩ ⟨rfl, trivial⟩ rfl rfl
                  · replace hx := cond_f c_68 hx
                    refine JL.gNo rfl rfl rfl rfl rfl ?_
                    refine JL.gNo rfl rfl rfl rfl rfl ?_
                    refine JL.gNo rfl rfl rfl rfl rfl ?_
                    refine JL.gNo rfl rfl rfl rfl rfl ?_
                    refine JL.gNo rfl rfl rfl rfl rfl ?_
                    refine JL.gNo rfl rfl rfl rfl rfl ?_
                    refine JL.val rfl rfl (R.pickF rfl rfl) ?_
                    refine JL.val rfl rfl (R.move rfl) ?_
                    refine JL.gNo rfl rfl rfl rfl rfl ?_
                    refine JL.gNo rfl rfl rfl rfl rfl ?_
                    refine JL.val rfl rfl (R.pickF rfl rfl) ?_
                    refine JL.val rfl rfl (R.move rfl) ?_
                    refine JL.gNo rfl rfl rfl rfl rfl ?_
                    refine JL.gNo rfl rfl rfl rfl rfl ?_
                    refine JL.val rfl rfl (R.pickF rfl rfl) ?_
                    refine JL.val rfl rfl (R.move rfl) ?_
                    refine JL.gNo rfl rfl rfl rfl rfl ?_
                    refine JL.gNo rfl rfl rfl rfl rfl ?_
                    refine JL.val rfl rfl (R.pickF rfl rfl) ?_
                    refine JL.val rfl rfl (R.move rfl) ?_
                    refine JL.gNo rfl rfl rfl rfl rfl ?_
                    refine JL.gNo rfl rfl rfl rfl rfl ?_
                    refine JL.gNo rfl rfl rfl rfl rfl ?_
                    refine JL.val rfl rfl (R.pickF rfl rfl) ?_
                    refine JL.val rfl rfl (R.assign rfl) ?_
                    refine JL.nil ?_
                    obtain rfl := Option.some.inj hx
                    refine JN.forget 6 ?_
                    refine JN.forget 5 ?_
                    refine JN.forget 4 ?_
                    refine JN.forget 3 ?_
                    refine JN.forget 2 ?_
                    refine JN.forget 1 ?_
                    refine JN.forget 0 ?_
                    exact JN.cut ⟨rfl, rfl, rfl⟩ ⟨rfl, trivial⟩ rfl rfl
                · replace hx := cond_f c_58 hx
                  refine JL.gNo rfl rfl rfl rfl rfl ?_
                  refine JL.gNo rfl rfl rfl rfl rfl ?_
                  refine JL.gNo rfl rfl rfl rfl rfl ?_
                  refine JL.gNo rfl rfl rfl rfl rfl ?_
                  refine JL.gNo rfl rfl rfl rfl rfl ?_
                  refine JL.gNo rfl rfl rfl rfl rfl ?_
                  refine JL.val rfl rfl (R.pickF rfl rfl) ?_
                  refine JL.val rfl rfl (R.move rfl) ?_
                  refine JL.gNo rfl rfl rfl rfl rfl ?_
                  refine JL.gNo rfl rfl rfl rfl rfl ?_
                  refine JL.gNo rfl rfl rfl rfl rfl ?_
                  refine JL.gNo rfl rfl rfl rfl rfl ?_
                  refine JL.gNo rfl rfl rfl rfl rfl ?_
                  refine JL.gNo rfl rfl rfl rfl rfl ?_
                  refine JL.val rfl rfl (R.pickF rfl rfl) ?_
                  refine JL.val rfl rfl (R.move rfl) ?_
                  refine JL.gNo rfl rfl rfl rfl rfl ?_
                  refine JL.gNo rfl rfl rfl rfl rfl ?_
                  refine JL.val rfl rfl (R.pickF rfl rfl) ?_
                  refine JL.val rfl rfl (R.move rfl) ?_
                  refine JL.gNo rfl rfl rfl rfl rfl ?_
                  refine JL.gNo rfl rfl rfl rfl rfl ?_
                  refine JL.val rfl rfl (R.pickF rfl rfl) ?_
                  refine JL.val rfl rfl (R.move rfl) ?_
                  refine JL.gNo rfl rfl rfl rfl rfl ?_
                  refine JL.gNo rfl rfl rfl rfl rfl ?_
                  refine JL.val rfl rfl (R.pickF rfl rfl) ?_
                  refine JL.val rfl rfl (R.move rfl) ?_
                  refine JL.gNo rfl rfl rfl rfl rfl ?_
                  refine JL.gNo rfl rfl rfl rfl rfl ?_
                  refine JL.gNo rfl rfl rfl rfl rfl ?_
                  refine JL.val rfl rfl (R.pickF rfl rfl) ?_
                  refine JL.val rfl rfl (R.assign rfl) ?_
                  refine JL.nil ?_
                  obtain rfl := Option.some.inj hx
                  refine JN.forget 6 ?_
                  refine JN.forget 5 ?_
                  refine JN.forget 4 ?_
                  refine JN.forget 3 ?_
                  refine JN.forget 2 ?_
                  refine JN.forget 1 ?_
                  refine JN.forget 0 ?_
                  exact JN.cut ⟨rfl, rfl, rfl⟩ ⟨rfl, trivial⟩ rfl rfl
              · replace hx := cond_f c_57 hx
                refine JL.gNo rfl rfl rfl rfl rfl ?_
                refine JL.gNo rfl rfl rfl rfl rfl ?_
                refine JL.val rfl rfl (R.pickF rfl rfl) ?_
                refine JL.val rfl rfl (R.move rfl) ?_
                refine JL.gNo rfl rfl rfl rfl rfl ?_
                refine JL.gNo rfl rfl rfl rfl rfl ?_
                refine JL.gNo rfl rfl rfl rfl rfl ?_
                refine JL.gNo rfl rfl rfl rfl rfl ?_
                refine JL.gNo rfl rfl rfl rfl rfl ?_
                refine JL.gNo rfl rfl rfl rfl rfl ?_
                refine JL.val rfl rfl (R.pickF rfl rfl) ?_
                refine JL.val rfl rfl (R.move rfl) ?_
                refine JL.gNo rfl rfl rfl rfl rfl ?_
                refine JL.gNo rfl rfl rfl rfl rfl ?_
                refine JL.gNo rfl rfl rfl rfl rfl ?_
                refine JL.gNo rfl rfl rfl rfl rfl ?_
                refine JL.gNo rfl rfl rfl rfl rfl ?_
                refine JL.gNo rfl rfl rfl rfl rfl ?_
                refine JL.val rfl rfl (R.pickF rfl rfl) ?_
                refine JL.val rfl rfl (R.move rfl) ?_
                refine JL.gNo rfl rfl rfl rfl rfl ?_
                refine JL.gNo rfl rfl rfl rfl rfl ?_
                refine JL.val rfl rfl (R.pickF rfl rfl) ?_
                refine JL.val rfl rfl (R.move rfl) ?_
                refine JL.gNo rfl rfl rfl rfl rfl ?_
                refine JL.gNo rfl rfl rfl rfl rfl ?_
                refine JL.val rfl rfl (R.pickF rfl rfl) ?_
                refine JL.val rfl rfl (R.move rfl) ?_
                refine JL.gNo rfl rfl rfl rfl rfl ?_
                refine JL.gNo rfl rfl rfl rfl rfl ?_
                refine JL.val rfl rfl (R.pickF rfl rfl) ?_
                refine JL.val rfl rfl (R.move rfl) ?_
                refine JL.gNo rfl rfl rfl rfl rfl ?_
                refine JL.gNo rfl rfl rfl rfl rfl ?_
                refine JL.gNo rfl rfl rfl rfl rfl ?_
                refine JL.val rfl rfl (R.pickF rfl rfl) ?_
                refine JL.val rfl rfl (R.assign rfl) ?_
                refine JL.nil ?_
                obtain rfl := Option.some.inj hx
                refine JN.forget 6 ?_
                refine JN.forget 5 ?_
                refine JN.forget 4 ?_
                refine JN.forget 3 ?_
                refine JN.forget 2 ?_
                refine JN.forget 1 ?_
                refine JN.forget 0 ?_
                exact JN.cut ⟨rfl, rfl, rfl⟩ ⟨rfl, trivial⟩ rfl rfl
            · replace hx := cond_f c_56 hx
              refine JL.gNo rfl rfl rfl rfl rfl ?_
              refine JL.gNo rfl rfl rfl rfl rfl ?_
              refine JL.gNo rfl rfl rfl rfl rfl ?_
              refine JL.val rfl rfl (R.pickF rfl rfl) ?_
              refine JL.val rfl rfl (R.move rfl) ?_
              refine JL.gNo rfl rfl rfl rfl rfl ?_
              refine JL.gNo rfl rfl rfl rfl rfl ?_
              refine JL.val rfl rfl (R.pickF rfl rfl) ?_
              refine JL.val rfl rfl (R.move rfl) ?_
              refine JL.gNo rfl rfl rfl rfl rfl ?_
              refine JL.gNo rfl rfl rfl rfl rfl ?_
              refine JL.gNo rfl rfl rfl rfl rfl ?_
              refine JL.gNo rfl rfl rfl rfl rfl ?_
              refine JL.gNo rfl rfl rfl rfl rfl ?_
              refine JL.gNo rfl rfl rfl rfl rfl ?_
              refine JL.val rfl rfl (R.pickF rfl rfl) ?_
              refine JL.val rfl rfl (R.move rfl) ?_
              refine JL.gNo rfl rfl rfl rfl rfl ?_
              refine JL.gNo rfl rfl rfl rfl rfl ?_
              refine JL.gNo rfl rfl rfl rfl rfl ?_
              refine JL.gNo rfl rfl rfl rfl rfl ?_
              refine JL.gNo rfl rfl rfl rfl rfl ?_
              refine JL.gNo rfl rfl rfl rfl rfl ?_
              refine JL.val rfl rfl (R.pickF rfl rfl) ?_
              refine JL.val rfl rfl (R.move rfl) ?_
              refine JL.gNo rfl rfl rfl rfl rfl ?_
              refine JL.gNo rfl rfl rfl rfl rfl ?_
              refine JL.val rfl rfl (R.pickF rfl rfl) ?_
              refine JL.val rfl rfl (R.move rfl) ?_
              refine JL.gNo rfl rfl rfl rfl rfl ?_
              refine JL.gNo rfl rfl rfl rfl rfl ?_
              refine JL.val rfl rfl (R.pickF rfl rfl) ?_
              refine JL.val rfl rfl (R.move rfl) ?_
              refine JL.gNo rfl rfl rfl rfl rfl ?_
              refine JL.gNo rfl rfl rfl rfl rfl ?_
              refine JL.val rfl rfl (R.pickF rfl rfl) ?_
              refine JL.val rfl rfl (R.move rfl) ?_
              refine JL.gNo rfl rfl rfl rfl rfl ?_
              refine JL.gNo rfl rfl rfl rfl rfl ?_
              refine JL.gNo rfl rfl rfl rfl rfl ?_
              refine JL.val rfl rfl (R.pickF rfl rfl) ?_
              refine JL.val rfl rfl (R.assign rfl) ?_
              refine JL.nil ?_
              obtain rfl := Option.some.inj hx
              refine JN.forget 6 ?_
              refine JN.forget 5 ?_
              refine JN.forget 4 ?_
              refine JN.forget 3 ?_
              refine JN.forget 2 ?_
              refine JN.forget 1 ?_
              refine JN.forget 0 ?_
              exact JN.cut ⟨rfl, rfl, rfl⟩ ⟨rfl, trivial⟩ rfl rfl
          · replace hx := cond_f c_55 hx
            refine JL.gNo rfl rfl rfl rfl rfl ?_
            refine JL.gNo rfl rfl rfl rfl rfl ?_
            refine JL.val rfl rfl (R.pickF rfl rfl) ?_
            refine JL.val rfl rfl (R.move rfl) ?_
            refine JL.gNo rfl rfl rfl rfl rfl ?_
            refine JL.gNo rfl rfl rfl rfl rfl ?_
            refine JL.gNo rfl rfl rfl rfl rfl ?_
            refine JL.val rfl rfl (R.pickF rfl rfl) ?_
            refine JL.val rfl rfl (R.move rfl) ?_
            refine JL.gNo rfl rfl rfl rfl rfl ?_
            refine JL.gNo rfl rfl rfl rfl rfl ?_
            refine JL.val rfl rfl (R.pickF rfl rfl) ?_
            refine JL.val rfl rfl (R.move rfl) ?_
            refine JL.gNo rfl rfl rfl rfl rfl ?_
            refine JL.gNo rfl rfl rfl rfl rfl ?_
            refine JL.gNo rfl rfl rfl rfl rfl ?_
            refine JL.gNo rfl rfl rfl rfl rfl ?_
            refine JL.gNo rfl rfl rfl rfl rfl ?_
            refine JL.gNo rfl rfl rfl rfl rfl ?_
            refine JL.val rfl rfl (R.pickF rfl rfl) ?_
            refine JL.val rfl rfl (R.move rfl) ?_
            refine JL.gNo rfl rfl rfl rfl rfl ?_
            refine JL.gNo rfl rfl rfl rfl rfl ?_
            refine JL.gNo rfl rfl rfl rfl rfl ?_
            refine JL.gNo rfl rfl rfl rfl rfl ?_
            refine JL.gNo rfl rfl rfl rfl rfl ?_
            refine JL.gNo rfl rfl rfl rfl rfl ?_
            refine JL.val rfl rfl (R.pickF rfl rfl) ?_
            refine JL.val rfl rfl (R.move rfl) ?_
            refine JL.gNo rfl rfl rfl rfl rfl ?_
            refine JL.gNo rfl rfl rfl rfl rfl ?_
            refine JL.val rfl rfl (R.pickF rfl rfl) ?_
            refine JL.val rfl rfl (R.move rfl) ?_
            refine JL.gNo rfl rfl rfl rfl rfl ?_
            refine JL.gNo rfl rfl rfl rfl rfl ?_
            refine JL.val rfl rfl (R.pickF rfl rfl) ?_
            refine JL.val rfl rfl (R.move rfl) ?_
            refine JL.gNo rfl rfl rfl rfl rfl ?_
            refine JL.gNo rfl rfl rfl rfl rfl ?_
            refine JL.val rfl rfl (R.pickF rfl rfl) ?_
            refine JL.val rfl rfl (R.move rfl) ?_
            refine JL.gNo rfl rfl rfl rfl rfl ?_
            refine JL.gNo rfl rfl rfl rfl rfl ?_
            refine JL.gNo rfl rfl rfl rfl rfl ?_
            refine JL.val rfl rfl (R.pickF rfl rfl) ?_
            refine JL.val rfl rfl (R.assign rfl) ?_
            refine JL.nil ?_
            obtain rfl := Option.some.inj hx
            refine JN.forget 6 ?_
            refine JN.forget 5 ?_
            refine JN.forget 4 ?_
            refine JN.forget 3 ?_
            refine JN.forget 2 ?_
            refine JN.forget 1 ?_
            refine JN.forget 0 ?_
            exact JN.cut ⟨rfl, rfl, rfl⟩ ⟨rfl, trivial⟩ rfl rfl
        · replace hx := cond_f c_54 hx
          refine JL.gNo rfl rfl rfl rfl rfl ?_
          refine JL.gNo rfl rfl rfl rfl rfl ?_
          refine JL.gNo rfl rfl rfl rfl rfl ?_
          refine JL.val rfl rfl (R.pickF rfl rfl) ?_
          refine JL.val rfl rfl (R.move rfl) ?_
          refine JL.gNo rfl rfl rfl rfl rfl ?_
          refine JL.gNo rfl rfl rfl rfl rfl ?_
          refine JL.val rfl rfl (R.pickF rfl rfl) ?_
          refine JL.val rfl rfl (R.move rfl) ?_
          refine JL.gNo rfl rfl rfl rfl rfl ?_
          refine JL.gNo rfl rfl rfl rfl rfl ?_
          refine JL.gNo rfl rfl rfl rfl rfl ?_
          refine JL.val rfl rfl (R.pickF rfl rfl) ?_
          refine JL.val rfl rfl (R.move rfl) ?_
          refine JL.gNo rfl rfl rfl rfl rfl ?_
          refine JL.gNo rfl rfl rfl rfl rfl ?_
          refine JL.val rfl rfl (R.pickF rfl rfl) ?_
          refine JL.val rfl rfl (R.move rfl) ?_
          refine JL.gNo rfl rfl rfl rfl rfl ?_
          refine JL.gNo rfl rfl rfl rfl rfl ?_
          refine JL.gNo rfl rfl rfl rfl rfl ?_
          refine JL.gNo rfl rfl rfl rfl rfl ?_
          refine JL.gNo rfl rfl rfl rfl rfl ?_
          refine JL.gNo rfl rfl rfl rfl rfl ?_
          refine JL.val rfl rfl (R.pickF rfl rfl) ?_
          refine JL.val rfl rfl (R.move rfl) ?_
          refine JL.gNo rfl rfl rfl rfl rfl ?_
          refine JL.gNo rfl rfl rfl rfl rfl ?_
          refine JL.gNo rfl rfl rfl rfl rfl ?_
          refine JL.gNo rfl rfl rfl rfl rfl ?_
          refine JL.gNo rfl rfl rfl rfl rfl ?_
          refine JL.gNo rfl rfl rfl rfl rfl ?_
          refine JL.val rfl rfl (R.pickF rfl rfl) ?_
          refine JL.val rfl rfl (R.move rfl) ?_
          refine JL.gNo rfl rfl rfl rfl rfl ?_
          refine JL.gNo rfl rfl rfl rfl rfl ?_
          refine JL.val rfl rfl (R.pickF rfl rfl) ?_
          refine JL.val rfl rfl (R.move rfl) ?_
          refine JL.gNo rfl rfl rfl rfl rfl ?_
          refine JL.gNo rfl rfl rfl rfl rfl ?_
          refine JL.val rfl rfl (R.pickF rfl rfl) ?_
          refine JL.val rfl rfl (R.move rfl) ?_
          refine JL.gNo rfl rfl rfl rfl rfl ?_
          refine JL.gNo rfl rfl rfl rfl rfl ?_
          refine JL.val rfl rfl (R.pickF rfl rfl) ?_
          refine JL.val rfl rfl (R.move rfl) ?_
          refine JL.gNo rfl rfl rfl rfl rfl ?_
          refine JL.gNo rfl rfl rfl rfl rfl ?_
          refine JL.gNo rfl rfl rfl rfl rfl ?_
          refine JL.val rfl rfl (R.pickF rfl rfl) ?_
          refine JL.val rfl rfl (R.assign rfl) ?_
          refine JL.nil ?_
          obtain rfl := Option.some.inj hx
          refine JN.forget 6 ?_
          refine JN.forget 5 ?_
          refine JN.forget 4 ?_
          refine JN.forget 3 ?_
          refine JN.forget 2 ?_
          refine JN.forget 1 ?_
          refine JN.forget 0 ?_
          exact JN.cut ⟨rfl, rfl, rfl⟩ ⟨rfl, trivial⟩ rfl rfl
end Go.Proofs.Ytdoebbgjjlicjaa
