/- walks: what the code computes, function by function. -/
import Derived.Test.YtabnbobdjckdmaaW2p1
import Derived.Test.YtabnbobdjckdmaaOwPlabelN
namespace Go.Proofs.Ytabnbobdjckdmaa
open Go.Ow Go.RowKit Go.Proofs
set_option linter.unusedVariables false
set_option linter.unusedSimpArgs false
set_option maxHeartbeats 1000000 in
theorem law11_LabelNames_ok (H : Heaplet) (r : Bool) (hx : law11_LabelNames = some r) :
    Does Try.prog 4 #[] [] H (fun u K' H' => u = .bool r ∧ K' = [] ∧ True) := by
  refine Does.enterL (vs := []) (l := []) Try.func4 rfl rfl trivial (fun w hlt => ?_)
  rw [law11_LabelNames.eq_1] at hx
  refine JC.seq ?_
  refine JC.region ?_
  refine JL.val rfl rfl (R.assign rfl) ?_
  refine JL.nil ?_
  refine JN.next ?_
  refine JC.seq ?_
  refine JC.seq ?_
  refine JC.region ?_
  obtain ⟨x_1, hr_2, hx⟩ := bnd_some hx
  refine JL.callC (vs := []) (args := []) (K := []) (rst := []) E17 rfl rfl rfl picks0 (law11_alive_ok _ _ hr_2) rfl (fun u_3 Ku_3 Hu_3 hRu_3 hleu_3 hfu_3 => ?_)
  obtain ⟨rfl, rfl, -⟩ := hRu_3
  refine JL.val rfl rfl (R.not rfl) ?_
  refine JL.nil ?_
  refine JN.next ?_
  refine JC.condB rfl (fun c_4 => ?_) (fun c_4 => ?_)
  · replace hx := cond_t c_4 hx
    refine JC.seq ?_
    refine JC.region ?_
    refine JL.val rfl rfl (R.assign rfl) ?_
    refine JL.nil ?_
    refine JN.next ?_
    refine JC.ret ?_
    refine JN.passR ?_
    refine JN.outP (vs := [.bool false]) (K := []) (rst := []) (.inl rfl) rfl rfl (Res.tmp rfl rfl) picks0 ?_
    obtain rfl := Option.some.inj hx
    exact ⟨rfl, rfl, trivial⟩
  · replace hx := cond_f c_4 hx
    refine JC.skip ?_
    refine JN.next ?_
    refine JC.seq ?_
    refine JC.region ?_
    obtain ⟨x_5, hr_6, hx⟩ := bnd_some hx
    refine JL.callC (vs := []) (args := []) (K := []) (rst := []) E18 rfl rfl rfl picks0 (dev_New_ok _ _ hr_6) rfl (fun u_7 Ku_7 Hu_7 hRu_7 hleu_7 hfu_7 => ?_)
    obtain ⟨aor_8, nr_8, capr_8, Kr_8, aoz_9, nz_9, rfl, rfl, hr_8, hnewr_8, hz_9, -⟩ := hRu_7
    replace hr_8 := (Pcs.base hr_8 (fun p hp => (hfu_7 p (mem_seg 0 rfl hp)).resolve_left (hnewr_8 p hp)))
    replace hz_9 := IsSlice.mono R_Write.mono (New.call hleu_3) hz_9
    refine JL.pubPcs 0  rfl hr_8 (Nat.le_refl _) (fun H_10 hleH_10 hsH_10 => ?_)
    refine JL.forget 0 ?_
    obtain ⟨x_11, hr_12, hx⟩ := bnd_some hx
    refine JL.callC (vs := [_]) (args := [_]) (K := []) (rst := []) E12 rfl rfl rfl picks0 (label_Find_ok x_5 _ (hsH_10.old (RSl.mono RU8.mono)) ((hz_9.mono R_Write.mono (New.mono hleH_10)).old R_Write.mono) _ hr_12) rfl (fun u_13 Ku_13 Hu_13 hRu_13 hleu_13 hfu_13 => ?_)
    obtain ⟨aor_14, nr_14, capr_14, Kr_14, rfl, rfl, hr_14, hnewr_14, -⟩ := hRu_13
    replace hr_14 := (RowOf.base (RowOf.const (H2 := New H Hu_13) R_Label.const hr_14) (fun p hp => (hfu_13 p (mem_seg 0 rfl hp)).resolve_left (hnewr_14 p hp)))
    refine JL.val rfl rfl (R.move rfl) ?_
    refine JL.val rfl rfl (R.extract rfl rfl) ?_
    refine JL.val rfl rfl (R.extract rfl rfl) ?_
    refine JL.val rfl rfl (R.assign rfl) ?_
    refine JL.val rfl rfl (R.assign rfl) ?_
    refine JL.nil ?_
    refine JN.next ?_
    refine JC.seq ?_
    refine JC.region ?_
    obtain ⟨x_15, hr_16, hx⟩ := bnd_some hx
    refine JL.callC (vs := []) (args := []) (K := []) (rst := [_]) E18 rfl rfl rfl picks0 (dev_New_ok _ _ hr_16) rfl (fun u_17 Ku_17 Hu_17 hRu_17 hleu_17 hfu_17 => ?_)
    obtain ⟨aor_18, nr_18, capr_18, Kr_18, aoz_19, nz_19, rfl, rfl, hr_18, hnewr_18, hz_19, -⟩ := hRu_17
    replace hr_18 := (Pcs.base hr_18 (fun p hp => (hfu_17 p (mem_seg 0 rfl hp)).resolve_left (hnewr_18 p hp)))
    replace hz_19 := IsSlice.mono R_Write.mono (New.call (hleu_3.trans (hleu_7.trans (hleH_10.trans hleu_13)))) hz_19
    obtain ⟨x_20, hr_21, hx⟩ := bnd_some hx
    refine JL.callC (vs := [_]) (args := [_]) (K := []) (rst := [_, _]) E19 rfl rfl rfl picks0 (law11_one_ok (0 : UInt32) _ _ hr_21) rfl (fun u_22 Ku_22 Hu_22 hRu_22 hleu_22 hfu_22 => ?_)
    obtain ⟨rfl, rfl, rfl, -⟩ := hRu_22
    refine JL.pubPcs 0  rfl hr_18 (Nat.le_refl _) (fun H_23 hleH_23 hsH_23 => ?_)
    refine JL.forget 0 ?_
    obtain ⟨x_24, hr_25, hx⟩ := bnd_some hx
    refine JL.callC (vs := [_, _]) (args := [_, _]) (K := []) (rst := [_]) E10 rfl rfl rfl picks0 (label_Put_ok x_15 x_20 _ (hsH_23.old (RSl.mono RU8.mono)) ((hz_19.mono R_Write.mono (New.mono hleH_23)).old R_Write.mono) _ hr_25) rfl (fun u_26 Ku_26 Hu_26 hRu_26 hleu_26 hfu_26 => ?_)
    obtain ⟨aoz_27, nz_27, capz_27, aor_28, nr_28, capr_28, Kr_28, rfl, rfl, hz_27, hr_28, hnewr_28, -⟩ := hRu_26
    replace hr_28 := (RowOf.base (RowOf.mono R_Write.mono (New.call (hleu_3.trans (hleu_7.trans (hleH_10.trans (hleu_13.trans (hleu_17.trans hleH_23)))))) hr_28) (fun p hp => (hfu_26 p (mem_seg 0 rfl hp)).resolve_left (hnewr_28 p hp)))
    replace hz_27 := IsSlice.mono (RSl.mono RU8.mono) (New.call (hleu_3.trans (hleu_7.trans (hleH_10.trans (hleu_13.trans (hleu_17.trans hleH_23)))))) hz_27
    refine JL.val rfl rfl (R.move rfl) ?_
    refine JL.val rfl rfl (R.extract rfl rfl) ?_
    refine JL.val rfl rfl (R.extract rfl rfl) ?_
    refine JL.alloc Z25 rfl (fun b_29 hb_29 => ?_)
    refine JL.store 0 S25 rfl rfl rfl rfl rfl (Nat.le_of_ble_eq_true rfl) ?_
    refine JL.val rfl rfl (R.assign rfl) ?_
    refine JL.nil ?_
    refine JN.next ?_
    refine JC.seq ?_
    refine JC.region ?_
    obtain ⟨x_30, hr_31, hx⟩ := bnd_some hx
    refine JL.callC (vs := []) (args := []) (K := []) (rst := [_, _, _]) E18 rfl rfl rfl picks0 (dev_New_ok _ _ hr_31) rfl (fun u_32 Ku_32 Hu_32 hRu_32 hleu_32 hfu_32 => ?_)
    obtain ⟨aor_33, nr_33, capr_33, Kr_33, aoz_34, nz_34, rfl, rfl, hr_33, hnewr_33, hz_34, -⟩ := hRu_32
    replace hr_33 := (Pcs.base hr_33 (fun p hp => (hfu_32 p (mem_seg 0 rfl hp)).resolve_left (hnewr_33 p hp)))
    replace hz_34 := IsSlice.mono R_Write.mono (New.call (hleu_3.trans (hleu_7.trans (hleH_10.trans (hleu_13.trans (hleu_17.trans (hleH_23.trans hleu_26))))))) hz_34
    refine JL.val rfl rfl (R.bldP (vs := [(0, .int .u32 ((1 : UInt32).toNat : Int)), (1, .int .u32 ((1 : UInt32).toNat : Int))]) (cs := [.int .u32 ((1 : UInt32).toNat : Int), .int .u32 ((1 : UInt32).toNat : Int), .int .i64 0, .int .u32 ((0 : UInt32).toNat : Int), .int .u32 ((0 : UInt32).toNat : Int), .int .u32 ((0 : UInt32).toNat : Int), .int .u32 ((0 : UInt32).toNat : Int)]) Z30 B30 rfl rfl rfl) ?_
    refine JL.pubPcs 0  rfl hr_33 (Nat.le_refl _) (fun H_35 hleH_35 hsH_35 => ?_)
    refine JL.forget 0 ?_
    obtain ⟨x_36, hr_37, hx⟩ := bnd_some hx
    refine JL.callC (vs := [_, _]) (args := [_, _]) (K := []) (rst := [_, _, _]) E10 rfl rfl rfl picks0 (label_Put_ok x_30 (Label.mk (1 : UInt32) (1 : UInt32) (Ptr.mk 0 (0 : UInt32) (0 : UInt32) (0 : UInt32) (0 : UInt32))) _ (hsH_35.old (RSl.mono RU8.mono)) ((hz_34.mono R_Write.mono (New.mono hleH_35)).old R_Write.mono) _ hr_37) rfl (fun u_38 Ku_38 Hu_38 hRu_38 hleu_38 hfu_38 => ?_)
    obtain ⟨aoz_39, nz_39, capz_39, aor_40, nr_40, capr_40, Kr_40, rfl, rfl, hz_39, hr_40, hnewr_40, -⟩ := hRu_38
    replace hr_40 := (RowOf.base (RowOf.mono R_Write.mono (New.call (hleu_3.trans (hleu_7.trans (hleH_10.trans (hleu_13.trans (hleu_17.trans (hleH_23.trans (hleu_26.trans (hleu_32.trans hleH_35))))))))) hr_40) (fun p hp => (hfu_38 p (mem_seg 0 rfl hp)).resolve_left (hnewr_40 p hp)))
    replace hz_39 := IsSlice.mono (RSl.mono RU8.mono) (New.call (hleu_3.trans (hleu_7.trans (hleH_10.trans (hleu_13.trans (hleu_17.trans (hleH_23.trans (hleu_26.trans (hleu_32.trans hleH_35))))))))) hz_39
    refine JL.val rfl rfl (R.move rfl) ?_
    refine JL.val rfl rfl (R.extract rfl rfl) ?_
    refine JL.val rfl rfl (R.extract rfl rfl) ?_
    refine JL.alloc Z25 rfl (fun b_41 hb_41 => ?_)
    refine JL.store 0 S25 rfl rfl rfl rfl rfl (Nat.le_of_ble_eq_true rfl) ?_
    refine JL.val rfl rfl (R.assign rfl) ?_
    refine JL.nil ?_
    refine JN.next ?_
    refine JC.seq ?_
    refine JC.region ?_
    obtain ⟨x_42, hr_43, hx⟩ := bnd_some hx
    refine JL.callC (vs := []) (args := []) (K := []) (rst := [_, _, _, _, _]) E18 rfl rfl rfl picks0 (dev_New_ok _ _ hr_43) rfl (fun u_44 Ku_44 Hu_44 hRu_44 hleu_44 hfu_44 => ?_)
    obtain ⟨aor_45, nr_45, capr_45, Kr_45, aoz_46, nz_46, rfl, rfl, hr_45, hnewr_45, hz_46, -⟩ := hRu_44
    replace hr_45 := (Pcs.base hr_45 (fun p hp => (hfu_44 p (mem_seg 0 rfl hp)).resolve_left (hnewr_45 p hp)))
    replace hz_46 := IsSlice.mono R_Write.mono (New.call (hleu_3.trans (hleu_7.trans (hleH_10.trans (hleu_13.trans (hleu_17.trans (hleH_23.trans (hleu_26.trans (hleu_32.trans (hleH_35.trans hleu_38)))))))))) hz_46
    refine JL.alloc Z25 rfl (fun b_47 hb_47 => ?_)
    refine JL.store 0 S25 rfl rfl rfl rfl rfl (Nat.le_of_ble_eq_true rfl) ?_
    refine JL.nil ?_
    refine JN.next ?_
    refine JC.seq ?_
    refine JC.seq ?_
    refine JC.region ?_
    refine JL.val rfl rfl (R.assign rfl) ?_
    refine JL.nil ?_
    refine JN.next ?_
    obtain ⟨t_48, ht_50, hx⟩ := bnd_some hx
    refine JC.cut (fun l o g => ∃ t_48a : List (List UInt8) × List Write, ∃ H_60 : Heaplet, ∃ aoz_61 : Option Addr, ∃ nz_61 : Nat, ∃ capz_61 : Nat, ∃ aoz_62 : Option Addr, ∃ nz_62 : Nat, ∃ capz_62 : Nat, l = [(1, .slice aor_14 nr_14 capr_14), (2, .int .i64 x_11.2), (4, .int .i64 x_24.2), (6, .int .i64 x_36.2), (7, .pointer (some ⟨b_47, 0, none⟩))] ∧ o = [Kr_14, [(b_47, .cells #[.slice aoz_61 nz_61 capz_61, .slice aoz_62 nz_62 capz_62] 25 (0, 0))]] ∧ H_60 = g ∧ t_48 = .inl t_48a ∧ Hle Hu_44 H_60 ∧ IsSlice (New H H_60) (RSl RU8 1) 1 (.slice aoz_61 nz_61 capz_61) t_48a.1 ∧ IsSlice (New H H_60) R_Write 2 (.slice aoz_62 nz_62 capz_62) t_48a.2) ?_ ?_
    · rintro _ _ _ ⟨t_48a, H_60, aoz_61, nz_61, capz_61, aoz_62, nz_62, capz_62, rfl, rfl, rfl, rfl, hleH_60, hz_61, hz_62⟩
      simp only [Sum.elim_inl] at hx
      refine JN.next ?_
      refine JC.seq ?_
      refine JC.region ?_
      refine JL.val rfl rfl (R.ldoN 1 (vs := [.slice aoz_61 nz_61 capz_61, .slice aoz_62 nz_62 capz_62]) S25 rfl rfl rfl rfl) ?_
      obtain ⟨x_64, hr_65, hx⟩ := bnd_some hx
      refine JL.callC (vs := [_]) (args := [_]) (K := []) (rst := [_, _]) E12 rfl rfl rfl picks0 (label_Find_ok (Disk.mk t_48a.1 t_48a.2) _ (hz_61.old (RSl.mono RU8.mono)) (hz_62.old R_Write.mono) _ hr_65) rfl (fun u_66 Ku_66 Hu_66 hRu_66 hleu_66 hfu_66 => ?_)
      obtain ⟨aor_67, nr_67, capr_67, Kr_67, rfl, rfl, hr_67, hnewr_67, -⟩ := hRu_66
      replace hr_67 := (RowOf.base (RowOf.const (H2 := New H Hu_66) R_Label.const hr_67) (fun p hp => (hfu_66 p (mem_seg 0 rfl hp)).resolve_left (hnewr_67 p hp)))
      refine JL.val rfl rfl (R.move rfl) ?_
      refine JL.val rfl rfl (R.extract rfl rfl) ?_
      refine JL.val rfl rfl (R.extract rfl rfl) ?_
      refine JL.val rfl rfl (R.assign rfl) ?_
      refine JL.val rfl rfl (R.assign rfl) ?_
      refine JL.nil ?_
      refine JN.next ?_
      refine JC.seq ?_
      obtain ⟨t_68, ht_70, hx⟩ := bnd_some hx
      refine JC.cut (fun l o g => l = [(0, .bool t_68)] ∧ o = [] ∧ Hu_66 = g) ?_ ?_
      · rintro _ _ _ ⟨rfl, rfl, rfl⟩
        refine JN.next ?_
        refine JC.ret ?_
        refine JN.outP (vs := [.bool t_68]) (K := []) (rst := []) (.inl rfl) rfl rfl (Res.tmp rfl rfl) picks0 ?_
        obtain rfl := Option.some.inj hx
        exact ⟨rfl, rfl, trivial⟩
      · have hxo_69 := hx; clear hx; have hx := ht_70; clear ht_70
        refine JC.region ?_
        refine JL.val rfl rfl (R.move rfl) ?_
        refine JL.gYes rfl rfl rfl ?_
        refine JL.val rfl rfl (R.move rfl) ?_
        refine JL.gYes rfl rfl rfl ?_
        refine JL.val rfl rfl (R.eql_i rfl rfl) ?_
        refine JL.val rfl rfl (R.pickT rfl rfl) ?_
        refine JL.val rfl rfl (R.move rfl) ?_
        refine JL.gSplit (t := 56) rfl (fun c_71 => ?_) (fun c_71 => ?_)
        · replace hx := cond_t c_71 hx
          refine JL.gYes rfl rfl rfl ?_
          refine JL.val rfl rfl (R.move rfl) ?_
          refine JL.gYes rfl rfl rfl ?_
          refine JL.val rfl rfl (R.lenL U38 rfl (RowOf.long hr_14)) ?_
          refine JL.gYes rfl rfl rfl ?_
          refine JL.val rfl rfl (R.eql_i rfl rfl) ?_
          refine JL.val rfl rfl (R.pickT rfl rfl) ?_
          refine JL.val rfl rfl (R.move rfl) ?_
          refine JL.gSplit (t := 61) rfl (fun c_72 => ?_) (fun c_72 => ?_)
          · replace hx := cond_t c_72 hx
            refine JL.gYes rfl rfl rfl ?_
            refine JL.val rfl rfl (R.move rfl) ?_
            refine JL.gYes rfl rfl rfl ?_
            refine JL.val rfl rfl (R.eql_i rfl rfl) ?_
            refine JL.val rfl rfl (R.pickT rfl rfl) ?_
            refine JL.val rfl rfl (R.move rfl) ?_
            refine JL.gSplit (t := 65) rfl (fun c_73 => ?_) (fun c_73 => ?_)
            · replace hx := cond_t c_73 hx
              refine JL.gYes rfl rfl rfl ?_
              refine JL.val rfl rfl (R.move rfl) ?_
              refine JL.gYes rfl rfl rfl ?_
              refine JL.val rfl rfl (R.eql_i rfl rfl) ?_
              refine JL.val rfl rfl (R.pickT rfl rfl) ?_
              refine JL.val rfl rfl (R.move rfl) ?_
              refine JL.gSplit (t := 69) rfl (fun c_74 => ?_) (fun c_74 => ?_)
              · replace hx := cond_t c_74 hx
                refine JL.gYes rfl rfl rfl ?_
                refine JL.val rfl rfl (R.move rfl) ?_
                refine JL.gYes rfl rfl rfl ?_
                refine JL.val rfl rfl (R.eql_i rfl rfl) ?_
                refine JL.val rfl rfl (R.pickT rfl rfl) ?_
                refine JL.val rfl rfl (R.move rfl) ?_
                refine JL.gSplit (t := 73) rfl (fun c_75 => ?_) (fun c_75 => ?_)
                · replace hx := cond_t c_75 hx
                  refine JL.gYes rfl rfl rfl ?_
                  refine JL.val rfl rfl (R.move rfl) ?_
                  refine JL.gYes rfl rfl rfl ?_
                  refine JL.val rfl rfl (R.lenL U38 rfl (RowOf.long hr_67)) ?_
                  refine JL.gYes rfl rfl rfl ?_
                  refine JL.val rfl rfl (R.eql_i rfl rfl) ?_
                  refine JL.val rfl rfl (R.pickT rfl rfl) ?_
                  refine JL.val rfl rfl (R.move rfl) ?_
                  refine JL.gSplit (t := 78) rfl (fun c_76 => ?_) (fun c_76 => ?_)
                  · replace hx := cond_t c_76 hx
                    refine JL.gYes rfl rfl rfl ?_
                    refine JL.val rfl rfl (R.move rfl) ?_
                    refine JL.gYes rfl rfl rfl ?_
                    obtain ⟨y_77, hN_78, hx⟩ := idx_some hx
                    obtain ⟨b_79, o_80, cs_81, cur_86, hK_87, hE_82, hR_83, hl_84, hc_85⟩ := RowOf.elem hr_67 hN_78
                    subst hK_87
                    obtain rfl := hR_83
                    refine JL.val rfl rfl (R.ix U38 S30 rfl rfl hE_82) ?_
                    refine JL.gYes rfl rfl rfl ?_
                    refine JL.val rfl rfl (R.fa F30_0 rfl) ?_
                    refine JL.gYes rfl rfl rfl ?_
                    refine JL.val rfl rfl (R.ldo 0 S26 rfl rfl (hc_85 0 _ rfl)) ?_
                    refine JL.gYes rfl rfl rfl ?_
                    refine JL.val rfl rfl (R.eql32 (a := y_77.Gen) (b := (5 : UInt32)) rfl rfl) ?_
                    refine JL.val rfl rfl (R.pickT rfl rfl) ?_
                    refine JL.val rfl rfl (R.move rfl) ?_
                    refine JL.gSplit (t := 85) rfl (fun c_88 => ?_) (fun c_88 => ?_)
                    · replace hx := cond_t c_88 hx
                      refine JL.gYes rfl rfl rfl ?_
                      refine JL.val rfl rfl (R.move rfl) ?_
                      refine JL.gYes rfl rfl rfl ?_
                      obtain ⟨y_89, hN_90, hx⟩ := idx_some hx
                      obtain ⟨b_91, o_92, cs_93, cur_98, hK_99, hE_94, hR_95, hl_96, hc_97⟩ := RowOf.elem hr_67 hN_90
                      obtain ⟨rfl, rfl⟩ : b_79 = b_91 ∧ cur_86 = cur_98 := by simpa using hK_99
                      obtain rfl := hR_95
                      refine JL.val rfl rfl (R.ix U38 S30 rfl rfl hE_94) ?_
                      refine JL.gYes rfl rfl rfl ?_
                      refine JL.val rfl rfl (R.fa F30_0 rfl) ?_
                      refine JL.gYes rfl rfl rfl ?_
                      refine JL.val rfl rfl (R.ldo 0 S26 rfl rfl (hc_97 0 _ rfl)) ?_
                      refine JL.gYes rfl rfl rfl ?_
                      refine JL.val rfl rfl (R.eql32 (a := y_89.Gen) (b := (4 : UInt32)) rfl rfl) ?_
                      refine JL.val rfl rfl (R.pickT rfl rfl) ?_
                      refine JL.val rfl rfl (R.move rfl) ?_
                      refine JL.gSplit (t := 92) rfl (fun c_100 => ?_) (fun c_100 => ?_)
                      · replace hx := cond_t c_100 hx
                        refine JL.gYes rfl rfl rfl ?_
                        refine JL.val rfl rfl (R.move rfl) ?_
                        refine JL.gYes rfl rfl rfl ?_
                        obtain ⟨y_101, hN_102, hx⟩ := idx_some hx
                        obtain ⟨b_103, o_104, cs_105, cur_110, hK_111, hE_106, hR_107, hl_108, hc_109⟩ := RowOf.elem hr_67 hN_102
                        obtain ⟨rfl, rfl⟩ : b_79 = b_103 ∧ cur_86 = cur_110 := by simpa using hK_111
                        obtain rfl := hR_107
                        refine JL.val rfl rfl (R.ix U38 S30 rfl rfl hE_106) ?_
                        refine JL.gYes rfl rfl rfl ?_
                        refine JL.val rfl rfl (R.fa F30_0 rfl) ?_
                        refine JL.gYes rfl rfl rfl ?_
                        refine JL.val rfl rfl (R.ldo 0 S26 rfl rfl (hc_109 0 _ rfl)) ?_
                        refine JL.gYes rfl rfl rfl ?_
                        refine JL.val rfl rfl (R.eql32 (a := y_101.Gen) (b := (3 : UInt32)) rfl rfl) ?_
                        refine JL.val rfl rfl (R.pickT rfl rfl) ?_
                        refine JL.val rfl rfl (R.move rfl) ?_
                        refine JL.gSplit (t := 99) rfl (fun c_112 => ?_) (fun c_112 => ?_)
                        · replace hx := cond_t c_112 hx
                          refine JL.gYes rfl rfl rfl ?_
                          refine JL.val rfl rfl (R.move rfl) ?_
                          refine JL.gYes rfl rfl rfl ?_
                          obtain ⟨y_113, hN_114, hx⟩ := idx_some hx
                          obtain ⟨b_115, o_116, cs_117, cur_122, hK_123, hE_118, hR_119, hl_120, hc_121⟩ := RowOf.elem hr_67 hN_114
                          obtain ⟨rfl, rfl⟩ : b_79 = b_115 ∧ cur_86 = cur_122 := by simpa using hK_123
                          obtain rfl := hR_119
                          refine JL.val rfl rfl (R.ix U38 S30 rfl rfl hE_118) ?_
                          refine JL.gYes rfl rfl rfl ?_
                          refine JL.val rfl rfl (R.fa F30_0 rfl) ?_
                          refine JL.gYes rfl rfl rfl ?_
                          refine JL.val rfl rfl (R.ldo 0 S26 rfl rfl (hc_121 0 _ rfl)) ?_
                          refine JL.gYes rfl rfl rfl ?_
                          refine JL.val rfl rfl (R.eql32 (a := y_113.Gen) (b := (2 : UInt32)) rfl rfl) ?_
                          refine JL.val rfl rfl (R.pickT rfl rfl) ?_
                          refine JL.val rfl rfl (R.move rfl) ?_
                          refine JL.gSplit (t := 106) rfl (fun c_124 => ?_) (fun c_124 => ?_)
                          · replace hx := cond_t c_124 hx
                            refine JL.gYes rfl rfl rfl ?_
                            obtain ⟨x_125, hr_126, hx⟩ := bnd_some hx
                            refine JL.callC (vs := [_]) (args := [_]) (K := []) (rst := [_, _, _]) E15 rfl rfl rfl picks0 (label_Slot_ok (7 : UInt32) _ _ hr_126) rfl (fun u_127 Ku_127 Hu_127 hRu_127 hleu_127 hfu_127 => ?_)
                            obtain ⟨rfl, rfl, rfl, -⟩ := hRu_127
                            refine JL.gYes rfl rfl rfl ?_
                            refine JL.val rfl rfl (R.eql_i rfl rfl) ?_
                            refine JL.val rfl rfl (R.pickT rfl rfl) ?_
                            refine JL.val rfl rfl (R.assign rfl) ?_
                            refine JL.nil ?_
                            obtain rfl := Option.some.inj hx
                            refine JN.forget 2 ?_
                            refine JN.forget 1 ?_
                            refine JN.forget 0 ?_
                            exact JN.cut ⟨rfl, rfl, rfl⟩ ⟨rfl, trivial⟩ rfl rfl
                          · replace hx := cond_f c_124 hx
                            refine JL.gNo rfl rfl rfl rfl rfl ?_
                            refine JL.gNo rfl rfl rfl rfl rfl ?_
                            refine JL.val rfl rfl (R.pickF rfl rfl) ?_
                            refine JL.val rfl rfl (R.assign rfl) ?_
                            refine JL.nil ?_
                            obtain rfl := Option.some.inj hx
                            refine JN.forget 2 ?_
                            refine JN.forget 1 ?_
                            refine JN.forget 0 ?_
                            exact JN.cut ⟨rfl, rfl, rfl⟩ ⟨rfl, trivial⟩ rfl rfl
                        · replace hx := cond_f c_112 hx
                          refine JL.gNo rfl rfl rfl rfl rfl ?_
                          refine JL.gNo rfl rfl rfl rfl rfl ?_
                          refine JL.gNo rfl rfl rfl rfl rfl ?_
                          refine JL.gNo rfl rfl rfl rfl rfl ?_
                          refine JL.gNo rfl rfl rfl rfl rfl ?_
                          refine JL.val rfl rfl (R.pickF rfl rfl) ?_
                          refine JL.val rfl rfl (R.move rfl) ?_
                          refine JL.gNo rfl rfl rfl rfl rfl ?_
                          refine JL.gNo rfl rfl rfl rfl rfl ?_
                          refine JL.val rfl rfl (R.pickF rfl rfl) ?_
                          refine JL.val rfl rfl (R.assign rfl) ?_
                          refine JL.nil ?_
                          obtain rfl := Option.some.inj hx
                          refine JN.forget 2 ?_
                          refine JN.forget 1 ?_
                          refine JN.forget 0 ?_
                          exact JN.cut ⟨rfl, rfl, rfl⟩ ⟨rfl, trivial⟩ rfl rfl
                      · replace hx := cond_f c_100 hx
                        refine JL.gNo rfl rfl rfl rfl rfl ?_
                        refine JL.gNo rfl rfl rfl rfl rfl ?_
                        refine JL.gNo rfl rfl rfl rfl rfl ?_
                        refine JL.gNo rfl rfl rfl rfl rfl ?_
                        refine JL.gNo rfl rfl rfl rfl rfl ?_
                        refine JL.val rfl rfl (R.pickF rfl rfl) ?_
                        refine JL.val rfl rfl (R.move rfl) ?_
                        refine JL.gNo rfl rfl rfl rfl rfl ?_
                        refine JL.gNo rfl rfl rfl rfl rfl ?_
                        refine JL.gNo rfl rfl rfl rfl rfl ?_
                        refine JL.gNo rfl rfl rfl rfl rfl ?_
                        refine JL.gNo rfl rfl rfl rfl rfl ?_
                        refine JL.val rfl rfl (R.pickF rfl rfl) ?_
                        refine JL.val rfl rfl (R.move rfl) ?_
                        refine JL.gNo rfl rfl rfl rfl rfl ?_
                        refine JL.gNo rfl rfl rfl rfl rfl ?_
                        refine JL.val rfl rfl (R.pickF rfl rfl) ?_
                        refine JL.val rfl rfl (R.assign rfl) ?_
                        refine JL.nil ?_
                        obtain rfl := Option.some.inj hx
                        refine JN.forget 2 ?_
                        refine JN.forget 1 ?_
                        refine JN.forget 0 ?_
                        exact JN.cut ⟨rfl, rfl, rfl⟩ ⟨rfl, trivial⟩ rfl rfl
                    · replace hx := cond_f c_88 hx
                      refine JL.gNo rfl rfl rfl rfl rfl ?_
                      refine JL.gNo rfl rfl rfl rfl rfl ?_
                      refine JL.gNo rfl rfl rfl rfl rfl ?_
                      refine JL.gNo rfl rfl rfl rfl rfl ?_
                      refine JL.gNo rfl rfl rfl rfl rfl ?_
                      refine JL.val rfl rfl (R.pickF rfl rfl) ?_
                      refine JL.val rfl rfl (R.move rfl) ?_
                      refine JL.gNo rfl rfl rfl rfl rfl ?_
                      refine JL.gNo rfl rfl rfl rfl rfl ?_
                      refine JL.gNo rfl rfl rfl rfl rfl ?_
                      refine JL.gNo rfl rfl rfl rfl rfl ?_
                      refine JL.gNo rfl rfl rfl rfl rfl ?_
                      refine JL.val rfl rfl (R.pickF rfl rfl) ?_
                      refine JL.val rfl rfl (R.move rfl) ?_
                      refine JL.gNo rfl rfl rfl rfl rfl ?_
                      refine JL.gNo rfl rfl rfl rfl rfl ?_
                      refine JL.gNo rfl rfl rfl rfl rfl ?_
                      refine JL.gNo rfl rfl rfl rfl rfl ?_
                      refine JL.gNo rfl rfl rfl rfl rfl ?_
                      refine JL.val rfl rfl (R.pickF rfl rfl) ?_
                      refine JL.val rfl rfl (R.move rfl) ?_
                      refine JL.gNo rfl rfl rfl rfl rfl ?_
                      refine JL.gNo rfl rfl rfl rfl rfl ?_
                      refine JL.val rfl rfl (R.pickF rfl rfl) ?_
                      refine JL.val rfl rfl (R.assign rfl) ?_
                      refine JL.nil ?_
                      obtain rfl := Option.some.inj hx
                      refine JN.forget 2 ?_
                      refine JN.forget 1 ?_
                      refine JN.forget 0 ?_
                      exact JN.cut ⟨rfl, rfl, rfl⟩ ⟨rfl, trivial⟩ rfl rfl
                  · replace hx := cond_f c_76 hx
                    refine JL.gNo rfl rfl rfl rfl rfl ?_
                    refine JL.gNo rfl rfl rfl rfl rfl ?_
                    refine JL.gNo rfl rfl rfl rfl rfl ?_
                    refine JL.gNo rfl rfl rfl rfl rfl ?_
                    refine JL.gNo rfl rfl rfl rfl rfl ?_
                    refine JL.val rfl rfl (R.pickF rfl rfl) ?_
                    refine JL.val rfl rfl (R.move rfl) ?_
                    refine JL.gNo rfl rfl rfl rfl rfl ?_
                    refine JL.gNo rfl rfl rfl rfl rfl ?_
                    refine JL.gNo rfl rfl rfl rfl rfl ?_
                    refine JL.gNo rfl rfl rfl rfl rfl ?_
                    refine JL.gNo rfl rfl rfl rfl rfl ?_
                    refine JL.val rfl rfl (R.pickF rfl rfl) ?_
                    refine JL.val rfl rfl (R.move rfl) ?_
                    refine JL.gNo rfl rfl rfl rfl rfl ?_
                    refine JL.gNo rfl rfl rfl rfl rfl ?_
                    refine JL.gNo rfl rfl rfl rfl rfl ?_
                    refine JL.gNo rfl rfl rfl rfl rfl ?_
                    refine JL.gNo rfl rfl rfl rfl rfl ?_
                    refine JL.val rfl rfl (R.pickF rfl rfl) ?_
                    refine JL.val rfl rfl (R.move rfl) ?_
                    refine JL.gNo rfl rfl rfl rfl rfl ?_
                    refine JL.gNo rfl rfl rfl rfl rfl ?_
                    refine JL.gNo rfl rfl rfl rfl rfl ?_
                    refine JL.gNo rfl rfl rfl rfl rfl ?_
                    refine JL.gNo rfl rfl rfl rfl rfl ?_
                    refine JL.val rfl rfl (R.pickF rfl rfl) ?_
                    refine JL.val rfl rfl (R.move rfl) ?_
                    refine JL.gNo rfl rfl rfl rfl rfl ?_
                    refine JL.gNo rfl rfl rfl rfl rfl ?_
                    refine JL.val rfl rfl (R.pickF rfl rfl) ?_
                    refine JL.val rfl rfl (R.assign rfl) ?_
                    refine JL.nil ?_
                    obtain rfl := Option.some.inj hx
                    refine JN.forget 2 ?_
                    refine JN.forget 1 ?_
                    refine JN.forget 0 ?_
                    exact JN.cut ⟨rfl, rfl, rfl⟩ ⟨rfl, trivial⟩ rfl rfl
                · replace hx := cond_f c_75 hx
                  refine JL.gNo rfl rfl rfl rfl rfl ?_
                  refine JL.gNo rfl rfl rfl rfl rfl ?_
                  refine JL.gNo rfl rfl rfl rfl rfl ?_
                  refine JL.val rfl rfl (R.pickF rfl rfl) ?_
                  refine JL.val rfl rfl (R.move rfl) ?_
                  refine JL.gNo rfl rfl rfl rfl rfl ?_
                  refine JL.gNo rfl rfl rfl rfl rfl ?_
                  refine JL.gNo rfl rfl rfl rfl rfl ?_
                  refine JL.gNo rfl rfl rfl rfl rfl ?_
                  refine JL.gNo rfl rfl rfl rfl rfl ?_
                  refine JL.val rfl rfl (R.pickF rfl rfl) ?_
                  refine JL.val rfl rfl (R.move rfl) ?_
                  refine JL.gNo rfl rfl rfl rfl rfl ?_
                  refine JL.gNo rfl rfl rfl rfl rfl ?_
                  refine JL.gNo rfl rfl rfl rfl rfl ?_
                  refine JL.gNo rfl rfl rfl rfl rfl ?_
                  refine JL.gNo rfl rfl rfl rfl rfl ?_
                  refine JL.val rfl rfl (R.pickF rfl rfl) ?_
                  refine JL.val rfl rfl (R.move rfl) ?_
                  refine JL.gNo rfl rfl rfl rfl rfl ?_
                  refine JL.gNo rfl rfl rfl rfl rfl ?_
                  refine JL.gNo rfl rfl rfl rfl rfl ?_
                  refine JL.gNo rfl rfl rfl rfl rfl ?_
                  refine JL.gNo rfl rfl rfl rfl rfl ?_
                  refine JL.val rfl rfl (R.pickF rfl rfl) ?_
                  refine JL.val rfl rfl (R.move rfl) ?_
                  refine JL.gNo rfl rfl rfl rfl rfl ?_
                  refine JL.gNo rfl rfl rfl rfl rfl ?_
                  refine JL.gNo rfl rfl rfl rfl rfl ?_
                  refine JL.gNo rfl rfl rfl rfl rfl ?_
                  refine JL.gNo rfl rfl rfl rfl rfl ?_
                  refine JL.val rfl rfl (R.pickF rfl rfl) ?_
                  refine JL.val rfl rfl (R.move rfl) ?_
                  refine JL.gNo rfl rfl rfl rfl rfl ?_
                  refine JL.gNo rfl rfl rfl rfl rfl ?_
                  refine JL.val rfl rfl (R.pickF rfl rfl) ?_
                  refine JL.val rfl rfl (R.assign rfl) ?_
                  refine JL.nil ?_
                  obtain rfl := Option.some.inj hx
                  refine JN.forget 2 ?_
                  refine JN.forget 1 ?_
                  refine JN.forget 0 ?_
                  exact JN.cut ⟨rfl, rfl, rfl⟩ ⟨rfl, trivial⟩ rfl rfl
              · replace hx := cond_f c_74 hx
                refine JL.gNo rfl rfl rfl rfl rfl ?_
                refine JL.gNo rfl rfl rfl rfl rfl ?_
                refine JL.val rfl rfl (R.pickF rfl rfl) ?_
                refine JL.val rfl rfl (R.move rfl) ?_
                refine JL.gNo rfl rfl rfl rfl rfl ?_
                refine JL.gNo rfl rfl rfl rfl rfl ?_
                refine JL.gNo rfl rfl rfl rfl rfl ?_
                refine JL.val rfl rfl (R.pickF rfl rfl) ?_
                refine JL.val rfl rfl (R.move rfl) ?_
                refine JL.gNo rfl rfl rfl rfl rfl ?_
                refine JL.gNo rfl rfl rfl rfl rfl ?_
                refine JL.gNo rfl rfl rfl rfl rfl ?_
                refine JL.gNo rfl rfl rfl rfl rfl ?_
                refine JL.gNo rfl rfl rfl rfl rfl ?_
                refine JL.val rfl rfl (R.pickF rfl rfl) ?_
                refine JL.val rfl rfl (R.move rfl) ?_
                refine JL.gNo rfl rfl rfl rfl rfl ?_
                refine JL.gNo rfl rfl rfl rfl rfl ?_
                refine JL.gNo rfl rfl rfl rfl rfl ?_
                refine JL.gNo rfl rfl rfl rfl rfl ?_
                refine JL.gNo rfl rfl rfl rfl rfl ?_
                refine JL.val rfl rfl (R.pickF rfl rfl) ?_
                refine JL.val rfl rfl (R.move rfl) ?_
                refine JL.gNo rfl rfl rfl rfl rfl ?_
                refine JL.gNo rfl rfl rfl rfl rfl ?_
                refine JL.gNo rfl rfl rfl rfl rfl ?_
                refine JL.gNo rfl rfl rfl rfl rfl ?_
                refine JL.gNo rfl rfl rfl rfl rfl ?_
                refine JL.val rfl rfl (R.pickF rfl rfl) ?_
                refine JL.val rfl rfl (R.move rfl) ?_
                refine JL.gNo rfl rfl rfl rfl rfl ?_
                refine JL.gNo rfl rfl rfl rfl rfl ?_
                refine JL.gNo rfl rfl rfl rfl rfl ?_
                refine JL.gNo rfl rfl rfl rfl rfl ?_
                refine JL.gNo rfl rfl rfl rfl rfl ?_
                refine JL.val rfl rfl (R.pickF rfl rfl) ?_
                refine JL.val rfl rfl (R.move rfl) ?_
                refine JL.gNo rfl rfl rfl rfl rfl ?_
                refine JL.gNo rfl rfl rfl rfl rfl ?_
                refine JL.val rfl rfl (R.pickF rfl rfl) ?_
                refine JL.val rfl rfl (R.assign rfl) ?_
                refine JL.nil ?_
                obtain rfl := Option.some.inj hx
                refine JN.forget 2 ?_
                refine JN.forget 1 ?_
                refine JN.forget 0 ?_
                exact JN.cut ⟨rfl, rfl, rfl⟩ ⟨rfl, trivial⟩ rfl rfl
            · replace hx := cond_f c_73 hx
              refine JL.gNo rfl rfl rfl rfl rfl ?_
              refine JL.gNo rfl rfl rfl rfl rfl ?_
              refine JL.val rfl rfl (R.pickF rfl rfl) ?_
              refine JL.val rfl rfl (R.move rfl) ?_
              refine JL.gNo rfl rfl rfl rfl rfl ?_
              refine JL.gNo rfl rfl rfl rfl rfl ?_
              refine JL.val rfl rfl (R.pickF rfl rfl) ?_
              refine JL.val rfl rfl (R.move rfl) ?_
              refine JL.gNo rfl rfl rfl rfl rfl ?_
              refine JL.gNo rfl rfl rfl rfl rfl ?_
              refine JL.gNo rfl rfl rfl rfl rfl ?_
              refine JL.val rfl rfl (R.pickF rfl rfl) ?_
              refine JL.val rfl rfl (R.move rfl) ?_
              refine JL.gNo rfl rfl rfl rfl rfl ?_
              refine JL.gNo rfl rfl rfl rfl rfl ?_
              refine JL.gNo rfl rfl rfl rfl rfl ?_
              refine JL.gNo rfl rfl rfl rfl rfl ?_
              refine JL.gNo rfl rfl rfl rfl rfl ?_
              refine JL.val rfl rfl (R.pickF rfl rfl) ?_
              refine JL.val rfl rfl (R.move rfl) ?_
              refine JL.gNo rfl rfl rfl rfl rfl ?_
              refine JL.gNo rfl rfl rfl rfl rfl ?_
              refine JL.gNo rfl rfl rfl rfl rfl ?_
              refine JL.gNo rfl rfl rfl rfl rfl ?_
              refine JL.gNo rfl rfl rfl rfl rfl ?_
              refine JL.val rfl rfl (R.pickF rfl rfl) ?_
              refine JL.val rfl rfl (R.move rfl) ?_
              refine JL.gNo rfl rfl rfl rfl rfl ?_
              refine JL.gNo rfl rfl rfl rfl rfl ?_
              refine JL.gNo rfl rfl rfl rfl rfl ?_
              refine JL.gNo rfl rfl rfl rfl rfl ?_
              refine JL.gNo rfl rfl rfl rfl rfl ?_
              refine JL.val rfl rfl (R.pickF rfl rfl) ?_
              refine JL.val rfl rfl (R.move rfl) ?_
              refine JL.gNo rfl rfl rfl rfl rfl ?_
              refine JL.gNo rfl rfl rfl rfl rfl ?_
              refine JL.gNo rfl rfl rfl rfl rfl ?_
              refine JL.gNo rfl rfl rfl rfl rfl ?_
              refine JL.gNo rfl rfl rfl rfl rfl ?_
              refine JL.val rfl rfl (R.pickF rfl rfl) ?_
              refine JL.val rfl rfl (R.move rfl) ?_
              refine JL.gNo rfl rfl rfl rfl rfl ?_
              refine JL.gNo rfl rfl rfl rfl rfl ?_
              refine JL.val rfl rfl (R.pickF rfl rfl) ?_
              refine JL.val rfl rfl (R.assign rfl) ?_
              refine JL.nil ?_
              obtain rfl := Option.some.inj hx
              refine JN.forget 2 ?_
              refine JN.forget 1 ?_
              refine JN.forget 0 ?_
              exact JN.cut ⟨rfl, rfl, rfl⟩ ⟨rfl, trivial⟩ rfl rfl
          · replace hx := cond_f c_72 hx
            refine JL.gNo rfl rfl rfl rfl rfl ?_
            refine JL.gNo rfl rfl rfl rfl rfl ?_
            refine JL.val rfl rfl (R.pickF rfl rfl) ?_
            refine JL.val rfl rfl (R.move rfl) ?_
            refine JL.gNo rfl rfl rfl rfl rfl ?_
            refine JL.gNo rfl rfl rfl rfl rfl ?_
            refine JL.val rfl rfl (R.pickF rfl rfl) ?_
            refine JL.val rfl rfl (R.move rfl) ?_
            refine JL.gNo rfl rfl rfl rfl rfl ?_
            refine JL.gNo rfl rfl rfl rfl rfl ?_
            refine JL.val rfl rfl (R.pickF rfl rfl) ?_
            refine JL.val rfl rfl (R.move rfl) ?_
            refine JL.gNo rfl rfl rfl rfl rfl ?_
            refine JL.gNo rfl rfl rfl rfl rfl ?_
            refine JL.gNo rfl rfl rfl rfl rfl ?_
            refine JL.val rfl rfl (R.pickF rfl rfl) ?_
            refine JL.val rfl rfl (R.move rfl) ?_
            refine JL.gNo rfl rfl rfl rfl rfl ?_
            refine JL.gNo rfl rfl rfl rfl rfl ?_
            refine JL.gNo rfl rfl rfl rfl rfl ?_
            refine JL.gNo rfl rfl rfl rfl rfl ?_
            refine JL.gNo rfl rfl rfl rfl rfl ?_
            refine JL.val rfl rfl (R.pickF rfl rfl) ?_
            refine JL.val rfl rfl (R.move rfl) ?_
            refine JL.gNo rfl rfl rfl rfl rfl ?_
            refine JL.gNo rfl rfl rfl rfl rfl ?_
            refine JL.gNo rfl rfl rfl rfl rfl ?_
            refine JL.gNo rfl rfl rfl rfl rfl ?_
            refine JL.gNo rfl rfl rfl rfl rfl ?_
            refine JL.val rfl rfl (R.pickF rfl rfl) ?_
            refine JL.val rfl rfl (R.move rfl) ?_
            refine JL.gNo rfl rfl rfl rfl rfl ?_
            refine JL.gNo rfl rfl rfl rfl rfl ?_
            refine JL.gNo rfl rfl rfl rfl rfl ?_
            refine JL.gNo rfl rfl rfl rfl rfl ?_
            refine JL.gNo rfl rfl rfl rfl rfl ?_
            refine JL.val rfl rfl (R.pickF rfl rfl) ?_
            refine JL.val rfl rfl (R.move rfl) ?_
            refine JL.gNo rfl rfl rfl rfl rfl ?_
            refine JL.gNo rfl rfl rfl rfl rfl ?_
            refine JL.gNo rfl rfl rfl rfl rfl ?_
            refine JL.gNo rfl rfl rfl rfl rfl ?_
            refine JL.gNo rfl rfl rfl rfl rfl ?_
            refine JL.val rfl rfl (R.pickF rfl rfl) ?_
            refine JL.val rfl rfl (R.move rfl) ?_
            refine JL.gNo rfl rfl rfl rfl rfl ?_
            refine JL.gNo rfl rfl rfl rfl rfl ?_
            refine JL.val rfl rfl (R.pickF rfl rfl) ?_
            refine JL.val rfl rfl (R.assign rfl) ?_
            refine JL.nil ?_
            obtain rfl := Option.some.inj hx
            refine JN.forget 2 ?_
            refine JN.forget 1 ?_
            refine JN.forget 0 ?_
            exact JN.cut ⟨rfl, rfl, rfl⟩ ⟨rfl, trivial⟩ rfl rfl
        · replace hx := cond_f c_71 hx
          refine JL.gNo rfl rfl rfl rfl rfl ?_
          refine JL.gNo rfl rfl rfl rfl rfl ?_
          refine JL.gNo rfl rfl rfl rfl rfl ?_
          refine JL.val rfl rfl (R.pickF rfl rfl) ?_
          refine JL.val rfl rfl (R.move rfl) ?_
          refine JL.gNo rfl rfl rfl rfl rfl ?_
          refine JL.gNo rfl rfl rfl rfl rfl ?_
          refine JL.val rfl rfl (R.pickF rfl rfl) ?_
          refine JL.val rfl rfl (R.move rfl) ?_
          refine JL.gNo rfl rfl rfl rfl rfl ?_
          refine JL.gNo rfl rfl rfl rfl rfl ?_
          refine JL.val rfl rfl (R.pickF rfl rfl) ?_
          refine JL.val rfl rfl (R.move rfl) ?_
          refine JL.gNo rfl rfl rfl rfl rfl ?_
          refine JL.gNo rfl rfl rfl rfl rfl ?_
          refine JL.val rfl rfl (R.pickF rfl rfl) ?_
          refine JL.val rfl rfl (R.move rfl) ?_
          refine JL.gNo rfl rfl rfl rfl rfl ?_
          refine JL.gNo rfl rfl rfl rfl rfl ?_
          refine JL.gNo rfl rfl rfl rfl rfl ?_
          refine JL.val rfl rfl (R.pickF rfl rfl) ?_
          refine JL.val rfl rfl (R.move rfl) ?_
          refine JL.gNo rfl rfl rfl rfl rfl ?_
          refine JL.gNo rfl rfl rfl rfl rfl ?_
          refine JL.gNo rfl rfl rfl rfl rfl ?_
          refine JL.gNo rfl rfl rfl rfl rfl ?_
          refine JL.gNo rfl rfl rfl rfl rfl ?_
          refine JL.val rfl rfl (R.pickF rfl rfl) ?_
          refine JL.val rfl rfl (R.move rfl) ?_
          refine JL.gNo rfl rfl rfl rfl rfl ?_
          refine JL.gNo rfl rfl rfl rfl rfl ?_
          refine JL.gNo rfl rfl rfl rfl rfl ?_
          refine JL.gNo rfl rfl rfl rfl rfl ?_
          refine JL.gNo rfl rfl rfl rfl rfl ?_
          refine JL.val rfl rfl (R.pickF rfl rfl) ?_
          refine JL.val rfl rfl (R.move rfl) ?_
          refine JL.gNo rfl rfl rfl rfl rfl ?_
          refine JL.gNo rfl rfl rfl rfl rfl ?_
          refine JL.gNo rfl rfl rfl rfl rfl ?_
          refine JL.gNo rfl rfl rfl rfl rfl ?_
          refine JL.gNo rfl rfl rfl rfl rfl ?_
          refine JL.val rfl rfl (R.pickF rfl rfl) ?_
          refine JL.val rfl rfl (R.move rfl) ?_
          refine JL.gNo rfl rfl rfl rfl rfl ?_
          refine JL.gNo rfl rfl rfl rfl rfl ?_
          refine JL.gNo rfl rfl rfl rfl rfl ?_
          refine JL.gNo rfl rfl rfl rfl rfl ?_
          refine JL.gNo rfl rfl rfl rfl rfl ?_
          refine JL.val rfl rfl (R.pickF rfl rfl) ?_
          refine JL.val rfl rfl (R.move rfl) ?_
          refine JL.gNo rfl rfl rfl rfl rfl ?_
          refine JL.gNo rfl rfl rfl rfl rfl ?_
          refine JL.val rfl rfl (R.pickF rfl rfl) ?_
          refine JL.val rfl rfl (R.assign rfl) ?_
          refine JL.nil ?_
          obtain rfl := Option.some.inj hx
          refine JN.forget 2 ?_
          refine JN.forget 1 ?_
          refine JN.forget 0 ?_
          exact JN.cut ⟨rfl, rfl, rfl⟩ ⟨rfl, trivial⟩ rfl rfl
    · have hxo_49 := hx; clear hx; have hx := ht_50; clear ht_50
      refine JC.block ?_
      refine JC.pubPcs 1  rfl hr_45 (Nat.le_refl _) (fun H_54 hleH_54 hsH_54 => ?_)
      refine JC.forget 1 ?_
      refine JC.forget 4 ?_
      refine JC.forget 3 ?_
      refine JC.forget 2 ?_
      refine JC.forget 1 ?_
      refine JC.front 1 rfl ?_
      refine JC.loopI (fun n l o g => ∃ s_51 : List (List UInt8) × List Write × UInt32, ∃ H_57 : Heaplet, ∃ aoz_58 : Option Addr, ∃ nz_58 : Nat, ∃ capz_58 : Nat, ∃ aoz_59 : Option Addr, ∃ nz_59 : Nat, ∃ capz_59 : Nat, l = [(1, .slice aor_14 nr_14 capr_14), (2, .int .i64 x_11.2), (4, .int .i64 x_24.2), (6, .int .i64 x_36.2), (7, .pointer (some ⟨b_47, 0, none⟩)), (8, .int .u32 (s_51.2.2.toNat : Int))] ∧ o = [Kr_14, [(b_47, .cells #[.slice aoz_58 nz_58 capz_58, .slice aoz_59 nz_59 capz_59] 25 (0, 0))]] ∧ H_57 = g ∧ run law11_LabelNames_l1 n s_51 = some t_48 ∧ Hle Hu_44 H_57 ∧ IsSlice (New H H_57) (RSl RU8 1) 1 (.slice aoz_58 nz_58 capz_58) s_51.1 ∧ IsSlice (New H H_57) R_Write 2 (.slice aoz_59 nz_59 capz_59) s_51.2.1) FUEL ?_ ⟨(x_42.Blocks, x_42.Waits, (1 : UInt32)), H_54, aor_45, nr_45, capr_45, aoz_46, nz_46, nz_46, rfl, rfl, rfl, hx, (hleH_54), hsH_54, (hz_46.mono R_Write.mono (New.mono hleH_54))⟩ ⟨rfl, rfl, rfl, rfl, rfl, rfl, trivial⟩ ?_
      · rintro _ _ _ ⟨s_51, H_57, aoz_58, nz_58, capz_58, aoz_59, nz_59, capz_59, rfl, rfl, rfl, hn_52, hleH_57, hz_58, hz_59⟩
        exact run_zero hn_52
      · rintro n_53 _ _ _ ⟨s_51, H_57, aoz_58, nz_58, capz_58, aoz_59, nz_59, capz_59, rfl, rfl, rfl, hn_52, hleH_57, hz_58, hz_59⟩
        clear hx; obtain ⟨oo_61, hx, hd_60⟩ := run_some hn_52
        rw [law11_LabelNames_l1.eq_1] at hx
        refine JC.seq ?_
        refine JC.seq ?_
        refine JC.region ?_
        refine JL.val rfl rfl (R.move rfl) ?_
        refine JL.val rfl rfl (R.lss32 (a := s_51.2.2) (b := (6 : UInt32)) rfl rfl) ?_
        refine JL.nil ?_
        refine JN.next ?_
        refine JC.condB rfl (fun c_60 => ?_) (fun c_60 => ?_)
        · replace hx := cond_t c_60 hx
          refine JC.skip ?_
          refine JN.next ?_
          refine JC.seq ?_
          refine JC.block ?_
          refine JC.seq ?_
          obtain ⟨t_61, ht_63, hx⟩ := bnd_some hx
          refine JC.cut (fun l o g => ∃ H_73 : Heaplet, ∃ b_74 : Nat, ∃ aoz_75 : Option Addr, ∃ nz_75 : Nat, ∃ capz_75 : Nat, ∃ aor_76 : Option Addr, ∃ nr_76 : Nat, ∃ capr_76 : Nat, ∃ Kr_76 : Own, l = [(1, .slice aor_14 nr_14 capr_14), (2, .int .i64 x_11.2), (4, .int .i64 x_24.2), (6, .int .i64 x_36.2), (7, .pointer (some ⟨b_47, 0, none⟩)), (8, .int .u32 (s_51.2.2.toNat : Int)), (9, .pointer (some ⟨b_74, 0, none⟩)), (10, .int .i64 t_61.2.2)] ∧ o = [Kr_14, [(b_47, .cells #[.slice aoz_58 nz_58 capz_58, .slice aoz_59 nz_59 capz_59] 25 (0, 0))], [(b_74, .cells #[.slice aoz_75 nz_75 capz_75, .slice aor_76 nr_76 capr_76] 25 (0, 0))], Kr_76] ∧ H_73 = g ∧ Hle H_57 H_73 ∧ w.heap.size ≤ b_74 ∧ IsSlice (New H H_73) (RSl RU8 1) 1 (.slice aoz_75 nz_75 capz_75) t_61.1 ∧ RowOf (New H H_73) R_Write w.heap.size 47 2 (.slice aor_76 nr_76 capr_76) t_61.2.1 Kr_76) ?_ ?_
          · rintro _ _ _ ⟨H_73, b_74, aoz_75, nz_75, capz_75, aor_76, nr_76, capr_76, Kr_76, rfl, rfl, rfl, hleH_73, hb_74, hz_75, hr_76⟩
            refine JN.next ?_
            refine JC.seq ?_
            refine JC.seq ?_
            refine JC.region ?_
            refine JL.val rfl rfl (R.move rfl) ?_
            refine JL.val rfl rfl (R.neq_i rfl rfl) ?_
            refine JL.nil ?_
            refine JN.next ?_
            refine JC.condB rfl (fun c_77 => ?_) (fun c_77 => ?_)
            · replace hx := cond_t c_77 hx
              refine JC.seq ?_
              refine JC.region ?_
              refine JL.val rfl rfl (R.assign rfl) ?_
              refine JL.nil ?_
              refine JN.next ?_
              refine JC.ret ?_
              refine JN.passR ?_
              refine JN.blkR ?_
              refine JN.passR ?_
              obtain rfl := run_done hd_60 hx
              refine JN.passR ?_
              refine JN.blkR ?_
              clear hx; have hx := hxo_49
              simp only [Sum.elim_inl, Sum.elim_inr] at hx
              refine JN.passR ?_
              refine JN.passR ?_
              refine JN.outP (vs := [.bool false]) (K := []) (rst := [_, _, _, _]) (.inl rfl) rfl rfl (Res.tmp rfl rfl) picks0 ?_
              obtain rfl := Option.some.inj hx
              exact ⟨rfl, rfl, trivial⟩
            · replace hx := cond_f c_77 hx
              refine JC.skip ?_
              refine JN.next ?_
              refine JC.region ?_
              refine JL.val rfl rfl (R.ldoN 2 (vs := [.slice aoz_75 nz_75 capz_75, .slice aor_76 nr_76 capr_76]) S25 rfl rfl rfl rfl) ?_
              refine JL.store 1 S25 rfl rfl rfl rfl rfl (Nat.le_of_ble_eq_true rfl) ?_
              refine JL.nil ?_
              refine JN.blkN ?_
              refine JN.next ?_
              refine JC.region ?_
              refine JL.val rfl rfl (R.move rfl) ?_
              refine JL.val rfl rfl (R.add32 (a := s_51.2.2) (b := (1 : UInt32)) rfl rfl) ?_
              refine JL.val rfl rfl (R.assign rfl) ?_
              refine JL.nil ?_
              replace hx := run_next hd_60 hx
              refine JN.pubN 3 R_Write.mono rfl hr_76 (Nat.le_refl _) (fun H_78 hleH_78 hsH_78 => ?_)
              refine JN.forget 3 ?_
              refine JN.forget 2 ?_
              refine JN.front 1 rfl ?_
              refine JN.front 1 rfl ?_
              exact JN.cut ⟨(t_61.1, t_61.2.1, s_51.2.2 + (1 : UInt32)), H_78, aoz_75, nz_75, capz_75, aor_76, nr_76, capr_76, rfl, rfl, rfl, hx, ((hleH_57.trans (hleH_73.trans hleH_78))), (hz_75.mono (RSl.mono RU8.mono) (New.mono hleH_78)), hsH_78⟩ ⟨rfl, rfl, rfl, rfl, rfl, rfl, trivial⟩ rfl rfl
          · have hxo_62 := hx; clear hx; have hx := ht_63; clear ht_63
            refine JC.draw (so := [_, _]) 10 rfl Mixed ⟨⟨0, rfl⟩, ⟨1, rfl⟩, trivial⟩ ?_
            refine JA.val ⟨by kernel_rfl, by kernel_rfl⟩ (calm_only _) (i := 0) rfl ⟨by kernel_rfl, by kernel_rfl, rfl⟩ trivial (stab_of (Hle.refl _) ⟨⟨0, rfl⟩, ⟨1, rfl⟩, trivial⟩) (R.ldoN 1 (vs := [.slice aoz_58 nz_58 capz_58, .slice aoz_59 nz_59 capz_59]) S25 rfl rfl rfl rfl) rfl ?_
            refine JA.val ⟨by kernel_rfl, by kernel_rfl⟩ (calm_only _) (i := 1) rfl ⟨by kernel_rfl, by kernel_rfl, rfl⟩ trivial (stab_of (Hle.refl _) ⟨⟨0, rfl⟩, ⟨1, rfl⟩, trivial⟩) (R.move rfl) rfl ?_
            obtain ⟨x_64, hr_65, hx⟩ := bnd_some hx
            obtain ⟨x_67, hr_68, hx⟩ := bnd_some hx
            refine JA.two (i := 2) (j := 7) (by kernel_rfl) ?_ ?_
            · refine JO.step rfl trivial rfl (fun K hK => ?_)
              refine JL.callC (vs := [_]) (args := [_]) (K := []) (rst := [_, _]) E19 rfl rfl rfl picks0 (law11_one_ok s_51.2.2 _ _ hr_65) rfl (fun u_66 Ku_66 Hu_66 hRu_66 hleu_66 hfu_66 => ?_)
              obtain ⟨rfl, rfl, rfl, -⟩ := hRu_66
              refine JL.nil ?_
              refine hK _ _ _ (stab_of (Hle.refl _) ⟨⟨0, rfl⟩, ⟨1, rfl⟩, trivial⟩) ?_
              refine JA.two (i := 3) (j := 7) (by kernel_rfl) ?_ ?_
              · refine JO.step rfl trivial rfl (fun K hK => ?_)
                refine JL.callC (vs := [_, _]) (args := [_, _]) (K := []) (rst := [_, _]) E10 rfl rfl rfl picks0 (label_Put_ok (Disk.mk s_51.1 s_51.2.1) x_64 _ (hz_58.old (RSl.mono RU8.mono)) (hz_59.old R_Write.mono) _ hr_68) rfl (fun u_69 Ku_69 Hu_69 hRu_69 hleu_69 hfu_69 => ?_)
                obtain ⟨aoz_70, nz_70, capz_70, aor_71, nr_71, capr_71, Kr_71, rfl, rfl, hz_70, hr_71, hnewr_71, -⟩ := hRu_69
                replace hr_71 := (RowOf.base (RowOf.mono R_Write.mono (New.call (hleu_3.trans (hleu_7.trans (hleH_10.trans (hleu_13.trans (hleu_17.trans (hleH_23.trans (hleu_26.trans (hleu_32.trans (hleH_35.trans (hleu_38.trans (hleu_44.trans hleH_57)))))))))))) hr_71) (fun p hp => (hfu_69 p (mem_seg 0 rfl hp)).resolve_left (hnewr_71 p hp)))
                replace hz_70 := IsSlice.mono (RSl.mono RU8.mono) (New.call (hleu_3.trans (hleu_7.trans (hleH_10.trans (hleu_13.trans (hleu_17.trans (hleH_23.trans (hleu_26.trans (hleu_32.trans (hleH_35.trans (hleu_38.trans (hleu_44.trans hleH_57)))))))))))) hz_70
                refine JL.nil ?_
                refine hK _ _ _ (stab_of hleu_69 ⟨⟨1, rfl⟩, ⟨2, rfl⟩, trivial⟩) ?_
                refine JA.val ⟨by kernel_rfl, by kernel_rfl⟩ (calm_only _) (i := 4) rfl ⟨by kernel_rfl, by kernel_rfl, rfl⟩ trivial (stab_of hleu_69 ⟨⟨1, rfl⟩, ⟨2, rfl⟩, trivial⟩) (R.move rfl) rfl ?_
                refine JA.val ⟨by kernel_rfl, by kernel_rfl⟩ (calm_only _) (i := 5) rfl ⟨by kernel_rfl, by kernel_rfl, rfl⟩ trivial (stab_of hleu_69 ⟨⟨1, rfl⟩, ⟨2, rfl⟩, trivial⟩) (R.extract rfl rfl) rfl ?_
                refine JA.val ⟨by kernel_rfl, by kernel_rfl⟩ (calm_only _) (i := 6) rfl ⟨by kernel_rfl, by kernel_rfl, rfl⟩ trivial (stab_of hleu_69 ⟨⟨1, rfl⟩, ⟨2, rfl⟩, trivial⟩) (R.extract rfl rfl) rfl ?_
                refine JA.one (i := 7) (by kernel_rfl) ?_
                refine JO.step rfl trivial rfl (fun K hK => ?_)
                refine JL.alloc Z25 rfl (fun b_72 hb_72 => ?_)
                refine JL.nil ?_
                refine hK _ _ _ (stab_of hleu_69 ⟨⟨2, rfl⟩, ⟨3, rfl⟩, trivial⟩) ?_
                refine JA.one (i := 8) (by kernel_rfl) ?_
                refine JO.step rfl trivial rfl (fun K hK => ?_)
                refine JL.store 0 S25 rfl rfl rfl rfl rfl (Nat.le_of_ble_eq_true rfl) ?_
                refine JL.nil ?_
                refine hK _ _ _ (stab_of hleu_69 ⟨⟨2, rfl⟩, ⟨3, rfl⟩, trivial⟩) ?_
                refine JA.val ⟨by kernel_rfl, by kernel_rfl⟩ (calm_only _) (i := 9) rfl ⟨by kernel_rfl, by kernel_rfl, rfl⟩ trivial (stab_of hleu_69 ⟨⟨2, rfl⟩, ⟨3, rfl⟩, trivial⟩) (R.assign rfl) rfl ?_
                refine JA.doneN (by kernel_rfl) ?_
                obtain rfl := Option.some.inj hx
                refine JN.front 1 rfl ?_
                refine JN.front 1 rfl ?_
                refine JN.front 3 rfl ?_
                refine JN.front 3 rfl ?_
                exact JN.cut ⟨Hu_69, b_72, aoz_70, nz_70, capz_70, aor_71, nr_71, capr_71, Kr_71, rfl, rfl, rfl, (hleu_69), hb_72, hz_70, hr_71⟩ ⟨rfl, rfl, rfl, rfl, rfl, rfl, rfl, rfl, trivial⟩ rfl rfl
              · refine JO.step rfl trivial rfl (fun K hK => ?_)
                refine JL.alloc Z25 rfl (fun b_72 hb_72 => ?_)
                refine JL.nil ?_
                refine hK _ _ _ (stab_of (Hle.refl _) ⟨⟨1, rfl⟩, ⟨2, rfl⟩, trivial⟩) ?_
                refine JA.one (i := 3) (by kernel_rfl) ?_
                refine JO.step rfl trivial rfl (fun K hK => ?_)
                refine JL.callC (vs := [_, _]) (args := [_, _]) (K := []) (rst := [_, _, _]) E10 rfl rfl rfl picks0 (label_Put_ok (Disk.mk s_51.1 s_51.2.1) x_64 _ (hz_58.old (RSl.mono RU8.mono)) (hz_59.old R_Write.mono) _ hr_68) rfl (fun u_69 Ku_69 Hu_69 hRu_69 hleu_69 hfu_69 => ?_)
                obtain ⟨aoz_70, nz_70, capz_70, aor_71, nr_71, capr_71, Kr_71, rfl, rfl, hz_70, hr_71, hnewr_71, -⟩ := hRu_69
                replace hr_71 := (RowOf.base (RowOf.mono R_Write.mono (New.call (hleu_3.trans (hleu_7.trans (hleH_10.trans (hleu_13.trans (hleu_17.trans (hleH_23.trans (hleu_26.trans (hleu_32.trans (hleH_35.trans (hleu_38.trans (hleu_44.trans hleH_57)))))))))))) hr_71) (fun p hp => (hfu_69 p (mem_seg 0 rfl hp)).resolve_left (hnewr_71 p hp)))
                replace hz_70 := IsSlice.mono (RSl.mono RU8.mono) (New.call (hleu_3.trans (hleu_7.trans (hleH_10.trans (hleu_13.trans (hleu_17.trans (hleH_23.trans (hleu_26.trans (hleu_32.trans (hleH_35.trans (hleu_38.trans (hleu_44.trans hleH_57)))))))))))) hz_70
                refine JL.nil ?_
                refine hK _ _ _ (stab_of hleu_69 ⟨⟨2, rfl⟩, ⟨3, rfl⟩, trivial⟩) ?_
                refine JA.val ⟨by kernel_rfl, by kernel_rfl⟩ (calm_only _) (i := 4) rfl ⟨by kernel_rfl, by kernel_rfl, rfl⟩ trivial (stab_of hleu_69 ⟨⟨2, rfl⟩, ⟨3, rfl⟩, trivial⟩) (R.move rfl) rfl ?_
                refine JA.val ⟨by kernel_rfl, by kernel_rfl⟩ (calm_only _) (i := 5) rfl ⟨by kernel_rfl, by kernel_rfl, rfl⟩ trivial (stab_of hleu_69 ⟨⟨2, rfl⟩, ⟨3, rfl⟩, trivial⟩) (R.extract rfl rfl) rfl ?_
                refine JA.val ⟨by kernel_rfl, by kernel_rfl⟩ (calm_only _) (i := 6) rfl ⟨by kernel_rfl, by kernel_rfl, rfl⟩ trivial (stab_of hleu_69 ⟨⟨2, rfl⟩, ⟨3, rfl⟩, trivial⟩) (R.extract rfl rfl) rfl ?_
                refine JA.one (i := 8) (by kernel_rfl) ?_
                refine JO.step rfl trivial rfl (fun K hK => ?_)
                refine JL.store 1 S25 rfl rfl rfl rfl rfl (Nat.le_of_ble_eq_true rfl) ?_
                refine JL.nil ?_
                refine hK _ _ _ (stab_of hleu_69 ⟨⟨2, rfl⟩, ⟨3, rfl⟩, trivial⟩) ?_
                refine JA.val ⟨by kernel_rfl, by kernel_rfl⟩ (calm_only _) (i := 9) rfl ⟨by kernel_rfl, by kernel_rfl, rfl⟩ trivial (stab_of hleu_69 ⟨⟨2, rfl⟩, ⟨3, rfl⟩, trivial⟩) (R.assign rfl) rfl ?_
                refine JA.doneN (by kernel_rfl) ?_
                obtain rfl := Option.some.inj hx
                refine JN.front 1 rfl ?_
                refine JN.front 3 rfl ?_
                refine JN.front 3 rfl ?_
                exact JN.cut ⟨Hu_69, b_72, aoz_70, nz_70, capz_70, aor_71, nr_71, capr_71, Kr_71, rfl, rfl, rfl, (hleu_69), hb_72, hz_70, hr_71⟩ ⟨rfl, rfl, rfl, rfl, rfl, rfl, rfl, rfl, trivial⟩ rfl rfl
            · refine JO.step rfl trivial rfl (fun K hK => ?_)
              refine JL.alloc Z25 rfl (fun b_72 hb_72 => ?_)
              refine JL.nil ?_
              refine hK _ _ _ (stab_of (Hle.refl _) ⟨⟨1, rfl⟩, ⟨2, rfl⟩, trivial⟩) ?_
              refine JA.one (i := 2) (by kernel_rfl) ?_
              refine JO.step rfl trivial rfl (fun K hK => ?_)
              refine JL.callC (vs := [_]) (args := [_]) (K := []) (rst := [_, _, _]) E19 rfl rfl rfl picks0 (law11_one_ok s_51.2.2 _ _ hr_65) rfl (fun u_66 Ku_66 Hu_66 hRu_66 hleu_66 hfu_66 => ?_)
              obtain ⟨rfl, rfl, rfl, -⟩ := hRu_66
              refine JL.nil ?_
              refine hK _ _ _ (stab_of (Hle.refl _) ⟨⟨1, rfl⟩, ⟨2, rfl⟩, trivial⟩) ?_
              refine JA.one (i := 3) (by kernel_rfl) ?_
              refine JO.step rfl trivial rfl (fun K hK => ?_)
              refine JL.callC (vs := [_, _]) (args := [_, _]) (K := []) (rst := [_, _, _]) E10 rfl rfl rfl picks0 (label_Put_ok (Disk.mk s_51.1 s_51.2.1) x_64 _ (hz_58.old (RSl.mono RU8.mono)) (hz_59.old R_Write.mono) _ hr_68) rfl (fun u_69 Ku_69 Hu_69 hRu_69 hleu_69 hfu_69 => ?_)
              obtain ⟨aoz_70, nz_70, capz_70, aor_71, nr_71, capr_71, Kr_71, rfl, rfl, hz_70, hr_71, hnewr_71, -⟩ := hRu_69
              replace hr_71 := (RowOf.base (RowOf.mono R_Write.mono (New.call (hleu_3.trans (hleu_7.trans (hleH_10.trans (hleu_13.trans (hleu_17.trans (hleH_23.trans (hleu_26.trans (hleu_32.trans (hleH_35.trans (hleu_38.trans (hleu_44.trans hleH_57)))))))))))) hr_71) (fun p hp => (hfu_69 p (mem_seg 0 rfl hp)).resolve_left (hnewr_71 p hp)))
              replace hz_70 := IsSlice.mono (RSl.mono RU8.mono) (New.call (hleu_3.trans (hleu_7.trans (hleH_10.trans (hleu_13.trans (hleu_17.trans (hleH_23.trans (hleu_26.trans (hleu_32.trans (hleH_35.trans (hleu_38.trans (hleu_44.trans hleH_57)))))))))))) hz_70
              refine JL.nil ?_
              refine hK _ _ _ (stab_of hleu_69 ⟨⟨2, rfl⟩, ⟨3, rfl⟩, trivial⟩) ?_
              refine JA.val ⟨by kernel_rfl, by kernel_rfl⟩ (calm_only _) (i := 4) rfl ⟨by kernel_rfl, by kernel_rfl, rfl⟩ trivial (stab_of hleu_69 ⟨⟨2, rfl⟩, ⟨3, rfl⟩, trivial⟩) (R.move rfl) rfl ?_
              refine JA.val ⟨by kernel_rfl, by kernel_rfl⟩ (calm_only _) (i := 5) rfl ⟨by kernel_rfl, by kernel_rfl, rfl⟩ trivial (stab_of hleu_69 ⟨⟨2, rfl⟩, ⟨3, rfl⟩, trivial⟩) (R.extract rfl rfl) rfl ?_
              refine JA.val ⟨by kernel_rfl, by kernel_rfl⟩ (calm_only _) (i := 6) rfl ⟨by kernel_rfl, by kernel_rfl, rfl⟩ trivial (stab_of hleu_69 ⟨⟨2, rfl⟩, ⟨3, rfl⟩, trivial⟩) (R.extract rfl rfl) rfl ?_
              refine JA.one (i := 8) (by kernel_rfl) ?_
              refine JO.step rfl trivial rfl (fun K hK => ?_)
              refine JL.store 1 S25 rfl rfl rfl rfl rfl (Nat.le_of_ble_eq_true rfl) ?_
              refine JL.nil ?_
              refine hK _ _ _ (stab_of hleu_69 ⟨⟨2, rfl⟩, ⟨3, rfl⟩, trivial⟩) ?_
              refine JA.val ⟨by kernel_rfl, by kernel_rfl⟩ (calm_only _) (i := 9) rfl ⟨by kernel_rfl, by kernel_rfl, rfl⟩ trivial (stab_of hleu_69 ⟨⟨2, rfl⟩, ⟨3, rfl⟩, trivial⟩) (R.assign rfl) rfl ?_
              refine JA.doneN (by kernel_rfl) ?_
              obtain rfl := Option.some.inj hx
              refine JN.front 1 rfl ?_
              refine JN.front 3 rfl ?_
              refine JN.front 3 rfl ?_
              exact JN.cut ⟨Hu_69, b_72, aoz_70, nz_70, capz_70, aor_71, nr_71, capr_71, Kr_71, rfl, rfl, rfl, (hleu_69), hb_72, hz_70, hr_71⟩ ⟨rfl, rfl, rfl, rfl, rfl, rfl, rfl, rfl, trivial⟩ rfl rfl
        · replace hx := cond_f c_60 hx
          refine JC.exit ?_
          refine JN.passX ?_
          obtain rfl := run_done hd_60 hx
          refine JN.passX ?_
          refine JN.exitSame ?_
          refine JN.front 1 rfl ?_
          refine JN.front 1 rfl ?_
          exact JN.cut ⟨(s_51.1, s_51.2.1), H_57, aoz_58, nz_58, capz_58, aoz_59, nz_59, capz_59, rfl, rfl, rfl, rfl, (hleH_57), hz_58, hz_59⟩ ⟨rfl, rfl, rfl, rfl, rfl, trivial⟩ rfl rfl
end Go.Proofs.Ytabnbobdjckdmaa
