import Derived.Test.YtdoebbgjjlicjaaW2p2
/- walks: what the code computes, function by function. -/
namespace Go.Proofs.Ytdoebbgjjlicjaa
open Go.Ow Go.RowKit Go.Proofs
set_option linter.unusedVariables false
set_option linter.unusedSimpArgs false
set_option maxHeartbeats 8000000 in
theorem law15_SetLater_ok (p_1 : Store) (p_5 : Ptr) (p_6 : UInt32) (p_7 : UInt32) (H : Heaplet) {aoa_2 : Option Addr} {na_2 : Nat} {capa_2 : Nat} {aoa_3 : Option Addr} {na_3 : Nat} {capa_3 : Nat} {aoa_4 : Option Addr} {na_4 : Nat} {capa_4 : Nat} (ha_2 : IsSlice H (RSl RU8 1) 1 (.slice aoa_2 na_2 capa_2) p_1.Disk.Blocks) (ha_3 : IsSlice H R_Write 2 (.slice aoa_3 na_3 capa_3) p_1.Disk.Waits) (ha_4 : IsSlice H RU8 1 (.slice aoa_4 na_4 capa_4) p_1.Space) (r : Bool) (hx : law15_SetLater p_1 p_5 p_6 p_7 = some r) :
  Does Try.prog 4 #[.agg #[.slice aoa_2 na_2 capa_2, .slice aoa_3 na_3 capa_3, .slice aoa_4 na_4 capa_4, .int .u32 (p_1.Epoch.toNat : Int), .int .u32 (p_1.Count.toNat : Int)], .agg #[.int .i64 p_5.At, .int .u32 (p_5.Birth.toNat : Int), .int .u32 (p_5.Iv.toNat : Int), .int .u32 (p_5.Tag.toNat : Int), .int .u32 (p_5.Sum.toNat : Int)], .int .u32 (p_6.toNat : Int), .int .u32 (p_7.toNat : Int)] [] H (fun u K' H' => u = .bool r ∧ K' = [] ∧ True) := by
 refine Does.enterL (vs := [.agg #[.slice aoa_2 na_2 capa_2, .slice aoa_3 na_3 capa_3, .slice aoa_4 na_4 capa_4, .int .u32 (p_1.Epoch.toNat : Int), .int .u32 (p_1.Count.toNat : Int)], .agg #[.int .i64 p_5.At, .int .u32 (p_5.Birth.toNat : Int), .int .u32 (p_5.Iv.toNat : Int), .int .u32 (p_5.Tag.toNat : Int), .int .u32 (p_5.Sum.toNat : Int)], .int .u32 (p_6.toNat : Int), .int .u32 (p_7.toNat : Int)]) (l := [(0, .agg #[.slice aoa_2 na_2 capa_2, .slice aoa_3 na_3 capa_3, .slice aoa_4 na_4 capa_4, .int .u32 (p_1.Epoch.toNat : Int), .int .u32 (p_1.Count.toNat : Int)]), (1, .agg #[.int .i64 p_5.At, .int .u32 (p_5.Birth.toNat : Int), .int .u32 (p_5.Iv.toNat : Int), .int .u32 (p_5.Tag.toNat : Int), .int .u32 (p_5.Sum.toNat : Int)]), (2, .int .u32 (p_6.toNat : Int)), (3, .int .u32 (p_7.toNat : Int))]) Try.func4 rfl rfl ⟨rfl, rfl, rfl, rfl, trivial⟩ (fun w hlt => ?_)
 unfold law15_SetLater at hx
 refine JC.seq (JC.region (JL.box rfl rfl (fun b_8 hb_8 => JL.box rfl rfl (fun b_9 hb_9 => JL.val rfl rfl (R.assign rfl) (JL.nil (JN.next (JC.seq (JC.region ?_))))))))
 obtain ⟨x_10, hr_11, hx⟩ := bnd_some hx
 refine JL.callC (vs := []) (args := []) (K := []) (rst := [_, _]) E19 rfl rfl rfl picks0 (law15_alive_ok _ _ hr_11) rfl (fun u_12 Ku_12 Hu_12 hRu_12 hleu_12 hfu_12 => ?_)
 obtain ⟨rfl, rfl, -⟩ := hRu_12
 refine JL.val rfl rfl (R.assign rfl) (JL.nil (JN.next (JC.seq (JC.seq (JC.region (JL.val rfl rfl (R.move rfl) (JL.val rfl rfl (R.not rfl) (JL.nil (JN.next (JC.condB rfl (fun c_13 => ?_) (fun c_13 => ?_)))))))))))
 ·
  replace hx := cond_t c_13 hx
  refine JC.seq (JC.region (JL.val rfl rfl (R.assign rfl) (JL.nil (JN.next (JC.ret (JN.passR (JN.outP (vs := [.bool false]) (K := []) (rst := [_, _]) (.inl rfl) rfl rfl (Res.tmp rfl rfl) picks0 ?_)))))))
  obtain rfl := Option.some.inj hx
  exact ⟨rfl, rfl, trivial⟩
 ·
  replace hx := cond_f c_13 hx
  refine JC.skip (JN.next (JC.seq (JC.seq (JC.region (JL.val rfl rfl (R.ldoN 1 (vs := [.slice aoa_2 na_2 capa_2, .slice aoa_3 na_3 capa_3, .slice aoa_4 na_4 capa_4, .int .u32 (p_1.Epoch.toNat : Int), .int .u32 (p_1.Count.toNat : Int)]) S50 rfl rfl rfl rfl) ?_)))))
  obtain ⟨x_14, hr_15, hx⟩ := bnd_some hx
  refine JL.callC (vs := [_]) (args := [_]) (K := []) (rst := [_, _]) E20 rfl rfl rfl picks0 (ref13_Great_ok p_1 _ (ha_2.mono (RSl.mono RU8.mono) hleu_12) (ha_3.mono R_Write.mono hleu_12) (ha_4.mono RU8.mono hleu_12) _ hr_15) rfl (fun u_16 Ku_16 Hu_16 hRu_16 hleu_16 hfu_16 => ?_)
  obtain ⟨rfl, rfl, rfl, -⟩ := hRu_16
  refine JL.val rfl rfl (R.move rfl) (JL.gSplit (t := 21) rfl (fun c_17 => ?_) (fun c_17 => ?_))
  ·
   replace hx := cond_t c_17 hx
   refine JL.gNo rfl rfl rfl rfl rfl (JL.gNo rfl rfl rfl rfl rfl (JL.gNo rfl rfl rfl rfl rfl (JL.gNo rfl rfl rfl rfl rfl (JL.gNo rfl rfl rfl rfl rfl (JL.val rfl rfl (R.pickT rfl rfl) (JL.nil (JN.next (JC.condT rfl (JC.seq (JC.region (JL.val rfl rfl (R.move rfl) ?_)))))))))))
   refine JL.val rfl rfl (R.assign rfl) (JL.nil (JN.next (JC.ret (JN.passR (JN.outP (vs := [.bool x_10]) (K := []) (rst := [_, _]) (.inl rfl) rfl rfl (Res.tmp rfl rfl) picks0 ?_)))))
   obtain rfl := Option.some.inj hx
   exact ⟨rfl, rfl, trivial⟩
  ·
   replace hx := cond_f c_17 hx
   refine JL.gYes rfl rfl rfl (JL.val rfl rfl (R.move rfl) (JL.gYes rfl rfl rfl (JL.val rfl rfl (R.move rfl) (JL.gYes rfl rfl rfl (JL.val rfl rfl (R.add32 (a := p_6) (b := p_7) rfl rfl) (JL.gYes rfl rfl rfl (JL.val rfl rfl (R.move rfl) (JL.gYes rfl rfl rfl (JL.val rfl rfl (R.lss32 (a := p_6 + p_7) (b := p_6) rfl rfl) (JL.val rfl rfl (R.pickF rfl rfl) (JL.nil ?_)))))))))))
   refine JN.next (JC.condB rfl (fun c_18 => ?_) (fun c_18 => ?_))
   ·
    replace hx := cond_t c_18 hx
    refine JC.seq (JC.region (JL.val rfl rfl (R.move rfl) (JL.val rfl rfl (R.assign rfl) (JL.nil (JN.next (JC.ret (JN.passR (JN.outP (vs := [.bool x_10]) (K := []) (rst := [_, _]) (.inl rfl) rfl rfl (Res.tmp rfl rfl) picks0 ?_))))))))
    obtain rfl := Option.some.inj hx
    exact ⟨rfl, rfl, trivial⟩
   ·
    replace hx := cond_f c_18 hx
    refine JC.skip (JN.next (JC.seq (JC.region (JL.val rfl rfl (R.ldoN 1 (vs := [.slice aoa_2 na_2 capa_2, .slice aoa_3 na_3 capa_3, .slice aoa_4 na_4 capa_4, .int .u32 (p_1.Epoch.toNat : Int), .int .u32 (p_1.Count.toNat : Int)]) S50 rfl rfl rfl rfl) (JL.val rfl rfl (R.ldoN 0 (vs := [.int .i64 p_5.At, .int .u32 (p_5.Birth.toNat : Int), .int .u32 (p_5.Iv.toNat : Int), .int .u32 (p_5.Tag.toNat : Int), .int .u32 (p_5.Sum.toNat : Int)]) S28 rfl rfl rfl rfl) (JL.val rfl rfl (R.move rfl) ?_))))))
    obtain ⟨x_19, hr_20, hx⟩ := bnd_some hx
    refine JL.callC (vs := [_, _, _]) (args := [_, _, _]) (K := []) (rst := [_, _]) E21 rfl rfl rfl picks0 (set_Walk_ok p_1 p_5 p_6 _ (ha_2.mono (RSl.mono RU8.mono) hleu_12) (ha_3.mono R_Write.mono hleu_12) (ha_4.mono RU8.mono hleu_12) _ hr_20) rfl (fun u_21 Ku_21 Hu_21 hRu_21 hleu_21 hfu_21 => ?_)
    obtain ⟨aor_22, nr_22, capr_22, Kr_22, rfl, rfl, hr_22, hnewr_22, -⟩ := hRu_21
    replace hr_22 := (RowOf.base (RowOf.const (H2 := New H Hu_21) R_Ptr.const hr_22) (fun p hp => (hfu_21 p (mem_seg 0 rfl hp)).resolve_left (hnewr_22 p hp)))
    refine JL.val rfl rfl (R.move rfl) (JL.val rfl rfl (R.extract rfl rfl) (JL.val rfl rfl (R.extract rfl rfl) (JL.val rfl rfl (R.assign rfl) (JL.val rfl rfl (R.assign rfl) (JL.nil (JN.next (JC.seq (JC.region (JL.val rfl rfl (R.ldoN 2 (vs := [.slice aoa_2 na_2 capa_2, .slice aoa_3 na_3 capa_3, .slice aoa_4 na_4 capa_4, .int .u32 (p_1.Epoch.toNat : Int), .int .u32 (p_1.Count.toNat : Int)]) S50 rfl rfl rfl rfl) (JL.val rfl rfl (R.ldoN 1 (vs := [.int .i64 p_5.At, .int .u32 (p_5.Birth.toNat : Int), .int .u32 (p_5.Iv.toNat : Int), .int .u32 (p_5.Tag.toNat : Int), .int .u32 (p_5.Sum.toNat : Int)]) S28 rfl rfl rfl rfl) (JL.val rfl rfl (R.move rfl) ?_)))))))))))
    refine JL.val rfl rfl (R.move rfl) (JL.val rfl rfl (R.add32 (a := p_6) (b := p_7) rfl rfl) ?_)
    obtain ⟨x_23, hr_24, hx⟩ := bnd_some hx
    refine JL.callC (vs := [_, _, _]) (args := [_, _, _]) (K := []) (rst := [_, _, _]) E21 rfl rfl rfl picks0 (set_Walk_ok p_1 p_5 (p_6 + p_7) _ (ha_2.mono (RSl.mono RU8.mono) (hleu_12.trans hleu_21)) (ha_3.mono R_Write.mono (hleu_12.trans hleu_21)) (ha_4.mono RU8.mono (hleu_12.trans hleu_21)) _ hr_24) rfl (fun u_25 Ku_25 Hu_25 hRu_25 hleu_25 hfu_25 => ?_)
    obtain ⟨aor_26, nr_26, capr_26, Kr_26, rfl, rfl, hr_26, hnewr_26, -⟩ := hRu_25
    replace hr_26 := (RowOf.base (RowOf.const (H2 := New H Hu_25) R_Ptr.const hr_26) (fun p hp => (hfu_25 p (mem_seg 0 rfl hp)).resolve_left (hnewr_26 p hp)))
    refine JL.val rfl rfl (R.move rfl) (JL.val rfl rfl (R.extract rfl rfl) (JL.val rfl rfl (R.extract rfl rfl) (JL.val rfl rfl (R.assign rfl) (JL.val rfl rfl (R.assign rfl) (JL.nil (JN.next (JC.seq (JC.seq (JC.region (JL.val rfl rfl (R.move rfl) (JL.val rfl rfl (R.neq_i rfl rfl) ?_)))))))))))
    refine JL.nil (JN.next (JC.condB rfl (fun c_27 => ?_) (fun c_27 => ?_)))
    ·
     replace hx := cond_t c_27 hx
     refine JC.seq ?_
     obtain ⟨t_28, ht_30, hx⟩ := bnd_some hx
     refine JC.cut (fun l o g => l = [(8, .bool t_28)] ∧ o = [] ∧ Hu_25 = g) ?_ ?_
     ·
      rintro _ _ _ ⟨rfl, rfl, rfl⟩
      refine JN.next (JC.ret (JN.passR (JN.outP (vs := [.bool t_28]) (K := []) (rst := []) (.inl rfl) rfl rfl (Res.tmp rfl rfl) picks0 ?_)))
      obtain rfl := Option.some.inj hx
      exact ⟨rfl, rfl, trivial⟩
     ·
      have hxo_29 := hx; clear hx; have hx := ht_30; clear ht_30
      refine JC.region (JL.val rfl rfl (R.move rfl) (JL.val rfl rfl (R.move rfl) (JL.gSplit (t := 48) rfl (fun c_31 => ?_) (fun c_31 => ?_))))
      ·
       replace hx := cond_t c_31 hx
       refine JL.gYes rfl rfl rfl (JL.val rfl rfl (R.move rfl) (JL.gYes rfl rfl rfl (JL.val rfl rfl (R.lenL U53 rfl (RowOf.long hr_22)) (JL.gYes rfl rfl rfl (JL.val rfl rfl (R.eql_i rfl rfl) (JL.val rfl rfl (R.pickT rfl rfl) (JL.val rfl rfl (R.assign rfl) (JL.nil ?_))))))))
       obtain rfl := Option.some.inj hx
       refine JN.forget 3 (JN.forget 2 (JN.forget 1 (JN.forget 0 ?_)))
       exact JN.cut ⟨rfl, rfl, rfl⟩ ⟨rfl, trivial⟩ rfl rfl
      ·
       replace hx := cond_f c_31 hx
       refine JL.gNo rfl rfl rfl rfl rfl (JL.gNo rfl rfl rfl rfl rfl (JL.gNo rfl rfl rfl rfl rfl (JL.val rfl rfl (R.pickF rfl rfl) (JL.val rfl rfl (R.assign rfl) (JL.nil ?_)))))
       obtain rfl := Option.some.inj hx
       refine JN.forget 3 (JN.forget 2 (JN.forget 1 (JN.forget 0 ?_)))
       exact JN.cut ⟨rfl, rfl, rfl⟩ ⟨rfl, trivial⟩ rfl rfl
    ·
     replace hx := cond_f c_27 hx
     refine JC.skip (JN.next (JC.seq (JC.seq (JC.region (JL.val rfl rfl (R.move rfl) (JL.val rfl rfl (R.neq_i rfl rfl) (JL.val rfl rfl (R.move rfl) (JL.gSplit (t := 55) rfl (fun c_32 => ?_) (fun c_32 => ?_)))))))))
     ·
      replace hx := cond_t c_32 hx
      refine JL.gNo rfl rfl rfl rfl rfl (JL.gNo rfl rfl rfl rfl rfl (JL.gNo rfl rfl rfl rfl rfl (JL.val rfl rfl (R.pickT rfl rfl) (JL.val rfl rfl (R.move rfl) (JL.gNo rfl rfl rfl rfl rfl (JL.gNo rfl rfl rfl rfl rfl (JL.gNo rfl rfl rfl rfl rfl (JL.gNo rfl rfl rfl rfl rfl (JL.gNo rfl rfl rfl rfl rfl (JL.val rfl rfl (R.pickT rfl rfl) (JL.nil ?_)))))))))))
      refine JN.next (JC.tidyP (l' := [(2, .int .u32 (p_6.toNat : Int)), (8, .bool false), (9, .bool x_10), (10, .slice aor_22 nr_22 capr_22), (12, .slice aor_26 nr_26 capr_26), (66, .bool true)]) (own' := [Kr_26, Kr_22]) (rst := [_, _]) ⟨rfl, rfl, rfl, rfl, rfl, rfl, trivial⟩ (picks 0 rfl (picks 0 rfl picks0)) (JC.condT rfl (JC.seq (JC.region (JL.val rfl rfl (R.assign rfl) (JL.nil (JN.next (JC.ret (JN.passR (JN.outP (vs := [.bool false]) (K := []) (rst := [_, _]) (.inl rfl) rfl rfl (Res.tmp rfl rfl) picks0 ?_))))))))))
      obtain rfl := Option.some.inj hx
      exact ⟨rfl, rfl, trivial⟩
     ·
      replace hx := cond_f c_32 hx
      refine JL.gYes rfl rfl rfl (JL.val rfl rfl (R.move rfl) (JL.gYes rfl rfl rfl (JL.val rfl rfl (R.lenL U53 rfl (RowOf.long hr_22)) (JL.gYes rfl rfl rfl (JL.val rfl rfl (R.gtr_i rfl rfl) (JL.val rfl rfl (R.pickF rfl rfl) (JL.val rfl rfl (R.move rfl) (JL.gSplit (t := 60) rfl (fun c_33 => ?_) (fun c_33 => ?_)))))))))
      ·
       replace hx := cond_t c_33 hx
       refine JL.gNo rfl rfl rfl rfl rfl (JL.gNo rfl rfl rfl rfl rfl (JL.gNo rfl rfl rfl rfl rfl (JL.gNo rfl rfl rfl rfl rfl (JL.gNo rfl rfl rfl rfl rfl (JL.val rfl rfl (R.pickT rfl rfl) (JL.nil (JN.next (JC.tidyP (l' := [(2, .int .u32 (p_6.toNat : Int)), (8, .bool false), (9, .bool x_10), (10, .slice aor_22 nr_22 capr_22), (12, .slice aor_26 nr_26 capr_26), (66, .bool true)]) (own' := [Kr_26, Kr_22]) (rst := [_, _]) ⟨rfl, rfl, rfl, rfl, rfl, rfl, trivial⟩ (picks 0 rfl (picks 0 rfl picks0)) (JC.condT rfl (JC.seq (JC.region ?_)))))))))))
       refine JL.val rfl rfl (R.assign rfl) (JL.nil (JN.next (JC.ret (JN.passR (JN.outP (vs := [.bool false]) (K := []) (rst := [_, _]) (.inl rfl) rfl rfl (Res.tmp rfl rfl) picks0 ?_)))))
       obtain rfl := Option.some.inj hx
       exact ⟨rfl, rfl, trivial⟩
      ·
       replace hx := cond_f c_33 hx
       refine JL.gYes rfl rfl rfl (JL.val rfl rfl (R.move rfl) (JL.gYes rfl rfl rfl (JL.val rfl rfl (R.lenL U53 rfl (RowOf.long hr_26)) (JL.gYes rfl rfl rfl (JL.val rfl rfl (R.move rfl) (JL.gYes rfl rfl rfl (JL.val rfl rfl (R.lenL U53 rfl (RowOf.long hr_22)) (JL.gYes rfl rfl rfl (JL.val rfl rfl (R.gtr_i rfl rfl) (JL.val rfl rfl (R.pickF rfl rfl) (JL.nil ?_)))))))))))
       refine JN.next (JC.tidyP (l' := [(2, .int .u32 (p_6.toNat : Int)), (8, .bool false), (9, .bool x_10), (10, .slice aor_22 nr_22 capr_22), (12, .slice aor_26 nr_26 capr_26), (66, .bool (decide ((x_19.1.length : Int) < (x_23.1.length : Int))))]) (own' := [Kr_26, Kr_22]) (rst := [_, _]) ⟨rfl, rfl, rfl, rfl, rfl, rfl, trivial⟩ (picks 0 rfl (picks 0 rfl picks0)) (JC.condB rfl (fun c_34 => ?_) (fun c_34 => ?_)))
       ·
        replace hx := cond_t c_34 hx
        refine JC.seq (JC.region (JL.val rfl rfl (R.assign rfl) (JL.nil (JN.next (JC.ret (JN.passR (JN.outP (vs := [.bool false]) (K := []) (rst := [_, _]) (.inl rfl) rfl rfl (Res.tmp rfl rfl) picks0 ?_)))))))
        obtain rfl := Option.some.inj hx
        exact ⟨rfl, rfl, trivial⟩
       ·
        replace hx := cond_f c_34 hx
        refine JC.skip (JN.next (JC.seq (JC.region (JL.val rfl rfl (R.assign rfl) (JL.nil (JN.next (JC.seq (JC.seq (JC.region (JL.val rfl rfl (R.assign rfl) (JL.nil ?_)))))))))))
        refine JN.next ?_
        obtain ⟨t_35, ht_37, hx⟩ := bnd_some hx
        refine JC.cut (fun l o g => ∃ t_35a : Int, l = [(9, .bool x_10), (12, .slice aor_26 nr_26 capr_26), (14, .int .i64 t_35a)] ∧ o = [Kr_26] ∧ Hu_25 = g ∧ t_35 = .inl t_35a) ?_ ?_
        ·
         rintro _ _ _ ⟨t_35a, rfl, rfl, rfl, rfl⟩
         simp only [Sum.elim_inl] at hx
         refine JN.next (JC.seq ?_)
         obtain ⟨t_41, ht_43, hx⟩ := bnd_some hx
         refine JC.cut (fun l o g => l = [(8, .bool t_41)] ∧ o = [] ∧ Hu_25 = g) ?_ ?_
         ·
          rintro _ _ _ ⟨rfl, rfl, rfl⟩
          refine JN.next (JC.ret (JN.outP (vs := [.bool t_41]) (K := []) (rst := []) (.inl rfl) rfl rfl (Res.tmp rfl rfl) picks0 ?_))
          obtain rfl := Option.some.inj hx
          exact ⟨rfl, rfl, trivial⟩
         ·
          have hxo_42 := hx; clear hx; have hx := ht_43; clear ht_43
          refine JC.region (JL.val rfl rfl (R.move rfl) (JL.val rfl rfl (R.move rfl) (JL.gSplit (t := 98) rfl (fun c_44 => ?_) (fun c_44 => ?_))))
          ·
           replace hx := cond_t c_44 hx
           refine JL.gYes rfl rfl rfl (JL.val rfl rfl (R.move rfl) (JL.gYes rfl rfl rfl (JL.val rfl rfl (R.move rfl) (JL.gYes rfl rfl rfl (JL.val rfl rfl (R.lenL U53 rfl (RowOf.long hr_26)) (JL.gYes rfl rfl rfl (JL.val rfl rfl (R.eql_i rfl rfl) (JL.val rfl rfl (R.pickT rfl rfl) (JL.val rfl rfl (R.assign rfl) (JL.nil ?_))))))))))
           obtain rfl := Option.some.inj hx
           refine JN.forget 0 ?_
           exact JN.cut ⟨rfl, rfl, rfl⟩ ⟨rfl, trivial⟩ rfl rfl
          ·
           replace hx := cond_f c_44 hx
           refine JL.gNo rfl rfl rfl rfl rfl (JL.gNo rfl rfl rfl rfl rfl (JL.gNo rfl rfl rfl rfl rfl (JL.gNo rfl rfl rfl rfl rfl (JL.val rfl rfl (R.pickF rfl rfl) (JL.val rfl rfl (R.assign rfl) (JL.nil ?_))))))
           obtain rfl := Option.some.inj hx
           refine JN.forget 0 ?_
           exact JN.cut ⟨rfl, rfl, rfl⟩ ⟨rfl, trivial⟩ rfl rfl
        ·
         have hxo_36 := hx; clear hx; have hx := ht_37; clear ht_37
         refine JC.block (JC.front 1 rfl (JC.loopI (fun n l o g => ∃ s_38 : Int × Nat, l = [(2, .int .u32 (p_6.toNat : Int)), (9, .bool x_10), (10, .slice aor_22 nr_22 capr_22), (12, .slice aor_26 nr_26 capr_26), (14, .int .i64 s_38.1), (15, .int .i64 ((s_38.2 : Nat) : Int))] ∧ o = [Kr_22, Kr_26] ∧ Hu_25 = g ∧ run (law15_SetLater_l1 p_6 x_19 x_23) n s_38 = some t_35) FUEL ?_ ⟨(0, 0), rfl, rfl, rfl, hx⟩ ⟨rfl, rfl, rfl, rfl, rfl, rfl, trivial⟩ ?_))
         ·
          rintro _ _ _ ⟨s_38, rfl, rfl, rfl, hn_39⟩
          exact run_zero hn_39
         ·
          rintro n_40 _ _ _ ⟨s_38, rfl, rfl, rfl, hn_39⟩
          clear hx; obtain ⟨oo_42, hx, hd_41⟩ := run_some hn_39
          unfold law15_SetLater_l1 at hx
          refine JC.seq (JC.seq (JC.region (JL.val rfl rfl (R.move rfl) (JL.val rfl rfl (R.move rfl) (JL.val rfl rfl (R.lenL U53 rfl (RowOf.long hr_22)) (JL.val rfl rfl (R.lss_i rfl rfl) (JL.nil (JN.next (JC.condB rfl (fun c_41 => ?_) (fun c_41 => ?_))))))))))
          ·
           replace hx := cond_t c_41 hx
           refine JC.skip (JN.next (JC.seq (JC.block (JC.seq ?_))))
           obtain ⟨t_42, ht_44, hx⟩ := bnd_some hx
           refine JC.cut (fun l o g => l = [(2, .int .u32 (p_6.toNat : Int)), (9, .bool x_10), (10, .slice aor_22 nr_22 capr_22), (12, .slice aor_26 nr_26 capr_26), (14, .int .i64 t_42), (15, .int .i64 ((s_38.2 : Nat) : Int))] ∧ o = [Kr_22, Kr_26] ∧ Hu_25 = g) ?_ ?_
           ·
            rintro _ _ _ ⟨rfl, rfl, rfl⟩
            refine JN.next (JC.seq (JC.region (JL.val rfl rfl (R.move rfl) (JL.val rfl rfl (R.move rfl) ?_))))
            obtain ⟨y_69, hN_70, hx⟩ := idx_some hx
            obtain ⟨b_71, o_72, cs_73, cur_78, hK_79, hE_74, hR_75, hl_76, hc_77⟩ := RowOf.elem (hr_22.mono R_Ptr.mono (New.mono hleu_25)) hN_70
            subst hK_79
            obtain rfl := hR_75
            refine JL.val rfl rfl (R.ix U53 S28 rfl rfl hE_74) (JL.val rfl rfl (R.fa F28_1 rfl) (JL.val rfl rfl (R.ldo 0 S26 rfl rfl (hc_77 1 _ rfl)) (JL.val rfl rfl (R.move rfl) (JL.val rfl rfl (R.leq32 (a := y_69.Birth) (b := p_6) rfl rfl) (JL.nil (JN.next (JC.condB rfl (fun c_80 => ?_) (fun c_80 => ?_))))))))
            ·
             replace hx := cond_t c_80 hx
             refine JC.seq (JC.region (JL.val rfl rfl (R.assign rfl) (JL.nil (JN.next (JC.ret (JN.blkR (JN.passR ?_)))))))
             obtain rfl := run_done hd_41 hx
             refine JN.passR (JN.blkR ?_)
             clear hx; have hx := hxo_36
             simp only [Sum.elim_inl, Sum.elim_inr] at hx
             refine JN.passR (JN.passR (JN.outP (vs := [.bool false]) (K := []) (rst := [_, _]) (.inl rfl) rfl rfl (Res.tmp rfl rfl) picks0 ?_))
             obtain rfl := Option.some.inj hx
             exact ⟨rfl, rfl, trivial⟩
            ·
             replace hx := cond_f c_80 hx
             refine JC.skip (JN.blkN (JN.next (JC.region (JL.val rfl rfl (R.move rfl) (JL.val rfl rfl (R.inc rfl rfl (of_decide_eq_true c_41) (RowOf.lenI hr_22)) (JL.val rfl rfl (R.assign rfl) (JL.nil ?_)))))))
             replace hx := run_next hd_41 hx
             refine JN.front 1 rfl (JN.front 1 rfl ?_)
             exact JN.cut ⟨(t_42, s_38.2 + 1), rfl, rfl, rfl, hx⟩ ⟨rfl, rfl, rfl, rfl, rfl, rfl, trivial⟩ rfl rfl
           ·
            have hxo_43 := hx; clear hx; have hx := ht_44; clear ht_44
            refine JC.seq (JC.draw (so := [_, _]) 15 rfl Mixed ⟨⟨0, rfl⟩, ⟨1, rfl⟩, trivial⟩ (JA.val ⟨by kernel_rfl, by kernel_rfl⟩ (calm_only _) (i := 0) rfl ⟨by kernel_rfl, by kernel_rfl, rfl⟩ trivial (stab_of (Hle.refl _) ⟨⟨0, rfl⟩, ⟨1, rfl⟩, trivial⟩) (R.move rfl) rfl (JA.val ⟨by kernel_rfl, by kernel_rfl⟩ (calm_only _) (i := 1) rfl ⟨by kernel_rfl, by kernel_rfl, rfl⟩ trivial (stab_of (Hle.refl _) ⟨⟨0, rfl⟩, ⟨1, rfl⟩, trivial⟩) (R.move rfl) rfl (JA.val ⟨by kernel_rfl, by kernel_rfl⟩ (calm_only _) (i := 2) rfl ⟨by kernel_rfl, by kernel_rfl, rfl⟩ trivial (stab_of (Hle.refl _) ⟨⟨0, rfl⟩, ⟨1, rfl⟩, trivial⟩) (R.lenL U53 rfl (RowOf.long hr_26)) rfl (JA.val ⟨by kernel_rfl, by kernel_rfl⟩ (calm_only _) (i := 3) rfl ⟨by kernel_rfl, by kernel_rfl, rfl⟩ trivial (stab_of (Hle.refl _) ⟨⟨0, rfl⟩, ⟨1, rfl⟩, trivial⟩) (R.lss_i rfl rfl) rfl (JA.val ⟨by kernel_rfl, by kernel_rfl⟩ (calm_only _) (i := 4) rfl ⟨by kernel_rfl, by kernel_rfl, rfl⟩ trivial (stab_of (Hle.refl _) ⟨⟨0, rfl⟩, ⟨1, rfl⟩, trivial⟩) (R.move rfl) rfl (JA.gSplit (t := 77) rfl (fun c_45 => ?_) (fun c_45 => ?_))))))))
            ·
             replace hx := cond_t c_45 hx
             refine JA.val ⟨by kernel_rfl, by kernel_rfl⟩ (calm_only _) (i := 5) rfl ⟨by kernel_rfl, by kernel_rfl, rfl⟩ ⟨_, _, rfl, rfl, rfl⟩ (stab_of (Hle.refl _) ⟨⟨0, rfl⟩, ⟨1, rfl⟩, trivial⟩) (R.move rfl) rfl (JA.val ⟨by kernel_rfl, by kernel_rfl⟩ (calm_only _) (i := 6) rfl ⟨by kernel_rfl, by kernel_rfl, rfl⟩ ⟨_, _, rfl, rfl, rfl⟩ (stab_of (Hle.refl _) ⟨⟨0, rfl⟩, ⟨1, rfl⟩, trivial⟩) (R.move rfl) rfl ?_)
             obtain ⟨y_46, hN_47, hx⟩ := idx_some hx
             obtain ⟨b_48, o_49, cs_50, cur_55, hK_56, hE_51, hR_52, hl_53, hc_54⟩ := RowOf.elem (hr_22.mono R_Ptr.mono (New.mono hleu_25)) hN_47
             subst hK_56
             obtain rfl := hR_52
             refine JA.val ⟨by kernel_rfl, by kernel_rfl⟩ (calm_only _) (i := 7) rfl ⟨by kernel_rfl, by kernel_rfl, rfl⟩ ⟨_, _, rfl, rfl, rfl⟩ (stab_of (Hle.refl _) ⟨⟨0, rfl⟩, ⟨1, rfl⟩, trivial⟩) (R.ix U53 S28 rfl rfl hE_51) rfl (JA.val ⟨by kernel_rfl, by kernel_rfl⟩ (calm_only _) (i := 8) rfl ⟨by kernel_rfl, by kernel_rfl, rfl⟩ ⟨_, _, rfl, rfl, rfl⟩ (stab_of (Hle.refl _) ⟨⟨0, rfl⟩, ⟨1, rfl⟩, trivial⟩) (R.ldoE 0 (cs := [.int .i64 y_46.At, .int .u32 (y_46.Birth.toNat : Int), .int .u32 (y_46.Iv.toNat : Int), .int .u32 (y_46.Tag.toNat : Int), .int .u32 (y_46.Sum.toNat : Int)]) (k := 0) (vs := [.int .i64 y_46.At, .int .u32 (y_46.Birth.toNat : Int), .int .u32 (y_46.Iv.toNat : Int), .int .u32 (y_46.Tag.toNat : Int), .int .u32 (y_46.Sum.toNat : Int)]) S28 rfl rfl hc_54 rfl rfl) rfl (JA.val ⟨by kernel_rfl, by kernel_rfl⟩ (calm_only _) (i := 9) rfl ⟨by kernel_rfl, by kernel_rfl, rfl⟩ ⟨_, _, rfl, rfl, rfl⟩ (stab_of (Hle.refl _) ⟨⟨0, rfl⟩, ⟨1, rfl⟩, trivial⟩) (R.move rfl) rfl (JA.val ⟨by kernel_rfl, by kernel_rfl⟩ (calm_only _) (i := 10) rfl ⟨by kernel_rfl, by kernel_rfl, rfl⟩ ⟨_, _, rfl, rfl, rfl⟩ (stab_of (Hle.refl _) ⟨⟨0, rfl⟩, ⟨1, rfl⟩, trivial⟩) (R.move rfl) rfl ?_)))
             obtain ⟨y_57, hN_58, hx⟩ := idx_some hx
             obtain ⟨b_59, o_60, cs_61, cur_66, hK_67, hE_62, hR_63, hl_64, hc_65⟩ := RowOf.elem hr_26 hN_58
             subst hK_67
             obtain rfl := hR_63
             refine JA.val ⟨by kernel_rfl, by kernel_rfl⟩ (calm_only _) (i := 11) rfl ⟨by kernel_rfl, by kernel_rfl, rfl⟩ ⟨_, _, rfl, rfl, rfl⟩ (stab_of (Hle.refl _) ⟨⟨0, rfl⟩, ⟨1, rfl⟩, trivial⟩) (R.ix U53 S28 rfl rfl hE_62) rfl (JA.val ⟨by kernel_rfl, by kernel_rfl⟩ (calm_only _) (i := 12) rfl ⟨by kernel_rfl, by kernel_rfl, rfl⟩ ⟨_, _, rfl, rfl, rfl⟩ (stab_of (Hle.refl _) ⟨⟨0, rfl⟩, ⟨1, rfl⟩, trivial⟩) (R.ldoE 1 (cs := [.int .i64 y_57.At, .int .u32 (y_57.Birth.toNat : Int), .int .u32 (y_57.Iv.toNat : Int), .int .u32 (y_57.Tag.toNat : Int), .int .u32 (y_57.Sum.toNat : Int)]) (k := 0) (vs := [.int .i64 y_57.At, .int .u32 (y_57.Birth.toNat : Int), .int .u32 (y_57.Iv.toNat : Int), .int .u32 (y_57.Tag.toNat : Int), .int .u32 (y_57.Sum.toNat : Int)]) S28 rfl rfl hc_65 rfl rfl) rfl (JA.val ⟨by kernel_rfl, by kernel_rfl⟩ (calm_only _) (i := 13) rfl ⟨by kernel_rfl, by kernel_rfl, rfl⟩ ⟨_, _, rfl, rfl, rfl⟩ (stab_of (Hle.refl _) ⟨⟨0, rfl⟩, ⟨1, rfl⟩, trivial⟩) (R.eqlAgg QU28 QP28 QG28 QF28 rfl rfl (EqF.i (by decide) S3 U3 rfl rfl (EqF.u32 (a := y_46.Birth) (b := y_57.Birth) (by decide) S26 U26 rfl rfl (EqF.u32 (a := y_46.Iv) (b := y_57.Iv) (by decide) S26 U26 rfl rfl (EqF.u32 (a := y_46.Tag) (b := y_57.Tag) (by decide) S26 U26 rfl rfl (EqF.u32 (a := y_46.Sum) (b := y_57.Sum) (by decide) S26 U26 rfl rfl EqF.nil)))))) rfl (JA.val ⟨by kernel_rfl, by kernel_rfl⟩ (calm_only _) (i := 14) rfl ⟨by kernel_rfl, by kernel_rfl, rfl⟩ trivial (stab_of (Hle.refl _) ⟨⟨0, rfl⟩, ⟨1, rfl⟩, trivial⟩) (R.pickT rfl rfl) rfl (JA.doneN (by kernel_rfl) (JN.next (JC.condB rfl (fun c_68 => ?_) (fun c_68 => ?_)))))))
             ·
              replace hx := cond_t c_68 hx
              refine JC.region (JL.val rfl rfl (R.move rfl) (JL.val rfl rfl (R.add_i rfl rfl) (JL.val rfl rfl (R.assign rfl) (JL.nil ?_))))
              obtain rfl := Option.some.inj hx
              refine JN.front 1 rfl (JN.front 1 rfl ?_)
              exact JN.cut ⟨rfl, rfl, rfl⟩ ⟨rfl, rfl, rfl, rfl, rfl, rfl, trivial⟩ rfl rfl
             ·
              replace hx := cond_f c_68 hx
              refine JC.skip ?_
              obtain rfl := Option.some.inj hx
              refine JN.front 1 rfl (JN.front 1 rfl ?_)
              exact JN.cut ⟨rfl, rfl, rfl⟩ ⟨rfl, rfl, rfl, rfl, rfl, rfl, trivial⟩ rfl rfl
            ·
             replace hx := cond_f c_45 hx
             refine JA.no ⟨by kernel_rfl, by kernel_rfl⟩ (calm_only _) (i := 5) rfl ⟨by kernel_rfl, by kernel_rfl, rfl⟩ rfl rfl rfl rfl (stab_of (Hle.refl _) ⟨⟨0, rfl⟩, ⟨1, rfl⟩, trivial⟩) rfl (JA.no ⟨by kernel_rfl, by kernel_rfl⟩ (calm_only _) (i := 6) rfl ⟨by kernel_rfl, by kernel_rfl, rfl⟩ rfl rfl rfl rfl (stab_of (Hle.refl _) ⟨⟨0, rfl⟩, ⟨1, rfl⟩, trivial⟩) rfl (JA.no ⟨by kernel_rfl, by kernel_rfl⟩ (calm_only _) (i := 7) rfl ⟨by kernel_rfl, by kernel_rfl, rfl⟩ rfl rfl rfl rfl (stab_of (Hle.refl _) ⟨⟨0, rfl⟩, ⟨1, rfl⟩, trivial⟩) rfl (JA.no ⟨by kernel_rfl, by kernel_rfl⟩ (calm_only _) (i := 8) rfl ⟨by kernel_rfl, by kernel_rfl, rfl⟩ rfl rfl rfl rfl (stab_of (Hle.refl _) ⟨⟨0, rfl⟩, ⟨1, rfl⟩, trivial⟩) rfl (JA.no ⟨by kernel_rfl, by kernel_rfl⟩ (calm_only _) (i := 9) rfl ⟨by kernel_rfl, by kernel_rfl, rfl⟩ rfl rfl rfl rfl (stab_of (Hle.refl _) ⟨⟨0, rfl⟩, ⟨1, rfl⟩, trivial⟩) rfl (JA.no ⟨by kernel_rfl, by kernel_rfl⟩ (calm_only _) (i := 10) rfl ⟨by kernel_rfl, by kernel_rfl, rfl⟩ rfl rfl rfl rfl (stab_of (Hle.refl _) ⟨⟨0, rfl⟩, ⟨1, rfl⟩, trivial⟩) rfl (JA.no ⟨by kernel_rfl, by kernel_rfl⟩ (calm_only _) (i := 11) rfl ⟨by kernel_rfl, by kernel_rfl, rfl⟩ rfl rfl rfl rfl (stab_of (Hle.refl _) ⟨⟨0, rfl⟩, ⟨1, rfl⟩, trivial⟩) rfl (JA.no ⟨by kernel_rfl, by kernel_rfl⟩ (calm_only _) (i := 12) rfl ⟨by kernel_rfl, by kernel_rfl, rfl⟩ rfl rfl rfl rfl (stab_of (Hle.refl _) ⟨⟨0, rfl⟩, ⟨1, rfl⟩, trivial⟩) rfl (JA.no ⟨by kernel_rfl, by kernel_rfl⟩ (calm_only _) (i := 13) rfl ⟨by kernel_rfl, by kernel_rfl, rfl⟩ rfl rfl rfl rfl (stab_of (Hle.refl _) ⟨⟨0, rfl⟩, ⟨1, rfl⟩, trivial⟩) rfl (JA.val ⟨by kernel_rfl, by kernel_rfl⟩ (calm_only _) (i := 14) rfl ⟨by kernel_rfl, by kernel_rfl, rfl⟩ trivial (stab_of (Hle.refl _) ⟨⟨0, rfl⟩, ⟨1, rfl⟩, trivial⟩) (R.pickF rfl rfl) rfl (JA.doneN (by kernel_rfl) (JN.next ?_)))))))))))
             refine JC.condF rfl (JC.skip ?_)
             obtain rfl := Option.some.inj hx
             refine JN.front 1 rfl (JN.front 1 rfl ?_)
             exact JN.cut ⟨rfl, rfl, rfl⟩ ⟨rfl, rfl, rfl, rfl, rfl, rfl, trivial⟩ rfl rfl
          ·
           replace hx := cond_f c_41 hx
           refine JC.exit (JN.passX ?_)
           obtain rfl := run_done hd_41 hx
           refine JN.passX (JN.exitSame (JN.forget 0 ?_))
           exact JN.cut ⟨s_38.1, rfl, rfl, rfl, rfl⟩ ⟨rfl, rfl, rfl, trivial⟩ rfl rfl
end Go.Proofs.Ytdoebbgjjlicjaa
