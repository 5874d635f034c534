import Derived.Test.YtebhagohhbmgoaaW2p0
/- walks: what the code computes, function by function. -/
namespace Go.Proofs.Ytebhagohhbmgoaa
open Go.Ow Go.RowKit Go.Proofs
set_option linter.unusedVariables false
set_option linter.unusedSimpArgs false
set_option maxHeartbeats 8000000 in
theorem ref29_May_ok (p_1 : Stream) (H : Heaplet) {aa_2 : Option Addr} {na_2 : Nat} {ca_2 : Nat} {aa_3 : Option Addr} {na_3 : Nat} {ca_3 : Nat} {aa_4 : Option Addr} {na_4 : Nat} {ca_4 : Nat} (ha_2 : IsSlice H RU8 1 (.slice aa_2 na_2 ca_2) p_1.Key) (ha_3 : IsSlice H R_Part 5 (.slice aa_3 na_3 ca_3) p_1.Parts) (ha_4 : IsSlice H RU8 1 (.slice aa_4 na_4 ca_4) p_1.Sign) (r : Bool) (hx : ref29_May p_1 = some r) :
  Does Try.prog 23 #[.agg #[.int .u32 (p_1.Guid.toNat : Int), .int .u32 (p_1.Base.toNat : Int), .slice aa_2 na_2 ca_2, .slice aa_3 na_3 ca_3, .slice aa_4 na_4 ca_4]] [] H (fun u K' H' => u = .bool r ∧ K' = [] ∧ H = H' ∧ True) := by
 refine Does.enterL (vs := [.agg #[.int .u32 (p_1.Guid.toNat : Int), .int .u32 (p_1.Base.toNat : Int), .slice aa_2 na_2 ca_2, .slice aa_3 na_3 ca_3, .slice aa_4 na_4 ca_4]]) (l := [(0, .agg #[.int .u32 (p_1.Guid.toNat : Int), .int .u32 (p_1.Base.toNat : Int), .slice aa_2 na_2 ca_2, .slice aa_3 na_3 ca_3, .slice aa_4 na_4 ca_4])]) Try.func23 rfl rfl ⟨rfl, trivial⟩ (fun w hlt => ?_)
 unfold ref29_May at hx
 refine ZG (ZB (JL.box rfl rfl (fun b_5 hb_5 => ZA rfl rfl (ZE rfl) (ZD (ZC (ZG (ZG (ZB (ZA rfl rfl (Zf F26_0 rfl) (ZA rfl rfl (ZU 0 S22 rfl rfl rfl) (ZA rfl rfl (R.eql32 (a := p_1.Guid) (b := (0 : UInt32)) rfl rfl) ?_)))))))))))
 refine ZA rfl rfl (ZH rfl) (ZZ (t := 9) rfl (fun c_6 => ?_) (fun c_6 => ?_))
 ·
  replace hx := ZP c_6 hx
  refine ZF rfl rfl rfl rfl rfl (ZF rfl rfl rfl rfl rfl (ZF rfl rfl rfl rfl rfl (ZF rfl rfl rfl rfl rfl (ZF rfl rfl rfl rfl rfl (ZA rfl rfl (ZR rfl rfl) (ZA rfl rfl (ZH rfl) (ZF rfl rfl rfl rfl rfl (ZF rfl rfl rfl rfl rfl (ZF rfl rfl rfl rfl rfl (ZF rfl rfl rfl rfl rfl (ZA rfl rfl (ZR rfl rfl) ?_)))))))))))
  refine ZA rfl rfl (ZH rfl) (ZF rfl rfl rfl rfl rfl (ZF rfl rfl rfl rfl rfl (ZF rfl rfl rfl rfl rfl (ZF rfl rfl rfl rfl rfl (ZA rfl rfl (ZR rfl rfl) (ZD (ZC (Zm rfl (ZG (ZB (ZA rfl rfl (ZE rfl) ?_)))))))))))
  refine ZD (ZC (ZV (ZJ (ZO (vs := [.bool false]) (K := []) (rst := [_]) (.inl rfl) rfl rfl (ZN rfl rfl) ZL ?_))))
  obtain rfl := Option.some.inj hx
  exact ⟨rfl, rfl, rfl, trivial⟩
 ·
  replace hx := ZQ c_6 hx
  refine ZI rfl rfl rfl (ZA rfl rfl (Zf F26_0 rfl) (ZI rfl rfl rfl (ZA rfl rfl (ZU 0 S22 rfl rfl rfl) (ZI rfl rfl rfl (ZA rfl rfl (Zf F26_1 rfl) (ZI rfl rfl rfl (ZA rfl rfl (ZU 0 S22 rfl rfl rfl) (ZI rfl rfl rfl (ZA rfl rfl (R.eql32 (a := p_1.Guid) (b := p_1.Base) rfl rfl) (ZA rfl rfl (Za rfl rfl) (ZA rfl rfl (ZH rfl) ?_)))))))))))
  refine ZZ (t := 16) rfl (fun c_7 => ?_) (fun c_7 => ?_)
  ·
   replace hx := ZP c_7 hx
   refine ZF rfl rfl rfl rfl rfl (ZF rfl rfl rfl rfl rfl (ZF rfl rfl rfl rfl rfl (ZF rfl rfl rfl rfl rfl (ZA rfl rfl (ZR rfl rfl) (ZA rfl rfl (ZH rfl) (ZF rfl rfl rfl rfl rfl (ZF rfl rfl rfl rfl rfl (ZF rfl rfl rfl rfl rfl (ZF rfl rfl rfl rfl rfl (ZA rfl rfl (ZR rfl rfl) (ZD ?_)))))))))))
   refine ZC (Zm rfl (ZG (ZB (ZA rfl rfl (ZE rfl) (ZD (ZC (ZV (ZJ (ZO (vs := [.bool false]) (K := []) (rst := [_]) (.inl rfl) rfl rfl (ZN rfl rfl) ZL ?_)))))))))
   obtain rfl := Option.some.inj hx
   exact ⟨rfl, rfl, rfl, trivial⟩
  ·
   replace hx := ZQ c_7 hx
   refine ZI rfl rfl rfl (ZA rfl rfl (Zf F26_2 rfl) (ZI rfl rfl rfl (ZA rfl rfl (ZU 0 S23 rfl rfl rfl) (ZI rfl rfl rfl (ZA rfl rfl (Zs U23 rfl (IsSlice.long ha_2)) (ZI rfl rfl rfl (ZA rfl rfl (R.neq_i rfl rfl) (ZA rfl rfl (Za rfl rfl) (ZA rfl rfl (ZH rfl) (ZZ (t := 22) rfl (fun c_8 => ?_) (fun c_8 => ?_)))))))))))
   ·
    replace hx := ZP c_8 hx
    refine ZF rfl rfl rfl rfl rfl (ZF rfl rfl rfl rfl rfl (ZF rfl rfl rfl rfl rfl (ZF rfl rfl rfl rfl rfl (ZA rfl rfl (ZR rfl rfl) (ZD (ZC (Zm rfl (ZG (ZB (ZA rfl rfl (ZE rfl) (ZD ?_)))))))))))
    refine ZC (ZV (ZJ (ZO (vs := [.bool false]) (K := []) (rst := [_]) (.inl rfl) rfl rfl (ZN rfl rfl) ZL ?_)))
    obtain rfl := Option.some.inj hx
    exact ⟨rfl, rfl, rfl, trivial⟩
   ·
    replace hx := ZQ c_8 hx
    refine ZI rfl rfl rfl (ZA rfl rfl (Zf F26_4 rfl) (ZI rfl rfl rfl (ZA rfl rfl (ZU 0 S23 rfl rfl rfl) (ZI rfl rfl rfl (ZA rfl rfl (Zs U23 rfl (IsSlice.long ha_4)) (ZI rfl rfl rfl (ZA rfl rfl (R.neq_i rfl rfl) (ZA rfl rfl (Za rfl rfl) (ZD (ZC (ZY rfl (fun c_9 => ?_) (fun c_9 => ?_))))))))))))
    ·
     replace hx := ZP c_9 hx
     refine ZG (ZB (ZA rfl rfl (ZE rfl) (ZD (ZC (ZV (ZJ (ZO (vs := [.bool false]) (K := []) (rst := [_]) (.inl rfl) rfl rfl (ZN rfl rfl) ZL ?_)))))))
     obtain rfl := Option.some.inj hx
     exact ⟨rfl, rfl, rfl, trivial⟩
    ·
     replace hx := ZQ c_9 hx
     refine JC.skip (ZC (ZG (ZG (ZB (ZA rfl rfl (ZE rfl) (ZD (ZC ?_)))))))
     obtain ⟨t_10, ht_12, hx⟩ := ZM hx
     refine Zv (fun l o g => ∃ t_10a : Unit, l = [] ∧ o = [] ∧ H = g ∧ t_10 = .inl t_10a) ?_ ?_
     ·
      rintro _ _ _ ⟨t_10a, rfl, rfl, rfl, rfl⟩
      simp only [Sum.elim_inl] at hx
      refine ZC (ZG (ZB (ZA rfl rfl (ZE rfl) (ZD (ZC (ZV (ZO (vs := [.bool true]) (K := []) (rst := []) (.inl rfl) rfl rfl (ZN rfl rfl) ZL ?_)))))))
      obtain rfl := Option.some.inj hx
      exact ⟨rfl, rfl, rfl, trivial⟩
     ·
      have hxo_11 := hx; clear hx; have hx := ht_12; clear ht_12
      refine JC.block (JC.loopI (fun n l o g => ∃ s_13 : Nat, l = [(1, .pointer (some ⟨b_5, 0, none⟩)), (3, .int .i64 ((s_13 : Nat) : Int))] ∧ o = [[(b_5, .cells #[.int .u32 (p_1.Guid.toNat : Int), .int .u32 (p_1.Base.toNat : Int), .slice aa_2 na_2 ca_2, .slice aa_3 na_3 ca_3, .slice aa_4 na_4 ca_4] 26 (0, 0))]] ∧ H = g ∧ run (ref29_May_l2 p_1) n s_13 = some t_10) FUEL ?_ ⟨0, rfl, rfl, rfl, hx⟩ ⟨rfl, rfl, trivial⟩ ?_)
      ·
       rintro _ _ _ ⟨s_13, rfl, rfl, rfl, hn_14⟩
       exact run_zero hn_14
      ·
       rintro n_15 _ _ _ ⟨s_13, rfl, rfl, rfl, hn_14⟩
       clear hx; obtain ⟨oo_17, hx, hd_16⟩ := run_some hn_14
       unfold ref29_May_l2 at hx
       refine ZG (ZG (ZB (ZA rfl rfl (ZH rfl) (ZA rfl rfl (Zf F26_3 rfl) (ZA rfl rfl (ZU 0 S24 rfl rfl rfl) (ZA rfl rfl (Zs U24 rfl (IsSlice.long ha_3)) (ZA rfl rfl (Zu rfl rfl) (ZD (ZC (ZY rfl (fun c_16 => ?_) (fun c_16 => ?_)))))))))))
       ·
        replace hx := ZP c_16 hx
        refine JC.skip (ZC (ZG (JC.block (ZG ?_))))
        obtain ⟨t_17, ht_19, hx⟩ := ZM hx
        refine Zv (fun l o g => ∃ t_17a : Unit, l = [(1, .pointer (some ⟨b_5, 0, none⟩)), (3, .int .i64 ((s_13 : Nat) : Int))] ∧ o = [[(b_5, .cells #[.int .u32 (p_1.Guid.toNat : Int), .int .u32 (p_1.Base.toNat : Int), .slice aa_2 na_2 ca_2, .slice aa_3 na_3 ca_3, .slice aa_4 na_4 ca_4] 26 (0, 0))]] ∧ H = g ∧ t_17 = .inl t_17a) ?_ ?_
        ·
         rintro _ _ _ ⟨t_17a, rfl, rfl, rfl, rfl⟩
         simp only [Sum.elim_inl] at hx
         refine ZC (ZG (ZG (ZB (ZA rfl rfl (Zf F26_3 rfl) (ZA rfl rfl (ZU 0 S24 rfl rfl rfl) (ZA rfl rfl (ZH rfl) ?_))))))
         obtain ⟨y_62, hN_63, hx⟩ := Zo hx
         obtain ⟨b_64, o_65, cs_66, hE_67, hR_68, hl_69, hc_70⟩ := IsSlice.elem ha_3 hN_63
         obtain ⟨v_71, rfl, hs_72⟩ := hR_68
         obtain ⟨av_71, cv_71, rfl⟩ := IsSlice.val hs_72
         refine ZA rfl rfl (R.ix U24 S39 rfl rfl hE_67) (ZA rfl rfl (Zf F39_1 rfl) (ZA rfl rfl (R.ldH S3 rfl (hc_70 1 _ rfl)) (ZA rfl rfl (R.eql_i rfl rfl) (ZD (ZC (ZY rfl (fun c_73 => ?_) (fun c_73 => ?_)))))))
         ·
          replace hx := ZP c_73 hx
          refine JC.exit (Zg (Zl (ZC (ZB (ZA rfl rfl (ZH rfl) (ZA rfl rfl (R.inc rfl rfl (of_decide_eq_true c_16) (IsSlice.lenI ha_3)) (ZA rfl rfl (ZE rfl) (ZD ?_))))))))
          replace hx := run_next hd_16 hx
          exact ZW ⟨s_13 + 1, rfl, rfl, rfl, hx⟩ ⟨rfl, rfl, trivial⟩ rfl rfl
         ·
          replace hx := ZQ c_73 hx
          refine JC.skip (ZC (ZG (ZB (ZA rfl rfl (ZE rfl) (ZD (ZC (ZG (ZG (ZB (ZA rfl rfl (ZE rfl) (ZD ?_)))))))))))
          refine ZC ?_
          obtain ⟨t_74, ht_76, hx⟩ := ZM hx
          refine Zv (fun l o g => l = [(1, .pointer (some ⟨b_5, 0, none⟩)), (3, .int .i64 ((s_13 : Nat) : Int)), (4, .bool t_74)] ∧ o = [[(b_5, .cells #[.int .u32 (p_1.Guid.toNat : Int), .int .u32 (p_1.Base.toNat : Int), .slice aa_2 na_2 ca_2, .slice aa_3 na_3 ca_3, .slice aa_4 na_4 ca_4] 26 (0, 0))]] ∧ H = g) ?_ ?_
          ·
           rintro _ _ _ ⟨rfl, rfl, rfl⟩
           refine ZC (ZG (ZB (ZA rfl rfl (ZH rfl) (ZA rfl rfl (R.not rfl) (ZD (ZC (ZY rfl (fun c_80 => ?_) (fun c_80 => ?_))))))))
           ·
            replace hx := ZP c_80 hx
            refine ZG (ZB (ZA rfl rfl (ZE rfl) (ZD (ZC (ZV (Zq (ZJ ?_)))))))
            obtain rfl := Zj hd_16 hx
            refine ZJ (Zq ?_)
            clear hx; have hx := hxo_11
            simp only [Sum.elim_inl, Sum.elim_inr] at hx
            refine ZJ (ZJ (ZO (vs := [.bool false]) (K := []) (rst := [_]) (.inl rfl) rfl rfl (ZN rfl rfl) ZL ?_))
            obtain rfl := Option.some.inj hx
            exact ⟨rfl, rfl, rfl, trivial⟩
           ·
            replace hx := ZQ c_80 hx
            refine JC.skip (JN.blkN (ZC (ZB (ZA rfl rfl (ZH rfl) (ZA rfl rfl (R.inc rfl rfl (of_decide_eq_true c_16) (IsSlice.lenI ha_3)) (ZA rfl rfl (ZE rfl) (ZD ?_)))))))
            replace hx := run_next hd_16 hx
            exact ZW ⟨s_13 + 1, rfl, rfl, rfl, hx⟩ ⟨rfl, rfl, trivial⟩ rfl rfl
          ·
           have hxo_75 := hx; clear hx; have hx := ht_76; clear ht_76
           refine JC.block (JC.loopI (fun n l o g => ∃ s_77 : Bool × Int, l = [(1, .pointer (some ⟨b_5, 0, none⟩)), (3, .int .i64 ((s_13 : Nat) : Int)), (4, .bool s_77.1), (5, .int .i64 s_77.2)] ∧ o = [[(b_5, .cells #[.int .u32 (p_1.Guid.toNat : Int), .int .u32 (p_1.Base.toNat : Int), .slice aa_2 na_2 ca_2, .slice aa_3 na_3 ca_3, .slice aa_4 na_4 ca_4] 26 (0, 0))]] ∧ H = g ∧ run (ref29_May_l1 p_1 s_13) n s_77 = some t_74) FUEL ?_ ⟨(false, 0), rfl, rfl, rfl, hx⟩ ⟨rfl, rfl, rfl, rfl, trivial⟩ ?_)
           ·
            rintro _ _ _ ⟨s_77, rfl, rfl, rfl, hn_78⟩
            exact run_zero hn_78
           ·
            rintro n_79 _ _ _ ⟨s_77, rfl, rfl, rfl, hn_78⟩
            clear hx; obtain ⟨oo_81, hx, hd_80⟩ := run_some hn_78
            unfold ref29_May_l1 at hx
            refine ZG (ZG (ZB (ZA rfl rfl (ZH rfl) (ZA rfl rfl (ZH rfl) (ZA rfl rfl (Zu rfl rfl) (ZD (ZC (ZY rfl (fun c_80 => ?_) (fun c_80 => ?_)))))))))
            ·
             replace hx := ZP c_80 hx
             refine JC.skip (ZC (ZG (JC.block (JC.drawB (so := [(_, [])]) 37 rfl Mixed ⟨by kernel_rfl, by kernel_rfl⟩ (kept0 [0] rfl) ?_))))
             refine JB.val (i := 0) [] rfl (ZH rfl) ?_
             refine JB.val (i := 1) [] rfl (ZH rfl) ?_
             refine JB.gSplit (t := 74) rfl (fun c_81 => ?_) (fun c_81 => ?_)
             ·
              replace hx := ZP c_81 hx
              refine JB.no (i := 2) rfl rfl rfl rfl rfl ?_
              refine JB.no (i := 3) rfl rfl rfl rfl rfl ?_
              refine JB.no (i := 4) rfl rfl rfl rfl rfl ?_
              refine JB.no (i := 5) rfl rfl rfl rfl rfl ?_
              refine JB.no (i := 6) rfl rfl rfl rfl rfl ?_
              refine JB.no (i := 7) rfl rfl rfl rfl rfl ?_
              refine JB.no (i := 8) rfl rfl rfl rfl rfl ?_
              refine JB.no (i := 9) rfl rfl rfl rfl rfl ?_
              refine JB.no (i := 10) rfl rfl rfl rfl rfl ?_
              refine JB.no (i := 11) rfl rfl rfl rfl rfl ?_
              refine JB.no (i := 12) rfl rfl rfl rfl rfl ?_
              refine JB.no (i := 13) rfl rfl rfl rfl rfl ?_
              refine JB.no (i := 14) rfl rfl rfl rfl rfl ?_
              refine JB.no (i := 15) rfl rfl rfl rfl rfl ?_
              refine JB.noU (i := 16) rfl rfl rfl rfl ?_
              refine JB.noU (i := 17) rfl rfl rfl rfl ?_
              refine JB.noU (i := 18) rfl rfl rfl rfl ?_
              refine JB.noU (i := 19) rfl rfl rfl rfl ?_
              refine JB.noU (i := 20) rfl rfl rfl rfl ?_
              refine JB.noU (i := 21) rfl rfl rfl rfl ?_
              refine JB.noU (i := 22) rfl rfl rfl rfl ?_
              refine JB.no (i := 23) rfl rfl rfl rfl rfl ?_
              refine JB.no (i := 24) rfl rfl rfl rfl rfl ?_
              refine JB.noU (i := 25) rfl rfl rfl rfl ?_
              refine JB.noU (i := 26) rfl rfl rfl rfl ?_
              refine JB.noU (i := 27) rfl rfl rfl rfl ?_
              refine JB.noU (i := 28) rfl rfl rfl rfl ?_
              refine JB.noU (i := 29) rfl rfl rfl rfl ?_
              refine JB.noU (i := 30) rfl rfl rfl rfl ?_
              refine JB.noU (i := 31) rfl rfl rfl rfl ?_
              refine JB.noU (i := 32) rfl rfl rfl rfl ?_
              refine JB.noU (i := 33) rfl rfl rfl rfl ?_
              refine JB.no (i := 34) rfl rfl rfl rfl rfl ?_
              refine JB.val (i := 35) [] rfl (ZR rfl rfl) ?_
              refine JB.val (i := 36) [] rfl (ZE rfl) ?_
              refine JB.doneN (by kernel_rfl) ?_
              refine JN.blkN (ZC (ZB (ZA rfl rfl (ZH rfl) (ZA rfl rfl (R.add_i rfl rfl) (ZA rfl rfl (ZE rfl) (ZD ?_))))))
              replace hx := run_next hd_80 hx
              exact ZW ⟨(true, w64 (s_77.2 + 1)), rfl, rfl, rfl, hx⟩ ⟨rfl, rfl, rfl, rfl, trivial⟩ rfl rfl
             ·
              replace hx := ZQ c_81 hx
              refine JB.val (i := 2) [] rfl (Zf F26_3 rfl) ?_
              refine JB.val (i := 3) [] rfl (ZU 0 S24 rfl rfl rfl) ?_
              refine JB.val (i := 4) [] rfl (ZH rfl) ?_
              obtain ⟨y_82, hN_83, hx⟩ := Zo hx
              obtain ⟨b_84, o_85, cs_86, hE_87, hR_88, hl_89, hc_90⟩ := IsSlice.elem ha_3 hN_83
              obtain ⟨v_91, rfl, hs_92⟩ := hR_88
              obtain ⟨av_91, cv_91, rfl⟩ := IsSlice.val hs_92
              refine JB.val (i := 5) [] rfl (R.ix U24 S39 rfl rfl hE_87) ?_
              refine JB.val (i := 6) [] rfl (Zf F39_0 rfl) ?_
              refine JB.val (i := 7) [] rfl (R.ldH S3 rfl (hc_90 0 _ rfl)) ?_
              refine JB.val (i := 8) [] rfl (Zf F26_3 rfl) ?_
              refine JB.val (i := 9) [] rfl (ZU 0 S24 rfl rfl rfl) ?_
              refine JB.val (i := 10) [] rfl (ZH rfl) ?_
              obtain ⟨y_93, hN_94, hx⟩ := Zo hx
              obtain ⟨b_95, o_96, cs_97, hE_98, hR_99, hl_100, hc_101⟩ := IsSlice.elem ha_3 hN_94
              obtain ⟨v_102, rfl, hs_103⟩ := hR_99
              obtain ⟨av_102, cv_102, rfl⟩ := IsSlice.val hs_103
              refine JB.val (i := 11) [] rfl (R.ix U24 S39 rfl rfl hE_98) ?_
              refine JB.val (i := 12) [] rfl (Zf F39_0 rfl) ?_
              refine JB.val (i := 13) [] rfl (R.ldH S3 rfl (hc_101 0 _ rfl)) ?_
              refine JB.val (i := 14) [] rfl (R.eql_i rfl rfl) ?_
              refine JB.val (i := 15) [] rfl (ZH rfl) ?_
              refine JB.gSplit (t := 88) rfl (fun c_104 => ?_) (fun c_104 => ?_)
              ·
               replace hx := ZP c_104 hx
               refine JB.val (i := 16) [] rfl (Zf F26_3 rfl) ?_
               refine JB.val (i := 17) [] rfl (ZU 0 S24 rfl rfl rfl) ?_
               refine JB.val (i := 18) [] rfl (ZH rfl) ?_
               obtain ⟨y_105, hN_106, hx⟩ := Zo hx
               obtain ⟨b_107, o_108, cs_109, hE_110, hR_111, hl_112, hc_113⟩ := IsSlice.elem ha_3 hN_106
               obtain ⟨v_114, rfl, hs_115⟩ := hR_111
               obtain ⟨av_114, cv_114, rfl⟩ := IsSlice.val hs_115
               refine JB.val (i := 19) [] rfl (R.ix U24 S39 rfl rfl hE_110) ?_
               refine JB.val (i := 20) [] rfl (Zf F39_1 rfl) ?_
               refine JB.val (i := 21) [] rfl (R.ldH S3 rfl (hc_113 1 _ rfl)) ?_
               refine JB.val (i := 22) [] rfl (R.eql_i rfl rfl) ?_
               refine JB.val (i := 23) [] rfl (ZR rfl rfl) ?_
               refine JB.val (i := 24) [] rfl (ZH rfl) ?_
               refine JB.gSplit (t := 97) rfl (fun c_116 => ?_) (fun c_116 => ?_)
               ·
                replace hx := ZP c_116 hx
                refine JB.val (i := 25) [] rfl (Zf F26_3 rfl) ?_
                refine JB.val (i := 26) [] rfl (ZU 0 S24 rfl rfl rfl) ?_
                refine JB.val (i := 27) [] rfl (ZH rfl) ?_
                obtain ⟨y_117, hN_118, hx⟩ := Zo hx
                obtain ⟨b_119, o_120, cs_121, hE_122, hR_123, hl_124, hc_125⟩ := IsSlice.elem ha_3 hN_118
                obtain ⟨v_126, rfl, hs_127⟩ := hR_123
                obtain ⟨av_126, cv_126, rfl⟩ := IsSlice.val hs_127
                refine JB.val (i := 28) [] rfl (R.ix U24 S39 rfl rfl hE_122) ?_
                refine JB.val (i := 29) [] rfl (Zf F39_4 rfl) ?_
                refine JB.val (i := 30) [] rfl (R.ldH S23 rfl (hc_125 4 _ rfl)) ?_
                obtain ⟨y_128, hN_129, hx⟩ := Zo hx
                obtain ⟨b_130, o_131, cs_132, hE_133, hR_134, hl_135, hc_136⟩ := IsSlice.elem hs_127 hN_129
                obtain rfl := hR_134
                refine JB.val (i := 31) [] rfl (R.ix U23 S5 rfl rfl hE_133) ?_
                refine JB.val (i := 32) [] rfl (R.ldH S5 rfl (hc_136 0 _ rfl)) ?_
                refine JB.val (i := 33) [] rfl (R.gtr8 (a := y_128) (b := (0 : UInt8)) rfl rfl) ?_
                refine JB.val (i := 34) [] rfl (ZR rfl rfl) ?_
                refine JB.val (i := 35) [] rfl (Za rfl rfl) ?_
                refine JB.val (i := 36) [] rfl (ZE rfl) ?_
                refine JB.doneN (by kernel_rfl) ?_
                refine JN.blkN (ZC (ZB (ZA rfl rfl (ZH rfl) (ZA rfl rfl (R.add_i rfl rfl) (ZA rfl rfl (ZE rfl) (ZD ?_))))))
                replace hx := run_next hd_80 hx
                exact ZW ⟨(decide ((0 : UInt8) < y_128), w64 (s_77.2 + 1)), rfl, rfl, rfl, hx⟩ ⟨rfl, rfl, rfl, rfl, trivial⟩ rfl rfl
               ·
                replace hx := ZQ c_116 hx
                refine JB.no (i := 25) rfl rfl rfl rfl rfl ?_
                refine JB.no (i := 26) rfl rfl rfl rfl rfl ?_
                refine JB.no (i := 27) rfl rfl rfl rfl rfl ?_
                refine JB.no (i := 28) rfl rfl rfl rfl rfl ?_
                refine JB.no (i := 29) rfl rfl rfl rfl rfl ?_
                refine JB.no (i := 30) rfl rfl rfl rfl rfl ?_
                refine JB.no (i := 31) rfl rfl rfl rfl rfl ?_
                refine JB.no (i := 32) rfl rfl rfl rfl rfl ?_
                refine JB.no (i := 33) rfl rfl rfl rfl rfl ?_
                refine JB.val (i := 34) [] rfl (Za rfl rfl) ?_
                refine JB.val (i := 35) [] rfl (Za rfl rfl) ?_
                refine JB.val (i := 36) [] rfl (ZE rfl) ?_
                refine JB.doneN (by kernel_rfl) ?_
                refine JN.blkN (ZC (ZB (ZA rfl rfl (ZH rfl) (ZA rfl rfl (R.add_i rfl rfl) (ZA rfl rfl (ZE rfl) (ZD ?_))))))
                replace hx := run_next hd_80 hx
                exact ZW ⟨(false, w64 (s_77.2 + 1)), rfl, rfl, rfl, hx⟩ ⟨rfl, rfl, rfl, rfl, trivial⟩ rfl rfl
              ·
               replace hx := ZQ c_104 hx
               refine JB.no (i := 16) rfl rfl rfl rfl rfl ?_
               refine JB.no (i := 17) rfl rfl rfl rfl rfl ?_
               refine JB.no (i := 18) rfl rfl rfl rfl rfl ?_
               refine JB.no (i := 19) rfl rfl rfl rfl rfl ?_
               refine JB.no (i := 20) rfl rfl rfl rfl rfl ?_
               refine JB.no (i := 21) rfl rfl rfl rfl rfl ?_
               refine JB.no (i := 22) rfl rfl rfl rfl rfl ?_
               refine JB.val (i := 23) [] rfl (Za rfl rfl) ?_
               refine JB.val (i := 24) [] rfl (ZH rfl) ?_
               refine JB.no (i := 25) rfl rfl rfl rfl rfl ?_
               refine JB.no (i := 26) rfl rfl rfl rfl rfl ?_
               refine JB.no (i := 27) rfl rfl rfl rfl rfl ?_
               refine JB.no (i := 28) rfl rfl rfl rfl rfl ?_
               refine JB.no (i := 29) rfl rfl rfl rfl rfl ?_
               refine JB.no (i := 30) rfl rfl rfl rfl rfl ?_
               refine JB.no (i := 31) rfl rfl rfl rfl rfl ?_
               refine JB.no (i := 32) rfl rfl rfl rfl rfl ?_
               refine JB.no (i := 33) rfl rfl rfl rfl rfl ?_
               refine JB.val (i := 34) [] rfl (Za rfl rfl) ?_
               refine JB.val (i := 35) [] rfl (Za rfl rfl) ?_
               refine JB.val (i := 36) [] rfl (ZE rfl) ?_
               refine JB.doneN (by kernel_rfl) ?_
               refine JN.blkN (ZC (ZB (ZA rfl rfl (ZH rfl) (ZA rfl rfl (R.add_i rfl rfl) (ZA rfl rfl (ZE rfl) (ZD ?_))))))
               replace hx := run_next hd_80 hx
               exact ZW ⟨(false, w64 (s_77.2 + 1)), rfl, rfl, rfl, hx⟩ ⟨rfl, rfl, rfl, rfl, trivial⟩ rfl rfl
            ·
             replace hx := ZQ c_80 hx
             refine JC.exit (Zg ?_)
             obtain rfl := Zj hd_80 hx
             refine Zg (Zl ?_)
             exact ZW ⟨rfl, rfl, rfl⟩ ⟨rfl, rfl, rfl, trivial⟩ rfl rfl
        ·
         have hxo_18 := hx; clear hx; have hx := ht_19; clear ht_19
         refine ZG (JC.drawB (so := [(_, [])]) 26 rfl Mixed ⟨by kernel_rfl, by kernel_rfl⟩ (kept0 [0] rfl) ?_)
         refine JB.val (i := 0) [] rfl (Zf F26_3 rfl) ?_
         refine JB.val (i := 1) [] rfl (ZU 0 S24 rfl rfl rfl) ?_
         refine JB.val (i := 2) [] rfl (ZH rfl) ?_
         obtain ⟨y_20, hN_21, hx⟩ := Zo hx
         obtain ⟨b_22, o_23, cs_24, hE_25, hR_26, hl_27, hc_28⟩ := IsSlice.elem ha_3 hN_21
         obtain ⟨v_29, rfl, hs_30⟩ := hR_26
         obtain ⟨av_29, cv_29, rfl⟩ := IsSlice.val hs_30
         refine JB.val (i := 3) [] rfl (R.ix U24 S39 rfl rfl hE_25) ?_
         refine JB.val (i := 4) [] rfl (R.ldHE (cs := [.int .i64 y_20.Obj, .int .i64 y_20.Index, .int .u32 (y_20.Iv.toNat : Int), .int .u32 (y_20.Tag.toNat : Int), .slice av_29 y_20.Data.length cv_29]) (k := 0) (vs := [.int .i64 y_20.Obj, .int .i64 y_20.Index, .int .u32 (y_20.Iv.toNat : Int), .int .u32 (y_20.Tag.toNat : Int), .slice av_29 y_20.Data.length cv_29]) S39 rfl hc_28 rfl rfl) ?_
         refine JB.one (i := 5) (by kernel_rfl) ?_
         refine JOB.step rfl trivial rfl (fun K hK => ?_)
         obtain ⟨x_31, hr_32, hx⟩ := ZM hx
         refine ZT (vs := [_]) (args := [_]) (K := []) (rst := [_]) E45 rfl rfl rfl ZL (ref29_mayPart_ok y_20 _ hs_30 _ hr_32) rfl (fun u_33 Ku_33 Hu_33 hRu_33 hleu_33 hfu_33 => ?_)
         obtain ⟨rfl, rfl, rfl, -⟩ := hRu_33
         refine ZD (hK _ _ _ (Hle.refl _) (kept0 [0] rfl) ?_)
         refine JB.val (i := 6) [] rfl (R.not rfl) ?_
         refine JB.val (i := 7) [] rfl (ZH rfl) ?_
         refine JB.gSplit (t := 42) rfl (fun c_34 => ?_) (fun c_34 => ?_)
         ·
          replace hx := ZP c_34 hx
          refine JB.no (i := 8) rfl rfl rfl rfl rfl ?_
          refine JB.no (i := 9) rfl rfl rfl rfl rfl ?_
          refine JB.no (i := 10) rfl rfl rfl rfl rfl ?_
          refine JB.noU (i := 11) rfl rfl rfl rfl ?_
          refine JB.noU (i := 12) rfl rfl rfl rfl ?_
          refine JB.noU (i := 13) rfl rfl rfl rfl ?_
          refine JB.noU (i := 14) rfl rfl rfl rfl ?_
          refine JB.noU (i := 15) rfl rfl rfl rfl ?_
          refine JB.noU (i := 16) rfl rfl rfl rfl ?_
          refine JB.noU (i := 17) rfl rfl rfl rfl ?_
          refine JB.noU (i := 18) rfl rfl rfl rfl ?_
          refine JB.noU (i := 19) rfl rfl rfl rfl ?_
          refine JB.noU (i := 20) rfl rfl rfl rfl ?_
          refine JB.noU (i := 21) rfl rfl rfl rfl ?_
          refine JB.noU (i := 22) rfl rfl rfl rfl ?_
          refine JB.noU (i := 23) rfl rfl rfl rfl ?_
          refine JB.no (i := 24) rfl rfl rfl rfl rfl ?_
          refine JB.val (i := 25) [] rfl (ZR rfl rfl) ?_
          refine JB.doneN (by kernel_rfl) ?_
          refine ZC (Zm rfl (ZG (ZB (ZA rfl rfl (ZE rfl) (ZD (ZC (ZV ?_)))))))
          obtain rfl := Option.some.inj hx
          clear hx; have hx := hxo_18
          simp only [Sum.elim_inl, Sum.elim_inr] at hx
          refine ZJ (ZJ (Zq (ZJ ?_)))
          obtain rfl := Zj hd_16 hx
          refine ZJ (Zq ?_)
          clear hx; have hx := hxo_11
          simp only [Sum.elim_inl, Sum.elim_inr] at hx
          refine ZJ (ZJ (ZO (vs := [.bool false]) (K := []) (rst := [_]) (.inl rfl) rfl rfl (ZN rfl rfl) ZL ?_))
          obtain rfl := Option.some.inj hx
          exact ⟨rfl, rfl, rfl, trivial⟩
         ·
          replace hx := ZQ c_34 hx
          refine JB.val (i := 8) [] rfl (ZH rfl) ?_
          refine JB.val (i := 9) [] rfl (R.gtr_i rfl rfl) ?_
          refine JB.val (i := 10) [] rfl (ZH rfl) ?_
          refine JB.gSplit (t := 45) rfl (fun c_35 => ?_) (fun c_35 => ?_)
          ·
           replace hx := ZP c_35 hx
           refine JB.val (i := 11) [] rfl (Zf F26_3 rfl) ?_
           refine JB.val (i := 12) [] rfl (ZU 0 S24 rfl rfl rfl) ?_
           refine JB.val (i := 13) [] rfl (ZH rfl) ?_
           refine JB.val (i := 14) [] rfl (R.sub_i rfl rfl) ?_
           obtain ⟨y_36, hN_37, hx⟩ := Zo hx
           obtain ⟨b_38, o_39, cs_40, hE_41, hR_42, hl_43, hc_44⟩ := IsSlice.elem ha_3 hN_37
           obtain ⟨v_45, rfl, hs_46⟩ := hR_42
           obtain ⟨av_45, cv_45, rfl⟩ := IsSlice.val hs_46
           refine JB.val (i := 15) [] rfl (R.ix U24 S39 rfl rfl hE_41) ?_
           refine JB.val (i := 16) [] rfl (R.ldHE (cs := [.int .i64 y_36.Obj, .int .i64 y_36.Index, .int .u32 (y_36.Iv.toNat : Int), .int .u32 (y_36.Tag.toNat : Int), .slice av_45 y_36.Data.length cv_45]) (k := 0) (vs := [.int .i64 y_36.Obj, .int .i64 y_36.Index, .int .u32 (y_36.Iv.toNat : Int), .int .u32 (y_36.Tag.toNat : Int), .slice av_45 y_36.Data.length cv_45]) S39 rfl hc_44 rfl rfl) ?_
           refine JB.val (i := 17) [] rfl (Zf F26_3 rfl) ?_
           refine JB.val (i := 18) [] rfl (ZU 0 S24 rfl rfl rfl) ?_
           refine JB.val (i := 19) [] rfl (ZH rfl) ?_
           obtain ⟨y_47, hN_48, hx⟩ := Zo hx
           obtain ⟨b_49, o_50, cs_51, hE_52, hR_53, hl_54, hc_55⟩ := IsSlice.elem ha_3 hN_48
           obtain ⟨v_56, rfl, hs_57⟩ := hR_53
           obtain ⟨av_56, cv_56, rfl⟩ := IsSlice.val hs_57
           refine JB.val (i := 20) [] rfl (R.ix U24 S39 rfl rfl hE_52) ?_
           refine JB.val (i := 21) [] rfl (R.ldHE (cs := [.int .i64 y_47.Obj, .int .i64 y_47.Index, .int .u32 (y_47.Iv.toNat : Int), .int .u32 (y_47.Tag.toNat : Int), .slice av_56 y_47.Data.length cv_56]) (k := 0) (vs := [.int .i64 y_47.Obj, .int .i64 y_47.Index, .int .u32 (y_47.Iv.toNat : Int), .int .u32 (y_47.Tag.toNat : Int), .slice av_56 y_47.Data.length cv_56]) S39 rfl hc_55 rfl rfl) ?_
           refine JB.one (i := 22) (by kernel_rfl) ?_
           refine JOB.step rfl ⟨_, _, rfl, rfl, rfl⟩ rfl (fun K hK => ?_)
           obtain ⟨x_58, hr_59, hx⟩ := ZM hx
           refine ZT (vs := [_, _]) (args := [_, _]) (K := []) (rst := [_]) E46 rfl rfl rfl ZL (ref29_before_ok y_36 y_47 _ hs_46 hs_57 _ hr_59) rfl (fun u_60 Ku_60 Hu_60 hRu_60 hleu_60 hfu_60 => ?_)
           obtain ⟨rfl, rfl, rfl, -⟩ := hRu_60
           refine ZD (hK _ _ _ (Hle.refl _) (kept0 [0] rfl) ?_)
           refine JB.val (i := 23) [] rfl (R.not rfl) ?_
           refine JB.val (i := 24) [] rfl (ZR rfl rfl) ?_
           refine JB.val (i := 25) [] rfl (Za rfl rfl) ?_
           refine JB.doneN (by kernel_rfl) ?_
           refine ZC (ZY rfl (fun c_61 => ?_) (fun c_61 => ?_))
           ·
            replace hx := ZP c_61 hx
            refine ZG (ZB (ZA rfl rfl (ZE rfl) (ZD (ZC (ZV ?_)))))
            obtain rfl := Option.some.inj hx
            clear hx; have hx := hxo_18
            simp only [Sum.elim_inl, Sum.elim_inr] at hx
            refine ZJ (ZJ (Zq (ZJ ?_)))
            obtain rfl := Zj hd_16 hx
            refine ZJ (Zq ?_)
            clear hx; have hx := hxo_11
            simp only [Sum.elim_inl, Sum.elim_inr] at hx
            refine ZJ (ZJ (ZO (vs := [.bool false]) (K := []) (rst := [_]) (.inl rfl) rfl rfl (ZN rfl rfl) ZL ?_))
            obtain rfl := Option.some.inj hx
            exact ⟨rfl, rfl, rfl, trivial⟩
           ·
            replace hx := ZQ c_61 hx
            refine JC.skip ?_
            obtain rfl := Option.some.inj hx
            exact ZW ⟨(), rfl, rfl, rfl, rfl⟩ ⟨rfl, rfl, trivial⟩ rfl rfl
          ·
           replace hx := ZQ c_35 hx
           refine JB.no (i := 11) rfl rfl rfl rfl rfl ?_
           refine JB.no (i := 12) rfl rfl rfl rfl rfl ?_
           refine JB.no (i := 13) rfl rfl rfl rfl rfl ?_
           refine JB.no (i := 14) rfl rfl rfl rfl rfl ?_
           refine JB.no (i := 15) rfl rfl rfl rfl rfl ?_
           refine JB.no (i := 16) rfl rfl rfl rfl rfl ?_
           refine JB.no (i := 17) rfl rfl rfl rfl rfl ?_
           refine JB.no (i := 18) rfl rfl rfl rfl rfl ?_
           refine JB.no (i := 19) rfl rfl rfl rfl rfl ?_
           refine JB.no (i := 20) rfl rfl rfl rfl rfl ?_
           refine JB.no (i := 21) rfl rfl rfl rfl rfl ?_
           refine JB.no (i := 22) rfl rfl rfl rfl rfl ?_
           refine JB.no (i := 23) rfl rfl rfl rfl rfl ?_
           refine JB.val (i := 24) [] rfl (Za rfl rfl) ?_
           refine JB.val (i := 25) [] rfl (Za rfl rfl) ?_
           refine JB.doneN (by kernel_rfl) ?_
           refine ZC (JC.condF rfl (JC.skip ?_))
           obtain rfl := Option.some.inj hx
           exact ZW ⟨(), rfl, rfl, rfl, rfl⟩ ⟨rfl, rfl, trivial⟩ rfl rfl
       ·
        replace hx := ZQ c_16 hx
        refine JC.exit (Zg ?_)
        obtain rfl := Zj hd_16 hx
        refine Zg (Zl (JN.forget 0 ?_))
        exact ZW ⟨(), rfl, rfl, rfl, rfl⟩ trivial rfl rfl

set_option maxHeartbeats 8000000 in
theorem ref01_Bytes_ok (p_1 : Int) (p_2 : Int) (H : Heaplet) (r : List UInt8) (hx : ref01_Bytes p_1 p_2 = some r) :
  Does Try.prog 47 #[.int .i64 p_1, .int .i64 p_2] [] H (fun u K' H' => ∃ ao0 : Option Addr, ∃ n0 : Nat, ∃ cap0 : Nat, ∃ K0 : Own, u = .slice ao0 n0 cap0 ∧ K' = [K0] ∧ H = H' ∧ RowOf (New H H) RU8 0 5 1 (.slice ao0 n0 cap0) r K0 ∧ (∀ p ∈ K0, p.1 ∉ ids (List.flatten [])) ∧ True) := by
 refine Does.enterL (vs := [.int .i64 p_1, .int .i64 p_2]) (l := [(0, .int .i64 p_1), (1, .int .i64 p_2)]) Try.func47 rfl rfl ⟨rfl, rfl, trivial⟩ (fun w hlt => ?_)
 unfold ref01_Bytes at hx
 refine ZG (ZB (ZA rfl rfl (ZE rfl) (ZD (ZC (ZG (ZB (ZA rfl rfl (ZH rfl) ?_)))))))
 obtain ⟨x_5, hm_4, hc_3, hx⟩ := mks_some hx
 refine JL.mkF (HF := New H H) (R := RU8) (y := (0 : UInt8)) (n := p_2) U23 I5 rfl rfl (fun _ => rfl) RU8.one hm_4 hc_3 rfl rfl (fun vr_6 Kr_6 hr_6 => ?_)
 obtain ⟨ar_6, cr_6, rfl⟩ := RowOf.val hr_6
 refine ZA rfl rfl (ZE rfl) (ZD (ZC (ZG (ZG (ZB (ZA rfl rfl (ZE rfl) (ZD (ZC ?_))))))))
 obtain ⟨t_7, ht_9, hx⟩ := ZM hx
 refine Zv (fun l o g => ∃ Kr_14 : Own, l = [(5, .slice ar_6 x_5.length cr_6)] ∧ o = [Kr_14] ∧ H = g ∧ RowOf (New H H) RU8 w.heap.size 5 1 (.slice ar_6 x_5.length cr_6) t_7 Kr_14) ?_ ?_
 ·
  rintro _ _ _ ⟨Kr_14, rfl, rfl, rfl, hr_14⟩
  refine ZC (ZG (ZB (ZA rfl rfl (ZH rfl) (ZA rfl rfl (ZE rfl) (ZD (ZC (ZV (ZO (vs := [.slice ar_6 x_5.length cr_6]) (K := [_]) (rst := []) (.inl rfl) rfl rfl (ZN rfl rfl) (ZS 0 rfl ZL) ?_))))))))
  obtain rfl := Option.some.inj hx
  exact ⟨ar_6, x_5.length, cr_6, Kr_14, rfl, rfl, rfl, (Zk (Nat.zero_le _) hr_14), (new_ids hr_14 hlt), trivial⟩
 ·
  have hxo_8 := hx; clear hx; have hx := ht_9; clear ht_9
  refine JC.block (JC.loopI (fun n l o g => ∃ s_10 : List UInt8 × Int, ∃ Kr_13 : Own, l = [(0, .int .i64 p_1), (1, .int .i64 p_2), (5, .slice ar_6 x_5.length cr_6), (6, .int .i64 s_10.2)] ∧ o = [Kr_13] ∧ H = g ∧ run (ref01_Bytes_l1 p_1 p_2) n s_10 = some t_7 ∧ RowOf (New H H) RU8 w.heap.size 5 1 (.slice ar_6 x_5.length cr_6) s_10.1 Kr_13) FUEL ?_ ⟨(x_5, 0), Kr_6, rfl, rfl, rfl, hx, hr_6⟩ ⟨rfl, rfl, rfl, rfl, trivial⟩ ?_)
  ·
   rintro _ _ _ ⟨s_10, Kr_13, rfl, rfl, rfl, hn_11, hr_13⟩
   exact run_zero hn_11
  ·
   rintro n_12 _ _ _ ⟨s_10, Kr_13, rfl, rfl, rfl, hn_11, hr_13⟩
   clear hx; obtain ⟨oo_15, hx, hd_14⟩ := run_some hn_11
   unfold ref01_Bytes_l1 at hx
   refine ZG (ZG (ZB (ZA rfl rfl (ZH rfl) (ZA rfl rfl (ZH rfl) (ZA rfl rfl (Zu rfl rfl) (ZD (ZC (ZY rfl (fun c_14 => ?_) (fun c_14 => ?_)))))))))
   ·
    replace hx := ZP c_14 hx
    refine JC.skip (ZC (ZG (JC.block (ZB (ZA rfl rfl (ZH rfl) (ZA rfl rfl (ZH rfl) (ZA rfl rfl (ZH rfl) (ZA rfl rfl (ZH rfl) ?_))))))))
    obtain ⟨x_15, hr_16, hx⟩ := ZM hx
    refine ZT (vs := [_]) (args := [_]) (K := []) (rst := [_]) E50 rfl rfl rfl ZL (ref01_Room_ok s_10.2 _ _ hr_16) rfl (fun u_17 Ku_17 Hu_17 hRu_17 hleu_17 hfu_17 => ?_)
    obtain ⟨rfl, rfl, rfl, -⟩ := hRu_17
    obtain ⟨hz_18, hx⟩ := chk_some hx
    refine ZA rfl rfl (R.quo_i rfl rfl hz_18) (ZA rfl rfl (R.rem_i rfl rfl (by decide)) (ZA rfl rfl (R.cv_i64_u8 U3 U5 rfl) ?_))
    obtain ⟨hp_19, hx⟩ := chk_some hx
    obtain ⟨b_20, o_21, hE_22⟩ := RowOf.place hr_13 hp_19
    refine ZA rfl rfl (R.ix U23 S5 rfl rfl hE_22) ?_
    obtain ⟨m_23, hm_24, hi_25, hx⟩ := setI_some hx
    refine JL.stE 0 (k := s_10.2) (y := (u8i ((w64 (p_1.tdiv x_15)).tmod 256))) S5 rfl hr_13 rfl hE_22 rfl rfl (rfl) RU8.one hm_24 (fun Kr_26 hr_26 hlr_26 => ZD (JN.blkN (ZC (ZB (ZA rfl rfl (ZH rfl) (ZA rfl rfl (R.add_i rfl rfl) (ZA rfl rfl (ZE rfl) (ZD ?_))))))))
    replace hx := run_next hd_14 hx
    exact ZW ⟨(m_23, w64 (s_10.2 + 1)), Kr_26, rfl, rfl, rfl, hx, hr_26⟩ ⟨rfl, rfl, rfl, rfl, trivial⟩ rfl rfl
   ·
    replace hx := ZQ c_14 hx
    refine JC.exit (Zg ?_)
    obtain rfl := Zj hd_14 hx
    refine Zg (Zl ?_)
    exact ZW ⟨Kr_13, rfl, rfl, rfl, hr_13⟩ ⟨rfl, trivial⟩ rfl rfl

set_option maxHeartbeats 8000000 in
theorem ref29_Text_ok (p_1 : Stream) (H : Heaplet) {aa_2 : Option Addr} {na_2 : Nat} {ca_2 : Nat} {aa_3 : Option Addr} {na_3 : Nat} {ca_3 : Nat} {aa_4 : Option Addr} {na_4 : Nat} {ca_4 : Nat} (ha_2 : IsSlice H RU8 1 (.slice aa_2 na_2 ca_2) p_1.Key) (ha_3 : IsSlice H R_Part 5 (.slice aa_3 na_3 ca_3) p_1.Parts) (ha_4 : IsSlice H RU8 1 (.slice aa_4 na_4 ca_4) p_1.Sign) (r : List UInt8) (hx : ref29_Text p_1 = some r) :
  Does Try.prog 24 #[.agg #[.int .u32 (p_1.Guid.toNat : Int), .int .u32 (p_1.Base.toNat : Int), .slice aa_2 na_2 ca_2, .slice aa_3 na_3 ca_3, .slice aa_4 na_4 ca_4]] [] H (fun u K' H' => ∃ ao0 : Option Addr, ∃ n0 : Nat, ∃ cap0 : Nat, ∃ K0 : Own, u = .slice ao0 n0 cap0 ∧ K' = [K0] ∧ H = H' ∧ RowOf (New H H) RU8 0 5 1 (.slice ao0 n0 cap0) r K0 ∧ (∀ p ∈ K0, p.1 ∉ ids (List.flatten [])) ∧ True) := by
 refine Does.enterL (vs := [.agg #[.int .u32 (p_1.Guid.toNat : Int), .int .u32 (p_1.Base.toNat : Int), .slice aa_2 na_2 ca_2, .slice aa_3 na_3 ca_3, .slice aa_4 na_4 ca_4]]) (l := [(0, .agg #[.int .u32 (p_1.Guid.toNat : Int), .int .u32 (p_1.Base.toNat : Int), .slice aa_2 na_2 ca_2, .slice aa_3 na_3 ca_3, .slice aa_4 na_4 ca_4])]) Try.func24 rfl rfl ⟨rfl, trivial⟩ (fun w hlt => ?_)
 unfold ref29_Text at hx
 refine ZG (ZB (JL.box rfl rfl (fun b_5 hb_5 => ZA rfl rfl (ZE rfl) (ZD (ZC (ZG (ZB (JL.bslF (HF := (New H H)) (R := RU8) (ls := [(83 : UInt8)]) (vs := [.int .u8 ((83 : UInt8).toNat : Int)]) U23 I5 rfl rfl (⟨_, _, rfl, rfl, rfl, rfl⟩) RU8.one rfl rfl rfl (by simp [maxLen]) rfl (fun vr_6 Kr_6 hr_6 => ?_)))))))))
 obtain ⟨ar_6, cr_6, rfl⟩ := RowOf.val hr_6
 refine ZA rfl rfl (ZE rfl) (ZD (ZC (ZG (ZB (ZA rfl rfl (ZH rfl) (ZA rfl rfl (Zf F26_0 rfl) (ZA rfl rfl (ZU 1 S22 rfl rfl rfl) (ZA rfl rfl (R.cv_u32_i64 (a := p_1.Guid) U22 U3 rfl) ?_))))))))
 obtain ⟨x_7, hr_8, hx⟩ := ZM hx
 refine ZT (vs := [_, _]) (args := [_, _]) (K := []) (rst := [_, _]) E47 rfl rfl rfl ZL (ref01_Bytes_ok (p_1.Guid.toNat : Int) 4 _ _ hr_8) rfl (fun u_9 Ku_9 Hu_9 hRu_9 hleu_9 hfu_9 => ?_)
 obtain ⟨ar_10, nr_10, cr_10, Kr_10, rfl, rfl, rfl, hr_10, hnewr_10, -⟩ := hRu_9
 replace hr_10 := (RowOf.base (ZX (H2 := New H H) RU8.const hr_10) (fun p hp => (hfu_9 p (Zr 0 rfl hp)).resolve_left (hnewr_10 p hp)))
 obtain ⟨q_11, hm_12, hl_13, hx⟩ := app_some hx
 refine JL.appF (HF := (New H H)) 1 U23 I5 rfl rfl hr_6 rfl (SrcF.row 0 U23 rfl hr_10) hm_12 hl_13 rfl (Nat.le_refl _) rfl (fun vr_14 Kr_14 hr_14 => ?_)
 obtain ⟨ar_14, cr_14, rfl⟩ := RowOf.val hr_14
 refine ZA rfl rfl (ZE rfl) (ZD (ZC (ZG (ZB (ZA rfl rfl (ZH rfl) (ZA rfl rfl (Zf F26_1 rfl) (ZA rfl rfl (ZU 2 S22 rfl rfl rfl) (ZA rfl rfl (R.cv_u32_i64 (a := p_1.Base) U22 U3 rfl) ?_))))))))
 obtain ⟨x_15, hr_16, hx⟩ := ZM hx
 refine ZT (vs := [_, _]) (args := [_, _]) (K := []) (rst := [_, _, _]) E47 rfl rfl rfl ZL (ref01_Bytes_ok (p_1.Base.toNat : Int) 4 _ _ hr_16) rfl (fun u_17 Ku_17 Hu_17 hRu_17 hleu_17 hfu_17 => ?_)
 obtain ⟨ar_18, nr_18, cr_18, Kr_18, rfl, rfl, rfl, hr_18, hnewr_18, -⟩ := hRu_17
 replace hr_18 := (RowOf.base (ZX (H2 := New H H) RU8.const hr_18) (fun p hp => (hfu_17 p (Zr 0 rfl hp)).resolve_left (hnewr_18 p hp)))
 obtain ⟨q_19, hm_20, hl_21, hx⟩ := app_some hx
 refine JL.appF (HF := (New H H)) 2 U23 I5 rfl rfl hr_14 rfl (SrcF.row 0 U23 rfl hr_18) hm_20 hl_21 rfl (Nat.le_refl _) rfl (fun vr_22 Kr_22 hr_22 => ?_)
 obtain ⟨ar_22, cr_22, rfl⟩ := RowOf.val hr_22
 refine ZA rfl rfl (ZE rfl) (ZD (ZC (ZG (ZB (ZA rfl rfl (ZH rfl) (ZA rfl rfl (Zf F26_2 rfl) (ZA rfl rfl (ZU 3 S23 rfl rfl rfl) ?_)))))))
 obtain ⟨q_23, hm_24, hl_25, hx⟩ := app_some hx
 refine JL.appF (HF := (New H H)) 2 U23 I5 rfl rfl hr_22 rfl (SrcF.sliceC RU8.const RU8.one U23 ha_2) hm_24 hl_25 rfl (Nat.le_refl _) rfl (fun vr_26 Kr_26 hr_26 => ?_)
 obtain ⟨ar_26, cr_26, rfl⟩ := RowOf.val hr_26
 refine ZA rfl rfl (ZE rfl) (ZD (ZC (ZG (ZB (ZA rfl rfl (ZH rfl) (ZA rfl rfl (Zf F26_3 rfl) (ZA rfl rfl (ZU 3 S24 rfl rfl rfl) (ZA rfl rfl (Zs U24 rfl (IsSlice.long ha_3)) ?_))))))))
 obtain ⟨x_27, hr_28, hx⟩ := ZM hx
 refine ZT (vs := [_, _]) (args := [_, _]) (K := []) (rst := [_, _, _, _]) E47 rfl rfl rfl ZL (ref01_Bytes_ok (p_1.Parts.length : Int) 2 _ _ hr_28) rfl (fun u_29 Ku_29 Hu_29 hRu_29 hleu_29 hfu_29 => ?_)
 obtain ⟨ar_30, nr_30, cr_30, Kr_30, rfl, rfl, rfl, hr_30, hnewr_30, -⟩ := hRu_29
 replace hr_30 := (RowOf.base (ZX (H2 := New H H) RU8.const hr_30) (fun p hp => (hfu_29 p (Zr 0 rfl hp)).resolve_left (hnewr_30 p hp)))
 obtain ⟨q_31, hm_32, hl_33, hx⟩ := app_some hx
 refine JL.appF (HF := (New H H)) 3 U23 I5 rfl rfl hr_26 rfl (SrcF.row 0 U23 rfl hr_30) hm_32 hl_33 rfl (Nat.le_refl _) rfl (fun vr_34 Kr_34 hr_34 => ?_)
 obtain ⟨ar_34, cr_34, rfl⟩ := RowOf.val hr_34
 refine ZA rfl rfl (ZE rfl) (ZD (ZC (ZG (ZG (ZB (ZA rfl rfl (ZE rfl) (ZD (ZC ?_))))))))
 obtain ⟨t_35, ht_37, hx⟩ := ZM hx
 refine Zv (fun l o g => ∃ ar_42 : Option Addr, ∃ nr_42 : Nat, ∃ cr_42 : Nat, ∃ Kr_42 : Own, l = [(3, .slice ar_42 nr_42 cr_42)] ∧ o = [Kr_42] ∧ H = g ∧ RowOf (New H H) RU8 w.heap.size 5 1 (.slice ar_42 nr_42 cr_42) t_35 Kr_42) ?_ ?_
 ·
  rintro _ _ _ ⟨ar_42, nr_42, cr_42, Kr_42, rfl, rfl, rfl, hr_42⟩
  refine ZC (ZG (ZB (ZA rfl rfl (ZH rfl) (ZA rfl rfl (ZE rfl) (ZD (ZC (ZV (ZO (vs := [.slice ar_42 nr_42 cr_42]) (K := [_]) (rst := []) (.inl rfl) rfl rfl (ZN rfl rfl) (ZS 0 rfl ZL) ?_))))))))
  obtain rfl := Option.some.inj hx
  exact ⟨ar_42, nr_42, cr_42, Kr_42, rfl, rfl, rfl, (Zk (Nat.zero_le _) hr_42), (new_ids hr_42 hlt), trivial⟩
 ·
  have hxo_36 := hx; clear hx; have hx := ht_37; clear ht_37
  refine JC.block (JC.forget 2 (JC.forget 1 (JC.forget 0 (JC.front 1 rfl (JC.loopI (fun n l o g => ∃ s_38 : List UInt8 × Nat, ∃ ar_41 : Option Addr, ∃ nr_41 : Nat, ∃ cr_41 : Nat, ∃ Kr_41 : Own, l = [(1, .pointer (some ⟨b_5, 0, none⟩)), (3, .slice ar_41 nr_41 cr_41), (4, .int .i64 ((s_38.2 : Nat) : Int))] ∧ o = [[(b_5, .cells #[.int .u32 (p_1.Guid.toNat : Int), .int .u32 (p_1.Base.toNat : Int), .slice aa_2 na_2 ca_2, .slice aa_3 na_3 ca_3, .slice aa_4 na_4 ca_4] 26 (0, 0))], Kr_41] ∧ H = g ∧ run (ref29_Text_l1 p_1) n s_38 = some t_35 ∧ RowOf (New H H) RU8 w.heap.size 5 1 (.slice ar_41 nr_41 cr_41) s_38.1 Kr_41) FUEL ?_ ⟨(q_31, 0), ar_34, q_31.length, cr_34, Kr_34, rfl, rfl, rfl, hx, hr_34⟩ ⟨rfl, rfl, rfl, trivial⟩ ?_)))))
  ·
   rintro _ _ _ ⟨s_38, ar_41, nr_41, cr_41, Kr_41, rfl, rfl, rfl, hn_39, hr_41⟩
   exact run_zero hn_39
  ·
   rintro n_40 _ _ _ ⟨s_38, ar_41, nr_41, cr_41, Kr_41, rfl, rfl, rfl, hn_39, hr_41⟩
   clear hx; obtain ⟨oo_43, hx, hd_42⟩ := run_some hn_39
   unfold ref29_Text_l1 at hx
   refine ZG (ZG (ZB (ZA rfl rfl (ZH rfl) (ZA rfl rfl (Zf F26_3 rfl) (ZA rfl rfl (ZU 0 S24 rfl rfl rfl) (ZA rfl rfl (Zs U24 rfl (IsSlice.long ha_3)) (ZA rfl rfl (Zu rfl rfl) (ZD (ZC (ZY rfl (fun c_42 => ?_) (fun c_42 => ?_)))))))))))
   ·
    replace hx := ZP c_42 hx
    refine JC.skip (ZC (ZG (JC.block (ZG (ZB (ZA rfl rfl (Zf F26_3 rfl) (ZA rfl rfl (ZU 0 S24 rfl rfl rfl) (ZA rfl rfl (ZH rfl) ?_))))))))
    obtain ⟨y_43, hN_44, hx⟩ := Zo hx
    obtain ⟨b_45, o_46, cs_47, hE_48, hR_49, hl_50, hc_51⟩ := IsSlice.elem ha_3 hN_44
    obtain ⟨v_52, rfl, hs_53⟩ := hR_49
    obtain ⟨av_52, cv_52, rfl⟩ := IsSlice.val hs_53
    refine ZA rfl rfl (R.ix U24 S39 rfl rfl hE_48) (ZA rfl rfl (R.ldHE (cs := [.int .i64 y_43.Obj, .int .i64 y_43.Index, .int .u32 (y_43.Iv.toNat : Int), .int .u32 (y_43.Tag.toNat : Int), .slice av_52 y_43.Data.length cv_52]) (k := 0) (vs := [.int .i64 y_43.Obj, .int .i64 y_43.Index, .int .u32 (y_43.Iv.toNat : Int), .int .u32 (y_43.Tag.toNat : Int), .slice av_52 y_43.Data.length cv_52]) S39 rfl hc_51 rfl rfl) (JL.alloc Z39 rfl (fun b_54 hb_54 => Zh 0 S39 rfl rfl rfl rfl rfl (Nat.le_of_ble_eq_true rfl) (ZD (ZC (ZG (ZB (ZA rfl rfl (ZH rfl) (ZA rfl rfl (Zf F39_0 rfl) (ZA rfl rfl (ZU 0 S3 rfl rfl rfl) (ZA rfl rfl (R.cv_i64_u8 U3 U5 rfl) ?_)))))))))))
    refine ZA rfl rfl (Zf F39_1 rfl) (ZA rfl rfl (ZU 0 S3 rfl rfl rfl) (ZA rfl rfl (R.cv_i64_u8 U3 U5 rfl) (JL.bslF (HF := (New H H)) (R := RU8) (ls := [u8i y_43.Obj, u8i y_43.Index]) (vs := [.int .u8 ((u8i y_43.Obj).toNat : Int), .int .u8 ((u8i y_43.Index).toNat : Int)]) U23 I5 rfl rfl (⟨_, _, rfl, rfl, rfl, ⟨_, _, rfl, rfl, rfl, rfl⟩⟩) RU8.one rfl rfl rfl (by simp [maxLen]) rfl (fun vr_55 Kr_55 hr_55 => ?_))))
    obtain ⟨ar_55, cr_55, rfl⟩ := RowOf.val hr_55
    obtain ⟨q_56, hm_57, hl_58, hx⟩ := app_some hx
    refine JL.appF (HF := (New H H)) 3 U23 I5 rfl rfl hr_41 rfl (SrcF.row 0 U23 rfl hr_55) hm_57 hl_58 rfl (Nat.le_refl _) rfl (fun vr_59 Kr_59 hr_59 => ?_)
    obtain ⟨ar_59, cr_59, rfl⟩ := RowOf.val hr_59
    refine ZA rfl rfl (ZE rfl) (ZD (ZC (ZG (ZB (ZA rfl rfl (ZH rfl) (ZA rfl rfl (Zf F39_2 rfl) (ZA rfl rfl (ZU 1 S22 rfl rfl rfl) (ZA rfl rfl (R.cv_u32_i64 (a := y_43.Iv) U22 U3 rfl) ?_))))))))
    obtain ⟨x_60, hr_61, hx⟩ := ZM hx
    refine ZT (vs := [_, _]) (args := [_, _]) (K := []) (rst := [_, _, _, _]) E47 rfl rfl rfl ZL (ref01_Bytes_ok (y_43.Iv.toNat : Int) 4 _ _ hr_61) rfl (fun u_62 Ku_62 Hu_62 hRu_62 hleu_62 hfu_62 => ?_)
    obtain ⟨ar_63, nr_63, cr_63, Kr_63, rfl, rfl, rfl, hr_63, hnewr_63, -⟩ := hRu_62
    replace hr_63 := (RowOf.base (ZX (H2 := New H H) RU8.const hr_63) (fun p hp => (hfu_62 p (Zr 0 rfl hp)).resolve_left (hnewr_63 p hp)))
    obtain ⟨q_64, hm_65, hl_66, hx⟩ := app_some hx
    refine JL.appF (HF := (New H H)) 4 U23 I5 rfl rfl hr_59 rfl (SrcF.row 0 U23 rfl hr_63) hm_65 hl_66 rfl (Nat.le_refl _) rfl (fun vr_67 Kr_67 hr_67 => ?_)
    obtain ⟨ar_67, cr_67, rfl⟩ := RowOf.val hr_67
    refine ZA rfl rfl (ZE rfl) (ZD (ZC (ZG (ZB (ZA rfl rfl (ZH rfl) (ZA rfl rfl (Zf F39_3 rfl) (ZA rfl rfl (ZU 2 S22 rfl rfl rfl) (ZA rfl rfl (R.cv_u32_i64 (a := y_43.Tag) U22 U3 rfl) ?_))))))))
    obtain ⟨x_68, hr_69, hx⟩ := ZM hx
    refine ZT (vs := [_, _]) (args := [_, _]) (K := []) (rst := [_, _, _, _, _]) E47 rfl rfl rfl ZL (ref01_Bytes_ok (y_43.Tag.toNat : Int) 4 _ _ hr_69) rfl (fun u_70 Ku_70 Hu_70 hRu_70 hleu_70 hfu_70 => ?_)
    obtain ⟨ar_71, nr_71, cr_71, Kr_71, rfl, rfl, rfl, hr_71, hnewr_71, -⟩ := hRu_70
    replace hr_71 := (RowOf.base (ZX (H2 := New H H) RU8.const hr_71) (fun p hp => (hfu_70 p (Zr 0 rfl hp)).resolve_left (hnewr_71 p hp)))
    obtain ⟨q_72, hm_73, hl_74, hx⟩ := app_some hx
    refine JL.appF (HF := (New H H)) 5 U23 I5 rfl rfl hr_67 rfl (SrcF.row 0 U23 rfl hr_71) hm_73 hl_74 rfl (Nat.le_refl _) rfl (fun vr_75 Kr_75 hr_75 => ?_)
    obtain ⟨ar_75, cr_75, rfl⟩ := RowOf.val hr_75
    refine ZA rfl rfl (ZE rfl) (ZD (ZC (ZG (ZB (ZA rfl rfl (ZH rfl) (ZA rfl rfl (Zf F39_4 rfl) (ZA rfl rfl (ZU 3 S23 rfl rfl rfl) (ZA rfl rfl (Zs U23 rfl (IsSlice.long hs_53)) ?_))))))))
    obtain ⟨x_76, hr_77, hx⟩ := ZM hx
    refine ZT (vs := [_, _]) (args := [_, _]) (K := []) (rst := [_, _, _, _, _, _]) E47 rfl rfl rfl ZL (ref01_Bytes_ok (y_43.Data.length : Int) 2 _ _ hr_77) rfl (fun u_78 Ku_78 Hu_78 hRu_78 hleu_78 hfu_78 => ?_)
    obtain ⟨ar_79, nr_79, cr_79, Kr_79, rfl, rfl, rfl, hr_79, hnewr_79, -⟩ := hRu_78
    replace hr_79 := (RowOf.base (ZX (H2 := New H H) RU8.const hr_79) (fun p hp => (hfu_78 p (Zr 0 rfl hp)).resolve_left (hnewr_79 p hp)))
    obtain ⟨q_80, hm_81, hl_82, hx⟩ := app_some hx
    refine JL.appF (HF := (New H H)) 6 U23 I5 rfl rfl hr_75 rfl (SrcF.row 0 U23 rfl hr_79) hm_81 hl_82 rfl (Nat.le_refl _) rfl (fun vr_83 Kr_83 hr_83 => ?_)
    obtain ⟨ar_83, cr_83, rfl⟩ := RowOf.val hr_83
    refine ZA rfl rfl (ZE rfl) (ZD (ZC (ZB (ZA rfl rfl (ZH rfl) (ZA rfl rfl (Zf F39_4 rfl) (ZA rfl rfl (ZU 4 S23 rfl rfl rfl) ?_))))))
    obtain ⟨q_84, hm_85, hl_86, hx⟩ := app_some hx
    refine JL.appF (HF := (New H H)) 6 U23 I5 rfl rfl hr_83 rfl (SrcF.sliceC RU8.const RU8.one U23 hs_53) hm_85 hl_86 rfl (Nat.le_refl _) rfl (fun vr_87 Kr_87 hr_87 => ?_)
    obtain ⟨ar_87, cr_87, rfl⟩ := RowOf.val hr_87
    refine ZA rfl rfl (ZE rfl) (ZD (JN.blkN (ZC (ZB (ZA rfl rfl (ZH rfl) (ZA rfl rfl (R.inc rfl rfl (of_decide_eq_true c_42) (IsSlice.lenI ha_3)) (ZA rfl rfl (ZE rfl) (ZD ?_))))))))
    replace hx := run_next hd_42 hx
    refine JN.forget 4 (JN.forget 3 (JN.forget 2 (JN.forget 1 (JN.forget 0 (ZK 1 rfl (ZK 1 rfl ?_))))))
    exact ZW ⟨(q_84, s_38.2 + 1), ar_87, q_84.length, cr_87, Kr_87, rfl, rfl, rfl, hx, hr_87⟩ ⟨rfl, rfl, rfl, trivial⟩ rfl rfl
   ·
    replace hx := ZQ c_42 hx
    refine JC.exit (Zg ?_)
    obtain rfl := Zj hd_42 hx
    refine Zg (Zl (JN.forget 0 ?_))
    exact ZW ⟨ar_41, nr_41, cr_41, Kr_41, rfl, rfl, rfl, hr_41⟩ ⟨rfl, trivial⟩ rfl rfl

set_option maxHeartbeats 8000000 in
theorem ref29_Write_ok (p_1 : Stream) (H : Heaplet) {aa_2 : Option Addr} {na_2 : Nat} {ca_2 : Nat} {aa_3 : Option Addr} {na_3 : Nat} {ca_3 : Nat} {aa_4 : Option Addr} {na_4 : Nat} {ca_4 : Nat} (ha_2 : IsSlice H RU8 1 (.slice aa_2 na_2 ca_2) p_1.Key) (ha_3 : IsSlice H R_Part 5 (.slice aa_3 na_3 ca_3) p_1.Parts) (ha_4 : IsSlice H RU8 1 (.slice aa_4 na_4 ca_4) p_1.Sign) (r : List UInt8 × Int) (hx : ref29_Write p_1 = some r) :
  Does Try.prog 7 #[.agg #[.int .u32 (p_1.Guid.toNat : Int), .int .u32 (p_1.Base.toNat : Int), .slice aa_2 na_2 ca_2, .slice aa_3 na_3 ca_3, .slice aa_4 na_4 ca_4]] [] H (fun u K' H' => ∃ ao0 : Option Addr, ∃ n0 : Nat, ∃ cap0 : Nat, ∃ K0 : Own, u = .tuple #[.slice ao0 n0 cap0, .int .i64 r.2] ∧ K' = [K0] ∧ H = H' ∧ RowOf (New H H) RU8 0 5 1 (.slice ao0 n0 cap0) r.1 K0 ∧ (∀ p ∈ K0, p.1 ∉ ids (List.flatten [])) ∧ True) := by
 refine Does.enterL (vs := [.agg #[.int .u32 (p_1.Guid.toNat : Int), .int .u32 (p_1.Base.toNat : Int), .slice aa_2 na_2 ca_2, .slice aa_3 na_3 ca_3, .slice aa_4 na_4 ca_4]]) (l := [(0, .agg #[.int .u32 (p_1.Guid.toNat : Int), .int .u32 (p_1.Base.toNat : Int), .slice aa_2 na_2 ca_2, .slice aa_3 na_3 ca_3, .slice aa_4 na_4 ca_4])]) Try.func7 rfl rfl ⟨rfl, trivial⟩ (fun w hlt => ?_)
 unfold ref29_Write at hx
 refine ZG (ZB (JL.box rfl rfl (fun b_5 hb_5 => ZA rfl rfl (ZE rfl) (ZA rfl rfl (ZE rfl) (ZD (ZC (ZG (ZG (ZB (ZA rfl rfl (R.ldoN 0 (vs := [.int .u32 (p_1.Guid.toNat : Int), .int .u32 (p_1.Base.toNat : Int), .slice aa_2 na_2 ca_2, .slice aa_3 na_3 ca_3, .slice aa_4 na_4 ca_4]) S26 rfl rfl rfl rfl) ?_))))))))))
 obtain ⟨x_6, hr_7, hx⟩ := ZM hx
 refine ZT (vs := [_]) (args := [_]) (K := []) (rst := [_]) E23 rfl rfl rfl ZL (ref29_May_ok p_1 _ ha_2 ha_3 ha_4 _ hr_7) rfl (fun u_8 Ku_8 Hu_8 hRu_8 hleu_8 hfu_8 => ?_)
 obtain ⟨rfl, rfl, rfl, -⟩ := hRu_8
 refine ZA rfl rfl (R.not rfl) (ZD (ZC (ZY rfl (fun c_9 => ?_) (fun c_9 => ?_))))
 ·
  replace hx := ZP c_9 hx
  refine ZG (ZB (ZA rfl rfl (ZE rfl) (ZA rfl rfl (ZE rfl) (ZD (ZC (ZV (ZJ (Zn (ZO (vs := [.slice none 0 0, .int .i64 8]) (K := [_]) (rst := [_]) (.inl rfl) rfl rfl (ZN rfl (ZN rfl rfl)) (ZS 0 rfl ZL) ?_)))))))))
  obtain rfl := Option.some.inj hx
  exact ⟨none, 0, 0, [], rfl, rfl, rfl, (Zc _ _ _ _ _), (fun p hp => by cases hp), trivial⟩
 ·
  replace hx := ZQ c_9 hx
  refine JC.skip (ZC (ZG (JC.drawB (so := [(_, [])]) 7 rfl Mixed ⟨by kernel_rfl, by kernel_rfl⟩ (kept0 [0] rfl) ?_)))
  refine JB.val (i := 0) [] rfl (R.ldoN 0 (vs := [.int .u32 (p_1.Guid.toNat : Int), .int .u32 (p_1.Base.toNat : Int), .slice aa_2 na_2 ca_2, .slice aa_3 na_3 ca_3, .slice aa_4 na_4 ca_4]) S26 rfl rfl rfl rfl) ?_
  refine JB.val (i := 2) [] rfl (Zf F26_4 rfl) ?_
  refine JB.val (i := 3) [] rfl (ZU 0 S23 rfl rfl rfl) ?_
  refine JB.one (i := 1) (by kernel_rfl) ?_
  refine JOB.step rfl trivial rfl (fun K hK => ?_)
  obtain ⟨x_10, hr_11, hx⟩ := ZM hx
  refine ZT (vs := [_]) (args := [_]) (K := []) (rst := [_]) E24 rfl rfl rfl ZL (ref29_Text_ok p_1 _ ha_2 ha_3 ha_4 _ hr_11) rfl (fun u_12 Ku_12 Hu_12 hRu_12 hleu_12 hfu_12 => ?_)
  obtain ⟨ar_13, nr_13, cr_13, Kr_13, rfl, rfl, rfl, hr_13, hnewr_13, -⟩ := hRu_12
  replace hr_13 := (RowOf.base (ZX (H2 := New H H) RU8.const hr_13) (fun p hp => (hfu_12 p (Zr 0 rfl hp)).resolve_left (hnewr_13 p hp)))
  refine ZD (hK _ _ _ (Hle.refl _) (kept0 [1] rfl) ?_)
  refine JB.one (i := 4) (by kernel_rfl) ?_
  refine JOB.step rfl trivial rfl (fun K hK => ?_)
  obtain ⟨q_14, hm_15, hl_16, hx⟩ := app_some hx
  refine JL.appF (HF := (New H H)) 0 U23 I5 rfl rfl hr_13 rfl (SrcF.sliceC RU8.const RU8.one U23 ha_4) hm_15 hl_16 rfl (Nat.le_refl _) rfl (fun vr_17 Kr_17 hr_17 => ?_)
  obtain ⟨ar_17, cr_17, rfl⟩ := RowOf.val hr_17
  refine ZD (hK _ _ _ (Hle.refl _) (kept0 [1] rfl) ?_)
  refine JB.val (i := 5) [] rfl (ZE rfl) ?_
  refine JB.val (i := 6) [] rfl (ZE rfl) ?_
  refine JB.doneN (by kernel_rfl) ?_
  refine ZC (ZV (ZO (vs := [.slice ar_17 q_14.length cr_17, .int .i64 0]) (K := [_]) (rst := [_]) (.inl rfl) rfl rfl (ZN rfl (ZN rfl rfl)) (ZS 0 rfl ZL) ?_))
  obtain rfl := Option.some.inj hx
  exact ⟨ar_17, q_14.length, cr_17, Kr_17, rfl, rfl, rfl, (Zk (Nat.zero_le _) hr_17), (new_ids hr_17 hlt), trivial⟩

theorem slices_Clone_byte_ok (p_1 : List UInt8) (H : Heaplet) {ao : Option Addr} {n cap : Nat} (hs : IsSlice H RU8 1 (.slice ao n cap) p_1) (r : List UInt8) (hx : slices_Clone_byte p_1 = some r) :
  Does Try.prog 26 #[.slice ao n cap] [] H (fun u K' H' => ∃ ao0 : Option Addr, ∃ n0 : Nat, ∃ cap0 : Nat, ∃ K0 : Own, u = .slice ao0 n0 cap0 ∧ K' = [K0] ∧ H = H' ∧ RowOf (New H H') RU8 0 5 1 (.slice ao0 n0 cap0) r K0 ∧ (∀ p ∈ K0, p.1 ∉ ids (List.flatten [])) ∧ True) := by
 rw [slices_Clone_byte.eq_1] at hx
 obtain ⟨q, hq, hl, hx⟩ := app_some hx
 obtain rfl := Option.some.inj hx
 refine Does.enter (vs := [.slice ao n cap]) (l := [(0, .slice ao n cap)]) Try.func26 rfl rfl ⟨rfl, trivial⟩ (fun w => ZG (ZB (ZA rfl rfl (ZE rfl) (ZD (ZC (ZG (ZG (ZB (ZA rfl rfl (ZH rfl) (ZA rfl rfl (R.eqlNil U23 rfl rfl) (ZD ?_)))))))))))
 refine ZC ?_
 cases ao with
 | none =>
  have hp := hs.none_nil
  subst hp
  simp only [List.append_nil] at hq
  subst hq
  refine Zm rfl (ZG (ZB (ZA rfl rfl (ZE rfl) (ZD (ZC (ZV (ZJ (Zn (ZO (vs := [.slice none 0 0]) (K := [_]) (rst := []) (.inl rfl) rfl rfl (ZN rfl rfl) (ZS 0 rfl ZL) ?_)))))))))
  exact ⟨none, 0, 0, [], rfl, rfl, rfl, Zc _ _ _ _ _, (fun p hp => by cases hp), trivial⟩
 | some a =>
  refine JC.condF rfl (JC.skip (ZC (ZG (ZB (JL.bslF (HF := New H H) (R := RU8) (ls := []) (vs := []) U23 I5 rfl rfl rfl RU8.one rfl rfl rfl (by simp [maxLen]) rfl (fun v1 K1 h1 => ?_))))))
  obtain ⟨ao1, cap1, rfl⟩ := RowOf.val h1
  refine ZA rfl rfl (ZH rfl) (JL.appF (HF := New H H) 0 U23 I5 rfl rfl h1 rfl (SrcF.sliceC RU8.const RU8.one U23 hs) hq hl rfl (Nat.le_refl _) rfl (fun v2 K2 h2 => ?_))
  obtain ⟨ao2, cap2, rfl⟩ := RowOf.val h2
  refine ZA rfl rfl (ZE rfl) (ZD (ZC (ZV (ZO (vs := [.slice ao2 _ cap2]) (K := [_]) (rst := []) (.inl rfl) rfl rfl (ZN rfl rfl) (ZS 0 rfl ZL) ?_))))
  exact ⟨_, _, _, _, rfl, rfl, rfl, Zk (Nat.zero_le _) h2, (fun p hp hm => by cases hm), trivial⟩

set_option maxHeartbeats 8000000 in
theorem send_Parse_1_ok (p_1 : Int) (p_3 : Bool) (p_5 : List UInt8) (p_8 : Int) (H : Heaplet) {b_2 : Nat} {b_4 : Nat} {aa_6 : Option Addr} {na_6 : Nat} {ca_6 : Nat} {b_7 : Nat} (ha_6 : IsSlice H RU8 1 (.slice aa_6 na_6 ca_6) p_5) (r : List UInt8 × Bool × List UInt8 × Int) (hx : send_Parse_1 p_1 p_3 p_5 p_8 = some r) :
  Does Try.prog 25 #[.int .i64 p_1, .pointer (some ⟨b_2, 0, none⟩), .pointer (some ⟨b_4, 0, none⟩), .pointer (some ⟨b_7, 0, none⟩)] [[(b_2, .cells #[.bool p_3] 4 (0, 0))], [(b_4, .cells #[.slice aa_6 na_6 ca_6] 23 (0, 0))], [(b_7, .cells #[.int .i64 p_8] 3 (0, 0))]] H (fun u K' H' => ∃ ao0 : Option Addr, ∃ n0 : Nat, ∃ cap0 : Nat, ∃ ao1 : Option Addr, ∃ n1 : Nat, ∃ cap1 : Nat, ∃ K1 : Own, u = .slice ao1 n1 cap1 ∧ K' = [[(b_2, .cells #[.bool r.2.1] 4 (0, 0))], [(b_4, .cells #[.slice ao0 n0 cap0] 23 (0, 0))], [(b_7, .cells #[.int .i64 r.2.2.2] 3 (0, 0))], K1] ∧ H = H' ∧ IsSlice H RU8 1 (.slice ao0 n0 cap0) r.2.2.1 ∧ RowOf (New H H) RU8 0 5 1 (.slice ao1 n1 cap1) r.1 K1 ∧ (∀ p ∈ K1, p.1 ∉ ids (List.flatten [[(b_2, .cells #[.bool p_3] 4 (0, 0))], [(b_4, .cells #[.slice aa_6 na_6 ca_6] 23 (0, 0))], [(b_7, .cells #[.int .i64 p_8] 3 (0, 0))]])) ∧ True) := by
 refine Does.enterL (vs := [.int .i64 p_1, .pointer (some ⟨b_2, 0, none⟩), .pointer (some ⟨b_4, 0, none⟩), .pointer (some ⟨b_7, 0, none⟩)]) (l := [(0, .int .i64 p_1), (1, .pointer (some ⟨b_2, 0, none⟩)), (2, .pointer (some ⟨b_4, 0, none⟩)), (3, .pointer (some ⟨b_7, 0, none⟩))]) Try.func25 rfl rfl ⟨rfl, rfl, rfl, rfl, trivial⟩ (fun w hlt => ?_)
 unfold send_Parse_1 at hx
 refine ZG (ZB (ZA rfl rfl (ZE rfl) (ZD (ZC (ZG (ZG ?_))))))
 obtain ⟨t_9, ht_11, hx⟩ := ZM hx
 refine Zv (fun l o g => l = [(0, .int .i64 p_1), (1, .pointer (some ⟨b_2, 0, none⟩)), (2, .pointer (some ⟨b_4, 0, none⟩)), (3, .pointer (some ⟨b_7, 0, none⟩))] ∧ o = [[(b_2, .cells #[.bool t_9] 4 (0, 0))], [(b_4, .cells #[.slice aa_6 na_6 ca_6] 23 (0, 0))], [(b_7, .cells #[.int .i64 p_8] 3 (0, 0))]] ∧ H = g) ?_ ?_
 ·
  rintro _ _ _ ⟨rfl, rfl, rfl⟩
  refine ZC (ZG (ZB (ZA rfl rfl (ZU 0 S4 rfl rfl rfl) (ZD (ZC (ZY rfl (fun c_13 => ?_) (fun c_13 => ?_)))))))
  ·
   replace hx := ZP c_13 hx
   refine ZG (ZB (ZA rfl rfl (ZE rfl) (ZD (ZC (ZV (ZJ (Zn (ZO (vs := [.slice none 0 0]) (K := [_, _, _, _]) (rst := []) (.inl rfl) rfl rfl (ZN rfl rfl) (ZS 1 rfl (ZS 1 rfl (ZS 1 rfl (ZS 0 rfl ZL)))) ?_))))))))
   obtain rfl := Option.some.inj hx
   exact ⟨aa_6, na_6, ca_6, none, 0, 0, [], rfl, rfl, rfl, ha_6, (Zc _ _ _ _ _), (fun p hp => by cases hp), trivial⟩
  ·
   replace hx := ZQ c_13 hx
   refine JC.skip (ZC (ZG (ZB (ZA rfl rfl (ZU 2 S3 rfl rfl rfl) (ZA rfl rfl (ZH rfl) (ZA rfl rfl (R.add_i rfl rfl) (Zh 2 S3 rfl rfl rfl rfl rfl (Nat.le_of_ble_eq_true rfl) (ZD (ZC (ZG (ZB ?_)))))))))))
   refine ZA rfl rfl (ZU 1 S23 rfl rfl rfl) (ZA rfl rfl (ZU 2 S3 rfl rfl rfl) (ZA rfl rfl (ZH rfl) (ZA rfl rfl (R.sub_i rfl rfl) (ZA rfl rfl (ZU 2 S3 rfl rfl rfl) ?_))))
   obtain ⟨m_14, hm_16, hb_15, hx⟩ := slc_some hx
   obtain ⟨vv_17, cv_17, h1v_17, h2v_17, h3v_17, hsv_17⟩ := IsSlice.cutv ha_6 hm_16 hb_15
   refine ZA rfl rfl (R.slc (cap := cv_17) (a := w64 ((w64 (p_8 + p_1)) - p_1)) (b := w64 (p_8 + p_1)) (c := (cv_17 : Int)) (m := p_5) (R := RU8) U23 S5 rfl ⟨_, rfl⟩ ⟨_, rfl⟩ (by obtain ⟨ao, n, e, _⟩ := h1v_17; exact ⟨ao, n, e, rfl⟩) ⟨hb_15.1, hb_15.2.1, h2v_17⟩ h3v_17 (.inl rfl)) ?_
   obtain ⟨av_17, cv_17', rfl⟩ := IsSlice.val hsv_17
   obtain ⟨x_18, hr_19, hx⟩ := ZM hx
   refine ZT (vs := [_]) (args := [_]) (K := []) (rst := [_, _, _]) E26 rfl rfl rfl ZL (slices_Clone_byte_ok m_14 _ hsv_17 _ hr_19) rfl (fun u_20 Ku_20 Hu_20 hRu_20 hleu_20 hfu_20 => ?_)
   obtain ⟨ar_21, nr_21, cr_21, Kr_21, rfl, rfl, rfl, hr_21, hnewr_21, -⟩ := hRu_20
   replace hr_21 := (RowOf.base (ZX (H2 := New H H) RU8.const hr_21) (fun p hp => (hfu_20 p (Zr 0 rfl hp)).resolve_left (hnewr_21 p hp)))
   refine ZA rfl rfl (ZE rfl) (ZD (ZC (ZV (ZO (vs := [.slice ar_21 nr_21 cr_21]) (K := [_, _, _, _]) (rst := []) (.inl rfl) rfl rfl (ZN rfl rfl) (ZS 1 rfl (ZS 1 rfl (ZS 1 rfl (ZS 0 rfl ZL)))) ?_))))
   obtain rfl := Option.some.inj hx
   exact ⟨aa_6, na_6, ca_6, ar_21, nr_21, cr_21, Kr_21, rfl, rfl, rfl, ha_6, (Zk (Nat.zero_le _) hr_21), (new_ids hr_21 hlt), trivial⟩
 ·
  have hxo_10 := hx; clear hx; have hx := ht_11; clear ht_11
  refine ZB (ZA rfl rfl (ZU 0 S4 rfl rfl rfl) (ZA rfl rfl (ZH rfl) (ZZ (t := 7) rfl (fun c_12 => ?_) (fun c_12 => ?_))))
  ·
   replace hx := ZP c_12 hx
   refine ZF rfl rfl rfl rfl rfl (ZF rfl rfl rfl rfl rfl (ZF rfl rfl rfl rfl rfl (ZF rfl rfl rfl rfl rfl (ZF rfl rfl rfl rfl rfl (ZF rfl rfl rfl rfl rfl (ZA rfl rfl (ZR rfl rfl) (Zh 0 S4 rfl rfl rfl rfl rfl (Nat.le_of_ble_eq_true rfl) (ZD ?_))))))))
   obtain rfl := Option.some.inj hx
   refine ZK 2 rfl (ZK 2 rfl (ZK 2 rfl ?_))
   exact ZW ⟨rfl, rfl, rfl⟩ ⟨rfl, rfl, rfl, rfl, trivial⟩ rfl rfl
  ·
   replace hx := ZQ c_12 hx
   refine ZI rfl rfl rfl (ZA rfl rfl (ZH rfl) (ZI rfl rfl rfl (ZA rfl rfl (ZU 1 S23 rfl rfl rfl) (ZI rfl rfl rfl (ZA rfl rfl (Zs U23 rfl (IsSlice.long ha_6)) (ZI rfl rfl rfl (ZA rfl rfl (ZU 2 S3 rfl rfl rfl) (ZI rfl rfl rfl (ZA rfl rfl (R.sub_i rfl rfl) (ZI rfl rfl rfl (ZA rfl rfl (R.gtr_i rfl rfl) ?_)))))))))))
   refine ZA rfl rfl (Za rfl rfl) (Zh 0 S4 rfl rfl rfl rfl rfl (Nat.le_of_ble_eq_true rfl) (ZD ?_))
   obtain rfl := Option.some.inj hx
   refine ZK 2 rfl (ZK 2 rfl (ZK 2 rfl ?_))
   exact ZW ⟨rfl, rfl, rfl⟩ ⟨rfl, rfl, rfl, rfl, trivial⟩ rfl rfl

set_option maxHeartbeats 8000000 in
theorem Zt (p_1 : Int) (p_4 : Bool) (p_6 : List UInt8) (p_9 : Int) (H : Heaplet) {b_2 : Nat} {b_3 : Nat} {b_5 : Nat} {aa_7 : Option Addr} {na_7 : Nat} {ca_7 : Nat} {b_8 : Nat} (ha_7 : IsSlice H RU8 1 (.slice aa_7 na_7 ca_7) p_6) (r : Int × Bool × List UInt8 × Int) (hx : send_Parse_2 p_1 p_4 p_6 p_9 = some r) :
  Does Try.prog 27 #[.int .i64 p_1, .pointer (some ⟨b_2, 0, none⟩)] [[(b_2, .cells #[.func (.func 25) #[] #[.pointer (some ⟨b_3, 0, none⟩), .pointer (some ⟨b_5, 0, none⟩), .pointer (some ⟨b_8, 0, none⟩)]] 64 (0, 0))], [(b_3, .cells #[.bool p_4] 4 (0, 0))], [(b_5, .cells #[.slice aa_7 na_7 ca_7] 23 (0, 0))], [(b_8, .cells #[.int .i64 p_9] 3 (0, 0))]] H (fun u K' H' => ∃ ao0 : Option Addr, ∃ n0 : Nat, ∃ cap0 : Nat, u = .int .i64 r.1 ∧ K' = [[(b_2, .cells #[.func (.func 25) #[] #[.pointer (some ⟨b_3, 0, none⟩), .pointer (some ⟨b_5, 0, none⟩), .pointer (some ⟨b_8, 0, none⟩)]] 64 (0, 0))], [(b_3, .cells #[.bool r.2.1] 4 (0, 0))], [(b_5, .cells #[.slice ao0 n0 cap0] 23 (0, 0))], [(b_8, .cells #[.int .i64 r.2.2.2] 3 (0, 0))]] ∧ H = H' ∧ IsSlice H RU8 1 (.slice ao0 n0 cap0) r.2.2.1 ∧ True) := by
 refine Does.enterL (vs := [.int .i64 p_1, .pointer (some ⟨b_2, 0, none⟩)]) (l := [(0, .int .i64 p_1), (1, .pointer (some ⟨b_2, 0, none⟩))]) Try.func27 rfl rfl ⟨rfl, rfl, trivial⟩ (fun w hlt => ?_)
 unfold send_Parse_2 at hx
 refine ZG (ZB (ZA rfl rfl (ZE rfl) (ZD (ZC (ZG (ZB (ZA rfl rfl (ZU 0 S64 rfl rfl rfl) (ZA rfl rfl (ZH rfl) ?_))))))))
 obtain ⟨x_10, hr_11, hx⟩ := ZM hx
 refine ZT (vs := [_]) (args := [_, _, _, _]) (K := [_, _, _]) (rst := [_]) E25 rfl rfl rfl (ZS 1 rfl (ZS 1 rfl (ZS 1 rfl ZL))) (send_Parse_1_ok p_1 p_4 p_6 p_9 _ ha_7 _ hr_11) rfl (fun u_12 Ku_12 Hu_12 hRu_12 hleu_12 hfu_12 => ?_)
 obtain ⟨az_13, nz_13, cz_13, ar_14, nr_14, cr_14, Kr_14, rfl, rfl, rfl, hz_13, hr_14, hnewr_14, -⟩ := hRu_12
 replace hr_14 := (RowOf.base (ZX (H2 := New H H) RU8.const hr_14) (fun p hp => (hfu_12 p (Zr 3 rfl hp)).resolve_left (hnewr_14 p hp)))
 refine ZA rfl rfl (ZH rfl) ?_
 obtain ⟨x_18, hr_19, hx⟩ := ZM hx
 refine JL.callL2 (vs := [_, _, _]) (v := .tuple #[.int .i64 x_18.1, .int .i64 x_18.2]) E28 rfl rfl (fun H_17 hle_16 hl_15 => Does.mono (code_Get_ok x_10.1 0 p_1 _ (Lent.row' 3 hl_15 RU8.mono hle_16 rfl (hr_14.old RU8.mono)) _ hr_19) (fun _ _ _ h => h.1)) rfl (ZA rfl rfl (ZH rfl) (ZA rfl rfl (R.extract rfl rfl) (ZA rfl rfl (R.extract rfl rfl) (ZA rfl rfl (ZE rfl) (ZA rfl rfl (ZE rfl) (ZD (ZC (ZG (ZB (ZA rfl rfl (ZH rfl) (ZA rfl rfl (ZE rfl) ?_)))))))))))
 refine ZD (ZC (ZV (ZO (vs := [.int .i64 x_18.1]) (K := [_, _, _, _]) (rst := [_]) (.inl rfl) rfl rfl (ZN rfl rfl) (ZS 4 rfl (ZS 0 rfl (ZS 0 rfl (ZS 0 rfl ZL)))) ?_)))
 obtain rfl := Option.some.inj hx
 exact ⟨az_13, nz_13, cz_13, rfl, rfl, rfl, hz_13, trivial⟩

set_option maxHeartbeats 8000000 in
theorem send_Parse_ok (p_1 : List UInt8) (H : Heaplet) {aa_2 : Option Addr} {na_2 : Nat} {ca_2 : Nat} (ha_2 : IsSlice H RU8 1 (.slice aa_2 na_2 ca_2) p_1) (r : Stream × Int) (hx : send_Parse p_1 = some r) :
  Does Try.prog 8 #[.slice aa_2 na_2 ca_2] [] H (fun u K' H' => ∃ ao0 : Option Addr, ∃ n0 : Nat, ∃ cap0 : Nat, ∃ K0 : Own, ∃ ao1 : Option Addr, ∃ n1 : Nat, ∃ cap1 : Nat, ∃ K1 : Own, ∃ ao2 : Option Addr, ∃ n2 : Nat, ∃ cap2 : Nat, ∃ K2 : Own, u = .tuple #[.agg #[.int .u32 (r.1.Guid.toNat : Int), .int .u32 (r.1.Base.toNat : Int), .slice ao0 n0 cap0, .slice ao1 n1 cap1, .slice ao2 n2 cap2], .int .i64 r.2] ∧ K' = [K0, K1, K2] ∧ RowOf (New H H') RU8 0 5 1 (.slice ao0 n0 cap0) r.1.Key K0 ∧ (∀ p ∈ K0, p.1 ∉ ids (List.flatten [])) ∧ RowOf (New H H') R_Part 0 39 5 (.slice ao1 n1 cap1) r.1.Parts K1 ∧ (∀ p ∈ K1, p.1 ∉ ids (List.flatten [])) ∧ RowOf (New H H') RU8 0 5 1 (.slice ao2 n2 cap2) r.1.Sign K2 ∧ (∀ p ∈ K2, p.1 ∉ ids (List.flatten [])) ∧ True) := by
 refine Does.enterL (vs := [.slice aa_2 na_2 ca_2]) (l := [(0, .slice aa_2 na_2 ca_2)]) Try.func8 rfl rfl ⟨rfl, trivial⟩ (fun w hlt => ?_)
 unfold send_Parse at hx
 refine ZG (ZB (JL.box rfl rfl (fun b_3 hb_3 => JL.alloc Z26 rfl (fun b_4 hb_4 => ZA rfl rfl (ZE rfl) (ZD (ZC (ZG (ZG (ZB (ZA rfl rfl (ZU 1 S23 rfl rfl rfl) (ZA rfl rfl (Zs U23 rfl (IsSlice.long ha_2)) ?_)))))))))))
 refine ZA rfl rfl (R.gtr_i rfl rfl) (ZD (ZC (ZY rfl (fun c_5 => ?_) (fun c_5 => ?_))))
 ·
  replace hx := ZP c_5 hx
  refine ZG (ZB (ZA rfl rfl (R.bldP (vs := []) (cs := [.int .u32 ((0 : UInt32).toNat : Int), .int .u32 ((0 : UInt32).toNat : Int), .slice none 0 0, .slice none 0 0, .slice none 0 0]) Z26 B26 rfl rfl rfl) (Zh 0 S26 rfl rfl rfl rfl rfl (Nat.le_of_ble_eq_true rfl) (ZA rfl rfl (ZE rfl) (ZD (ZC (ZV (ZJ (Zn (Zn (Zn ?_)))))))))))
  refine ZO (vs := [.agg #[.int .u32 ((0 : UInt32).toNat : Int), .int .u32 ((0 : UInt32).toNat : Int), .slice none 0 0, .slice none 0 0, .slice none 0 0], .int .i64 3]) (K := [_, _, _]) (rst := [_, _]) (.inl rfl) rfl rfl (Res.cellN 3 rfl rfl S26 (ZN rfl rfl)) (ZS 0 rfl (ZS 0 rfl (ZS 0 rfl ZL))) ?_
  obtain rfl := Option.some.inj hx
  exact ⟨none, 0, 0, [], none, 0, 0, [], none, 0, 0, [], rfl, rfl, (Zc _ _ _ _ _), (fun p hp => by cases hp), (Zc _ _ _ _ _), (fun p hp => by cases hp), (Zc _ _ _ _ _), (fun p hp => by cases hp), trivial⟩
 ·
  replace hx := ZQ c_5 hx
  refine JC.skip (ZC (ZG (ZB (JL.alloc Z3 rfl (fun b_6 hb_6 => JL.alloc Z4 rfl (fun b_7 hb_7 => Zh 1 S3 rfl rfl rfl rfl rfl (Nat.le_of_ble_eq_true rfl) (Zh 0 S4 rfl rfl rfl rfl rfl (Nat.le_of_ble_eq_true rfl) (ZD (ZC (ZG (ZB ?_)))))))))))
  refine ZA rfl rfl (R.func (vf := []) (vc := [_, _, _]) rfl rfl) (JL.alloc Z64 rfl (fun b_8 hb_8 => Zh 0 S64 rfl rfl rfl rfl rfl (Nat.le_of_ble_eq_true rfl) (ZD (ZC (ZG (ZB (ZA rfl rfl (R.func (vf := []) (vc := [_]) rfl rfl) (ZA rfl rfl (ZE rfl) (ZD (ZC (ZG ?_)))))))))))
  refine ZB (ZA rfl rfl (ZH rfl) ?_)
  obtain ⟨x_9, hr_10, hx⟩ := ZM hx
  refine ZT (vs := [_]) (args := [_, _]) (K := [_, _, _, _]) (rst := [_]) E27 rfl rfl rfl (ZS 0 rfl (ZS 0 rfl (ZS 2 rfl (ZS 0 rfl ZL)))) (Zt 1 false p_1 0 _ ha_2 _ hr_10) rfl (fun u_11 Ku_11 Hu_11 hRu_11 hleu_11 hfu_11 => ?_)
  obtain ⟨az_12, nz_12, cz_12, rfl, rfl, rfl, hz_12, -⟩ := hRu_11
  refine ZA rfl rfl (ZE rfl) (ZD (ZC (ZG ?_)))
  obtain ⟨t_13, ht_15, hx⟩ := ZM hx
  refine Zv (fun l o g => ∃ az_55 : Option Addr, ∃ nz_55 : Nat, ∃ cz_55 : Nat, ∃ b_56 : Nat, ∃ ar_57 : Option Addr, ∃ nr_57 : Nat, ∃ cr_57 : Nat, ∃ Kr_57 : Own, l = [(1, .pointer (some ⟨b_3, 0, none⟩)), (2, .pointer (some ⟨b_4, 0, none⟩)), (4, .pointer (some ⟨b_6, 0, none⟩)), (5, .pointer (some ⟨b_7, 0, none⟩)), (6, .pointer (some ⟨b_8, 0, none⟩)), (7, .func (.func 27) #[] #[.pointer (some ⟨b_8, 0, none⟩)]), (8, .int .i64 x_9.1), (9, .pointer (some ⟨b_56, 0, none⟩))] ∧ o = [[(b_3, .cells #[.slice az_55 nz_55 cz_55] 23 (0, 0))], [(b_4, .cells #[.int .u32 ((0 : UInt32).toNat : Int), .int .u32 ((0 : UInt32).toNat : Int), .slice none 0 0, .slice none 0 0, .slice none 0 0] 26 (0, 0))], [(b_6, .cells #[.int .i64 t_13.2.1] 3 (0, 0))], [(b_7, .cells #[.bool t_13.2.2.1] 4 (0, 0))], [(b_8, .cells #[.func (.func 25) #[] #[.pointer (some ⟨b_7, 0, none⟩), .pointer (some ⟨b_3, 0, none⟩), .pointer (some ⟨b_6, 0, none⟩)]] 64 (0, 0))], [(b_56, .cells #[.int .u32 (t_13.2.2.2.1.toNat : Int), .int .u32 (t_13.2.2.2.2.1.toNat : Int), .slice ar_57 nr_57 cr_57, .slice none 0 0, .slice none 0 0] 26 (0, 0))], Kr_57] ∧ H = g ∧ IsSlice H RU8 1 (.slice az_55 nz_55 cz_55) t_13.1 ∧ w.heap.size ≤ b_56 ∧ RowOf (New H H) RU8 w.heap.size 5 1 (.slice ar_57 nr_57 cr_57) t_13.2.2.2.2.2 Kr_57) ?_ ?_
  ·
   rintro _ _ _ ⟨az_55, nz_55, cz_55, b_56, ar_57, nr_57, cr_57, Kr_57, rfl, rfl, rfl, hz_55, hb_56, hr_57⟩
   refine ZC (ZG (ZB (ZA rfl rfl (ZH rfl) ?_)))
   obtain ⟨x_58, hr_59, hx⟩ := ZM hx
   refine ZT (vs := [_]) (args := [_, _]) (K := [_, _, _, _]) (rst := [_, _, _]) E27 rfl rfl rfl (ZS 4 rfl (ZS 3 rfl (ZS 0 rfl (ZS 1 rfl ZL)))) (Zt 2 t_13.2.2.1 t_13.1 t_13.2.1 _ hz_55 _ hr_59) rfl (fun u_60 Ku_60 Hu_60 hRu_60 hleu_60 hfu_60 => ?_)
   obtain ⟨az_61, nz_61, cz_61, rfl, rfl, rfl, hz_61, -⟩ := hRu_60
   refine ZA rfl rfl (ZE rfl) (ZD (ZC (ZG (ZG (ZB (ZA rfl rfl (ZE rfl) (ZD (ZC ?_))))))))
   obtain ⟨t_62, ht_64, hx⟩ := ZM hx
   refine Zv (fun l o g => ∃ H_71 : Heaplet, ∃ az_72 : Option Addr, ∃ nz_72 : Nat, ∃ cz_72 : Nat, ∃ ar_73 : Option Addr, ∃ nr_73 : Nat, ∃ cr_73 : Nat, ∃ Kr_73 : Own, l = [(1, .pointer (some ⟨b_3, 0, none⟩)), (2, .pointer (some ⟨b_4, 0, none⟩)), (4, .pointer (some ⟨b_6, 0, none⟩)), (5, .pointer (some ⟨b_7, 0, none⟩)), (6, .pointer (some ⟨b_8, 0, none⟩)), (8, .int .i64 x_9.1), (9, .pointer (some ⟨b_56, 0, none⟩)), (10, .int .i64 x_58.1)] ∧ o = [[(b_3, .cells #[.slice az_72 nz_72 cz_72] 23 (0, 0))], [(b_4, .cells #[.int .u32 ((0 : UInt32).toNat : Int), .int .u32 ((0 : UInt32).toNat : Int), .slice none 0 0, .slice none 0 0, .slice none 0 0] 26 (0, 0))], [(b_6, .cells #[.int .i64 t_62.2.1] 3 (0, 0))], [(b_7, .cells #[.bool t_62.2.2.1] 4 (0, 0))], [(b_8, .cells #[.func (.func 25) #[] #[.pointer (some ⟨b_7, 0, none⟩), .pointer (some ⟨b_3, 0, none⟩), .pointer (some ⟨b_6, 0, none⟩)]] 64 (0, 0))], [(b_56, .cells #[.int .u32 (t_13.2.2.2.1.toNat : Int), .int .u32 (t_13.2.2.2.2.1.toNat : Int), .slice ar_57 nr_57 cr_57, .slice ar_73 nr_73 cr_73, .slice none 0 0] 26 (0, 0))], Kr_57, Kr_73] ∧ H_71 = g ∧ Hle H H_71 ∧ IsSlice H_71 RU8 1 (.slice az_72 nz_72 cz_72) t_62.1 ∧ RowOf (New H H_71) R_Part w.heap.size 39 5 (.slice ar_73 nr_73 cr_73) t_62.2.2.2 Kr_73) ?_ ?_
   ·
    rintro _ _ _ ⟨H_71, az_72, nz_72, cz_72, ar_73, nr_73, cr_73, Kr_73, rfl, rfl, rfl, hleH_71, hz_72, hr_73⟩
    refine ZC (ZG (ZB (ZA rfl rfl (ZU 4 S64 rfl rfl rfl) ?_)))
    obtain ⟨x_74, hr_75, hx⟩ := ZM hx
    refine ZT (vs := [_]) (args := [_, _, _, _]) (K := [_, _, _]) (rst := [_, _, _, _, _]) E25 rfl rfl rfl (ZS 3 rfl (ZS 0 rfl (ZS 1 rfl ZL))) (send_Parse_1_ok 209 t_62.2.2.1 t_62.1 t_62.2.1 _ hz_72 _ hr_75) rfl (fun u_76 Ku_76 Hu_76 hRu_76 hleu_76 hfu_76 => ?_)
    obtain ⟨az_77, nz_77, cz_77, ar_78, nr_78, cr_78, Kr_78, rfl, rfl, rfl, hz_77, hr_78, hnewr_78, -⟩ := hRu_76
    replace hr_78 := (RowOf.base (ZX (H2 := New H H_71) RU8.const hr_78) (fun p hp => (hfu_76 p (Zr 3 rfl hp)).resolve_left (hnewr_78 p hp)))
    refine ZA rfl rfl (Zf F26_4 rfl) (Zh 6 S23 rfl rfl rfl rfl rfl (Nat.le_of_ble_eq_true rfl) (ZD (ZC (ZG (ZG (ZB (ZA rfl rfl (ZU 0 S4 rfl rfl rfl) (ZA rfl rfl (ZH rfl) (ZZ (t := 71) rfl (fun c_79 => ?_) (fun c_79 => ?_))))))))))
    ·
     replace hx := ZP c_79 hx
     refine ZF rfl rfl rfl rfl rfl (ZF rfl rfl rfl rfl rfl (ZA rfl rfl (ZR rfl rfl) (ZA rfl rfl (ZH rfl) (ZF rfl rfl rfl rfl rfl (ZF rfl rfl rfl rfl rfl (ZF rfl rfl rfl rfl rfl (ZF rfl rfl rfl rfl rfl (ZF rfl rfl rfl rfl rfl (ZA rfl rfl (ZR rfl rfl) (ZA rfl rfl (ZH rfl) (ZF rfl rfl rfl rfl rfl ?_)))))))))))
     refine ZF rfl rfl rfl rfl rfl (ZF rfl rfl rfl rfl rfl (ZF rfl rfl rfl rfl rfl (ZA rfl rfl (ZR rfl rfl) (ZA rfl rfl (ZH rfl) (ZF rfl rfl rfl rfl rfl (ZF rfl rfl rfl rfl rfl (ZF rfl rfl rfl rfl rfl (ZA rfl rfl (ZR rfl rfl) (ZD (ZC (Zm rfl ?_)))))))))))
     refine ZG (ZB (ZA rfl rfl (R.bldP (vs := []) (cs := [.int .u32 ((0 : UInt32).toNat : Int), .int .u32 ((0 : UInt32).toNat : Int), .slice none 0 0, .slice none 0 0, .slice none 0 0]) Z26 B26 rfl rfl rfl) (Zh 4 S26 rfl rfl rfl rfl rfl (Nat.le_of_ble_eq_true rfl) (ZA rfl rfl (ZE rfl) (ZD (ZC (ZV (ZJ (Zn (Zn (Zn ?_)))))))))))
     refine ZO (vs := [.agg #[.int .u32 ((0 : UInt32).toNat : Int), .int .u32 ((0 : UInt32).toNat : Int), .slice none 0 0, .slice none 0 0, .slice none 0 0], .int .i64 8]) (K := [_, _, _]) (rst := [_, _, _, _, _, _, _, _, _]) (.inl rfl) rfl rfl (Res.cellN 7 rfl rfl S26 (ZN rfl rfl)) (ZS 0 rfl (ZS 0 rfl (ZS 0 rfl ZL))) ?_
     obtain rfl := Option.some.inj hx
     exact ⟨none, 0, 0, [], none, 0, 0, [], none, 0, 0, [], rfl, rfl, (Zc _ _ _ _ _), (fun p hp => by cases hp), (Zc _ _ _ _ _), (fun p hp => by cases hp), (Zc _ _ _ _ _), (fun p hp => by cases hp), trivial⟩
    ·
     replace hx := ZQ c_79 hx
     refine ZI rfl rfl rfl (ZA rfl rfl (ZH rfl) (ZI rfl rfl rfl (ZA rfl rfl (R.neq_i rfl rfl) (ZA rfl rfl (Za rfl rfl) (ZA rfl rfl (ZH rfl) (ZZ (t := 75) rfl (fun c_80 => ?_) (fun c_80 => ?_)))))))
     ·
      replace hx := ZP c_80 hx
      refine ZF rfl rfl rfl rfl rfl (ZF rfl rfl rfl rfl rfl (ZF rfl rfl rfl rfl rfl (ZF rfl rfl rfl rfl rfl (ZF rfl rfl rfl rfl rfl (ZA rfl rfl (ZR rfl rfl) (ZA rfl rfl (ZH rfl) (ZF rfl rfl rfl rfl rfl (ZF rfl rfl rfl rfl rfl (ZF rfl rfl rfl rfl rfl (ZF rfl rfl rfl rfl rfl (ZA rfl rfl (ZR rfl rfl) ?_)))))))))))
      refine ZA rfl rfl (ZH rfl) (ZF rfl rfl rfl rfl rfl (ZF rfl rfl rfl rfl rfl (ZF rfl rfl rfl rfl rfl (ZA rfl rfl (ZR rfl rfl) (ZD (ZC (Zm rfl (ZG (ZB (ZA rfl rfl (R.bldP (vs := []) (cs := [.int .u32 ((0 : UInt32).toNat : Int), .int .u32 ((0 : UInt32).toNat : Int), .slice none 0 0, .slice none 0 0, .slice none 0 0]) Z26 B26 rfl rfl rfl) (Zh 4 S26 rfl rfl rfl rfl rfl (Nat.le_of_ble_eq_true rfl) ?_)))))))))))
      refine ZA rfl rfl (ZE rfl) (ZD (ZC (ZV (ZJ (Zn (Zn (Zn (ZO (vs := [.agg #[.int .u32 ((0 : UInt32).toNat : Int), .int .u32 ((0 : UInt32).toNat : Int), .slice none 0 0, .slice none 0 0, .slice none 0 0], .int .i64 8]) (K := [_, _, _]) (rst := [_, _, _, _, _, _, _, _, _]) (.inl rfl) rfl rfl (Res.cellN 7 rfl rfl S26 (ZN rfl rfl)) (ZS 0 rfl (ZS 0 rfl (ZS 0 rfl ZL))) ?_))))))))
      obtain rfl := Option.some.inj hx
      exact ⟨none, 0, 0, [], none, 0, 0, [], none, 0, 0, [], rfl, rfl, (Zc _ _ _ _ _), (fun p hp => by cases hp), (Zc _ _ _ _ _), (fun p hp => by cases hp), (Zc _ _ _ _ _), (fun p hp => by cases hp), trivial⟩
     ·
      replace hx := ZQ c_80 hx
      refine ZI rfl rfl rfl (ZA rfl rfl (ZH rfl) (ZI rfl rfl rfl (ZA rfl rfl (Zf F26_3 rfl) (ZI rfl rfl rfl (ZA rfl rfl (ZU 6 S24 rfl rfl rfl) (ZI rfl rfl rfl (ZA rfl rfl (Zs U24 rfl (RowOf.long hr_73)) (ZI rfl rfl rfl (ZA rfl rfl (R.neq_i rfl rfl) (ZA rfl rfl (Za rfl rfl) (ZA rfl rfl (ZH rfl) ?_)))))))))))
      refine ZZ (t := 82) rfl (fun c_81 => ?_) (fun c_81 => ?_)
      ·
       replace hx := ZP c_81 hx
       refine ZF rfl rfl rfl rfl rfl (ZF rfl rfl rfl rfl rfl (ZF rfl rfl rfl rfl rfl (ZF rfl rfl rfl rfl rfl (ZA rfl rfl (ZR rfl rfl) (ZA rfl rfl (ZH rfl) (ZF rfl rfl rfl rfl rfl (ZF rfl rfl rfl rfl rfl (ZF rfl rfl rfl rfl rfl (ZA rfl rfl (ZR rfl rfl) (ZD (ZC ?_)))))))))))
       refine Zm rfl (ZG (ZB (ZA rfl rfl (R.bldP (vs := []) (cs := [.int .u32 ((0 : UInt32).toNat : Int), .int .u32 ((0 : UInt32).toNat : Int), .slice none 0 0, .slice none 0 0, .slice none 0 0]) Z26 B26 rfl rfl rfl) (Zh 4 S26 rfl rfl rfl rfl rfl (Nat.le_of_ble_eq_true rfl) (ZA rfl rfl (ZE rfl) (ZD (ZC (ZV (ZJ (Zn (Zn ?_)))))))))))
       refine Zn (ZO (vs := [.agg #[.int .u32 ((0 : UInt32).toNat : Int), .int .u32 ((0 : UInt32).toNat : Int), .slice none 0 0, .slice none 0 0, .slice none 0 0], .int .i64 8]) (K := [_, _, _]) (rst := [_, _, _, _, _, _, _, _, _]) (.inl rfl) rfl rfl (Res.cellN 7 rfl rfl S26 (ZN rfl rfl)) (ZS 0 rfl (ZS 0 rfl (ZS 0 rfl ZL))) ?_)
       obtain rfl := Option.some.inj hx
       exact ⟨none, 0, 0, [], none, 0, 0, [], none, 0, 0, [], rfl, rfl, (Zc _ _ _ _ _), (fun p hp => by cases hp), (Zc _ _ _ _ _), (fun p hp => by cases hp), (Zc _ _ _ _ _), (fun p hp => by cases hp), trivial⟩
      ·
       replace hx := ZQ c_81 hx
       refine ZI rfl rfl rfl (ZA rfl rfl (ZU 2 S3 rfl rfl rfl) (ZI rfl rfl rfl (ZA rfl rfl (ZU 1 S23 rfl rfl rfl) (ZI rfl rfl rfl (ZA rfl rfl (Zs U23 rfl (IsSlice.long hz_77)) (ZI rfl rfl rfl (ZA rfl rfl (R.neq_i rfl rfl) (ZA rfl rfl (Za rfl rfl) (ZA rfl rfl (ZH rfl) (ZZ (t := 88) rfl (fun c_82 => ?_) (fun c_82 => ?_)))))))))))
       ·
        replace hx := ZP c_82 hx
        refine ZF rfl rfl rfl rfl rfl (ZF rfl rfl rfl rfl rfl (ZF rfl rfl rfl rfl rfl (ZA rfl rfl (ZR rfl rfl) (ZD (ZC (Zm rfl (ZG (ZB (ZA rfl rfl (R.bldP (vs := []) (cs := [.int .u32 ((0 : UInt32).toNat : Int), .int .u32 ((0 : UInt32).toNat : Int), .slice none 0 0, .slice none 0 0, .slice none 0 0]) Z26 B26 rfl rfl rfl) (Zh 4 S26 rfl rfl rfl rfl rfl (Nat.le_of_ble_eq_true rfl) (ZA rfl rfl (ZE rfl) ?_)))))))))))
        refine ZD (ZC (ZV (ZJ (Zn (Zn (Zn (ZO (vs := [.agg #[.int .u32 ((0 : UInt32).toNat : Int), .int .u32 ((0 : UInt32).toNat : Int), .slice none 0 0, .slice none 0 0, .slice none 0 0], .int .i64 8]) (K := [_, _, _]) (rst := [_, _, _, _, _, _, _, _, _]) (.inl rfl) rfl rfl (Res.cellN 7 rfl rfl S26 (ZN rfl rfl)) (ZS 0 rfl (ZS 0 rfl (ZS 0 rfl ZL))) ?_)))))))
        obtain rfl := Option.some.inj hx
        exact ⟨none, 0, 0, [], none, 0, 0, [], none, 0, 0, [], rfl, rfl, (Zc _ _ _ _ _), (fun p hp => by cases hp), (Zc _ _ _ _ _), (fun p hp => by cases hp), (Zc _ _ _ _ _), (fun p hp => by cases hp), trivial⟩
       ·
        replace hx := ZQ c_82 hx
        refine ZI rfl rfl rfl (ZA rfl rfl (R.ldoN 6 (vs := [.int .u32 (t_13.2.2.2.1.toNat : Int), .int .u32 (t_13.2.2.2.2.1.toNat : Int), .slice ar_57 nr_57 cr_57, .slice ar_73 nr_73 cr_73, .slice ar_78 nr_78 cr_78]) S26 rfl rfl rfl rfl) (ZI rfl rfl rfl ?_))
        obtain ⟨x_86, hr_87, hx⟩ := ZM hx
        refine JL.callL2 (vs := [_]) (v := .bool x_86) E21 rfl rfl (fun H_85 hle_84 hl_83 => Does.mono (send_may_ok (Stream.mk t_13.2.2.2.1 t_13.2.2.2.2.1 t_13.2.2.2.2.2 t_62.2.2.2 x_74.1) _ (Lent.row' 7 hl_83 RU8.mono hle_84 rfl ((hr_57.mono RU8.mono (New.mono hleH_71)).old RU8.mono)) (Lent.row' 8 hl_83 R_Part.mono hle_84 rfl (hr_73.old R_Part.mono)) (Lent.row' 3 hl_83 RU8.mono hle_84 rfl (hr_78.old RU8.mono)) _ hr_87) (fun _ _ _ h => h.1)) rfl (ZI rfl rfl rfl (ZA rfl rfl (R.not rfl) (ZA rfl rfl (Za rfl rfl) (ZD (ZC (ZY rfl (fun c_88 => ?_) (fun c_88 => ?_)))))))
        ·
         replace hx := ZP c_88 hx
         refine ZG (ZB (ZA rfl rfl (R.bldP (vs := []) (cs := [.int .u32 ((0 : UInt32).toNat : Int), .int .u32 ((0 : UInt32).toNat : Int), .slice none 0 0, .slice none 0 0, .slice none 0 0]) Z26 B26 rfl rfl rfl) (Zh 4 S26 rfl rfl rfl rfl rfl (Nat.le_of_ble_eq_true rfl) (ZA rfl rfl (ZE rfl) (ZD (ZC (ZV (ZJ (Zn (Zn (Zn ?_)))))))))))
         refine ZO (vs := [.agg #[.int .u32 ((0 : UInt32).toNat : Int), .int .u32 ((0 : UInt32).toNat : Int), .slice none 0 0, .slice none 0 0, .slice none 0 0], .int .i64 8]) (K := [_, _, _]) (rst := [_, _, _, _, _, _, _, _, _]) (.inl rfl) rfl rfl (Res.cellN 7 rfl rfl S26 (ZN rfl rfl)) (ZS 0 rfl (ZS 0 rfl (ZS 0 rfl ZL))) ?_
         obtain rfl := Option.some.inj hx
         exact ⟨none, 0, 0, [], none, 0, 0, [], none, 0, 0, [], rfl, rfl, (Zc _ _ _ _ _), (fun p hp => by cases hp), (Zc _ _ _ _ _), (fun p hp => by cases hp), (Zc _ _ _ _ _), (fun p hp => by cases hp), trivial⟩
        ·
         replace hx := ZQ c_88 hx
         refine JC.skip (ZC (ZG (ZB (ZA rfl rfl (R.ldoN 6 (vs := [.int .u32 (t_13.2.2.2.1.toNat : Int), .int .u32 (t_13.2.2.2.2.1.toNat : Int), .slice ar_57 nr_57 cr_57, .slice ar_73 nr_73 cr_73, .slice ar_78 nr_78 cr_78]) S26 rfl rfl rfl rfl) (Zh 4 S26 rfl rfl rfl rfl rfl (Nat.le_of_ble_eq_true rfl) (ZA rfl rfl (ZE rfl) (ZD (ZC (ZV (ZO (vs := [.agg #[.int .u32 (t_13.2.2.2.1.toNat : Int), .int .u32 (t_13.2.2.2.2.1.toNat : Int), .slice ar_57 nr_57 cr_57, .slice ar_73 nr_73 cr_73, .slice ar_78 nr_78 cr_78], .int .i64 0]) (K := [_, _, _]) (rst := [_, _, _, _, _, _]) (.inl rfl) rfl rfl (Res.cellN 4 rfl rfl S26 (ZN rfl rfl)) (ZS 7 rfl (ZS 7 rfl (ZS 3 rfl ZL))) ?_))))))))))
         obtain rfl := Option.some.inj hx
         exact ⟨ar_57, nr_57, cr_57, Kr_57, ar_73, nr_73, cr_73, Kr_73, ar_78, nr_78, cr_78, Kr_78, rfl, rfl, (Zk (Nat.zero_le _) (hr_57.mono RU8.mono (New.mono hleH_71))), (new_ids (hr_57.mono RU8.mono (New.mono hleH_71)) hlt), (Zk (Nat.zero_le _) hr_73), (new_ids hr_73 hlt), (Zk (Nat.zero_le _) hr_78), (new_ids hr_78 hlt), trivial⟩
   ·
    have hxo_63 := hx; clear hx; have hx := ht_64; clear ht_64
    refine JC.block (JC.seg0 (JC.front 7 rfl (JC.front 7 rfl (JC.front 3 rfl (JC.front 4 rfl (JC.front 6 rfl (JC.front 7 rfl (JC.front 7 rfl (JC.loopI (fun n l o g => ∃ s_65 : List UInt8 × Int × Bool × List Part × Int, ∃ H_68 : Heaplet, ∃ az_69 : Option Addr, ∃ nz_69 : Nat, ∃ cz_69 : Nat, ∃ ar_70 : Option Addr, ∃ nr_70 : Nat, ∃ cr_70 : Nat, ∃ Kr_70 : Own, l = [(1, .pointer (some ⟨b_3, 0, none⟩)), (2, .pointer (some ⟨b_4, 0, none⟩)), (4, .pointer (some ⟨b_6, 0, none⟩)), (5, .pointer (some ⟨b_7, 0, none⟩)), (6, .pointer (some ⟨b_8, 0, none⟩)), (7, .func (.func 27) #[] #[.pointer (some ⟨b_8, 0, none⟩)]), (8, .int .i64 x_9.1), (9, .pointer (some ⟨b_56, 0, none⟩)), (10, .int .i64 x_58.1), (11, .int .i64 s_65.2.2.2.2)] ∧ o = [[(b_3, .cells #[.slice az_69 nz_69 cz_69] 23 (0, 0))], [(b_4, .cells #[.int .u32 ((0 : UInt32).toNat : Int), .int .u32 ((0 : UInt32).toNat : Int), .slice none 0 0, .slice none 0 0, .slice none 0 0] 26 (0, 0))], [(b_6, .cells #[.int .i64 s_65.2.1] 3 (0, 0))], [(b_7, .cells #[.bool s_65.2.2.1] 4 (0, 0))], [(b_8, .cells #[.func (.func 25) #[] #[.pointer (some ⟨b_7, 0, none⟩), .pointer (some ⟨b_3, 0, none⟩), .pointer (some ⟨b_6, 0, none⟩)]] 64 (0, 0))], [(b_56, .cells #[.int .u32 (t_13.2.2.2.1.toNat : Int), .int .u32 (t_13.2.2.2.2.1.toNat : Int), .slice ar_57 nr_57 cr_57, .slice ar_70 nr_70 cr_70, .slice none 0 0] 26 (0, 0))], Kr_57, Kr_70] ∧ H_68 = g ∧ run (send_Parse_l1 x_58) n s_65 = some t_62 ∧ Hle H H_68 ∧ IsSlice H_68 RU8 1 (.slice az_69 nz_69 cz_69) s_65.1 ∧ RowOf (New H H_68) R_Part w.heap.size 39 5 (.slice ar_70 nr_70 cr_70) s_65.2.2.2.1 Kr_70) FUEL ?_ ⟨(x_58.2.2.1, x_58.2.2.2, x_58.2.1, ([] : List Part), 0), H, az_61, nz_61, cz_61, none, 0, 0, [], rfl, rfl, rfl, hx, (Hle.refl _), hz_61, (Zc _ _ _ _ _)⟩ ⟨rfl, rfl, rfl, rfl, rfl, rfl, rfl, rfl, rfl, rfl, trivial⟩ ?_)))))))))
    ·
     rintro _ _ _ ⟨s_65, H_68, az_69, nz_69, cz_69, ar_70, nr_70, cr_70, Kr_70, rfl, rfl, rfl, hn_66, hleH_68, hz_69, hr_70⟩
     exact run_zero hn_66
    ·
     rintro n_67 _ _ _ ⟨s_65, H_68, az_69, nz_69, cz_69, ar_70, nr_70, cr_70, Kr_70, rfl, rfl, rfl, hn_66, hleH_68, hz_69, hr_70⟩
     clear hx; obtain ⟨oo_72, hx, hd_71⟩ := run_some hn_66
     unfold send_Parse_l1 at hx
     refine ZG (ZG (ZB (ZA rfl rfl (ZH rfl) (ZA rfl rfl (ZH rfl) (ZA rfl rfl (Zu rfl rfl) (ZA rfl rfl (ZH rfl) (ZZ (t := 35) rfl (fun c_71 => ?_) (fun c_71 => ?_))))))))
     ·
      replace hx := ZP c_71 hx
      refine ZI rfl rfl rfl (ZA rfl rfl (ZH rfl) (ZI rfl rfl rfl (ZA rfl rfl (R.leq_i rfl rfl) (ZA rfl rfl (ZR rfl rfl) (ZA rfl rfl (ZH rfl) (ZZ (t := 39) rfl (fun c_72 => ?_) (fun c_72 => ?_)))))))
      ·
       replace hx := ZP c_72 hx
       refine ZI rfl rfl rfl (ZA rfl rfl (ZU 3 S4 rfl rfl rfl) (ZI rfl rfl rfl (ZA rfl rfl (R.not rfl) (ZA rfl rfl (ZR rfl rfl) (ZD (ZC (ZY rfl (fun c_73 => ?_) (fun c_73 => ?_))))))))
       ·
        replace hx := ZP c_73 hx
        refine JC.skip (ZC (ZG (JC.block (ZG (ZB (ZA rfl rfl (ZH rfl) ?_))))))
        obtain ⟨x_74, hr_75, hx⟩ := ZM hx
        refine ZT (vs := [_]) (args := [_, _]) (K := [_, _, _, _]) (rst := [_, _, _, _]) E27 rfl rfl rfl (ZS 4 rfl (ZS 3 rfl (ZS 0 rfl (ZS 1 rfl ZL)))) (Zt 1 s_65.2.2.1 s_65.1 s_65.2.1 _ hz_69 _ hr_75) rfl (fun u_76 Ku_76 Hu_76 hRu_76 hleu_76 hfu_76 => ?_)
        obtain ⟨az_77, nz_77, cz_77, rfl, rfl, rfl, hz_77, -⟩ := hRu_76
        refine ZA rfl rfl (ZH rfl) ?_
        obtain ⟨x_78, hr_79, hx⟩ := ZM hx
        refine ZT (vs := [_]) (args := [_, _]) (K := [_, _, _, _]) (rst := [_, _, _, _]) E27 rfl rfl rfl (ZS 0 rfl (ZS 0 rfl (ZS 0 rfl (ZS 0 rfl ZL)))) (Zt 1 x_74.2.1 x_74.2.2.1 x_74.2.2.2 _ hz_77 _ hr_79) rfl (fun u_80 Ku_80 Hu_80 hRu_80 hleu_80 hfu_80 => ?_)
        obtain ⟨az_81, nz_81, cz_81, rfl, rfl, rfl, hz_81, -⟩ := hRu_80
        refine ZA rfl rfl (ZH rfl) ?_
        obtain ⟨x_82, hr_83, hx⟩ := ZM hx
        refine ZT (vs := [_]) (args := [_, _]) (K := [_, _, _, _]) (rst := [_, _, _, _]) E27 rfl rfl rfl (ZS 0 rfl (ZS 0 rfl (ZS 0 rfl (ZS 0 rfl ZL)))) (Zt 4 x_78.2.1 x_78.2.2.1 x_78.2.2.2 _ hz_81 _ hr_83) rfl (fun u_84 Ku_84 Hu_84 hRu_84 hleu_84 hfu_84 => ?_)
        obtain ⟨az_85, nz_85, cz_85, rfl, rfl, rfl, hz_85, -⟩ := hRu_84
        refine ZA rfl rfl (R.cv_i64_u32 U3 U22 rfl) (ZA rfl rfl (ZH rfl) ?_)
        obtain ⟨x_86, hr_87, hx⟩ := ZM hx
        refine ZT (vs := [_]) (args := [_, _]) (K := [_, _, _, _]) (rst := [_, _, _, _]) E27 rfl rfl rfl (ZS 0 rfl (ZS 0 rfl (ZS 0 rfl (ZS 0 rfl ZL)))) (Zt 4 x_82.2.1 x_82.2.2.1 x_82.2.2.2 _ hz_85 _ hr_87) rfl (fun u_88 Ku_88 Hu_88 hRu_88 hleu_88 hfu_88 => ?_)
        obtain ⟨az_89, nz_89, cz_89, rfl, rfl, rfl, hz_89, -⟩ := hRu_88
        refine ZA rfl rfl (R.cv_i64_u32 U3 U22 rfl) (ZA rfl rfl (R.bldP (vs := [(0, .int .i64 x_74.1), (1, .int .i64 x_78.1), (2, .int .u32 ((u32i x_82.1).toNat : Int)), (3, .int .u32 ((u32i x_86.1).toNat : Int))]) (cs := [.int .i64 x_74.1, .int .i64 x_78.1, .int .u32 ((u32i x_82.1).toNat : Int), .int .u32 ((u32i x_86.1).toNat : Int), .slice none 0 0]) Z39 B39 rfl rfl rfl) (JL.alloc Z39 rfl (fun b_90 hb_90 => Zh 0 S39 rfl rfl rfl rfl rfl (Nat.le_of_ble_eq_true rfl) (ZD (ZC (ZG ?_))))))
        obtain ⟨t_91, ht_93, hx⟩ := ZM hx
        refine Zv (fun l o g => ∃ az_103 : Option Addr, ∃ nz_103 : Nat, ∃ cz_103 : Nat, ∃ ar_104 : Option Addr, ∃ nr_104 : Nat, ∃ cr_104 : Nat, ∃ Kr_104 : Own, l = [(1, .pointer (some ⟨b_3, 0, none⟩)), (2, .pointer (some ⟨b_4, 0, none⟩)), (4, .pointer (some ⟨b_6, 0, none⟩)), (5, .pointer (some ⟨b_7, 0, none⟩)), (6, .pointer (some ⟨b_8, 0, none⟩)), (7, .func (.func 27) #[] #[.pointer (some ⟨b_8, 0, none⟩)]), (8, .int .i64 x_9.1), (9, .pointer (some ⟨b_56, 0, none⟩)), (10, .int .i64 x_58.1), (11, .int .i64 s_65.2.2.2.2), (12, .pointer (some ⟨b_90, 0, none⟩))] ∧ o = [[(b_3, .cells #[.slice az_103 nz_103 cz_103] 23 (0, 0))], [(b_4, .cells #[.int .u32 ((0 : UInt32).toNat : Int), .int .u32 ((0 : UInt32).toNat : Int), .slice none 0 0, .slice none 0 0, .slice none 0 0] 26 (0, 0))], [(b_6, .cells #[.int .i64 t_91.2.1] 3 (0, 0))], [(b_7, .cells #[.bool t_91.2.2.1] 4 (0, 0))], [(b_8, .cells #[.func (.func 25) #[] #[.pointer (some ⟨b_7, 0, none⟩), .pointer (some ⟨b_3, 0, none⟩), .pointer (some ⟨b_6, 0, none⟩)]] 64 (0, 0))], [(b_56, .cells #[.int .u32 (t_13.2.2.2.1.toNat : Int), .int .u32 (t_13.2.2.2.2.1.toNat : Int), .slice ar_57 nr_57 cr_57, .slice ar_70 nr_70 cr_70, .slice none 0 0] 26 (0, 0))], Kr_57, Kr_70, [(b_90, .cells #[.int .i64 x_74.1, .int .i64 x_78.1, .int .u32 ((u32i x_82.1).toNat : Int), .int .u32 ((u32i x_86.1).toNat : Int), .slice ar_104 nr_104 cr_104] 39 (0, 0))], Kr_104] ∧ H_68 = g ∧ IsSlice H_68 RU8 1 (.slice az_103 nz_103 cz_103) t_91.1 ∧ RowOf (New H H_68) RU8 w.heap.size 5 1 (.slice ar_104 nr_104 cr_104) t_91.2.2.2 Kr_104) ?_ ?_
        ·
         rintro _ _ _ ⟨az_103, nz_103, cz_103, ar_104, nr_104, cr_104, Kr_104, rfl, rfl, rfl, hz_103, hr_104⟩
         refine ZC (ZB (ZA rfl rfl (Zf F26_3 rfl) (ZA rfl rfl (ZU 5 S24 rfl rfl rfl) (ZA rfl rfl (R.ldoN 8 (vs := [.int .i64 x_74.1, .int .i64 x_78.1, .int .u32 ((u32i x_82.1).toNat : Int), .int .u32 ((u32i x_86.1).toNat : Int), .slice ar_104 nr_104 cr_104]) S39 rfl rfl rfl rfl) (JL.pubN 9 RU8.mono rfl hr_104 (Nat.le_refl _) (fun H_105 hleH_105 hsH_105 => JL.forget 9 (JL.bslF (HF := (New H H_105)) (R := R_Part) (ls := [Part.mk x_74.1 x_78.1 (u32i x_82.1) (u32i x_86.1) t_91.2.2.2]) (vs := [.agg #[.int .i64 x_74.1, .int .i64 x_78.1, .int .u32 ((u32i x_82.1).toNat : Int), .int .u32 ((u32i x_86.1).toNat : Int), .slice ar_104 nr_104 cr_104]]) U24 I39 rfl rfl (⟨_, _, rfl, rfl, ⟨_, rfl, hsH_105⟩, rfl⟩) R_Part.one rfl rfl rfl (by simp [maxLen]) rfl (fun vr_106 Kr_106 hr_106 => ?_))))))))
         obtain ⟨ar_106, cr_106, rfl⟩ := RowOf.val hr_106
         obtain ⟨q_107, hm_108, hl_109, hx⟩ := app_some hx
         refine JL.appF (HF := (New H H_105)) 8 U24 I39 rfl rfl (hr_70.mono R_Part.mono (New.mono hleH_105)) rfl (SrcF.row 0 U24 rfl hr_106) hm_108 hl_109 rfl (Nat.le_refl _) rfl (fun vr_110 Kr_110 hr_110 => ?_)
         obtain ⟨ar_110, cr_110, rfl⟩ := RowOf.val hr_110
         refine ZA rfl rfl (Zf F26_3 rfl) (Zh 6 S24 rfl rfl rfl rfl rfl (Nat.le_of_ble_eq_true rfl) (ZD (JN.blkN (ZC (ZB (ZA rfl rfl (ZH rfl) (ZA rfl rfl (R.add_i rfl rfl) (ZA rfl rfl (ZE rfl) (ZD ?_)))))))))
         replace hx := run_next hd_71 hx
         refine JN.forget 9 (JN.forget 0 (ZK 7 rfl (ZK 7 rfl (ZK 7 rfl (ZK 7 rfl (ZK 7 rfl (ZK 7 rfl (ZK 7 rfl (ZK 7 rfl ?_)))))))))
         exact ZW ⟨(t_91.1, t_91.2.1, t_91.2.2.1, q_107, w64 (s_65.2.2.2.2 + 1)), H_105, az_103, nz_103, cz_103, ar_110, q_107.length, cr_110, Kr_110, rfl, rfl, rfl, hx, ((hleH_68.trans hleH_105)), (hz_103.mono RU8.mono hleH_105), hr_110⟩ ⟨rfl, rfl, rfl, rfl, rfl, rfl, rfl, rfl, rfl, rfl, trivial⟩ rfl rfl
        ·
         have hxo_92 := hx; clear hx; have hx := ht_93; clear ht_93
         refine JC.drawB (so := [(_, [5]), (_, [2, 3]), (_, [2, 3]), (_, [2, 3]), (_, []), (_, []), (_, []), (_, [])]) 6 rfl Mixed ⟨by kernel_rfl, by kernel_rfl⟩ (kept0 [0, 2, 3, 4, 5, 6, 7, 8] rfl) ?_
         refine JB.val (i := 1) [] rfl (ZH rfl) ?_
         obtain ⟨x_94, hr_95, hx⟩ := ZM hx
         obtain ⟨x_98, hr_99, hx⟩ := ZM hx
         refine JB.two (i := 0) (j := 2) (by kernel_rfl) ?_ ?_
         ·
          refine JOB.step rfl trivial rfl (fun K hK => ZA rfl rfl (ZU 1 S64 rfl rfl rfl) (ZD (hK _ _ _ (Hle.refl _) (kept0 [0, 2, 3, 4, 5, 6, 7, 8] rfl) ?_)))
          refine JB.one (i := 2) (by kernel_rfl) ?_
          refine JOB.step rfl trivial rfl (fun K hK => ZT (vs := [_]) (args := [_, _]) (K := [_, _, _, _]) (rst := [_, _, _, _, _]) E27 rfl rfl rfl (ZS 1 rfl (ZS 1 rfl (ZS 1 rfl (ZS 1 rfl ZL)))) (Zt 2 x_86.2.1 x_86.2.2.1 x_86.2.2.2 _ hz_89 _ hr_95) rfl (fun u_96 Ku_96 Hu_96 hRu_96 hleu_96 hfu_96 => ?_))
          obtain ⟨az_97, nz_97, cz_97, rfl, rfl, rfl, hz_97, -⟩ := hRu_96
          refine ZD (hK _ _ _ (Hle.refl _) (kept1 [false, true, true, true, false, false, false, false] [4, 0, 0, 0, 5, 6, 7, 8] (by kernel_rfl) rfl) ?_)
          refine JB.one (i := 3) (by kernel_rfl) ?_
          refine JOB.step rfl trivial rfl (fun K hK => ZT (vs := [_]) (args := [_, _, _, _]) (K := [_, _, _]) (rst := [_, _, _, _, _, _]) E25 rfl rfl rfl (ZS 1 rfl (ZS 1 rfl (ZS 1 rfl ZL))) (send_Parse_1_ok x_94.1 x_94.2.1 x_94.2.2.1 x_94.2.2.2 _ hz_97 _ hr_99) rfl (fun u_100 Ku_100 Hu_100 hRu_100 hleu_100 hfu_100 => ?_))
          obtain ⟨az_101, nz_101, cz_101, ar_102, nr_102, cr_102, Kr_102, rfl, rfl, rfl, hz_101, hr_102, hnewr_102, -⟩ := hRu_100
          replace hr_102 := (RowOf.base (ZX (H2 := New H H_68) RU8.const hr_102) (fun p hp => (hfu_100 p (Zr 3 rfl hp)).resolve_left (hnewr_102 p hp)))
          refine ZD (hK _ _ _ (Hle.refl _) (kept1 [false, true, true, true, false, false, false, false] [5, 0, 0, 0, 6, 7, 8, 9] (by kernel_rfl) rfl) ?_)
          refine JB.val (i := 4) [] rfl (Zf F39_4 rfl) ?_
          refine JB.one (i := 5) (by kernel_rfl) ?_
          refine JOB.step rfl trivial rfl (fun K hK => Zh 5 S23 rfl rfl rfl rfl rfl (Nat.le_of_ble_eq_true rfl) (ZD (hK _ _ _ (Hle.refl _) (kept1 [true, true, true, true, false, false, false, false] [0, 0, 0, 0, 6, 7, 8, 9] (by kernel_rfl) rfl) ?_)))
          refine JB.doneN (by kernel_rfl) ?_
          obtain rfl := Option.some.inj hx
          refine ZK 3 rfl (ZK 5 rfl (ZK 9 rfl (ZK 9 rfl (ZK 9 rfl (ZK 8 rfl (ZK 6 rfl (ZK 8 rfl (ZK 9 rfl (ZK 9 rfl ?_)))))))))
          exact ZW ⟨az_101, nz_101, cz_101, ar_102, nr_102, cr_102, Kr_102, rfl, rfl, rfl, hz_101, hr_102⟩ ⟨rfl, rfl, rfl, rfl, rfl, rfl, rfl, rfl, rfl, rfl, rfl, trivial⟩ rfl rfl
         ·
          refine JOB.step rfl trivial rfl (fun K hK => ZT (vs := [_]) (args := [_, _]) (K := [_, _, _, _]) (rst := [_, _, _, _, _]) E27 rfl rfl rfl (ZS 1 rfl (ZS 1 rfl (ZS 1 rfl (ZS 1 rfl ZL)))) (Zt 2 x_86.2.1 x_86.2.2.1 x_86.2.2.2 _ hz_89 _ hr_95) rfl (fun u_96 Ku_96 Hu_96 hRu_96 hleu_96 hfu_96 => ?_))
          obtain ⟨az_97, nz_97, cz_97, rfl, rfl, rfl, hz_97, -⟩ := hRu_96
          refine ZD (hK _ _ _ (Hle.refl _) (kept1 [false, true, true, true, false, false, false, false] [4, 0, 0, 0, 5, 6, 7, 8] (by kernel_rfl) rfl) ?_)
          refine JB.one (i := 0) (by kernel_rfl) ?_
          refine JOB.step rfl trivial rfl (fun K hK => ZA rfl rfl (ZU 0 S64 rfl rfl rfl) (ZD (hK _ _ _ (Hle.refl _) (kept1 [false, true, true, true, false, false, false, false] [4, 0, 0, 0, 5, 6, 7, 8] (by kernel_rfl) rfl) ?_)))
          refine JB.one (i := 3) (by kernel_rfl) ?_
          refine JOB.step rfl trivial rfl (fun K hK => ZT (vs := [_]) (args := [_, _, _, _]) (K := [_, _, _]) (rst := [_, _, _, _, _, _]) E25 rfl rfl rfl (ZS 1 rfl (ZS 1 rfl (ZS 1 rfl ZL))) (send_Parse_1_ok x_94.1 x_94.2.1 x_94.2.2.1 x_94.2.2.2 _ hz_97 _ hr_99) rfl (fun u_100 Ku_100 Hu_100 hRu_100 hleu_100 hfu_100 => ?_))
          obtain ⟨az_101, nz_101, cz_101, ar_102, nr_102, cr_102, Kr_102, rfl, rfl, rfl, hz_101, hr_102, hnewr_102, -⟩ := hRu_100
          replace hr_102 := (RowOf.base (ZX (H2 := New H H_68) RU8.const hr_102) (fun p hp => (hfu_100 p (Zr 3 rfl hp)).resolve_left (hnewr_102 p hp)))
          refine ZD (hK _ _ _ (Hle.refl _) (kept1 [false, true, true, true, false, false, false, false] [5, 0, 0, 0, 6, 7, 8, 9] (by kernel_rfl) rfl) ?_)
          refine JB.val (i := 4) [] rfl (Zf F39_4 rfl) ?_
          refine JB.one (i := 5) (by kernel_rfl) ?_
          refine JOB.step rfl trivial rfl (fun K hK => Zh 5 S23 rfl rfl rfl rfl rfl (Nat.le_of_ble_eq_true rfl) (ZD (hK _ _ _ (Hle.refl _) (kept1 [true, true, true, true, false, false, false, false] [0, 0, 0, 0, 6, 7, 8, 9] (by kernel_rfl) rfl) ?_)))
          refine JB.doneN (by kernel_rfl) ?_
          obtain rfl := Option.some.inj hx
          refine ZK 3 rfl (ZK 5 rfl (ZK 9 rfl (ZK 9 rfl (ZK 9 rfl (ZK 8 rfl (ZK 6 rfl (ZK 8 rfl (ZK 9 rfl (ZK 9 rfl ?_)))))))))
          exact ZW ⟨az_101, nz_101, cz_101, ar_102, nr_102, cr_102, Kr_102, rfl, rfl, rfl, hz_101, hr_102⟩ ⟨rfl, rfl, rfl, rfl, rfl, rfl, rfl, rfl, rfl, rfl, rfl, trivial⟩ rfl rfl
       ·
        replace hx := ZQ c_73 hx
        refine JC.exit (Zg ?_)
        obtain rfl := Zj hd_71 hx
        refine Zg (Zl (ZK 7 rfl (ZK 7 rfl (ZK 7 rfl (ZK 7 rfl (ZK 7 rfl (ZK 7 rfl (ZK 7 rfl (ZK 7 rfl ?_)))))))))
        exact ZW ⟨H_68, az_69, nz_69, cz_69, ar_70, nr_70, cr_70, Kr_70, rfl, rfl, rfl, (hleH_68), hz_69, hr_70⟩ ⟨rfl, rfl, rfl, rfl, rfl, rfl, rfl, rfl, trivial⟩ rfl rfl
      ·
       replace hx := ZQ c_72 hx
       refine ZF rfl rfl rfl rfl rfl (ZF rfl rfl rfl rfl rfl (ZA rfl rfl (Za rfl rfl) (ZD (ZC (JC.condF rfl (JC.exit (Zg ?_)))))))
       obtain rfl := Zj hd_71 hx
       refine Zg (Zl (ZK 7 rfl (ZK 7 rfl (ZK 7 rfl (ZK 7 rfl (ZK 7 rfl (ZK 7 rfl (ZK 7 rfl (ZK 7 rfl ?_)))))))))
       exact ZW ⟨H_68, az_69, nz_69, cz_69, ar_70, nr_70, cr_70, Kr_70, rfl, rfl, rfl, (hleH_68), hz_69, hr_70⟩ ⟨rfl, rfl, rfl, rfl, rfl, rfl, rfl, rfl, trivial⟩ rfl rfl
     ·
      replace hx := ZQ c_71 hx
      refine ZF rfl rfl rfl rfl rfl (ZF rfl rfl rfl rfl rfl (ZA rfl rfl (Za rfl rfl) (ZA rfl rfl (ZH rfl) (ZF rfl rfl rfl rfl rfl (ZF rfl rfl rfl rfl rfl (ZA rfl rfl (Za rfl rfl) (ZD (ZC (JC.condF rfl (JC.exit (Zg ?_)))))))))))
      obtain rfl := Zj hd_71 hx
      refine Zg (Zl (ZK 7 rfl (ZK 7 rfl (ZK 7 rfl (ZK 7 rfl (ZK 7 rfl (ZK 7 rfl (ZK 7 rfl (ZK 7 rfl ?_)))))))))
      exact ZW ⟨H_68, az_69, nz_69, cz_69, ar_70, nr_70, cr_70, Kr_70, rfl, rfl, rfl, (hleH_68), hz_69, hr_70⟩ ⟨rfl, rfl, rfl, rfl, rfl, rfl, rfl, rfl, trivial⟩ rfl rfl
  ·
   have hxo_14 := hx; clear hx; have hx := ht_15; clear ht_15
   refine JC.draw (so := [_]) 11 rfl Mixed ⟨⟨4, rfl⟩, trivial⟩ (JA.val ⟨by kernel_rfl, by kernel_rfl⟩ (Zd _) (i := 0) rfl ⟨by kernel_rfl, by kernel_rfl, rfl⟩ trivial (Ze (Hle.refl _) ⟨⟨4, rfl⟩, trivial⟩) (ZH rfl) rfl (JA.val ⟨by kernel_rfl, by kernel_rfl⟩ (Zd _) (i := 3) rfl ⟨by kernel_rfl, by kernel_rfl, rfl⟩ trivial (Ze (Hle.refl _) ⟨⟨4, rfl⟩, trivial⟩) (ZH rfl) rfl (JAA.start [⟨9, 9, 26, .agg #[.int .u32 0, .int .u32 0, .slice none 0 0, .slice none 0 0, .slice none 0 0]⟩] rfl ?_)))
   obtain ⟨x_16, hr_17, hx⟩ := ZM hx
   obtain ⟨x_20, hr_21, hx⟩ := ZM hx
   obtain ⟨x_24, hr_25, hx⟩ := ZM hx
   refine JAA.two (i := 1) (j := 6) ⟨⟨_, _, _, rfl, Z26, rfl⟩, trivial⟩ (Hle.refl _) ⟨⟨4, rfl⟩, trivial⟩ rfl (by kernel_rfl) ?_ ?_
   ·
    refine JOA.step rfl trivial rfl (fun tl_30 to_31 K hK => ZT (vs := [_]) (args := [_, _]) (K := [_, _, _, _]) (rst := _ :: to_31) E27 rfl rfl rfl (ZS 0 rfl (ZS 0 rfl (ZS 0 rfl (ZS 0 rfl ZL)))) (Zt 4 x_9.2.1 x_9.2.2.1 x_9.2.2.2 _ hz_12 _ hr_17) rfl (fun u_18 Ku_18 Hu_18 hRu_18 hleu_18 hfu_18 => ?_))
    obtain ⟨az_19, nz_19, cz_19, rfl, rfl, rfl, hz_19, -⟩ := hRu_18
    refine ZD (hK (by repeat constructor) (by repeat constructor) (Ze (Hle.refl _) ⟨⟨4, rfl⟩, trivial⟩) (JAA.val ⟨by kernel_rfl, by kernel_rfl⟩ (Zd _) (i := 2) rfl (by kernel_rfl) rfl trivial (Hle.refl _) ⟨⟨4, rfl⟩, trivial⟩ (R.cv_i64_u32 U3 U22 rfl) rfl (JAA.two (i := 4) (j := 6) ⟨⟨_, _, _, rfl, Z26, rfl⟩, trivial⟩ (Hle.refl _) ⟨⟨4, rfl⟩, trivial⟩ rfl (by kernel_rfl) ?_ ?_)))
    ·
     refine JOA.step rfl trivial rfl (fun tl_32 to_33 K hK => ZT (vs := [_]) (args := [_, _]) (K := [_, _, _, _]) (rst := _ :: to_33) E27 rfl rfl rfl (ZS 0 rfl (ZS 0 rfl (ZS 0 rfl (ZS 0 rfl ZL)))) (Zt 4 x_16.2.1 x_16.2.2.1 x_16.2.2.2 _ hz_19 _ hr_21) rfl (fun u_22 Ku_22 Hu_22 hRu_22 hleu_22 hfu_22 => ?_))
     obtain ⟨az_23, nz_23, cz_23, rfl, rfl, rfl, hz_23, -⟩ := hRu_22
     refine ZD (hK (by repeat constructor) (by repeat constructor) (Ze (Hle.refl _) ⟨⟨4, rfl⟩, trivial⟩) (JAA.val ⟨by kernel_rfl, by kernel_rfl⟩ (Zd _) (i := 5) rfl (by kernel_rfl) rfl trivial (Hle.refl _) ⟨⟨4, rfl⟩, trivial⟩ (R.cv_i64_u32 U3 U22 rfl) rfl (JAA.one (i := 6) ⟨⟨_, _, _, rfl, Z26, rfl⟩, trivial⟩ (Hle.refl _) ⟨⟨4, rfl⟩, trivial⟩ rfl (by kernel_rfl) (JOA.step rfl trivial rfl (fun tl_34 to_35 K hK => ZA rfl rfl (ZU 0 S64 rfl rfl rfl) (ZD (hK (by repeat constructor) (by repeat constructor) (Ze (Hle.refl _) ⟨⟨4, rfl⟩, trivial⟩) (JAA.one (i := 7) ⟨⟨_, _, _, rfl, Z26, rfl⟩, trivial⟩ (Hle.refl _) ⟨⟨4, rfl⟩, trivial⟩ rfl (by kernel_rfl) (JOA.step rfl trivial rfl (fun tl_36 to_37 K hK => ZT (vs := [_]) (args := [_, _, _, _]) (K := [_, _, _]) (rst := _ :: _ :: to_37) E25 rfl rfl rfl (ZS 1 rfl (ZS 1 rfl (ZS 1 rfl ZL))) (send_Parse_1_ok 24 x_20.2.1 x_20.2.2.1 x_20.2.2.2 _ hz_23 _ hr_25) rfl (fun u_26 Ku_26 Hu_26 hRu_26 hleu_26 hfu_26 => ?_)))))))))))
     obtain ⟨az_27, nz_27, cz_27, ar_28, nr_28, cr_28, Kr_28, rfl, rfl, rfl, hz_27, hr_28, hnewr_28, -⟩ := hRu_26
     replace hr_28 := (RowOf.base (ZX (H2 := New H H) RU8.const hr_28) (fun p hp => (hfu_26 p (Zr 3 rfl hp)).resolve_left (hnewr_28 p hp)))
     refine ZD (hK (by repeat constructor) (by repeat constructor) (Ze (Hle.refl _) ⟨⟨5, rfl⟩, trivial⟩) (JAA.val ⟨by kernel_rfl, by kernel_rfl⟩ (Zd _) (i := 8) rfl (by kernel_rfl) rfl trivial (Hle.refl _) ⟨⟨5, rfl⟩, trivial⟩ (R.bldP (vs := [(0, .int .u32 ((u32i x_16.1).toNat : Int)), (1, .int .u32 ((u32i x_20.1).toNat : Int)), (2, .slice ar_28 nr_28 cr_28)]) (cs := [.int .u32 ((u32i x_16.1).toNat : Int), .int .u32 ((u32i x_20.1).toNat : Int), .slice ar_28 nr_28 cr_28, .slice none 0 0, .slice none 0 0]) Z26 B26 rfl rfl rfl) rfl (JAA.all ⟨⟨_, _, _, rfl, Z26, rfl⟩, trivial⟩ (Hle.refl _) ⟨⟨5, rfl⟩, trivial⟩ rfl (by kernel_rfl) (fun b_38 hb_38 => JA.one (i := 10) (by kernel_rfl) (JO.step rfl trivial rfl (fun K hK => Zh 6 S26 rfl rfl rfl rfl rfl (Nat.le_of_ble_eq_true rfl) (ZD (hK _ _ _ (Ze (Hle.refl _) ⟨⟨5, rfl⟩, trivial⟩) (JA.doneN (by kernel_rfl) ?_)))))))))
     obtain rfl := Option.some.inj hx
     refine ZK 3 rfl (ZK 6 rfl (ZK 5 rfl (ZK 3 rfl (ZK 5 rfl (ZK 6 rfl (ZK 6 rfl ?_))))))
     exact ZW ⟨az_27, nz_27, cz_27, b_38, ar_28, nr_28, cr_28, Kr_28, rfl, rfl, rfl, hz_27, hb_38, hr_28⟩ ⟨rfl, rfl, rfl, rfl, rfl, rfl, rfl, rfl, trivial⟩ rfl rfl
    ·
     refine JOA.step rfl trivial rfl (fun tl_39 to_40 K hK => ZA rfl rfl (ZU 0 S64 rfl rfl rfl) (ZD (hK (by repeat constructor) (by repeat constructor) (Ze (Hle.refl _) ⟨⟨4, rfl⟩, trivial⟩) (JAA.one (i := 4) ⟨⟨_, _, _, rfl, Z26, rfl⟩, trivial⟩ (Hle.refl _) ⟨⟨4, rfl⟩, trivial⟩ rfl (by kernel_rfl) (JOA.step rfl trivial rfl (fun tl_41 to_42 K hK => ZT (vs := [_]) (args := [_, _]) (K := [_, _, _, _]) (rst := _ :: to_42) E27 rfl rfl rfl (ZS 0 rfl (ZS 0 rfl (ZS 0 rfl (ZS 0 rfl ZL)))) (Zt 4 x_16.2.1 x_16.2.2.1 x_16.2.2.2 _ hz_19 _ hr_21) rfl (fun u_22 Ku_22 Hu_22 hRu_22 hleu_22 hfu_22 => ?_)))))))
     obtain ⟨az_23, nz_23, cz_23, rfl, rfl, rfl, hz_23, -⟩ := hRu_22
     refine ZD (hK (by repeat constructor) (by repeat constructor) (Ze (Hle.refl _) ⟨⟨4, rfl⟩, trivial⟩) (JAA.val ⟨by kernel_rfl, by kernel_rfl⟩ (Zd _) (i := 5) rfl (by kernel_rfl) rfl trivial (Hle.refl _) ⟨⟨4, rfl⟩, trivial⟩ (R.cv_i64_u32 U3 U22 rfl) rfl (JAA.one (i := 7) ⟨⟨_, _, _, rfl, Z26, rfl⟩, trivial⟩ (Hle.refl _) ⟨⟨4, rfl⟩, trivial⟩ rfl (by kernel_rfl) (JOA.step rfl trivial rfl (fun tl_43 to_44 K hK => ZT (vs := [_]) (args := [_, _, _, _]) (K := [_, _, _]) (rst := _ :: _ :: to_44) E25 rfl rfl rfl (ZS 1 rfl (ZS 1 rfl (ZS 1 rfl ZL))) (send_Parse_1_ok 24 x_20.2.1 x_20.2.2.1 x_20.2.2.2 _ hz_23 _ hr_25) rfl (fun u_26 Ku_26 Hu_26 hRu_26 hleu_26 hfu_26 => ?_))))))
     obtain ⟨az_27, nz_27, cz_27, ar_28, nr_28, cr_28, Kr_28, rfl, rfl, rfl, hz_27, hr_28, hnewr_28, -⟩ := hRu_26
     replace hr_28 := (RowOf.base (ZX (H2 := New H H) RU8.const hr_28) (fun p hp => (hfu_26 p (Zr 3 rfl hp)).resolve_left (hnewr_28 p hp)))
     refine ZD (hK (by repeat constructor) (by repeat constructor) (Ze (Hle.refl _) ⟨⟨5, rfl⟩, trivial⟩) (JAA.val ⟨by kernel_rfl, by kernel_rfl⟩ (Zd _) (i := 8) rfl (by kernel_rfl) rfl trivial (Hle.refl _) ⟨⟨5, rfl⟩, trivial⟩ (R.bldP (vs := [(0, .int .u32 ((u32i x_16.1).toNat : Int)), (1, .int .u32 ((u32i x_20.1).toNat : Int)), (2, .slice ar_28 nr_28 cr_28)]) (cs := [.int .u32 ((u32i x_16.1).toNat : Int), .int .u32 ((u32i x_20.1).toNat : Int), .slice ar_28 nr_28 cr_28, .slice none 0 0, .slice none 0 0]) Z26 B26 rfl rfl rfl) rfl (JAA.all ⟨⟨_, _, _, rfl, Z26, rfl⟩, trivial⟩ (Hle.refl _) ⟨⟨5, rfl⟩, trivial⟩ rfl (by kernel_rfl) (fun b_45 hb_45 => JA.one (i := 10) (by kernel_rfl) (JO.step rfl trivial rfl (fun K hK => Zh 6 S26 rfl rfl rfl rfl rfl (Nat.le_of_ble_eq_true rfl) (ZD (hK _ _ _ (Ze (Hle.refl _) ⟨⟨5, rfl⟩, trivial⟩) (JA.doneN (by kernel_rfl) ?_)))))))))
     obtain rfl := Option.some.inj hx
     refine ZK 3 rfl (ZK 6 rfl (ZK 5 rfl (ZK 3 rfl (ZK 5 rfl (ZK 6 rfl (ZK 6 rfl ?_))))))
     exact ZW ⟨az_27, nz_27, cz_27, b_45, ar_28, nr_28, cr_28, Kr_28, rfl, rfl, rfl, hz_27, hb_45, hr_28⟩ ⟨rfl, rfl, rfl, rfl, rfl, rfl, rfl, rfl, trivial⟩ rfl rfl
   ·
    refine JOA.step rfl trivial rfl (fun tl_46 to_47 K hK => ZA rfl rfl (ZU 0 S64 rfl rfl rfl) (ZD (hK (by repeat constructor) (by repeat constructor) (Ze (Hle.refl _) ⟨⟨4, rfl⟩, trivial⟩) (JAA.one (i := 1) ⟨⟨_, _, _, rfl, Z26, rfl⟩, trivial⟩ (Hle.refl _) ⟨⟨4, rfl⟩, trivial⟩ rfl (by kernel_rfl) (JOA.step rfl trivial rfl (fun tl_48 to_49 K hK => ZT (vs := [_]) (args := [_, _]) (K := [_, _, _, _]) (rst := _ :: to_49) E27 rfl rfl rfl (ZS 0 rfl (ZS 0 rfl (ZS 0 rfl (ZS 0 rfl ZL)))) (Zt 4 x_9.2.1 x_9.2.2.1 x_9.2.2.2 _ hz_12 _ hr_17) rfl (fun u_18 Ku_18 Hu_18 hRu_18 hleu_18 hfu_18 => ?_)))))))
    obtain ⟨az_19, nz_19, cz_19, rfl, rfl, rfl, hz_19, -⟩ := hRu_18
    refine ZD (hK (by repeat constructor) (by repeat constructor) (Ze (Hle.refl _) ⟨⟨4, rfl⟩, trivial⟩) (JAA.val ⟨by kernel_rfl, by kernel_rfl⟩ (Zd _) (i := 2) rfl (by kernel_rfl) rfl trivial (Hle.refl _) ⟨⟨4, rfl⟩, trivial⟩ (R.cv_i64_u32 U3 U22 rfl) rfl (JAA.one (i := 4) ⟨⟨_, _, _, rfl, Z26, rfl⟩, trivial⟩ (Hle.refl _) ⟨⟨4, rfl⟩, trivial⟩ rfl (by kernel_rfl) (JOA.step rfl trivial rfl (fun tl_50 to_51 K hK => ZT (vs := [_]) (args := [_, _]) (K := [_, _, _, _]) (rst := _ :: to_51) E27 rfl rfl rfl (ZS 0 rfl (ZS 0 rfl (ZS 0 rfl (ZS 0 rfl ZL)))) (Zt 4 x_16.2.1 x_16.2.2.1 x_16.2.2.2 _ hz_19 _ hr_21) rfl (fun u_22 Ku_22 Hu_22 hRu_22 hleu_22 hfu_22 => ?_))))))
    obtain ⟨az_23, nz_23, cz_23, rfl, rfl, rfl, hz_23, -⟩ := hRu_22
    refine ZD (hK (by repeat constructor) (by repeat constructor) (Ze (Hle.refl _) ⟨⟨4, rfl⟩, trivial⟩) (JAA.val ⟨by kernel_rfl, by kernel_rfl⟩ (Zd _) (i := 5) rfl (by kernel_rfl) rfl trivial (Hle.refl _) ⟨⟨4, rfl⟩, trivial⟩ (R.cv_i64_u32 U3 U22 rfl) rfl (JAA.one (i := 7) ⟨⟨_, _, _, rfl, Z26, rfl⟩, trivial⟩ (Hle.refl _) ⟨⟨4, rfl⟩, trivial⟩ rfl (by kernel_rfl) (JOA.step rfl trivial rfl (fun tl_52 to_53 K hK => ZT (vs := [_]) (args := [_, _, _, _]) (K := [_, _, _]) (rst := _ :: _ :: to_53) E25 rfl rfl rfl (ZS 1 rfl (ZS 1 rfl (ZS 1 rfl ZL))) (send_Parse_1_ok 24 x_20.2.1 x_20.2.2.1 x_20.2.2.2 _ hz_23 _ hr_25) rfl (fun u_26 Ku_26 Hu_26 hRu_26 hleu_26 hfu_26 => ?_))))))
    obtain ⟨az_27, nz_27, cz_27, ar_28, nr_28, cr_28, Kr_28, rfl, rfl, rfl, hz_27, hr_28, hnewr_28, -⟩ := hRu_26
    replace hr_28 := (RowOf.base (ZX (H2 := New H H) RU8.const hr_28) (fun p hp => (hfu_26 p (Zr 3 rfl hp)).resolve_left (hnewr_28 p hp)))
    refine ZD (hK (by repeat constructor) (by repeat constructor) (Ze (Hle.refl _) ⟨⟨5, rfl⟩, trivial⟩) (JAA.val ⟨by kernel_rfl, by kernel_rfl⟩ (Zd _) (i := 8) rfl (by kernel_rfl) rfl trivial (Hle.refl _) ⟨⟨5, rfl⟩, trivial⟩ (R.bldP (vs := [(0, .int .u32 ((u32i x_16.1).toNat : Int)), (1, .int .u32 ((u32i x_20.1).toNat : Int)), (2, .slice ar_28 nr_28 cr_28)]) (cs := [.int .u32 ((u32i x_16.1).toNat : Int), .int .u32 ((u32i x_20.1).toNat : Int), .slice ar_28 nr_28 cr_28, .slice none 0 0, .slice none 0 0]) Z26 B26 rfl rfl rfl) rfl (JAA.all ⟨⟨_, _, _, rfl, Z26, rfl⟩, trivial⟩ (Hle.refl _) ⟨⟨5, rfl⟩, trivial⟩ rfl (by kernel_rfl) (fun b_54 hb_54 => JA.one (i := 10) (by kernel_rfl) (JO.step rfl trivial rfl (fun K hK => Zh 6 S26 rfl rfl rfl rfl rfl (Nat.le_of_ble_eq_true rfl) (ZD (hK _ _ _ (Ze (Hle.refl _) ⟨⟨5, rfl⟩, trivial⟩) (JA.doneN (by kernel_rfl) ?_)))))))))
    obtain rfl := Option.some.inj hx
    refine ZK 3 rfl (ZK 6 rfl (ZK 5 rfl (ZK 3 rfl (ZK 5 rfl (ZK 6 rfl (ZK 6 rfl ?_))))))
    exact ZW ⟨az_27, nz_27, cz_27, b_54, ar_28, nr_28, cr_28, Kr_28, rfl, rfl, rfl, hz_27, hb_54, hr_28⟩ ⟨rfl, rfl, rfl, rfl, rfl, rfl, rfl, rfl, trivial⟩ rfl rfl

set_option maxHeartbeats 8000000 in
theorem ref29_Parse_ok (p_1 : List UInt8) (H : Heaplet) {aa_2 : Option Addr} {na_2 : Nat} {ca_2 : Nat} (ha_2 : IsSlice H RU8 1 (.slice aa_2 na_2 ca_2) p_1) (r : Stream × Int) (hx : ref29_Parse p_1 = some r) :
  Does Try.prog 9 #[.slice aa_2 na_2 ca_2] [] H (fun u K' H' => ∃ ao0 : Option Addr, ∃ n0 : Nat, ∃ cap0 : Nat, ∃ K0 : Own, ∃ ao1 : Option Addr, ∃ n1 : Nat, ∃ cap1 : Nat, ∃ K1 : Own, ∃ ao2 : Option Addr, ∃ n2 : Nat, ∃ cap2 : Nat, ∃ K2 : Own, u = .tuple #[.agg #[.int .u32 (r.1.Guid.toNat : Int), .int .u32 (r.1.Base.toNat : Int), .slice ao0 n0 cap0, .slice ao1 n1 cap1, .slice ao2 n2 cap2], .int .i64 r.2] ∧ K' = [K0, K1, K2] ∧ RowOf (New H H') RU8 0 5 1 (.slice ao0 n0 cap0) r.1.Key K0 ∧ (∀ p ∈ K0, p.1 ∉ ids (List.flatten [])) ∧ RowOf (New H H') R_Part 0 39 5 (.slice ao1 n1 cap1) r.1.Parts K1 ∧ (∀ p ∈ K1, p.1 ∉ ids (List.flatten [])) ∧ RowOf (New H H') RU8 0 5 1 (.slice ao2 n2 cap2) r.1.Sign K2 ∧ (∀ p ∈ K2, p.1 ∉ ids (List.flatten [])) ∧ True) := by
 refine Does.enterL (vs := [.slice aa_2 na_2 ca_2]) (l := [(0, .slice aa_2 na_2 ca_2)]) Try.func9 rfl rfl ⟨rfl, trivial⟩ (fun w hlt => ?_)
 unfold ref29_Parse at hx
 refine ZG (ZB (JL.alloc Z26 rfl (fun b_3 hb_3 => ZA rfl rfl (ZE rfl) (ZD (ZC (ZG (ZG (ZB (ZA rfl rfl (ZH rfl) (ZA rfl rfl (Zs U23 rfl (IsSlice.long ha_2)) (ZA rfl rfl (R.gtr_i rfl rfl) ?_)))))))))))
 refine ZD (ZC (ZY rfl (fun c_4 => ?_) (fun c_4 => ?_)))
 ·
  replace hx := ZP c_4 hx
  refine ZG (ZB (ZA rfl rfl (R.bldP (vs := []) (cs := [.int .u32 ((0 : UInt32).toNat : Int), .int .u32 ((0 : UInt32).toNat : Int), .slice none 0 0, .slice none 0 0, .slice none 0 0]) Z26 B26 rfl rfl rfl) (Zh 0 S26 rfl rfl rfl rfl rfl (Nat.le_of_ble_eq_true rfl) (ZA rfl rfl (ZE rfl) (ZD (ZC (ZV (ZJ (Zn (Zn (Zn ?_)))))))))))
  refine ZO (vs := [.agg #[.int .u32 ((0 : UInt32).toNat : Int), .int .u32 ((0 : UInt32).toNat : Int), .slice none 0 0, .slice none 0 0, .slice none 0 0], .int .i64 3]) (K := [_, _, _]) (rst := [_]) (.inl rfl) rfl rfl (Res.cellN 3 rfl rfl S26 (ZN rfl rfl)) (ZS 0 rfl (ZS 0 rfl (ZS 0 rfl ZL))) ?_
  obtain rfl := Option.some.inj hx
  exact ⟨none, 0, 0, [], none, 0, 0, [], none, 0, 0, [], rfl, rfl, (Zc _ _ _ _ _), (fun p hp => by cases hp), (Zc _ _ _ _ _), (fun p hp => by cases hp), (Zc _ _ _ _ _), (fun p hp => by cases hp), trivial⟩
 ·
  replace hx := ZQ c_4 hx
  refine JC.skip (ZC (ZG (ZG (ZB (ZA rfl rfl (ZH rfl) (ZA rfl rfl (Zs U23 rfl (IsSlice.long ha_2)) (ZA rfl rfl (Zu rfl rfl) (ZD (ZC (ZY rfl (fun c_5 => ?_) (fun c_5 => ?_)))))))))))
  ·
   replace hx := ZP c_5 hx
   refine ZG (ZB (ZA rfl rfl (R.bldP (vs := []) (cs := [.int .u32 ((0 : UInt32).toNat : Int), .int .u32 ((0 : UInt32).toNat : Int), .slice none 0 0, .slice none 0 0, .slice none 0 0]) Z26 B26 rfl rfl rfl) (Zh 0 S26 rfl rfl rfl rfl rfl (Nat.le_of_ble_eq_true rfl) (ZA rfl rfl (ZE rfl) (ZD (ZC (ZV (ZJ (Zn (Zn (Zn ?_)))))))))))
   refine ZO (vs := [.agg #[.int .u32 ((0 : UInt32).toNat : Int), .int .u32 ((0 : UInt32).toNat : Int), .slice none 0 0, .slice none 0 0, .slice none 0 0], .int .i64 8]) (K := [_, _, _]) (rst := [_]) (.inl rfl) rfl rfl (Res.cellN 3 rfl rfl S26 (ZN rfl rfl)) (ZS 0 rfl (ZS 0 rfl (ZS 0 rfl ZL))) ?_
   obtain rfl := Option.some.inj hx
   exact ⟨none, 0, 0, [], none, 0, 0, [], none, 0, 0, [], rfl, rfl, (Zc _ _ _ _ _), (fun p hp => by cases hp), (Zc _ _ _ _ _), (fun p hp => by cases hp), (Zc _ _ _ _ _), (fun p hp => by cases hp), trivial⟩
  ·
   replace hx := ZQ c_5 hx
   refine JC.skip (ZC (ZG (ZB (ZA rfl rfl (ZE rfl) (ZD (ZC (ZG (JC.draw (so := [_]) 15 rfl Mixed ⟨⟨0, rfl⟩, trivial⟩ (JA.val ⟨by kernel_rfl, by kernel_rfl⟩ (Zd _) (i := 0) rfl ⟨by kernel_rfl, by kernel_rfl, rfl⟩ trivial (Ze (Hle.refl _) ⟨⟨0, rfl⟩, trivial⟩) (ZH rfl) rfl ?_)))))))))
   obtain ⟨m_6, hm_8, hb_7, hx⟩ := slc_some hx
   obtain ⟨vv_9, cv_9, h1v_9, h2v_9, h3v_9, hsv_9⟩ := IsSlice.cutv ha_2 hm_8 hb_7
   refine JA.val ⟨by kernel_rfl, by kernel_rfl⟩ (Zd _) (i := 1) rfl ⟨by kernel_rfl, by kernel_rfl, rfl⟩ trivial (Ze (Hle.refl _) ⟨⟨0, rfl⟩, trivial⟩) (R.slc (cap := cv_9) (a := 1) (b := 5) (c := (cv_9 : Int)) (m := p_1) (R := RU8) U23 S5 rfl ⟨_, rfl⟩ ⟨_, rfl⟩ (by obtain ⟨ao, n, e, _⟩ := h1v_9; exact ⟨ao, n, e, rfl⟩) ⟨hb_7.1, hb_7.2.1, h2v_9⟩ h3v_9 (.inl rfl)) rfl ?_
   obtain ⟨av_9, cv_9', rfl⟩ := IsSlice.val hsv_9
   refine JA.val ⟨by kernel_rfl, by kernel_rfl⟩ (Zd _) (i := 4) rfl ⟨by kernel_rfl, by kernel_rfl, rfl⟩ trivial (Ze (Hle.refl _) ⟨⟨0, rfl⟩, trivial⟩) (ZH rfl) rfl ?_
   obtain ⟨m_10, hm_12, hb_11, hx⟩ := slc_some hx
   obtain ⟨vv_13, cv_13, h1v_13, h2v_13, h3v_13, hsv_13⟩ := IsSlice.cutv ha_2 hm_12 hb_11
   refine JA.val ⟨by kernel_rfl, by kernel_rfl⟩ (Zd _) (i := 5) rfl ⟨by kernel_rfl, by kernel_rfl, rfl⟩ trivial (Ze (Hle.refl _) ⟨⟨0, rfl⟩, trivial⟩) (R.slc (cap := cv_13) (a := 5) (b := 9) (c := (cv_13 : Int)) (m := p_1) (R := RU8) U23 S5 rfl ⟨_, rfl⟩ ⟨_, rfl⟩ (by obtain ⟨ao, n, e, _⟩ := h1v_13; exact ⟨ao, n, e, rfl⟩) ⟨hb_11.1, hb_11.2.1, h2v_13⟩ h3v_13 (.inl rfl)) rfl ?_
   obtain ⟨av_13, cv_13', rfl⟩ := IsSlice.val hsv_13
   refine JA.val ⟨by kernel_rfl, by kernel_rfl⟩ (Zd _) (i := 8) rfl ⟨by kernel_rfl, by kernel_rfl, rfl⟩ trivial (Ze (Hle.refl _) ⟨⟨0, rfl⟩, trivial⟩) (ZH rfl) rfl (JA.val ⟨by kernel_rfl, by kernel_rfl⟩ (Zd _) (i := 9) rfl ⟨by kernel_rfl, by kernel_rfl, rfl⟩ trivial (Ze (Hle.refl _) ⟨⟨0, rfl⟩, trivial⟩) (ZH rfl) rfl ?_)
   obtain ⟨m_14, hm_16, hb_15, hx⟩ := slc_some hx
   obtain ⟨vv_17, cv_17, h1v_17, h2v_17, h3v_17, hsv_17⟩ := IsSlice.cutv ha_2 hm_16 hb_15
   refine JA.val ⟨by kernel_rfl, by kernel_rfl⟩ (Zd _) (i := 10) rfl ⟨by kernel_rfl, by kernel_rfl, rfl⟩ trivial (Ze (Hle.refl _) ⟨⟨0, rfl⟩, trivial⟩) (R.slc (cap := cv_17) (a := 9) (b := 33) (c := (cv_17 : Int)) (m := p_1) (R := RU8) U23 S5 rfl ⟨_, rfl⟩ ⟨_, rfl⟩ (by obtain ⟨ao, n, e, _⟩ := h1v_17; exact ⟨ao, n, e, rfl⟩) ⟨hb_15.1, hb_15.2.1, h2v_17⟩ h3v_17 (.inl rfl)) rfl ?_
   obtain ⟨av_17, cv_17', rfl⟩ := IsSlice.val hsv_17
   refine JAA.start [⟨13, 5, 26, .agg #[.int .u32 0, .int .u32 0, .slice none 0 0, .slice none 0 0, .slice none 0 0]⟩] rfl (JAA.one (i := 2) ⟨⟨_, _, _, rfl, Z26, rfl⟩, trivial⟩ (Hle.refl _) ⟨⟨0, rfl⟩, trivial⟩ rfl (by kernel_rfl) (JOA.step rfl trivial rfl (fun tl_18 to_19 K hK => ?_)))
   obtain ⟨x_20, hr_21, hx⟩ := ZM hx
   refine ZT (vs := [_]) (args := [_]) (K := []) (rst := _ :: to_19) E29 rfl rfl rfl ZL (ref01_Number_ok m_6 _ hsv_9 _ hr_21) rfl (fun u_22 Ku_22 Hu_22 hRu_22 hleu_22 hfu_22 => ?_)
   obtain ⟨rfl, rfl, rfl, -⟩ := hRu_22
   refine ZD (hK (by repeat constructor) (by repeat constructor) (Ze (Hle.refl _) ⟨⟨0, rfl⟩, trivial⟩) (JAA.val ⟨by kernel_rfl, by kernel_rfl⟩ (Zd _) (i := 3) rfl (by kernel_rfl) rfl trivial (Hle.refl _) ⟨⟨0, rfl⟩, trivial⟩ (R.cv_i64_u32 U3 U22 rfl) rfl (JAA.one (i := 6) ⟨⟨_, _, _, rfl, Z26, rfl⟩, trivial⟩ (Hle.refl _) ⟨⟨0, rfl⟩, trivial⟩ rfl (by kernel_rfl) (JOA.step rfl trivial rfl (fun tl_23 to_24 K hK => ?_)))))
   obtain ⟨x_25, hr_26, hx⟩ := ZM hx
   refine ZT (vs := [_]) (args := [_]) (K := []) (rst := _ :: to_24) E29 rfl rfl rfl ZL (ref01_Number_ok m_10 _ hsv_13 _ hr_26) rfl (fun u_27 Ku_27 Hu_27 hRu_27 hleu_27 hfu_27 => ?_)
   obtain ⟨rfl, rfl, rfl, -⟩ := hRu_27
   refine ZD (hK (by repeat constructor) (by repeat constructor) (Ze (Hle.refl _) ⟨⟨0, rfl⟩, trivial⟩) (JAA.val ⟨by kernel_rfl, by kernel_rfl⟩ (Zd _) (i := 7) rfl (by kernel_rfl) rfl trivial (Hle.refl _) ⟨⟨0, rfl⟩, trivial⟩ (R.cv_i64_u32 U3 U22 rfl) rfl (JAA.one (i := 11) ⟨⟨_, _, _, rfl, Z26, rfl⟩, trivial⟩ (Hle.refl _) ⟨⟨0, rfl⟩, trivial⟩ rfl (by kernel_rfl) (JOA.step rfl trivial rfl (fun tl_28 to_29 K hK => JL.seg0 ?_)))))
   obtain ⟨q_31, hm_32, hl_33, hx⟩ := app_some hx
   refine JL.appF (HF := (New H H)) 0 U23 I5 rfl rfl (Zc _ RU8 _ _ _) rfl (SrcF.sliceC RU8.const RU8.one U23 hsv_17) hm_32 hl_33 rfl (Nat.le_refl _) rfl (fun vr_34 Kr_34 hr_34 => ?_)
   obtain ⟨ar_34, cr_34, rfl⟩ := RowOf.val hr_34
   refine ZD (hK (by repeat constructor) (by repeat constructor) (Ze (Hle.refl _) ⟨⟨1, rfl⟩, trivial⟩) (JAA.val ⟨by kernel_rfl, by kernel_rfl⟩ (Zd _) (i := 12) rfl (by kernel_rfl) rfl trivial (Hle.refl _) ⟨⟨1, rfl⟩, trivial⟩ (R.bldP (vs := [(0, .int .u32 ((u32i x_20).toNat : Int)), (1, .int .u32 ((u32i x_25).toNat : Int)), (2, .slice ar_34 q_31.length cr_34)]) (cs := [.int .u32 ((u32i x_20).toNat : Int), .int .u32 ((u32i x_25).toNat : Int), .slice ar_34 q_31.length cr_34, .slice none 0 0, .slice none 0 0]) Z26 B26 rfl rfl rfl) rfl (JAA.all ⟨⟨_, _, _, rfl, Z26, rfl⟩, trivial⟩ (Hle.refl _) ⟨⟨1, rfl⟩, trivial⟩ rfl (by kernel_rfl) (fun b_35 hb_35 => JA.one (i := 14) (by kernel_rfl) (JO.step rfl trivial rfl (fun K hK => Zh 2 S26 rfl rfl rfl rfl rfl (Nat.le_of_ble_eq_true rfl) (ZD (hK _ _ _ (Ze (Hle.refl _) ⟨⟨1, rfl⟩, trivial⟩) (JA.doneN (by kernel_rfl) (ZC (ZG ?_)))))))))))
   refine ZB (ZA rfl rfl (ZH rfl) (ZA rfl rfl (Zs U23 rfl (IsSlice.long ha_2)) (ZA rfl rfl (R.sub_i rfl rfl) (ZA rfl rfl (ZE rfl) (ZD (ZC (ZG (ZB (ZA rfl rfl (ZE rfl) (ZD (ZC ?_)))))))))))
   refine ZG ?_
   obtain ⟨t_36, ht_38, hx⟩ := ZM hx
   refine Zv (fun l o g => ∃ t_36a : List Part, ∃ H_44 : Heaplet, ∃ ar_45 : Option Addr, ∃ nr_45 : Nat, ∃ cr_45 : Nat, ∃ Kr_45 : Own, l = [(0, .slice aa_2 na_2 ca_2), (2, .pointer (some ⟨b_3, 0, none⟩)), (5, .pointer (some ⟨b_35, 0, none⟩)), (6, .int .i64 (w64 ((p_1.length : Int) - 209)))] ∧ o = [[(b_3, .cells #[.int .u32 ((0 : UInt32).toNat : Int), .int .u32 ((0 : UInt32).toNat : Int), .slice none 0 0, .slice none 0 0, .slice none 0 0] 26 (0, 0))], [(b_35, .cells #[.int .u32 ((u32i x_20).toNat : Int), .int .u32 ((u32i x_25).toNat : Int), .slice ar_34 q_31.length cr_34, .slice ar_45 nr_45 cr_45, .slice none 0 0] 26 (0, 0))], Kr_34, Kr_45] ∧ H_44 = g ∧ t_36 = .inl t_36a ∧ Hle H H_44 ∧ RowOf (New H H_44) R_Part w.heap.size 39 5 (.slice ar_45 nr_45 cr_45) t_36a Kr_45) ?_ ?_
   ·
    rintro _ _ _ ⟨t_36a, H_44, ar_45, nr_45, cr_45, Kr_45, rfl, rfl, rfl, rfl, hleH_44, hr_45⟩
    simp only [Sum.elim_inl] at hx
    refine ZC (ZG (ZB (ZA rfl rfl (ZE rfl) (ZD (ZC (ZG (ZB (ZA rfl rfl (ZH rfl) (ZA rfl rfl (ZH rfl) (ZA rfl rfl (ZH rfl) ?_))))))))))
    obtain ⟨m_47, hm_49, hb_48, hx⟩ := slc_some hx
    obtain ⟨vv_50, cv_50, h1v_50, h2v_50, h3v_50, hsv_50⟩ := IsSlice.cutv (ha_2.mono RU8.mono hleH_44) hm_49 hb_48
    refine ZA rfl rfl (R.slc (cap := cv_50) (a := w64 ((p_1.length : Int) - 209)) (b := (p_1.length : Int)) (c := (cv_50 : Int)) (m := p_1) (R := RU8) U23 S5 rfl ⟨_, rfl⟩ rfl (by obtain ⟨ao, n, e, _⟩ := h1v_50; exact ⟨ao, n, e, rfl⟩) ⟨hb_48.1, hb_48.2.1, h2v_50⟩ h3v_50 (.inl rfl)) ?_
    obtain ⟨av_50, cv_50', rfl⟩ := IsSlice.val hsv_50
    refine JL.seg0 ?_
    obtain ⟨q_52, hm_53, hl_54, hx⟩ := app_some hx
    refine JL.appF (HF := (New H H_44)) 0 U23 I5 rfl rfl (Zc _ RU8 _ _ _) rfl (SrcF.sliceC RU8.const RU8.one U23 hsv_50) hm_53 hl_54 rfl (Nat.le_refl _) rfl (fun vr_55 Kr_55 hr_55 => ?_)
    obtain ⟨ar_55, cr_55, rfl⟩ := RowOf.val hr_55
    refine ZA rfl rfl (Zf F26_4 rfl) (Zh 2 S23 rfl rfl rfl rfl rfl (Nat.le_of_ble_eq_true rfl) (ZD (ZC (ZG (ZG (JC.drawB (so := [(_, []), (_, []), (_, []), (_, []), (_, [])]) 13 rfl Mixed ⟨by kernel_rfl, by kernel_rfl⟩ (kept0 [0, 1, 2, 3, 4] rfl) ?_))))))
    refine JB.val (i := 0) [] rfl (R.ldoN 2 (vs := [.int .u32 ((u32i x_20).toNat : Int), .int .u32 ((u32i x_25).toNat : Int), .slice ar_34 q_31.length cr_34, .slice ar_45 nr_45 cr_45, .slice ar_55 q_52.length cr_55]) S26 rfl rfl rfl rfl) ?_
    refine JB.one (i := 1) (by kernel_rfl) ?_
    refine JOB.step rfl trivial rfl (fun K hK => ?_)
    obtain ⟨x_59, hr_60, hx⟩ := ZM hx
    refine JL.callL2 (vs := [_]) (v := .bool x_59) E23 rfl rfl (fun H_58 hle_57 hl_56 => Does.mono (ref29_May_ok (Stream.mk (u32i x_20) (u32i x_25) q_31 t_36a q_52) _ (Lent.row' 3 hl_56 RU8.mono hle_57 rfl ((hr_34.mono RU8.mono (New.mono hleH_44)).old RU8.mono)) (Lent.row' 4 hl_56 R_Part.mono hle_57 rfl (hr_45.old R_Part.mono)) (Lent.row' 0 hl_56 RU8.mono hle_57 rfl (hr_55.old RU8.mono)) _ hr_60) (fun _ _ _ h => h.1)) rfl (ZD (hK _ _ _ (Hle.refl _) (kept0 [0, 1, 2, 3, 4] rfl) ?_))
    refine JB.val (i := 2) [] rfl (R.not rfl) ?_
    refine JB.val (i := 3) [] rfl (ZH rfl) ?_
    refine JB.gSplit (t := 112) rfl (fun c_61 => ?_) (fun c_61 => ?_)
    ·
     replace hx := ZP c_61 hx
     refine JB.no (i := 4) rfl rfl rfl rfl rfl ?_
     refine JB.no (i := 5) rfl rfl rfl rfl rfl ?_
     refine JB.no (i := 6) rfl rfl rfl rfl rfl ?_
     refine JB.no (i := 7) rfl rfl rfl rfl rfl ?_
     refine JB.no (i := 8) rfl rfl rfl rfl rfl ?_
     refine JB.no (i := 9) rfl rfl rfl rfl rfl ?_
     refine JB.no (i := 10) rfl rfl rfl rfl rfl ?_
     refine JB.no (i := 11) rfl rfl rfl rfl rfl ?_
     refine JB.val (i := 12) [] rfl (ZR rfl rfl) ?_
     refine JB.doneN (by kernel_rfl) ?_
     refine ZC (Zm rfl (ZG (ZB (ZA rfl rfl (R.bldP (vs := []) (cs := [.int .u32 ((0 : UInt32).toNat : Int), .int .u32 ((0 : UInt32).toNat : Int), .slice none 0 0, .slice none 0 0, .slice none 0 0]) Z26 B26 rfl rfl rfl) (Zh 1 S26 rfl rfl rfl rfl rfl (Nat.le_of_ble_eq_true rfl) (ZA rfl rfl (ZE rfl) (ZD (ZC (ZV (ZJ (Zn ?_)))))))))))
     refine Zn (Zn (ZO (vs := [.agg #[.int .u32 ((0 : UInt32).toNat : Int), .int .u32 ((0 : UInt32).toNat : Int), .slice none 0 0, .slice none 0 0, .slice none 0 0], .int .i64 8]) (K := [_, _, _]) (rst := [_, _, _, _, _]) (.inl rfl) rfl rfl (Res.cellN 4 rfl rfl S26 (ZN rfl rfl)) (ZS 0 rfl (ZS 0 rfl (ZS 0 rfl ZL))) ?_))
     obtain rfl := Option.some.inj hx
     exact ⟨none, 0, 0, [], none, 0, 0, [], none, 0, 0, [], rfl, rfl, (Zc _ _ _ _ _), (fun p hp => by cases hp), (Zc _ _ _ _ _), (fun p hp => by cases hp), (Zc _ _ _ _ _), (fun p hp => by cases hp), trivial⟩
    ·
     replace hx := ZQ c_61 hx
     refine JB.val (i := 4) [] rfl (R.ldoN 2 (vs := [.int .u32 ((u32i x_20).toNat : Int), .int .u32 ((u32i x_25).toNat : Int), .slice ar_34 q_31.length cr_34, .slice ar_45 nr_45 cr_45, .slice ar_55 q_52.length cr_55]) S26 rfl rfl rfl rfl) ?_
     refine JB.val (i := 7) [] rfl (ZH rfl) ?_
     refine JB.val (i := 8) [] rfl (ZH rfl) ?_
     obtain ⟨m_62, hm_64, hb_63, hx⟩ := slc_some hx
     obtain ⟨vv_65, cv_65, h1v_65, h2v_65, h3v_65, hsv_65⟩ := IsSlice.cutv (ha_2.mono RU8.mono hleH_44) hm_64 hb_63
     refine JB.val (i := 9) [] rfl (R.slc (cap := cv_65) (a := 0) (b := w64 ((p_1.length : Int) - 209)) (c := (cv_65 : Int)) (m := p_1) (R := RU8) U23 S5 rfl rfl ⟨_, rfl⟩ (by obtain ⟨ao, n, e, _⟩ := h1v_65; exact ⟨ao, n, e, rfl⟩) ⟨hb_63.1, hb_63.2.1, h2v_65⟩ h3v_65 (.inl rfl)) ?_
     obtain ⟨av_65, cv_65', rfl⟩ := IsSlice.val hsv_65
     refine JB.val (i := 10) [] rfl (R.toStr U23 U5 U9 rfl hsv_65) ?_
     refine JB.one (i := 5) (by kernel_rfl) ?_
     refine JOB.step rfl ⟨_, _, rfl, rfl, rfl⟩ rfl (fun K hK => ?_)
     obtain ⟨x_69, hr_70, hx⟩ := ZM hx
     refine JL.callL3 (vs := [_]) E24 rfl rfl (fun H_68 hle_67 hl_66 => ref29_Text_ok (Stream.mk (u32i x_20) (u32i x_25) q_31 t_36a q_52) _ (Lent.row' 3 hl_66 RU8.mono hle_67 rfl ((hr_34.mono RU8.mono (New.mono hleH_44)).old RU8.mono)) (Lent.row' 4 hl_66 R_Part.mono hle_67 rfl (hr_45.old R_Part.mono)) (Lent.row' 0 hl_66 RU8.mono hle_67 rfl (hr_55.old RU8.mono)) _ hr_70) rfl (fun _ _ _ _ hR_72 hf_73 => ?_)
     obtain ⟨ar_71, nr_71, cr_71, Kr_71, rfl, rfl, rfl, hr_71, -, -⟩ := hR_72
     replace hr_71 := RowOf.base (ZX (H2 := New H H_44) RU8.const hr_71) (fun p hp => hf_73 p (Zr 0 rfl hp))
     refine ZD (hK _ _ _ (Hle.refl _) (kept0 [1, 2, 3, 4, 5] rfl) ?_)
     refine JB.one (i := 6) (by kernel_rfl) ?_
     refine JOB.step rfl ⟨_, _, rfl, rfl, rfl⟩ rfl (fun K hK => JL.pubN 0 RU8.mono rfl hr_71 (Nat.le_refl _) (fun H_74 hleH_74 hsH_74 => JL.forget 0 (ZA rfl rfl (R.toStr U23 U5 U9 rfl (hsH_74.old RU8.mono)) (ZD (hK _ _ _ hleH_74 (kept0 [0, 1, 2, 3, 4] rfl) ?_)))))
     refine JB.val (i := 11) [] rfl (R.neqStr (a := x_69) (b := m_62) rfl rfl) ?_
     refine JB.val (i := 12) [] rfl (Za rfl rfl) ?_
     refine JB.doneN (by kernel_rfl) ?_
     refine ZC (ZY rfl (fun c_75 => ?_) (fun c_75 => ?_))
     ·
      replace hx := ZP c_75 hx
      refine ZG (ZB (ZA rfl rfl (R.bldP (vs := []) (cs := [.int .u32 ((0 : UInt32).toNat : Int), .int .u32 ((0 : UInt32).toNat : Int), .slice none 0 0, .slice none 0 0, .slice none 0 0]) Z26 B26 rfl rfl rfl) (Zh 1 S26 rfl rfl rfl rfl rfl (Nat.le_of_ble_eq_true rfl) (ZA rfl rfl (ZE rfl) (ZD (ZC (ZV (ZJ (Zn (Zn (Zn ?_)))))))))))
      refine ZO (vs := [.agg #[.int .u32 ((0 : UInt32).toNat : Int), .int .u32 ((0 : UInt32).toNat : Int), .slice none 0 0, .slice none 0 0, .slice none 0 0], .int .i64 8]) (K := [_, _, _]) (rst := [_, _, _, _, _]) (.inl rfl) rfl rfl (Res.cellN 4 rfl rfl S26 (ZN rfl rfl)) (ZS 0 rfl (ZS 0 rfl (ZS 0 rfl ZL))) ?_
      obtain rfl := Option.some.inj hx
      exact ⟨none, 0, 0, [], none, 0, 0, [], none, 0, 0, [], rfl, rfl, (Zc _ _ _ _ _), (fun p hp => by cases hp), (Zc _ _ _ _ _), (fun p hp => by cases hp), (Zc _ _ _ _ _), (fun p hp => by cases hp), trivial⟩
     ·
      replace hx := ZQ c_75 hx
      refine JC.skip (ZC (ZG (ZB (ZA rfl rfl (R.ldoN 2 (vs := [.int .u32 ((u32i x_20).toNat : Int), .int .u32 ((u32i x_25).toNat : Int), .slice ar_34 q_31.length cr_34, .slice ar_45 nr_45 cr_45, .slice ar_55 q_52.length cr_55]) S26 rfl rfl rfl rfl) (Zh 1 S26 rfl rfl rfl rfl rfl (Nat.le_of_ble_eq_true rfl) (ZA rfl rfl (ZE rfl) (ZD (ZC (ZV (ZO (vs := [.agg #[.int .u32 ((u32i x_20).toNat : Int), .int .u32 ((u32i x_25).toNat : Int), .slice ar_34 q_31.length cr_34, .slice ar_45 nr_45 cr_45, .slice ar_55 q_52.length cr_55], .int .i64 0]) (K := [_, _, _]) (rst := [_, _]) (.inl rfl) rfl rfl (Res.cellN 1 rfl rfl S26 (ZN rfl rfl)) (ZS 3 rfl (ZS 3 rfl (ZS 0 rfl ZL))) ?_))))))))))
      obtain rfl := Option.some.inj hx
      exact ⟨ar_34, q_31.length, cr_34, Kr_34, ar_45, nr_45, cr_45, Kr_45, ar_55, q_52.length, cr_55, Kr_55, rfl, rfl, (Zk (Nat.zero_le _) (hr_34.mono RU8.mono (New.mono (hleH_44.trans hleH_74)))), (new_ids (hr_34.mono RU8.mono (New.mono (hleH_44.trans hleH_74))) hlt), (Zk (Nat.zero_le _) (hr_45.mono R_Part.mono (New.mono hleH_74))), (new_ids (hr_45.mono R_Part.mono (New.mono hleH_74)) hlt), (Zk (Nat.zero_le _) (hr_55.mono RU8.mono (New.mono hleH_74))), (new_ids (hr_55.mono RU8.mono (New.mono hleH_74)) hlt), trivial⟩
   ·
    have hxo_37 := hx; clear hx; have hx := ht_38; clear ht_38
    refine JC.block (JC.seg0 (JC.front 1 rfl (JC.front 3 rfl (JC.front 3 rfl (JC.loopI (fun n l o g => ∃ s_39 : List Part × Int, ∃ H_42 : Heaplet, ∃ ar_43 : Option Addr, ∃ nr_43 : Nat, ∃ cr_43 : Nat, ∃ Kr_43 : Own, l = [(0, .slice aa_2 na_2 ca_2), (2, .pointer (some ⟨b_3, 0, none⟩)), (5, .pointer (some ⟨b_35, 0, none⟩)), (6, .int .i64 (w64 ((p_1.length : Int) - 209))), (7, .int .i64 s_39.2)] ∧ o = [[(b_3, .cells #[.int .u32 ((0 : UInt32).toNat : Int), .int .u32 ((0 : UInt32).toNat : Int), .slice none 0 0, .slice none 0 0, .slice none 0 0] 26 (0, 0))], [(b_35, .cells #[.int .u32 ((u32i x_20).toNat : Int), .int .u32 ((u32i x_25).toNat : Int), .slice ar_34 q_31.length cr_34, .slice ar_43 nr_43 cr_43, .slice none 0 0] 26 (0, 0))], Kr_34, Kr_43] ∧ H_42 = g ∧ run (ref29_Parse_l1 p_1) n s_39 = some t_36 ∧ Hle H H_42 ∧ RowOf (New H H_42) R_Part w.heap.size 39 5 (.slice ar_43 nr_43 cr_43) s_39.1 Kr_43) FUEL ?_ ⟨(([] : List Part), 35), H, none, 0, 0, [], rfl, rfl, rfl, hx, (Hle.refl _), (Zc _ _ _ _ _)⟩ ⟨rfl, rfl, rfl, rfl, rfl, trivial⟩ ?_)))))
    ·
     rintro _ _ _ ⟨s_39, H_42, ar_43, nr_43, cr_43, Kr_43, rfl, rfl, rfl, hn_40, hleH_42, hr_43⟩
     exact run_zero hn_40
    ·
     rintro n_41 _ _ _ ⟨s_39, H_42, ar_43, nr_43, cr_43, Kr_43, rfl, rfl, rfl, hn_40, hleH_42, hr_43⟩
     clear hx; obtain ⟨oo_45, hx, hd_44⟩ := run_some hn_40
     unfold ref29_Parse_l1 at hx
     refine ZG (ZG (ZB (ZA rfl rfl (ZH rfl) (ZA rfl rfl (R.add_i rfl rfl) (ZA rfl rfl (ZH rfl) (ZA rfl rfl (R.leq_i rfl rfl) (ZD (ZC (ZY rfl (fun c_44 => ?_) (fun c_44 => ?_))))))))))
     ·
      replace hx := ZP c_44 hx
      refine JC.skip (ZC (JC.block (ZG (ZB (ZA rfl rfl (ZH rfl) (ZA rfl rfl (ZH rfl) (ZA rfl rfl (R.add_i rfl rfl) (ZA rfl rfl (ZH rfl) (ZA rfl rfl (R.add_i rfl rfl) ?_)))))))))
      obtain ⟨m_45, hm_47, hb_46, hx⟩ := slc_some hx
      obtain ⟨vv_48, cv_48, h1v_48, h2v_48, h3v_48, hsv_48⟩ := IsSlice.cutv (ha_2.mono RU8.mono hleH_42) hm_47 hb_46
      refine ZA rfl rfl (R.slc (cap := cv_48) (a := w64 (s_39.2 + 10)) (b := w64 (s_39.2 + 12)) (c := (cv_48 : Int)) (m := p_1) (R := RU8) U23 S5 rfl ⟨_, rfl⟩ ⟨_, rfl⟩ (by obtain ⟨ao, n, e, _⟩ := h1v_48; exact ⟨ao, n, e, rfl⟩) ⟨hb_46.1, hb_46.2.1, h2v_48⟩ h3v_48 (.inl rfl)) ?_
      obtain ⟨av_48, cv_48', rfl⟩ := IsSlice.val hsv_48
      obtain ⟨x_49, hr_50, hx⟩ := ZM hx
      refine ZT (vs := [_]) (args := [_]) (K := []) (rst := [_, _, _, _]) E29 rfl rfl rfl ZL (ref01_Number_ok m_45 _ hsv_48 _ hr_50) rfl (fun u_51 Ku_51 Hu_51 hRu_51 hleu_51 hfu_51 => ?_)
      obtain ⟨rfl, rfl, rfl, -⟩ := hRu_51
      refine ZA rfl rfl (ZE rfl) (ZD (ZC (ZG (ZG (ZB (ZA rfl rfl (ZH rfl) (ZA rfl rfl (R.add_i rfl rfl) (ZA rfl rfl (ZH rfl) (ZA rfl rfl (R.add_i rfl rfl) (ZA rfl rfl (ZH rfl) (ZA rfl rfl (R.gtr_i rfl rfl) ?_)))))))))))
      refine ZD (ZC (ZY rfl (fun c_52 => ?_) (fun c_52 => ?_)))
      ·
       replace hx := ZP c_52 hx
       refine ZG (ZB (ZA rfl rfl (R.bldP (vs := []) (cs := [.int .u32 ((0 : UInt32).toNat : Int), .int .u32 ((0 : UInt32).toNat : Int), .slice none 0 0, .slice none 0 0, .slice none 0 0]) Z26 B26 rfl rfl rfl) (Zh 0 S26 rfl rfl rfl rfl rfl (Nat.le_of_ble_eq_true rfl) (ZA rfl rfl (ZE rfl) (ZD (ZC (ZV (ZJ (Zq ?_)))))))))
       obtain rfl := Zj hd_44 hx
       refine ZJ (Zq ?_)
       clear hx; have hx := hxo_37
       simp only [Sum.elim_inl, Sum.elim_inr] at hx
       refine ZJ (ZJ (Zn (Zn (Zn (ZO (vs := [.agg #[.int .u32 ((0 : UInt32).toNat : Int), .int .u32 ((0 : UInt32).toNat : Int), .slice none 0 0, .slice none 0 0, .slice none 0 0], .int .i64 8]) (K := [_, _, _]) (rst := [_, _, _, _]) (.inl rfl) rfl rfl (Res.cellN 3 rfl rfl S26 (ZN rfl rfl)) (ZS 0 rfl (ZS 0 rfl (ZS 0 rfl ZL))) ?_)))))
       obtain rfl := Option.some.inj hx
       exact ⟨none, 0, 0, [], none, 0, 0, [], none, 0, 0, [], rfl, rfl, (Zc _ _ _ _ _), (fun p hp => by cases hp), (Zc _ _ _ _ _), (fun p hp => by cases hp), (Zc _ _ _ _ _), (fun p hp => by cases hp), trivial⟩
      ·
       replace hx := ZQ c_52 hx
       refine JC.skip (ZC (ZG (JC.draw (so := [_, _, _, _]) 30 rfl Mixed ⟨⟨0, rfl⟩, ⟨1, rfl⟩, ⟨2, rfl⟩, ⟨3, rfl⟩, trivial⟩ (JA.val ⟨by kernel_rfl, by kernel_rfl⟩ (Zd _) (i := 0) rfl ⟨by kernel_rfl, by kernel_rfl, rfl⟩ trivial (Ze (Hle.refl _) ⟨⟨0, rfl⟩, ⟨1, rfl⟩, ⟨2, rfl⟩, ⟨3, rfl⟩, trivial⟩) (ZH rfl) rfl (JA.val ⟨by kernel_rfl, by kernel_rfl⟩ (Zd _) (i := 1) rfl ⟨by kernel_rfl, by kernel_rfl, rfl⟩ trivial (Ze (Hle.refl _) ⟨⟨0, rfl⟩, ⟨1, rfl⟩, ⟨2, rfl⟩, ⟨3, rfl⟩, trivial⟩) (ZH rfl) rfl ?_)))))
       obtain ⟨y_53, hN_54, hx⟩ := Zo hx
       obtain ⟨b_55, o_56, cs_57, hE_58, hR_59, hl_60, hc_61⟩ := IsSlice.elem (ha_2.mono RU8.mono hleH_42) hN_54
       obtain rfl := hR_59
       refine JA.val ⟨by kernel_rfl, by kernel_rfl⟩ (Zd _) (i := 2) rfl ⟨by kernel_rfl, by kernel_rfl, rfl⟩ trivial (Ze (Hle.refl _) ⟨⟨0, rfl⟩, ⟨1, rfl⟩, ⟨2, rfl⟩, ⟨3, rfl⟩, trivial⟩) (R.ix U23 S5 rfl rfl hE_58) rfl (JA.val ⟨by kernel_rfl, by kernel_rfl⟩ (Zd _) (i := 3) rfl ⟨by kernel_rfl, by kernel_rfl, rfl⟩ trivial (Ze (Hle.refl _) ⟨⟨0, rfl⟩, ⟨1, rfl⟩, ⟨2, rfl⟩, ⟨3, rfl⟩, trivial⟩) (R.ldH S5 rfl (hc_61 0 _ rfl)) rfl (JA.val ⟨by kernel_rfl, by kernel_rfl⟩ (Zd _) (i := 4) rfl ⟨by kernel_rfl, by kernel_rfl, rfl⟩ trivial (Ze (Hle.refl _) ⟨⟨0, rfl⟩, ⟨1, rfl⟩, ⟨2, rfl⟩, ⟨3, rfl⟩, trivial⟩) (R.cv_u8_i64 (a := y_53) U5 U3 rfl) rfl (JA.val ⟨by kernel_rfl, by kernel_rfl⟩ (Zd _) (i := 5) rfl ⟨by kernel_rfl, by kernel_rfl, rfl⟩ trivial (Ze (Hle.refl _) ⟨⟨0, rfl⟩, ⟨1, rfl⟩, ⟨2, rfl⟩, ⟨3, rfl⟩, trivial⟩) (ZH rfl) rfl (JA.val ⟨by kernel_rfl, by kernel_rfl⟩ (Zd _) (i := 6) rfl ⟨by kernel_rfl, by kernel_rfl, rfl⟩ trivial (Ze (Hle.refl _) ⟨⟨0, rfl⟩, ⟨1, rfl⟩, ⟨2, rfl⟩, ⟨3, rfl⟩, trivial⟩) (ZH rfl) rfl (JA.val ⟨by kernel_rfl, by kernel_rfl⟩ (Zd _) (i := 7) rfl ⟨by kernel_rfl, by kernel_rfl, rfl⟩ trivial (Ze (Hle.refl _) ⟨⟨0, rfl⟩, ⟨1, rfl⟩, ⟨2, rfl⟩, ⟨3, rfl⟩, trivial⟩) (R.add_i rfl rfl) rfl ?_)))))
       obtain ⟨y_62, hN_63, hx⟩ := Zo hx
       obtain ⟨b_64, o_65, cs_66, hE_67, hR_68, hl_69, hc_70⟩ := IsSlice.elem (ha_2.mono RU8.mono hleH_42) hN_63
       obtain rfl := hR_68
       refine JA.val ⟨by kernel_rfl, by kernel_rfl⟩ (Zd _) (i := 8) rfl ⟨by kernel_rfl, by kernel_rfl, rfl⟩ trivial (Ze (Hle.refl _) ⟨⟨0, rfl⟩, ⟨1, rfl⟩, ⟨2, rfl⟩, ⟨3, rfl⟩, trivial⟩) (R.ix U23 S5 rfl rfl hE_67) rfl (JA.val ⟨by kernel_rfl, by kernel_rfl⟩ (Zd _) (i := 9) rfl ⟨by kernel_rfl, by kernel_rfl, rfl⟩ trivial (Ze (Hle.refl _) ⟨⟨0, rfl⟩, ⟨1, rfl⟩, ⟨2, rfl⟩, ⟨3, rfl⟩, trivial⟩) (R.ldH S5 rfl (hc_70 0 _ rfl)) rfl (JA.val ⟨by kernel_rfl, by kernel_rfl⟩ (Zd _) (i := 10) rfl ⟨by kernel_rfl, by kernel_rfl, rfl⟩ trivial (Ze (Hle.refl _) ⟨⟨0, rfl⟩, ⟨1, rfl⟩, ⟨2, rfl⟩, ⟨3, rfl⟩, trivial⟩) (R.cv_u8_i64 (a := y_62) U5 U3 rfl) rfl (JA.val ⟨by kernel_rfl, by kernel_rfl⟩ (Zd _) (i := 11) rfl ⟨by kernel_rfl, by kernel_rfl, rfl⟩ trivial (Ze (Hle.refl _) ⟨⟨0, rfl⟩, ⟨1, rfl⟩, ⟨2, rfl⟩, ⟨3, rfl⟩, trivial⟩) (ZH rfl) rfl (JA.val ⟨by kernel_rfl, by kernel_rfl⟩ (Zd _) (i := 12) rfl ⟨by kernel_rfl, by kernel_rfl, rfl⟩ trivial (Ze (Hle.refl _) ⟨⟨0, rfl⟩, ⟨1, rfl⟩, ⟨2, rfl⟩, ⟨3, rfl⟩, trivial⟩) (ZH rfl) rfl (JA.val ⟨by kernel_rfl, by kernel_rfl⟩ (Zd _) (i := 13) rfl ⟨by kernel_rfl, by kernel_rfl, rfl⟩ trivial (Ze (Hle.refl _) ⟨⟨0, rfl⟩, ⟨1, rfl⟩, ⟨2, rfl⟩, ⟨3, rfl⟩, trivial⟩) (R.add_i rfl rfl) rfl (JA.val ⟨by kernel_rfl, by kernel_rfl⟩ (Zd _) (i := 14) rfl ⟨by kernel_rfl, by kernel_rfl, rfl⟩ trivial (Ze (Hle.refl _) ⟨⟨0, rfl⟩, ⟨1, rfl⟩, ⟨2, rfl⟩, ⟨3, rfl⟩, trivial⟩) (ZH rfl) rfl (JA.val ⟨by kernel_rfl, by kernel_rfl⟩ (Zd _) (i := 15) rfl ⟨by kernel_rfl, by kernel_rfl, rfl⟩ trivial (Ze (Hle.refl _) ⟨⟨0, rfl⟩, ⟨1, rfl⟩, ⟨2, rfl⟩, ⟨3, rfl⟩, trivial⟩) (R.add_i rfl rfl) rfl ?_)))))))
       obtain ⟨m_71, hm_73, hb_72, hx⟩ := slc_some hx
       obtain ⟨vv_74, cv_74, h1v_74, h2v_74, h3v_74, hsv_74⟩ := IsSlice.cutv (ha_2.mono RU8.mono hleH_42) hm_73 hb_72
       refine JA.val ⟨by kernel_rfl, by kernel_rfl⟩ (Zd _) (i := 16) rfl ⟨by kernel_rfl, by kernel_rfl, rfl⟩ trivial (Ze (Hle.refl _) ⟨⟨0, rfl⟩, ⟨1, rfl⟩, ⟨2, rfl⟩, ⟨3, rfl⟩, trivial⟩) (R.slc (cap := cv_74) (a := w64 (s_39.2 + 2)) (b := w64 (s_39.2 + 6)) (c := (cv_74 : Int)) (m := p_1) (R := RU8) U23 S5 rfl ⟨_, rfl⟩ ⟨_, rfl⟩ (by obtain ⟨ao, n, e, _⟩ := h1v_74; exact ⟨ao, n, e, rfl⟩) ⟨hb_72.1, hb_72.2.1, h2v_74⟩ h3v_74 (.inl rfl)) rfl ?_
       obtain ⟨av_74, cv_74', rfl⟩ := IsSlice.val hsv_74
       refine JA.val ⟨by kernel_rfl, by kernel_rfl⟩ (Zd _) (i := 19) rfl ⟨by kernel_rfl, by kernel_rfl, rfl⟩ trivial (Ze (Hle.refl _) ⟨⟨0, rfl⟩, ⟨1, rfl⟩, ⟨2, rfl⟩, ⟨3, rfl⟩, trivial⟩) (ZH rfl) rfl (JA.val ⟨by kernel_rfl, by kernel_rfl⟩ (Zd _) (i := 20) rfl ⟨by kernel_rfl, by kernel_rfl, rfl⟩ trivial (Ze (Hle.refl _) ⟨⟨0, rfl⟩, ⟨1, rfl⟩, ⟨2, rfl⟩, ⟨3, rfl⟩, trivial⟩) (ZH rfl) rfl (JA.val ⟨by kernel_rfl, by kernel_rfl⟩ (Zd _) (i := 21) rfl ⟨by kernel_rfl, by kernel_rfl, rfl⟩ trivial (Ze (Hle.refl _) ⟨⟨0, rfl⟩, ⟨1, rfl⟩, ⟨2, rfl⟩, ⟨3, rfl⟩, trivial⟩) (R.add_i rfl rfl) rfl (JA.val ⟨by kernel_rfl, by kernel_rfl⟩ (Zd _) (i := 22) rfl ⟨by kernel_rfl, by kernel_rfl, rfl⟩ trivial (Ze (Hle.refl _) ⟨⟨0, rfl⟩, ⟨1, rfl⟩, ⟨2, rfl⟩, ⟨3, rfl⟩, trivial⟩) (ZH rfl) rfl (JA.val ⟨by kernel_rfl, by kernel_rfl⟩ (Zd _) (i := 23) rfl ⟨by kernel_rfl, by kernel_rfl, rfl⟩ trivial (Ze (Hle.refl _) ⟨⟨0, rfl⟩, ⟨1, rfl⟩, ⟨2, rfl⟩, ⟨3, rfl⟩, trivial⟩) (R.add_i rfl rfl) rfl ?_))))
       obtain ⟨m_75, hm_77, hb_76, hx⟩ := slc_some hx
       obtain ⟨vv_78, cv_78, h1v_78, h2v_78, h3v_78, hsv_78⟩ := IsSlice.cutv (ha_2.mono RU8.mono hleH_42) hm_77 hb_76
       refine JA.val ⟨by kernel_rfl, by kernel_rfl⟩ (Zd _) (i := 24) rfl ⟨by kernel_rfl, by kernel_rfl, rfl⟩ trivial (Ze (Hle.refl _) ⟨⟨0, rfl⟩, ⟨1, rfl⟩, ⟨2, rfl⟩, ⟨3, rfl⟩, trivial⟩) (R.slc (cap := cv_78) (a := w64 (s_39.2 + 6)) (b := w64 (s_39.2 + 10)) (c := (cv_78 : Int)) (m := p_1) (R := RU8) U23 S5 rfl ⟨_, rfl⟩ ⟨_, rfl⟩ (by obtain ⟨ao, n, e, _⟩ := h1v_78; exact ⟨ao, n, e, rfl⟩) ⟨hb_76.1, hb_76.2.1, h2v_78⟩ h3v_78 (.inl rfl)) rfl ?_
       obtain ⟨av_78, cv_78', rfl⟩ := IsSlice.val hsv_78
       refine JAA.start [⟨28, 9, 39, .agg #[.int .i64 0, .int .i64 0, .int .u32 0, .int .u32 0, .slice none 0 0]⟩] rfl (JAA.one (i := 17) ⟨⟨_, _, _, rfl, Z39, rfl⟩, trivial⟩ (Hle.refl _) ⟨⟨0, rfl⟩, ⟨1, rfl⟩, ⟨2, rfl⟩, ⟨3, rfl⟩, trivial⟩ rfl (by kernel_rfl) (JOA.step rfl trivial rfl (fun tl_79 to_80 K hK => ?_)))
       obtain ⟨x_81, hr_82, hx⟩ := ZM hx
       refine ZT (vs := [_]) (args := [_]) (K := []) (rst := _ :: _ :: _ :: _ :: to_80) E29 rfl rfl rfl ZL (ref01_Number_ok m_71 _ hsv_74 _ hr_82) rfl (fun u_83 Ku_83 Hu_83 hRu_83 hleu_83 hfu_83 => ?_)
       obtain ⟨rfl, rfl, rfl, -⟩ := hRu_83
       refine ZD (hK (by repeat constructor) (by repeat constructor) (Ze (Hle.refl _) ⟨⟨0, rfl⟩, ⟨1, rfl⟩, ⟨2, rfl⟩, ⟨3, rfl⟩, trivial⟩) (JAA.val ⟨by kernel_rfl, by kernel_rfl⟩ (Zd _) (i := 18) rfl (by kernel_rfl) rfl trivial (Hle.refl _) ⟨⟨0, rfl⟩, ⟨1, rfl⟩, ⟨2, rfl⟩, ⟨3, rfl⟩, trivial⟩ (R.cv_i64_u32 U3 U22 rfl) rfl (JAA.one (i := 25) ⟨⟨_, _, _, rfl, Z39, rfl⟩, trivial⟩ (Hle.refl _) ⟨⟨0, rfl⟩, ⟨1, rfl⟩, ⟨2, rfl⟩, ⟨3, rfl⟩, trivial⟩ rfl (by kernel_rfl) (JOA.step rfl trivial rfl (fun tl_84 to_85 K hK => ?_)))))
       obtain ⟨x_86, hr_87, hx⟩ := ZM hx
       refine ZT (vs := [_]) (args := [_]) (K := []) (rst := _ :: _ :: _ :: _ :: to_85) E29 rfl rfl rfl ZL (ref01_Number_ok m_75 _ hsv_78 _ hr_87) rfl (fun u_88 Ku_88 Hu_88 hRu_88 hleu_88 hfu_88 => ?_)
       obtain ⟨rfl, rfl, rfl, -⟩ := hRu_88
       refine ZD (hK (by repeat constructor) (by repeat constructor) (Ze (Hle.refl _) ⟨⟨0, rfl⟩, ⟨1, rfl⟩, ⟨2, rfl⟩, ⟨3, rfl⟩, trivial⟩) (JAA.val ⟨by kernel_rfl, by kernel_rfl⟩ (Zd _) (i := 26) rfl (by kernel_rfl) rfl trivial (Hle.refl _) ⟨⟨0, rfl⟩, ⟨1, rfl⟩, ⟨2, rfl⟩, ⟨3, rfl⟩, trivial⟩ (R.cv_i64_u32 U3 U22 rfl) rfl (JAA.val ⟨by kernel_rfl, by kernel_rfl⟩ (Zd _) (i := 27) rfl (by kernel_rfl) rfl trivial (Hle.refl _) ⟨⟨0, rfl⟩, ⟨1, rfl⟩, ⟨2, rfl⟩, ⟨3, rfl⟩, trivial⟩ (R.bldP (vs := [(0, .int .i64 (y_53.toNat : Int)), (1, .int .i64 (y_62.toNat : Int)), (2, .int .u32 ((u32i x_81).toNat : Int)), (3, .int .u32 ((u32i x_86).toNat : Int))]) (cs := [.int .i64 (y_53.toNat : Int), .int .i64 (y_62.toNat : Int), .int .u32 ((u32i x_81).toNat : Int), .int .u32 ((u32i x_86).toNat : Int), .slice none 0 0]) Z39 B39 rfl rfl rfl) rfl (JAA.all ⟨⟨_, _, _, rfl, Z39, rfl⟩, trivial⟩ (Hle.refl _) ⟨⟨0, rfl⟩, ⟨1, rfl⟩, ⟨2, rfl⟩, ⟨3, rfl⟩, trivial⟩ rfl (by kernel_rfl) (fun b_89 hb_89 => JA.one (i := 29) (by kernel_rfl) (JO.step rfl trivial rfl (fun K hK => Zh 4 S39 rfl rfl rfl rfl rfl (Nat.le_of_ble_eq_true rfl) (ZD (hK _ _ _ (Ze (Hle.refl _) ⟨⟨0, rfl⟩, ⟨1, rfl⟩, ⟨2, rfl⟩, ⟨3, rfl⟩, trivial⟩) (JA.doneN (by kernel_rfl) (ZC ?_)))))))))))
       refine ZG (ZB (ZA rfl rfl (ZE rfl) (ZD (ZC (ZG (ZB (ZA rfl rfl (ZH rfl) (ZA rfl rfl (ZH rfl) (ZA rfl rfl (ZH rfl) (ZA rfl rfl (R.add_i rfl rfl) (ZA rfl rfl (ZH rfl) ?_)))))))))))
       refine ZA rfl rfl (R.add_i rfl rfl) (ZA rfl rfl (ZH rfl) (ZA rfl rfl (R.add_i rfl rfl) ?_))
       obtain ⟨m_90, hm_92, hb_91, hx⟩ := slc_some hx
       obtain ⟨vv_93, cv_93, h1v_93, h2v_93, h3v_93, hsv_93⟩ := IsSlice.cutv (ha_2.mono RU8.mono hleH_42) hm_92 hb_91
       refine ZA rfl rfl (R.slc (cap := cv_93) (a := w64 (s_39.2 + 12)) (b := w64 ((w64 (s_39.2 + 12)) + x_49)) (c := (cv_93 : Int)) (m := p_1) (R := RU8) U23 S5 rfl ⟨_, rfl⟩ ⟨_, rfl⟩ (by obtain ⟨ao, n, e, _⟩ := h1v_93; exact ⟨ao, n, e, rfl⟩) ⟨hb_91.1, hb_91.2.1, h2v_93⟩ h3v_93 (.inl rfl)) ?_
       obtain ⟨av_93, cv_93', rfl⟩ := IsSlice.val hsv_93
       refine JL.seg0 ?_
       obtain ⟨q_95, hm_96, hl_97, hx⟩ := app_some hx
       refine JL.appF (HF := (New H H_42)) 0 U23 I5 rfl rfl (Zc _ RU8 _ _ _) rfl (SrcF.sliceC RU8.const RU8.one U23 hsv_93) hm_96 hl_97 rfl (Nat.le_refl _) rfl (fun vr_98 Kr_98 hr_98 => ?_)
       obtain ⟨ar_98, cr_98, rfl⟩ := RowOf.val hr_98
       refine ZA rfl rfl (Zf F39_4 rfl) (Zh 5 S23 rfl rfl rfl rfl rfl (Nat.le_of_ble_eq_true rfl) (ZD (ZC (ZG (ZB (ZA rfl rfl (Zf F26_3 rfl) (ZA rfl rfl (ZU 2 S24 rfl rfl rfl) (ZA rfl rfl (R.ldoN 5 (vs := [.int .i64 (y_53.toNat : Int), .int .i64 (y_62.toNat : Int), .int .u32 ((u32i x_81).toNat : Int), .int .u32 ((u32i x_86).toNat : Int), .slice ar_98 q_95.length cr_98]) S39 rfl rfl rfl rfl) (JL.pubN 0 RU8.mono rfl hr_98 (Nat.le_refl _) (fun H_99 hleH_99 hsH_99 => JL.forget 0 (JL.bslF (HF := (New H H_99)) (R := R_Part) (ls := [Part.mk (y_53.toNat : Int) (y_62.toNat : Int) (u32i x_81) (u32i x_86) q_95]) (vs := [.agg #[.int .i64 (y_53.toNat : Int), .int .i64 (y_62.toNat : Int), .int .u32 ((u32i x_81).toNat : Int), .int .u32 ((u32i x_86).toNat : Int), .slice ar_98 q_95.length cr_98]]) U24 I39 rfl rfl (⟨_, _, rfl, rfl, ⟨_, rfl, hsH_99⟩, rfl⟩) R_Part.one rfl rfl rfl (by simp [maxLen]) rfl (fun vr_100 Kr_100 hr_100 => ?_))))))))))))
       obtain ⟨ar_100, cr_100, rfl⟩ := RowOf.val hr_100
       obtain ⟨q_101, hm_102, hl_103, hx⟩ := app_some hx
       refine JL.appF (HF := (New H H_99)) 4 U24 I39 rfl rfl (hr_43.mono R_Part.mono (New.mono hleH_99)) rfl (SrcF.row 0 U24 rfl hr_100) hm_102 hl_103 rfl (Nat.le_refl _) rfl (fun vr_104 Kr_104 hr_104 => ?_)
       obtain ⟨ar_104, cr_104, rfl⟩ := RowOf.val hr_104
       refine ZA rfl rfl (Zf F26_3 rfl) (Zh 2 S24 rfl rfl rfl rfl rfl (Nat.le_of_ble_eq_true rfl) (ZD (ZC (ZB (ZA rfl rfl (ZH rfl) (ZA rfl rfl (ZH rfl) (ZA rfl rfl (R.add_i rfl rfl) (ZA rfl rfl (R.add_i rfl rfl) (ZA rfl rfl (ZE rfl) (ZD (JN.blkN ?_)))))))))))
       replace hx := run_next hd_44 hx
       refine JN.forget 5 (JN.forget 0 (ZK 3 rfl (ZK 3 rfl (ZK 3 rfl (ZK 3 rfl ?_)))))
       exact ZW ⟨(q_101, w64 (s_39.2 + (w64 (12 + x_49)))), H_99, ar_104, q_101.length, cr_104, Kr_104, rfl, rfl, rfl, hx, ((hleH_42.trans hleH_99)), hr_104⟩ ⟨rfl, rfl, rfl, rfl, rfl, trivial⟩ rfl rfl
     ·
      replace hx := ZQ c_44 hx
      refine JC.exit (Zg ?_)
      obtain rfl := Zj hd_44 hx
      refine Zg (Zl (ZK 3 rfl (ZK 3 rfl (ZK 3 rfl (ZK 3 rfl ?_)))))
      exact ZW ⟨s_39.1, H_42, ar_43, nr_43, cr_43, Kr_43, rfl, rfl, rfl, rfl, (hleH_42), hr_43⟩ ⟨rfl, rfl, rfl, rfl, trivial⟩ rfl rfl

set_option maxHeartbeats 8000000 in
theorem ref29_Same_ok (p_1 : Stream) (p_5 : Stream) (H : Heaplet) {aa_2 : Option Addr} {na_2 : Nat} {ca_2 : Nat} {aa_3 : Option Addr} {na_3 : Nat} {ca_3 : Nat} {aa_4 : Option Addr} {na_4 : Nat} {ca_4 : Nat} {aa_6 : Option Addr} {na_6 : Nat} {ca_6 : Nat} {aa_7 : Option Addr} {na_7 : Nat} {ca_7 : Nat} {aa_8 : Option Addr} {na_8 : Nat} {ca_8 : Nat} (ha_2 : IsSlice H RU8 1 (.slice aa_2 na_2 ca_2) p_1.Key) (ha_3 : IsSlice H R_Part 5 (.slice aa_3 na_3 ca_3) p_1.Parts) (ha_4 : IsSlice H RU8 1 (.slice aa_4 na_4 ca_4) p_1.Sign) (ha_6 : IsSlice H RU8 1 (.slice aa_6 na_6 ca_6) p_5.Key) (ha_7 : IsSlice H R_Part 5 (.slice aa_7 na_7 ca_7) p_5.Parts) (ha_8 : IsSlice H RU8 1 (.slice aa_8 na_8 ca_8) p_5.Sign) (r : Bool) (hx : ref29_Same p_1 p_5 = some r) :
  Does Try.prog 10 #[.agg #[.int .u32 (p_1.Guid.toNat : Int), .int .u32 (p_1.Base.toNat : Int), .slice aa_2 na_2 ca_2, .slice aa_3 na_3 ca_3, .slice aa_4 na_4 ca_4], .agg #[.int .u32 (p_5.Guid.toNat : Int), .int .u32 (p_5.Base.toNat : Int), .slice aa_6 na_6 ca_6, .slice aa_7 na_7 ca_7, .slice aa_8 na_8 ca_8]] [] H (fun u K' H' => u = .bool r ∧ K' = [] ∧ H = H' ∧ True) := by
 refine Does.enterL (vs := [.agg #[.int .u32 (p_1.Guid.toNat : Int), .int .u32 (p_1.Base.toNat : Int), .slice aa_2 na_2 ca_2, .slice aa_3 na_3 ca_3, .slice aa_4 na_4 ca_4], .agg #[.int .u32 (p_5.Guid.toNat : Int), .int .u32 (p_5.Base.toNat : Int), .slice aa_6 na_6 ca_6, .slice aa_7 na_7 ca_7, .slice aa_8 na_8 ca_8]]) (l := [(0, .agg #[.int .u32 (p_1.Guid.toNat : Int), .int .u32 (p_1.Base.toNat : Int), .slice aa_2 na_2 ca_2, .slice aa_3 na_3 ca_3, .slice aa_4 na_4 ca_4]), (1, .agg #[.int .u32 (p_5.Guid.toNat : Int), .int .u32 (p_5.Base.toNat : Int), .slice aa_6 na_6 ca_6, .slice aa_7 na_7 ca_7, .slice aa_8 na_8 ca_8])]) Try.func10 rfl rfl ⟨rfl, rfl, trivial⟩ (fun w hlt => ?_)
 unfold ref29_Same at hx
 refine ZG (ZB (JL.box rfl rfl (fun b_9 hb_9 => JL.box rfl rfl (fun b_10 hb_10 => ZA rfl rfl (ZE rfl) (ZD (ZC (ZG (ZG (ZB (ZA rfl rfl (Zf F26_0 rfl) (ZA rfl rfl (ZU 1 S22 rfl rfl rfl) ?_)))))))))))
 refine ZA rfl rfl (Zf F26_0 rfl) (ZA rfl rfl (ZU 0 S22 rfl rfl rfl) (ZA rfl rfl (R.neq32 (a := p_1.Guid) (b := p_5.Guid) rfl rfl) (ZA rfl rfl (ZH rfl) (ZZ (t := 13) rfl (fun c_11 => ?_) (fun c_11 => ?_)))))
 ·
  replace hx := ZP c_11 hx
  refine ZF rfl rfl rfl rfl rfl (ZF rfl rfl rfl rfl rfl (ZF rfl rfl rfl rfl rfl (ZF rfl rfl rfl rfl rfl (ZF rfl rfl rfl rfl rfl (ZA rfl rfl (ZR rfl rfl) (ZA rfl rfl (ZH rfl) (ZF rfl rfl rfl rfl rfl (ZF rfl rfl rfl rfl rfl (ZF rfl rfl rfl rfl rfl (ZF rfl rfl rfl rfl rfl (ZF rfl rfl rfl rfl rfl ?_)))))))))))
  refine ZF rfl rfl rfl rfl rfl (ZF rfl rfl rfl rfl rfl (ZA rfl rfl (ZR rfl rfl) (ZA rfl rfl (ZH rfl) (ZF rfl rfl rfl rfl rfl (ZF rfl rfl rfl rfl rfl (ZF rfl rfl rfl rfl rfl (ZF rfl rfl rfl rfl rfl (ZF rfl rfl rfl rfl rfl (ZF rfl rfl rfl rfl rfl (ZF rfl rfl rfl rfl rfl (ZA rfl rfl (ZR rfl rfl) ?_)))))))))))
  refine ZA rfl rfl (ZH rfl) (ZF rfl rfl rfl rfl rfl (ZF rfl rfl rfl rfl rfl (ZF rfl rfl rfl rfl rfl (ZF rfl rfl rfl rfl rfl (ZF rfl rfl rfl rfl rfl (ZF rfl rfl rfl rfl rfl (ZF rfl rfl rfl rfl rfl (ZA rfl rfl (ZR rfl rfl) (ZD (ZC (Zm rfl ?_)))))))))))
  refine ZG (ZB (ZA rfl rfl (ZE rfl) (ZD (ZC (ZV (ZJ (ZO (vs := [.bool false]) (K := []) (rst := [_, _]) (.inl rfl) rfl rfl (ZN rfl rfl) ZL ?_)))))))
  obtain rfl := Option.some.inj hx
  exact ⟨rfl, rfl, rfl, trivial⟩
 ·
  replace hx := ZQ c_11 hx
  refine ZI rfl rfl rfl (ZA rfl rfl (Zf F26_1 rfl) (ZI rfl rfl rfl (ZA rfl rfl (ZU 1 S22 rfl rfl rfl) (ZI rfl rfl rfl (ZA rfl rfl (Zf F26_1 rfl) (ZI rfl rfl rfl (ZA rfl rfl (ZU 0 S22 rfl rfl rfl) (ZI rfl rfl rfl (ZA rfl rfl (R.neq32 (a := p_1.Base) (b := p_5.Base) rfl rfl) (ZA rfl rfl (Za rfl rfl) (ZA rfl rfl (ZH rfl) ?_)))))))))))
  refine ZZ (t := 20) rfl (fun c_12 => ?_) (fun c_12 => ?_)
  ·
   replace hx := ZP c_12 hx
   refine ZF rfl rfl rfl rfl rfl (ZF rfl rfl rfl rfl rfl (ZF rfl rfl rfl rfl rfl (ZF rfl rfl rfl rfl rfl (ZF rfl rfl rfl rfl rfl (ZF rfl rfl rfl rfl rfl (ZF rfl rfl rfl rfl rfl (ZA rfl rfl (ZR rfl rfl) (ZA rfl rfl (ZH rfl) (ZF rfl rfl rfl rfl rfl (ZF rfl rfl rfl rfl rfl (ZF rfl rfl rfl rfl rfl ?_)))))))))))
   refine ZF rfl rfl rfl rfl rfl (ZF rfl rfl rfl rfl rfl (ZF rfl rfl rfl rfl rfl (ZF rfl rfl rfl rfl rfl (ZA rfl rfl (ZR rfl rfl) (ZA rfl rfl (ZH rfl) (ZF rfl rfl rfl rfl rfl (ZF rfl rfl rfl rfl rfl (ZF rfl rfl rfl rfl rfl (ZF rfl rfl rfl rfl rfl (ZF rfl rfl rfl rfl rfl (ZF rfl rfl rfl rfl rfl ?_)))))))))))
   refine ZF rfl rfl rfl rfl rfl (ZA rfl rfl (ZR rfl rfl) (ZD (ZC (Zm rfl (ZG (ZB (ZA rfl rfl (ZE rfl) (ZD (ZC (ZV (ZJ ?_)))))))))))
   refine ZO (vs := [.bool false]) (K := []) (rst := [_, _]) (.inl rfl) rfl rfl (ZN rfl rfl) ZL ?_
   obtain rfl := Option.some.inj hx
   exact ⟨rfl, rfl, rfl, trivial⟩
  ·
   replace hx := ZQ c_12 hx
   refine ZI rfl rfl rfl (ZA rfl rfl (Zf F26_2 rfl) (ZI rfl rfl rfl (ZA rfl rfl (ZU 1 S23 rfl rfl rfl) (ZI rfl rfl rfl (ZA rfl rfl (R.toStr U23 U5 U9 rfl ha_2) (ZI rfl rfl rfl (ZA rfl rfl (Zf F26_2 rfl) (ZI rfl rfl rfl (ZA rfl rfl (ZU 0 S23 rfl rfl rfl) (ZI rfl rfl rfl (ZA rfl rfl (R.toStr U23 U5 U9 rfl ha_6) ?_)))))))))))
   refine ZI rfl rfl rfl (ZA rfl rfl (R.neqStr (a := p_1.Key) (b := p_5.Key) rfl rfl) (ZA rfl rfl (Za rfl rfl) (ZA rfl rfl (ZH rfl) (ZZ (t := 29) rfl (fun c_13 => ?_) (fun c_13 => ?_)))))
   ·
    replace hx := ZP c_13 hx
    refine ZF rfl rfl rfl rfl rfl (ZF rfl rfl rfl rfl rfl (ZF rfl rfl rfl rfl rfl (ZF rfl rfl rfl rfl rfl (ZF rfl rfl rfl rfl rfl (ZF rfl rfl rfl rfl rfl (ZF rfl rfl rfl rfl rfl (ZA rfl rfl (ZR rfl rfl) (ZA rfl rfl (ZH rfl) (ZF rfl rfl rfl rfl rfl (ZF rfl rfl rfl rfl rfl (ZF rfl rfl rfl rfl rfl ?_)))))))))))
    refine ZF rfl rfl rfl rfl rfl (ZF rfl rfl rfl rfl rfl (ZF rfl rfl rfl rfl rfl (ZF rfl rfl rfl rfl rfl (ZA rfl rfl (ZR rfl rfl) (ZD (ZC (Zm rfl (ZG (ZB (ZA rfl rfl (ZE rfl) (ZD ?_)))))))))))
    refine ZC (ZV (ZJ (ZO (vs := [.bool false]) (K := []) (rst := [_, _]) (.inl rfl) rfl rfl (ZN rfl rfl) ZL ?_)))
    obtain rfl := Option.some.inj hx
    exact ⟨rfl, rfl, rfl, trivial⟩
   ·
    replace hx := ZQ c_13 hx
    refine ZI rfl rfl rfl (ZA rfl rfl (Zf F26_4 rfl) (ZI rfl rfl rfl (ZA rfl rfl (ZU 1 S23 rfl rfl rfl) (ZI rfl rfl rfl (ZA rfl rfl (R.toStr U23 U5 U9 rfl ha_4) (ZI rfl rfl rfl (ZA rfl rfl (Zf F26_4 rfl) (ZI rfl rfl rfl (ZA rfl rfl (ZU 0 S23 rfl rfl rfl) (ZI rfl rfl rfl (ZA rfl rfl (R.toStr U23 U5 U9 rfl ha_8) ?_)))))))))))
    refine ZI rfl rfl rfl (ZA rfl rfl (R.neqStr (a := p_1.Sign) (b := p_5.Sign) rfl rfl) (ZA rfl rfl (Za rfl rfl) (ZA rfl rfl (ZH rfl) (ZZ (t := 38) rfl (fun c_14 => ?_) (fun c_14 => ?_)))))
    ·
     replace hx := ZP c_14 hx
     refine ZF rfl rfl rfl rfl rfl (ZF rfl rfl rfl rfl rfl (ZF rfl rfl rfl rfl rfl (ZF rfl rfl rfl rfl rfl (ZF rfl rfl rfl rfl rfl (ZF rfl rfl rfl rfl rfl (ZF rfl rfl rfl rfl rfl (ZA rfl rfl (ZR rfl rfl) (ZD (ZC (Zm rfl (ZG ?_)))))))))))
     refine ZB (ZA rfl rfl (ZE rfl) (ZD (ZC (ZV (ZJ (ZO (vs := [.bool false]) (K := []) (rst := [_, _]) (.inl rfl) rfl rfl (ZN rfl rfl) ZL ?_))))))
     obtain rfl := Option.some.inj hx
     exact ⟨rfl, rfl, rfl, trivial⟩
    ·
     replace hx := ZQ c_14 hx
     refine ZI rfl rfl rfl (ZA rfl rfl (Zf F26_3 rfl) (ZI rfl rfl rfl (ZA rfl rfl (ZU 1 S24 rfl rfl rfl) (ZI rfl rfl rfl (ZA rfl rfl (Zs U24 rfl (IsSlice.long ha_3)) (ZI rfl rfl rfl (ZA rfl rfl (Zf F26_3 rfl) (ZI rfl rfl rfl (ZA rfl rfl (ZU 0 S24 rfl rfl rfl) (ZI rfl rfl rfl (ZA rfl rfl (Zs U24 rfl (IsSlice.long ha_7)) ?_)))))))))))
     refine ZI rfl rfl rfl (ZA rfl rfl (R.neq_i rfl rfl) (ZA rfl rfl (Za rfl rfl) (ZD (ZC (JC.tidy (l' := [(2, .pointer (some ⟨b_9, 0, none⟩)), (3, .pointer (some ⟨b_10, 0, none⟩)), (4, .bool false), (46, .bool (!decide ((p_1.Parts.length : Int) = (p_5.Parts.length : Int))))]) (own' := [[(b_10, .cells #[.int .u32 (p_5.Guid.toNat : Int), .int .u32 (p_5.Base.toNat : Int), .slice aa_6 na_6 ca_6, .slice aa_7 na_7 ca_7, .slice aa_8 na_8 ca_8] 26 (0, 0))], [(b_9, .cells #[.int .u32 (p_1.Guid.toNat : Int), .int .u32 (p_1.Base.toNat : Int), .slice aa_2 na_2 ca_2, .slice aa_3 na_3 ca_3, .slice aa_4 na_4 ca_4] 26 (0, 0))]]) ⟨rfl, rfl, rfl, rfl, trivial⟩ rfl (JC.tidyP (l' := [(2, .pointer (some ⟨b_9, 0, none⟩)), (3, .pointer (some ⟨b_10, 0, none⟩)), (4, .bool false), (46, .bool (!decide ((p_1.Parts.length : Int) = (p_5.Parts.length : Int))))]) (own' := [[(b_10, .cells #[.int .u32 (p_5.Guid.toNat : Int), .int .u32 (p_5.Base.toNat : Int), .slice aa_6 na_6 ca_6, .slice aa_7 na_7 ca_7, .slice aa_8 na_8 ca_8] 26 (0, 0))], [(b_9, .cells #[.int .u32 (p_1.Guid.toNat : Int), .int .u32 (p_1.Base.toNat : Int), .slice aa_2 na_2 ca_2, .slice aa_3 na_3 ca_3, .slice aa_4 na_4 ca_4] 26 (0, 0))]]) (rst := []) ⟨rfl, rfl, rfl, rfl, trivial⟩ (ZS 0 rfl (ZS 0 rfl ZL)) (ZY rfl (fun c_15 => ?_) (fun c_15 => ?_))))))))
     ·
      replace hx := ZP c_15 hx
      refine ZG (ZB (ZA rfl rfl (ZE rfl) (ZD (ZC (ZV (ZJ (ZO (vs := [.bool false]) (K := []) (rst := [_, _]) (.inl rfl) rfl rfl (ZN rfl rfl) ZL ?_)))))))
      obtain rfl := Option.some.inj hx
      exact ⟨rfl, rfl, rfl, trivial⟩
     ·
      replace hx := ZQ c_15 hx
      refine JC.skip (ZC (ZG (ZG (ZB (ZA rfl rfl (ZE rfl) (ZD (ZC ?_)))))))
      obtain ⟨t_16, ht_18, hx⟩ := ZM hx
      refine Zv (fun l o g => ∃ t_16a : Unit, l = [] ∧ o = [] ∧ H = g ∧ t_16 = .inl t_16a) ?_ ?_
      ·
       rintro _ _ _ ⟨t_16a, rfl, rfl, rfl, rfl⟩
       simp only [Sum.elim_inl] at hx
       refine ZC (ZG (ZB (ZA rfl rfl (ZE rfl) (ZD (ZC (ZV (ZO (vs := [.bool true]) (K := []) (rst := []) (.inl rfl) rfl rfl (ZN rfl rfl) ZL ?_)))))))
       obtain rfl := Option.some.inj hx
       exact ⟨rfl, rfl, rfl, trivial⟩
      ·
       have hxo_17 := hx; clear hx; have hx := ht_18; clear ht_18
       refine JC.block (JC.front 1 rfl (JC.loopI (fun n l o g => ∃ s_19 : Nat, l = [(2, .pointer (some ⟨b_9, 0, none⟩)), (3, .pointer (some ⟨b_10, 0, none⟩)), (5, .int .i64 ((s_19 : Nat) : Int))] ∧ o = [[(b_9, .cells #[.int .u32 (p_1.Guid.toNat : Int), .int .u32 (p_1.Base.toNat : Int), .slice aa_2 na_2 ca_2, .slice aa_3 na_3 ca_3, .slice aa_4 na_4 ca_4] 26 (0, 0))], [(b_10, .cells #[.int .u32 (p_5.Guid.toNat : Int), .int .u32 (p_5.Base.toNat : Int), .slice aa_6 na_6 ca_6, .slice aa_7 na_7 ca_7, .slice aa_8 na_8 ca_8] 26 (0, 0))]] ∧ H = g ∧ run (ref29_Same_l1 p_1 p_5) n s_19 = some t_16) FUEL ?_ ⟨0, rfl, rfl, rfl, hx⟩ ⟨rfl, rfl, rfl, trivial⟩ ?_))
       ·
        rintro _ _ _ ⟨s_19, rfl, rfl, rfl, hn_20⟩
        exact run_zero hn_20
       ·
        rintro n_21 _ _ _ ⟨s_19, rfl, rfl, rfl, hn_20⟩
        clear hx; obtain ⟨oo_23, hx, hd_22⟩ := run_some hn_20
        unfold ref29_Same_l1 at hx
        refine ZG (ZG (ZB (ZA rfl rfl (ZH rfl) (ZA rfl rfl (Zf F26_3 rfl) (ZA rfl rfl (ZU 0 S24 rfl rfl rfl) (ZA rfl rfl (Zs U24 rfl (IsSlice.long ha_3)) (ZA rfl rfl (Zu rfl rfl) (ZD (ZC (ZY rfl (fun c_22 => ?_) (fun c_22 => ?_)))))))))))
        ·
         replace hx := ZP c_22 hx
         refine JC.skip (ZC (ZG (JC.block (ZG (ZB (ZA rfl rfl (Zf F26_3 rfl) (ZA rfl rfl (ZU 0 S24 rfl rfl rfl) (ZA rfl rfl (ZH rfl) ?_))))))))
         obtain ⟨y_23, hN_24, hx⟩ := Zo hx
         obtain ⟨b_25, o_26, cs_27, hE_28, hR_29, hl_30, hc_31⟩ := IsSlice.elem ha_3 hN_24
         obtain ⟨v_32, rfl, hs_33⟩ := hR_29
         obtain ⟨av_32, cv_32, rfl⟩ := IsSlice.val hs_33
         refine ZA rfl rfl (R.ix U24 S39 rfl rfl hE_28) (ZA rfl rfl (R.ldHE (cs := [.int .i64 y_23.Obj, .int .i64 y_23.Index, .int .u32 (y_23.Iv.toNat : Int), .int .u32 (y_23.Tag.toNat : Int), .slice av_32 y_23.Data.length cv_32]) (k := 0) (vs := [.int .i64 y_23.Obj, .int .i64 y_23.Index, .int .u32 (y_23.Iv.toNat : Int), .int .u32 (y_23.Tag.toNat : Int), .slice av_32 y_23.Data.length cv_32]) S39 rfl hc_31 rfl rfl) (JL.alloc Z39 rfl (fun b_34 hb_34 => Zh 0 S39 rfl rfl rfl rfl rfl (Nat.le_of_ble_eq_true rfl) (ZD (ZC (ZG (ZB (ZA rfl rfl (Zf F26_3 rfl) (ZA rfl rfl (ZU 2 S24 rfl rfl rfl) (ZA rfl rfl (ZH rfl) ?_))))))))))
         obtain ⟨y_35, hN_36, hx⟩ := Zo hx
         obtain ⟨b_37, o_38, cs_39, hE_40, hR_41, hl_42, hc_43⟩ := IsSlice.elem ha_7 hN_36
         obtain ⟨v_44, rfl, hs_45⟩ := hR_41
         obtain ⟨av_44, cv_44, rfl⟩ := IsSlice.val hs_45
         refine ZA rfl rfl (R.ix U24 S39 rfl rfl hE_40) (ZA rfl rfl (R.ldHE (cs := [.int .i64 y_35.Obj, .int .i64 y_35.Index, .int .u32 (y_35.Iv.toNat : Int), .int .u32 (y_35.Tag.toNat : Int), .slice av_44 y_35.Data.length cv_44]) (k := 0) (vs := [.int .i64 y_35.Obj, .int .i64 y_35.Index, .int .u32 (y_35.Iv.toNat : Int), .int .u32 (y_35.Tag.toNat : Int), .slice av_44 y_35.Data.length cv_44]) S39 rfl hc_43 rfl rfl) (JL.alloc Z39 rfl (fun b_46 hb_46 => Zh 0 S39 rfl rfl rfl rfl rfl (Nat.le_of_ble_eq_true rfl) (ZD (ZC (ZG (ZB (ZA rfl rfl (Zf F39_0 rfl) (ZA rfl rfl (ZU 1 S3 rfl rfl rfl) (ZA rfl rfl (Zf F39_0 rfl) (ZA rfl rfl (ZU 0 S3 rfl rfl rfl) ?_)))))))))))
         refine ZA rfl rfl (R.neq_i rfl rfl) (ZA rfl rfl (ZH rfl) (ZZ (t := 69) rfl (fun c_47 => ?_) (fun c_47 => ?_)))
         ·
          replace hx := ZP c_47 hx
          refine ZF rfl rfl rfl rfl rfl (ZF rfl rfl rfl rfl rfl (ZF rfl rfl rfl rfl rfl (ZF rfl rfl rfl rfl rfl (ZF rfl rfl rfl rfl rfl (ZA rfl rfl (ZR rfl rfl) (ZA rfl rfl (ZH rfl) (ZF rfl rfl rfl rfl rfl (ZF rfl rfl rfl rfl rfl (ZF rfl rfl rfl rfl rfl (ZF rfl rfl rfl rfl rfl (ZF rfl rfl rfl rfl rfl ?_)))))))))))
          refine ZA rfl rfl (ZR rfl rfl) (ZA rfl rfl (ZH rfl) (ZF rfl rfl rfl rfl rfl (ZF rfl rfl rfl rfl rfl (ZF rfl rfl rfl rfl rfl (ZF rfl rfl rfl rfl rfl (ZF rfl rfl rfl rfl rfl (ZA rfl rfl (ZR rfl rfl) (ZA rfl rfl (ZH rfl) (ZF rfl rfl rfl rfl rfl (ZF rfl rfl rfl rfl rfl (ZF rfl rfl rfl rfl rfl ?_)))))))))))
          refine ZF rfl rfl rfl rfl rfl (ZF rfl rfl rfl rfl rfl (ZF rfl rfl rfl rfl rfl (ZF rfl rfl rfl rfl rfl (ZA rfl rfl (ZR rfl rfl) (ZD (ZC (Zm rfl (ZG (ZB (ZA rfl rfl (ZE rfl) (ZD ?_)))))))))))
          refine ZC (ZV (Zq (ZJ ?_)))
          obtain rfl := Zj hd_22 hx
          refine ZJ (Zq ?_)
          clear hx; have hx := hxo_17
          simp only [Sum.elim_inl, Sum.elim_inr] at hx
          refine ZJ (ZJ (ZO (vs := [.bool false]) (K := []) (rst := [_, _, _, _]) (.inl rfl) rfl rfl (ZN rfl rfl) ZL ?_))
          obtain rfl := Option.some.inj hx
          exact ⟨rfl, rfl, rfl, trivial⟩
         ·
          replace hx := ZQ c_47 hx
          refine ZI rfl rfl rfl (ZA rfl rfl (Zf F39_1 rfl) (ZI rfl rfl rfl (ZA rfl rfl (ZU 1 S3 rfl rfl rfl) (ZI rfl rfl rfl (ZA rfl rfl (Zf F39_1 rfl) (ZI rfl rfl rfl (ZA rfl rfl (ZU 0 S3 rfl rfl rfl) (ZI rfl rfl rfl (ZA rfl rfl (R.neq_i rfl rfl) (ZA rfl rfl (Za rfl rfl) (ZA rfl rfl (ZH rfl) ?_)))))))))))
          refine ZZ (t := 76) rfl (fun c_48 => ?_) (fun c_48 => ?_)
          ·
           replace hx := ZP c_48 hx
           refine ZF rfl rfl rfl rfl rfl (ZF rfl rfl rfl rfl rfl (ZF rfl rfl rfl rfl rfl (ZF rfl rfl rfl rfl rfl (ZF rfl rfl rfl rfl rfl (ZA rfl rfl (ZR rfl rfl) (ZA rfl rfl (ZH rfl) (ZF rfl rfl rfl rfl rfl (ZF rfl rfl rfl rfl rfl (ZF rfl rfl rfl rfl rfl (ZF rfl rfl rfl rfl rfl (ZF rfl rfl rfl rfl rfl ?_)))))))))))
           refine ZA rfl rfl (ZR rfl rfl) (ZA rfl rfl (ZH rfl) (ZF rfl rfl rfl rfl rfl (ZF rfl rfl rfl rfl rfl (ZF rfl rfl rfl rfl rfl (ZF rfl rfl rfl rfl rfl (ZF rfl rfl rfl rfl rfl (ZF rfl rfl rfl rfl rfl (ZF rfl rfl rfl rfl rfl (ZA rfl rfl (ZR rfl rfl) (ZD (ZC ?_)))))))))))
           refine Zm rfl (ZG (ZB (ZA rfl rfl (ZE rfl) (ZD (ZC (ZV (Zq (ZJ ?_))))))))
           obtain rfl := Zj hd_22 hx
           refine ZJ (Zq ?_)
           clear hx; have hx := hxo_17
           simp only [Sum.elim_inl, Sum.elim_inr] at hx
           refine ZJ (ZJ (ZO (vs := [.bool false]) (K := []) (rst := [_, _, _, _]) (.inl rfl) rfl rfl (ZN rfl rfl) ZL ?_))
           obtain rfl := Option.some.inj hx
           exact ⟨rfl, rfl, rfl, trivial⟩
          ·
           replace hx := ZQ c_48 hx
           refine ZI rfl rfl rfl (ZA rfl rfl (Zf F39_2 rfl) (ZI rfl rfl rfl (ZA rfl rfl (ZU 1 S22 rfl rfl rfl) (ZI rfl rfl rfl (ZA rfl rfl (Zf F39_2 rfl) (ZI rfl rfl rfl (ZA rfl rfl (ZU 0 S22 rfl rfl rfl) (ZI rfl rfl rfl (ZA rfl rfl (R.neq32 (a := y_23.Iv) (b := y_35.Iv) rfl rfl) (ZA rfl rfl (Za rfl rfl) (ZA rfl rfl (ZH rfl) ?_)))))))))))
           refine ZZ (t := 83) rfl (fun c_49 => ?_) (fun c_49 => ?_)
           ·
            replace hx := ZP c_49 hx
            refine ZF rfl rfl rfl rfl rfl (ZF rfl rfl rfl rfl rfl (ZF rfl rfl rfl rfl rfl (ZF rfl rfl rfl rfl rfl (ZF rfl rfl rfl rfl rfl (ZA rfl rfl (ZR rfl rfl) (ZA rfl rfl (ZH rfl) (ZF rfl rfl rfl rfl rfl (ZF rfl rfl rfl rfl rfl (ZF rfl rfl rfl rfl rfl (ZF rfl rfl rfl rfl rfl (ZF rfl rfl rfl rfl rfl ?_)))))))))))
            refine ZF rfl rfl rfl rfl rfl (ZF rfl rfl rfl rfl rfl (ZA rfl rfl (ZR rfl rfl) (ZD (ZC (Zm rfl (ZG (ZB (ZA rfl rfl (ZE rfl) (ZD (ZC (ZV ?_)))))))))))
            refine Zq (ZJ ?_)
            obtain rfl := Zj hd_22 hx
            refine ZJ (Zq ?_)
            clear hx; have hx := hxo_17
            simp only [Sum.elim_inl, Sum.elim_inr] at hx
            refine ZJ (ZJ (ZO (vs := [.bool false]) (K := []) (rst := [_, _, _, _]) (.inl rfl) rfl rfl (ZN rfl rfl) ZL ?_))
            obtain rfl := Option.some.inj hx
            exact ⟨rfl, rfl, rfl, trivial⟩
           ·
            replace hx := ZQ c_49 hx
            refine ZI rfl rfl rfl (ZA rfl rfl (Zf F39_3 rfl) (ZI rfl rfl rfl (ZA rfl rfl (ZU 1 S22 rfl rfl rfl) (ZI rfl rfl rfl (ZA rfl rfl (Zf F39_3 rfl) (ZI rfl rfl rfl (ZA rfl rfl (ZU 0 S22 rfl rfl rfl) (ZI rfl rfl rfl (ZA rfl rfl (R.neq32 (a := y_23.Tag) (b := y_35.Tag) rfl rfl) (ZA rfl rfl (Za rfl rfl) (ZA rfl rfl (ZH rfl) ?_)))))))))))
            refine ZZ (t := 90) rfl (fun c_50 => ?_) (fun c_50 => ?_)
            ·
             replace hx := ZP c_50 hx
             refine ZF rfl rfl rfl rfl rfl (ZF rfl rfl rfl rfl rfl (ZF rfl rfl rfl rfl rfl (ZF rfl rfl rfl rfl rfl (ZF rfl rfl rfl rfl rfl (ZF rfl rfl rfl rfl rfl (ZF rfl rfl rfl rfl rfl (ZA rfl rfl (ZR rfl rfl) (ZD (ZC (Zm rfl (ZG ?_)))))))))))
             refine ZB (ZA rfl rfl (ZE rfl) (ZD (ZC (ZV (Zq (ZJ ?_))))))
             obtain rfl := Zj hd_22 hx
             refine ZJ (Zq ?_)
             clear hx; have hx := hxo_17
             simp only [Sum.elim_inl, Sum.elim_inr] at hx
             refine ZJ (ZJ (ZO (vs := [.bool false]) (K := []) (rst := [_, _, _, _]) (.inl rfl) rfl rfl (ZN rfl rfl) ZL ?_))
             obtain rfl := Option.some.inj hx
             exact ⟨rfl, rfl, rfl, trivial⟩
            ·
             replace hx := ZQ c_50 hx
             refine ZI rfl rfl rfl (ZA rfl rfl (Zf F39_4 rfl) (ZI rfl rfl rfl (ZA rfl rfl (ZU 1 S23 rfl rfl rfl) (ZI rfl rfl rfl (ZA rfl rfl (R.toStr U23 U5 U9 rfl hs_33) (ZI rfl rfl rfl (ZA rfl rfl (Zf F39_4 rfl) (ZI rfl rfl rfl (ZA rfl rfl (ZU 0 S23 rfl rfl rfl) (ZI rfl rfl rfl (ZA rfl rfl (R.toStr U23 U5 U9 rfl hs_45) ?_)))))))))))
             refine ZI rfl rfl rfl (ZA rfl rfl (R.neqStr (a := y_23.Data) (b := y_35.Data) rfl rfl) (ZA rfl rfl (Za rfl rfl) (ZD (ZC (ZY rfl (fun c_51 => ?_) (fun c_51 => ?_))))))
             ·
              replace hx := ZP c_51 hx
              refine ZG (ZB (ZA rfl rfl (ZE rfl) (ZD (ZC (ZV (Zq (ZJ ?_)))))))
              obtain rfl := Zj hd_22 hx
              refine ZJ (Zq ?_)
              clear hx; have hx := hxo_17
              simp only [Sum.elim_inl, Sum.elim_inr] at hx
              refine ZJ (ZJ (ZO (vs := [.bool false]) (K := []) (rst := [_, _, _, _]) (.inl rfl) rfl rfl (ZN rfl rfl) ZL ?_))
              obtain rfl := Option.some.inj hx
              exact ⟨rfl, rfl, rfl, trivial⟩
             ·
              replace hx := ZQ c_51 hx
              refine JC.skip (JN.blkN (ZC (ZB (ZA rfl rfl (ZH rfl) (ZA rfl rfl (R.inc rfl rfl (of_decide_eq_true c_22) (IsSlice.lenI ha_3)) (ZA rfl rfl (ZE rfl) (ZD ?_)))))))
              replace hx := run_next hd_22 hx
              refine JN.forget 1 (JN.forget 0 (ZK 1 rfl (ZK 1 rfl ?_)))
              exact ZW ⟨s_19 + 1, rfl, rfl, rfl, hx⟩ ⟨rfl, rfl, rfl, trivial⟩ rfl rfl
        ·
         replace hx := ZQ c_22 hx
         refine JC.exit (Zg ?_)
         obtain rfl := Zj hd_22 hx
         refine Zg (Zl (JN.forget 1 (JN.forget 0 ?_)))
         exact ZW ⟨(), rfl, rfl, rfl, rfl⟩ trivial rfl rfl
end Go.Proofs.Ytebhagohhbmgoaa
