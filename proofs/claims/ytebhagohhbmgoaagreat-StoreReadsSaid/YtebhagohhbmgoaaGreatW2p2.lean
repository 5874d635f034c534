import Derived.Test.YtebhagohhbmgoaaGreatW2p1
/- walks: what the code computes, function by function. -/
namespace Go.Proofs.YtebhagohhbmgoaaGreat
open Go.Ow Go.RowKit Go.Proofs
set_option linter.unusedVariables false
set_option linter.unusedSimpArgs false
set_option maxHeartbeats 8000000 in
theorem cipher_Turn_ok (p_1 : List UInt8) (p_3 : UInt32) (p_4 : List UInt8) (H : Heaplet) {aa_2 : Option Addr} {na_2 : Nat} {ca_2 : Nat} {aa_5 : Option Addr} {na_5 : Nat} {ca_5 : Nat} (ha_2 : IsSlice H RU8 1 (.slice aa_2 na_2 ca_2) p_1) (ha_5 : IsSlice H RU8 1 (.slice aa_5 na_5 ca_5) p_4) (r : List UInt8 × Int) (hx : cipher_Turn p_1 p_3 p_4 = some r) :
  Does Tryz.prog 169 #[.slice aa_2 na_2 ca_2,.int .u32 (p_3.toNat : Int),.slice aa_5 na_5 ca_5] [] H (fun u K' H' => ∃ ao0 : Option Addr,∃ n0 : Nat,∃ cap0 : Nat,∃ K0 : Own,u = .tuple #[.slice ao0 n0 cap0,.int .i64 r.2] ∧ K' = [K0] ∧ RowOf (New H H') RU8 0 5 1 (.slice ao0 n0 cap0) r.1 K0 ∧ (∀ p ∈ K0,p.1 ∉ ids (List.flatten [])) ∧ True):=by
 refine Does.enterL (vs:=[.slice aa_2 na_2 ca_2,.int .u32 (p_3.toNat : Int),.slice aa_5 na_5 ca_5]) (l:=[(0,.slice aa_2 na_2 ca_2),(1,.int .u32 (p_3.toNat : Int)),(2,.slice aa_5 na_5 ca_5)]) Tryz.func169 rfl rfl ⟨rfl,rfl,rfl,trivial⟩ (fun w hlt => ?_)
 unfold cipher_Turn at hx
 refine Run.cl [] 11 ZF rfl (ZA rfl rfl (ZV U26 rfl (IsSlice.long ha_2)) (Run.lcz_s [] 4 ZF rfl (ZM rfl (fun c_6 => ?_) (fun c_6 => ?_))))
 ·
  replace hx:=ZK c_6 hx
  refine Run.cnz_bk [] 9 ZF rfl (Zj (ZJ (vs:=[.slice none 0 0,.int .i64 2]) (K:=[_]) (rst:=[]) (.inl rfl) rfl rfl (ZG rfl (ZG rfl rfl)) (ZO 0 rfl ZC) ?_))
  obtain rfl:=Option.some.inj hx
  exact ⟨none,0,0,[],rfl,rfl,(ZR _ _ _ _ _),(fun p hp => by cases hp),trivial⟩
 ·
  replace hx:=ZL c_6 hx
  refine Run.cl [] 3 ZF rfl (ZA rfl rfl (ZV U26 rfl (IsSlice.long ha_5)) (Run.lcz_s [] 4 ZF rfl (ZM rfl (fun c_7 => ?_) (fun c_7 => ?_))))
  ·
   replace hx:=ZK c_7 hx
   refine Run.cnz_bk [] 9 ZF rfl (Zj (ZJ (vs:=[.slice none 0 0,.int .i64 3]) (K:=[_]) (rst:=[]) (.inl rfl) rfl rfl (ZG rfl (ZG rfl rfl)) (ZO 0 rfl ZC) ?_))
   obtain rfl:=Option.some.inj hx
   exact ⟨none,0,0,[],rfl,rfl,(ZR _ _ _ _ _),(fun p hp => by cases hp),trivial⟩
  ·
   replace hx:=ZL c_7 hx
   refine Run.cl_bs [] 8 ZF rfl (ZA rfl rfl (ZV U26 rfl (IsSlice.long ha_5)) ?_)
   obtain ⟨x_8,hr_9,hx⟩:=ZD hx
   refine ZI (vs:=[_,_,_]) (args:=[_,_,_]) (K:=[]) (rst:=[]) E222 rfl rfl rfl ZC (cipher_Stream_ok p_1 p_3 (p_4.length : Int) _ ha_2 _ hr_9) rfl (fun u_10 Ku_10 Hu_10 hRu_10 hleu_10 hfu_10 => ?_)
   obtain ⟨ar_11,nr_11,cr_11,Kr_11,rfl,rfl,hr_11,hnewr_11,-⟩:=hRu_10
   replace hr_11:=(RowOf.base (ZP (H2:=New H Hu_10) RU8.const hr_11) (fun p hp => (hfu_10 p (ZS 0 rfl hp)).resolve_left (hnewr_11 p hp)))
   refine Run.ll_s [] 11 ZF rfl (ZA rfl rfl (ZV U26 rfl (IsSlice.long ha_5)) (Run.lcz_s [] 3 ZF rfl ?_))
   obtain ⟨t_12,ht_14,hx⟩:=ZD hx
   refine JC.cut (fun l o g => ∃ Kr_19 : Own,l = [(8,.slice ar_11 nr_11 cr_11),(9,.int .i64 x_8.2)] ∧ o = [Kr_19] ∧ Hu_10 = g ∧ RowOf (New H Hu_10) RU8 w.heap.size 5 1 (.slice ar_11 nr_11 cr_11) t_12 Kr_19) ?_ ?_
   ·
    rintro _ _ _ ⟨Kr_19,rfl,rfl,rfl,hr_19⟩
    refine Run.nnz_s [] 10 ZF rfl (ZJ (vs:=[.slice ar_11 nr_11 cr_11,.int .i64 x_8.2]) (K:=[_]) (rst:=[]) (.inl rfl) rfl rfl (ZG rfl (ZG rfl rfl)) (ZO 0 rfl ZC) ?_)
    obtain rfl:=Option.some.inj hx
    exact ⟨ar_11,nr_11,cr_11,Kr_19,rfl,rfl,(ZT (Nat.zero_le _) hr_19),(Zh hr_19 hlt),trivial⟩
   ·
    have hxo_13:=hx; clear hx; have hx:=ht_14; clear ht_14
    refine JC.block (Zf (fun n l o g => ∃ s_15 : List UInt8 × Nat,∃ Kr_18 : Own,l = [(8,.slice ar_11 nr_11 cr_11),(9,.int .i64 x_8.2),(28,.slice aa_5 na_5 ca_5),(29,.int .i64 (p_4.length : Int)),(30,.int .i64 ((s_15.2 : Nat) : Int))] ∧ o = [Kr_18] ∧ Hu_10 = g ∧ run (cipher_Turn_l1 p_4) n s_15 = some t_12 ∧ RowOf (New H Hu_10) RU8 w.heap.size 5 1 (.slice ar_11 nr_11 cr_11) s_15.1 Kr_18) FUEL ?_ ⟨(x_8.1,0),Kr_11,rfl,rfl,rfl,hx,hr_11⟩ ⟨rfl,rfl,rfl,rfl,rfl,trivial⟩ ?_)
    ·
     rintro _ _ _ ⟨s_15,Kr_18,rfl,rfl,rfl,hn_16,hr_18⟩
     exact Ze hn_16
    ·
     rintro n_17 _ _ _ ⟨s_15,Kr_18,rfl,rfl,rfl,hn_16,hr_18⟩
     clear hx; obtain ⟨oo_20,hx,hd_19⟩:=Zd hn_16
     unfold cipher_Turn_l1 at hx
     refine Run.cc [] 6 ZF rfl (ZM rfl (fun c_19 => ?_) (fun c_19 => ?_))
     ·
      replace hx:=ZK c_19 hx
      refine Run.cl_s [] 7 ZF rfl ?_
      obtain ⟨y_20,hN_21,hx⟩:=ZY hx
      obtain ⟨b_22,o_23,cs_24,hE_25,hR_26,hl_27,hc_28⟩:=IsSlice.elem (ha_5.mono RU8.mono hleu_10) hN_21
      obtain rfl:=hR_26
      refine ZA rfl rfl (Zu U26 S5 rfl rfl hE_25) (ZA rfl rfl (R.ldH S5 rfl (hc_28 0 _ rfl)) (Run.llz_s [] 7 ZF rfl ?_))
      obtain ⟨y_29,hN_30,hx⟩:=ZY hx
      obtain ⟨b_31,o_32,cs_33,cur_38,hK_39,hE_34,hR_35,hl_36,hc_37⟩:=RowOf.elem hr_18 hN_30
      subst hK_39
      obtain rfl:=hR_35
      refine ZA rfl rfl (Zu U26 S5 rfl rfl hE_34) (ZA rfl rfl (R.ldo 0 S5 rfl rfl (hc_37 0 _ rfl)) (ZA rfl rfl (ZZ rfl) (ZA rfl rfl (R.xor8 (a:=y_29) (b:=y_20) rfl rfl) ?_)))
      obtain ⟨hp_40,hx⟩:=chk_some hx
      obtain ⟨b_41,o_42,hE_43⟩:=RowOf.place hr_18 hp_40
      refine ZA rfl rfl (Zu U26 S5 rfl rfl hE_43) ?_
      obtain ⟨m_44,hm_45,hi_46,hx⟩:=setI_some hx
      refine JL.stE 0 (k:=((s_15.2 : Nat) : Int)) (y:=(y_29 ^^^ y_20)) S5 rfl hr_18 rfl hE_43 rfl rfl (rfl) RU8.one hm_45 (fun Kr_47 hr_47 hlr_47 => Run.llz_bs [] 4 ZF rfl (ZA rfl rfl (Zt rfl rfl (of_decide_eq_true c_19) (IsSlice.lenI ha_5)) (Run.lnz [] 2 ZF rfl ?_)))
      replace hx:=ZX hd_19 hx
      exact JN.cut ⟨(m_44,s_15.2 + 1),Kr_47,rfl,rfl,rfl,hx,hr_47⟩ ⟨rfl,rfl,rfl,rfl,rfl,trivial⟩ rfl rfl
     ·
      replace hx:=ZL c_19 hx
      refine Run.cnz_k [] 2 ZF rfl ?_
      obtain rfl:=Za hd_19 hx
      refine Run.nnz_kb [] 2 ZF rfl ?_
      exact JN.cut ⟨Kr_18,rfl,rfl,rfl,hr_18⟩ ⟨rfl,rfl,trivial⟩ rfl rfl

set_option maxHeartbeats 8000000 in
theorem seal_turned_ok (p_1 : List UInt8) (p_3 : UInt32) (p_4 : List UInt8) (H : Heaplet) {aa_2 : Option Addr} {na_2 : Nat} {ca_2 : Nat} {aa_5 : Option Addr} {na_5 : Nat} {ca_5 : Nat} (ha_2 : IsSlice H RU8 1 (.slice aa_2 na_2 ca_2) p_1) (ha_5 : IsSlice H RU8 1 (.slice aa_5 na_5 ca_5) p_4) (r : List UInt8 × Int) (hx : seal_turned p_1 p_3 p_4 = some r) :
  Does Tryz.prog 108 #[.slice aa_2 na_2 ca_2,.int .u32 (p_3.toNat : Int),.slice aa_5 na_5 ca_5] [] H (fun u K' H' => ∃ ao0 : Option Addr,∃ n0 : Nat,∃ cap0 : Nat,∃ K0 : Own,u = .tuple #[.slice ao0 n0 cap0,.int .i64 r.2] ∧ K' = [K0] ∧ RowOf (New H H') RU8 0 5 1 (.slice ao0 n0 cap0) r.1 K0 ∧ (∀ p ∈ K0,p.1 ∉ ids (List.flatten [])) ∧ True):=by
 refine Does.enterL (vs:=[.slice aa_2 na_2 ca_2,.int .u32 (p_3.toNat : Int),.slice aa_5 na_5 ca_5]) (l:=[(0,.slice aa_2 na_2 ca_2),(1,.int .u32 (p_3.toNat : Int)),(2,.slice aa_5 na_5 ca_5)]) Tryz.func108 rfl rfl ⟨rfl,rfl,rfl,trivial⟩ (fun w hlt => ?_)
 unfold seal_turned at hx
 refine Run.cc [] 7 ZF rfl ?_
 obtain ⟨t_6,ht_8,hx⟩:=ZD hx
 refine JC.cut (fun l o g => ∃ t_6a : Unit,l = [(0,.slice aa_2 na_2 ca_2),(1,.int .u32 (p_3.toNat : Int)),(2,.slice aa_5 na_5 ca_5)] ∧ o = [] ∧ H = g ∧ t_6 = .inl t_6a) ?_ ?_
 ·
  rintro _ _ _ ⟨t_6a,rfl,rfl,rfl,rfl⟩
  simp only [Sum.elim_inl] at hx
  refine Run.nl_s [] 6 ZF rfl ?_
  obtain ⟨x_11,hr_12,hx⟩:=ZD hx
  refine ZI (vs:=[_,_,_]) (args:=[_,_,_]) (K:=[]) (rst:=[]) E169 rfl rfl rfl ZC (cipher_Turn_ok p_1 p_3 p_4 _ ha_2 ha_5 _ hr_12) rfl (fun u_13 Ku_13 Hu_13 hRu_13 hleu_13 hfu_13 => ?_)
  obtain ⟨ar_14,nr_14,cr_14,Kr_14,rfl,rfl,hr_14,hnewr_14,-⟩:=hRu_13
  replace hr_14:=(RowOf.base (ZP (H2:=New H Hu_13) RU8.const hr_14) (fun p hp => (hfu_13 p (ZS 0 rfl hp)).resolve_left (hnewr_14 p hp)))
  refine Run.lnz_s [] 7 ZF rfl (ZJ (vs:=[.slice ar_14 nr_14 cr_14,.int .i64 x_11.2]) (K:=[_]) (rst:=[]) (.inl rfl) rfl rfl (ZG rfl (ZG rfl rfl)) (ZO 0 rfl ZC) ?_)
  obtain rfl:=Option.some.inj hx
  exact ⟨ar_14,nr_14,cr_14,Kr_14,rfl,rfl,(ZT (Nat.zero_le _) hr_14),(Zh hr_14 hlt),trivial⟩
 ·
  have hxo_7:=hx; clear hx; have hx:=ht_8; clear ht_8
  refine Run.cl [] 3 ZF rfl (ZA rfl rfl (ZV U26 rfl (IsSlice.long ha_2)) (Run.llz [] 2 ZF rfl (ZQ (t:=11) rfl (fun c_9 => ?_) (fun c_9 => ?_))))
  ·
   replace hx:=ZK c_9 hx
   refine Run.llz [] 3 ZF rfl (ZA rfl rfl (ZV U26 rfl (IsSlice.long ha_5)) (Run.lcz_s [] 5 ZF rfl (ZM rfl (fun c_10 => ?_) (fun c_10 => ?_))))
   ·
    replace hx:=ZK c_10 hx
    refine Run.cnz [] 6 ZF rfl ?_
    obtain rfl:=Option.some.inj hx
    clear hx; have hx:=hxo_7
    simp only [Sum.elim_inl,Sum.elim_inr] at hx
    refine Run.nnz_kk [] 2 ZF rfl (Zj (ZJ (vs:=[.slice none 0 0,.int .i64 3]) (K:=[_]) (rst:=[]) (.inl rfl) rfl rfl (ZG rfl (ZG rfl rfl)) (ZO 0 rfl ZC) ?_))
    obtain rfl:=Option.some.inj hx
    exact ⟨none,0,0,[],rfl,rfl,(ZR _ _ _ _ _),(fun p hp => by cases hp),trivial⟩
   ·
    replace hx:=ZL c_10 hx
    refine JC.skip ?_
    obtain rfl:=Option.some.inj hx
    exact JN.cut ⟨(),rfl,rfl,rfl,rfl⟩ ⟨rfl,rfl,rfl,trivial⟩ rfl rfl
  ·
   replace hx:=ZL c_9 hx
   refine Run.lnz_s [] 8 ZF rfl ?_
   obtain rfl:=Option.some.inj hx
   exact JN.cut ⟨(),rfl,rfl,rfl,rfl⟩ ⟨rfl,rfl,rfl,trivial⟩ rfl rfl

set_option maxHeartbeats 8000000 in
theorem mac_inner_ok (p_1 : List (List UInt8)) (H : Heaplet) {aa_2 : Option Addr} {na_2 : Nat} {ca_2 : Nat} (ha_2 : IsSlice H (RSl RU8 1) 1 (.slice aa_2 na_2 ca_2) p_1) (r : List UInt8) (hx : mac_inner p_1 = some r) :
  Does Tryz.prog 223 #[.slice aa_2 na_2 ca_2] [] H (fun u K' H' => ∃ ao0 : Option Addr,∃ n0 : Nat,∃ cap0 : Nat,∃ K0 : Own,u = .slice ao0 n0 cap0 ∧ K' = [K0] ∧ H = H' ∧ RowOf (New H H) RU8 0 5 1 (.slice ao0 n0 cap0) r K0 ∧ (∀ p ∈ K0,p.1 ∉ ids (List.flatten [])) ∧ True):=by
 refine Does.enterL (vs:=[.slice aa_2 na_2 ca_2]) (l:=[(0,.slice aa_2 na_2 ca_2)]) Tryz.func223 rfl rfl ⟨rfl,trivial⟩ (fun w hlt => ?_)
 unfold mac_inner at hx
 refine Run.cl [] 8 ZF rfl ?_
 obtain ⟨x_3,hr_4,hx⟩:=ZD hx
 refine ZI (vs:=[_]) (args:=[_]) (K:=[]) (rst:=[]) E172 rfl rfl rfl ZC (slices_Concat_byte_ok p_1 _ ha_2 _ hr_4) rfl (fun u_5 Ku_5 Hu_5 hRu_5 hleu_5 hfu_5 => ?_)
 obtain ⟨ar_6,nr_6,cr_6,Kr_6,rfl,rfl,rfl,hr_6,hnewr_6,-⟩:=hRu_5
 replace hr_6:=(RowOf.base (ZP (H2:=New H H) RU8.const hr_6) (fun p hp => (hfu_5 p (ZS 0 rfl hp)).resolve_left (hnewr_6 p hp)))
 obtain ⟨x_10,hr_11,hx⟩:=ZD hx
 refine JL.callL3 (vs:=[_]) E261 rfl rfl (fun H_9 hle_8 hl_7 => mix_Key_ok x_3 _ (Lent.row' 0 hl_7 RU8.mono hle_8 rfl (hr_6.old RU8.mono)) _ hr_11) rfl (fun _ _ _ _ hR_13 hf_14 => ?_)
 obtain ⟨ar_12,nr_12,cr_12,Kr_12,rfl,rfl,hr_12,-,-⟩:=hR_13
 replace hr_12:=RowOf.base (ZP (H2:=New H H) RU8.const hr_12) (fun p hp => hf_14 p (ZS 0 rfl hp))
 refine Run.lnz_s [] 4 ZF rfl (ZJ (vs:=[.slice ar_12 nr_12 cr_12]) (K:=[_]) (rst:=[_]) (.inl rfl) rfl rfl (ZG rfl rfl) (ZO 0 rfl ZC) ?_)
 obtain rfl:=Option.some.inj hx
 exact ⟨ar_12,nr_12,cr_12,Kr_12,rfl,rfl,rfl,(ZT (Nat.zero_le _) hr_12),(Zh hr_12 hlt),trivial⟩

set_option maxHeartbeats 8000000 in
theorem mac_Tag_ok (p_1 : List UInt8) (p_3 : List UInt8) (H : Heaplet) {aa_2 : Option Addr} {na_2 : Nat} {ca_2 : Nat} {aa_4 : Option Addr} {na_4 : Nat} {ca_4 : Nat} (ha_2 : IsSlice H RU8 1 (.slice aa_2 na_2 ca_2) p_1) (ha_4 : IsSlice H RU8 1 (.slice aa_4 na_4 ca_4) p_3) (r : UInt32 × Int) (hx : mac_Tag p_1 p_3 = some r) :
  Does Tryz.prog 171 #[.slice aa_2 na_2 ca_2,.slice aa_4 na_4 ca_4] [] H (fun u K' H' => u = .tuple #[.int .u32 (r.1.toNat : Int),.int .i64 r.2] ∧ K' = [] ∧ True):=by
 refine Does.enterL (vs:=[.slice aa_2 na_2 ca_2,.slice aa_4 na_4 ca_4]) (l:=[(0,.slice aa_2 na_2 ca_2),(1,.slice aa_4 na_4 ca_4)]) Tryz.func171 rfl rfl ⟨rfl,rfl,trivial⟩ (fun w hlt => ?_)
 unfold mac_Tag at hx
 refine Run.cl [] 10 ZF rfl (ZA rfl rfl (ZV U26 rfl (IsSlice.long ha_2)) (Run.lcz_s [] 3 ZF rfl (ZM rfl (fun c_5 => ?_) (fun c_5 => ?_))))
 ·
  replace hx:=ZK c_5 hx
  refine Run.cnz_k [] 8 ZF rfl (ZJ (vs:=[.int .u32 ((0 : UInt32).toNat : Int),.int .i64 2]) (K:=[]) (rst:=[]) (.inl rfl) rfl rfl (ZG rfl (ZG rfl rfl)) ZC ?_)
  obtain rfl:=Option.some.inj hx
  exact ⟨rfl,rfl,trivial⟩
 ·
  replace hx:=ZL c_5 hx
  refine Run.cl_s [] 5 ZF rfl (JL.bslF (HF:=(New H H)) (R:=RU8) (ls:=[(2 : UInt8)]) (vs:=[.int .u8 ((2 : UInt8).toNat : Int)]) U26 I5 rfl rfl (⟨_,_,rfl,rfl,rfl,rfl⟩) RU8.one rfl rfl rfl (by simp [maxLen]) rfl (fun vr_6 Kr_6 hr_6 => ?_))
  obtain ⟨ar_6,cr_6,rfl⟩:=RowOf.val hr_6
  refine ZA rfl rfl (ZZ rfl) (JL.bslF (HF:=(New H H)) (R:=RU8) (ls:=[(1 : UInt8)]) (vs:=[.int .u8 ((1 : UInt8).toNat : Int)]) U26 I5 rfl rfl (⟨_,_,rfl,rfl,rfl,rfl⟩) RU8.one rfl rfl rfl (by simp [maxLen]) rfl (fun vr_7 Kr_7 hr_7 => ?_))
  obtain ⟨ar_7,cr_7,rfl⟩:=RowOf.val hr_7
  refine ZA rfl rfl (ZZ rfl) (JL.pubN 0 RU8.mono rfl hr_7 (Nat.le_refl _) (fun H_8 hleH_8 hsH_8 => JL.forget 0 (JL.bslF (HF:=H_8) (R:=(RSl RU8 1)) (ls:=[p_1,[(1 : UInt8)],p_3]) (vs:=[.slice aa_2 na_2 ca_2,.slice ar_7 (([(1 : UInt8)]).length) cr_7,.slice aa_4 na_4 ca_4]) U22 I26 rfl rfl (⟨_,_,rfl,rfl,⟨_,rfl,(ha_2.mono RU8.mono hleH_8)⟩,⟨_,_,rfl,rfl,⟨_,rfl,(hsH_8.old RU8.mono)⟩,⟨_,_,rfl,rfl,⟨_,rfl,(ha_4.mono RU8.mono hleH_8)⟩,rfl⟩⟩⟩) RSl.one rfl rfl rfl (by simp [maxLen]) rfl (fun vr_9 Kr_9 hr_9 => ?_))))
  obtain ⟨ar_9,cr_9,rfl⟩:=RowOf.val hr_9
  obtain ⟨x_13,hr_14,hx⟩:=ZD hx
  refine JL.callL3 (vs:=[_]) E223 rfl rfl (fun H_12 hle_11 hl_10 => mac_inner_ok ([p_1,[(1 : UInt8)],p_3]) _ (Lent.row' 0 hl_10 (RSl.mono RU8.mono) hle_11 rfl hr_9) _ hr_14) rfl (fun _ _ _ _ hR_16 hf_17 => ?_)
  obtain ⟨ar_15,nr_15,cr_15,Kr_15,rfl,rfl,rfl,hr_15,-,-⟩:=hR_16
  replace hr_15:=RowOf.base (ZP (H2:=New H H_8) RU8.const hr_15) (fun p hp => hf_17 p (ZS 0 rfl hp))
  refine JL.pubN 2 RU8.mono rfl (hr_6.mono RU8.mono (New.mono hleH_8)) (Nat.le_refl _) (fun H_18 hleH_18 hsH_18 => JL.forget 2 (JL.pubN 0 RU8.mono rfl (hr_15.mono RU8.mono (New.mono hleH_18)) (Nat.le_refl _) (fun H_19 hleH_19 hsH_19 => JL.forget 0 (JL.bslF (HF:=H_19) (R:=(RSl RU8 1)) (ls:=[p_1,[(2 : UInt8)],x_13]) (vs:=[.slice aa_2 na_2 ca_2,.slice ar_6 (([(2 : UInt8)]).length) cr_6,.slice ar_15 nr_15 cr_15]) U22 I26 rfl rfl (⟨_,_,rfl,rfl,⟨_,rfl,(ha_2.mono RU8.mono (hleH_8.trans (hleH_18.trans hleH_19)))⟩,⟨_,_,rfl,rfl,⟨_,rfl,((hsH_18.mono RU8.mono (New.mono hleH_19)).old RU8.mono)⟩,⟨_,_,rfl,rfl,⟨_,rfl,(hsH_19.old RU8.mono)⟩,rfl⟩⟩⟩) RSl.one rfl rfl rfl (by simp [maxLen]) rfl (fun vr_20 Kr_20 hr_20 => ?_)))))
  obtain ⟨ar_20,cr_20,rfl⟩:=RowOf.val hr_20
  obtain ⟨x_24,hr_25,hx⟩:=ZD hx
  refine JL.callL3 (vs:=[_]) E172 rfl rfl (fun H_23 hle_22 hl_21 => slices_Concat_byte_ok ([p_1,[(2 : UInt8)],x_13]) _ (Lent.row' 0 hl_21 (RSl.mono RU8.mono) hle_22 rfl hr_20) _ hr_25) rfl (fun _ _ _ _ hR_27 hf_28 => ?_)
  obtain ⟨ar_26,nr_26,cr_26,Kr_26,rfl,rfl,rfl,hr_26,-,-⟩:=hR_27
  replace hr_26:=RowOf.base (ZP (H2:=New H H_19) RU8.const hr_26) (fun p hp => hf_28 p (ZS 0 rfl hp))
  obtain ⟨x_32,hr_33,hx⟩:=ZD hx
  refine JL.callL2 (vs:=[_]) (v:=.int .u32 (x_32.toNat : Int)) E44 rfl rfl (fun H_31 hle_30 hl_29 => Does.mono (mix_Sum_ok x_24 _ (Lent.row' 0 hl_29 RU8.mono hle_30 rfl (hr_26.old RU8.mono)) _ hr_33) (fun _ _ _ h => h.1)) rfl (Run.lnz_s [] 5 ZF rfl (ZJ (vs:=[.int .u32 (x_32.toNat : Int),.int .i64 0]) (K:=[]) (rst:=[_,_,_]) (.inl rfl) rfl rfl (ZG rfl (ZG rfl rfl)) ZC ?_))
  obtain rfl:=Option.some.inj hx
  exact ⟨rfl,rfl,trivial⟩

set_option maxHeartbeats 8000000 in
theorem seal_tagged_ok (p_1 : List UInt8) (p_3 : UInt32) (p_4 : List UInt8) (H : Heaplet) {aa_2 : Option Addr} {na_2 : Nat} {ca_2 : Nat} {aa_5 : Option Addr} {na_5 : Nat} {ca_5 : Nat} (ha_2 : IsSlice H RU8 1 (.slice aa_2 na_2 ca_2) p_1) (ha_5 : IsSlice H RU8 1 (.slice aa_5 na_5 ca_5) p_4) (r : UInt32 × Int) (hx : seal_tagged p_1 p_3 p_4 = some r) :
  Does Tryz.prog 109 #[.slice aa_2 na_2 ca_2,.int .u32 (p_3.toNat : Int),.slice aa_5 na_5 ca_5] [] H (fun u K' H' => u = .tuple #[.int .u32 (r.1.toNat : Int),.int .i64 r.2] ∧ K' = [] ∧ True):=by
 refine Does.enterL (vs:=[.slice aa_2 na_2 ca_2,.int .u32 (p_3.toNat : Int),.slice aa_5 na_5 ca_5]) (l:=[(0,.slice aa_2 na_2 ca_2),(1,.int .u32 (p_3.toNat : Int)),(2,.slice aa_5 na_5 ca_5)]) Tryz.func109 rfl rfl ⟨rfl,rfl,rfl,trivial⟩ (fun w hlt => ?_)
 unfold seal_tagged at hx
 refine Run.cl [] 9 ZF rfl (ZA rfl rfl (R.cv_u32_i64 (a:=p_3) U27 U3 rfl) ?_)
 obtain ⟨x_6,hr_7,hx⟩:=ZD hx
 refine ZI (vs:=[_,_]) (args:=[_,_]) (K:=[]) (rst:=[]) E170 rfl rfl rfl ZC (code_Put_ok (p_3.toNat : Int) 4 _ _ hr_7) rfl (fun u_8 Ku_8 Hu_8 hRu_8 hleu_8 hfu_8 => ?_)
 obtain ⟨ar_9,nr_9,cr_9,Kr_9,rfl,rfl,rfl,hr_9,hnewr_9,-⟩:=hRu_8
 replace hr_9:=(RowOf.base (ZP (H2:=New H H) RU8.const hr_9) (fun p hp => (hfu_8 p (ZS 0 rfl hp)).resolve_left (hnewr_9 p hp)))
 refine Run.lc_s [] 14 ZF rfl (ZM rfl (fun c_10 => ?_) (fun c_10 => ?_))
 ·
  replace hx:=ZK c_10 hx
  refine Run.cnz_k [] 9 ZF rfl (ZJ (vs:=[.int .u32 ((0 : UInt32).toNat : Int),.int .i64 x_6.2]) (K:=[]) (rst:=[_]) (.inl rfl) rfl rfl (ZG rfl (ZG rfl rfl)) ZC ?_)
  obtain rfl:=Option.some.inj hx
  exact ⟨rfl,rfl,trivial⟩
 ·
  replace hx:=ZL c_10 hx
  refine Run.cl_s [] 7 ZF rfl (JL.pubN 0 RU8.mono rfl hr_9 (Nat.le_refl _) (fun H_11 hleH_11 hsH_11 => JL.forget 0 (JL.bslF (HF:=H_11) (R:=(RSl RU8 1)) (ls:=[x_6.1,p_4]) (vs:=[.slice ar_9 nr_9 cr_9,.slice aa_5 na_5 ca_5]) U22 I26 rfl rfl (⟨_,_,rfl,rfl,⟨_,rfl,(hsH_11.old RU8.mono)⟩,⟨_,_,rfl,rfl,⟨_,rfl,(ha_5.mono RU8.mono hleH_11)⟩,rfl⟩⟩) RSl.one rfl rfl rfl (by simp [maxLen]) rfl (fun vr_12 Kr_12 hr_12 => ?_))))
  obtain ⟨ar_12,cr_12,rfl⟩:=RowOf.val hr_12
  obtain ⟨x_16,hr_17,hx⟩:=ZD hx
  refine JL.callL3 (vs:=[_]) E172 rfl rfl (fun H_15 hle_14 hl_13 => slices_Concat_byte_ok ([x_6.1,p_4]) _ (Lent.row' 0 hl_13 (RSl.mono RU8.mono) hle_14 rfl hr_12) _ hr_17) rfl (fun _ _ _ _ hR_19 hf_20 => ?_)
  obtain ⟨ar_18,nr_18,cr_18,Kr_18,rfl,rfl,rfl,hr_18,-,-⟩:=hR_19
  replace hr_18:=RowOf.base (ZP (H2:=New H H_11) RU8.const hr_18) (fun p hp => hf_20 p (ZS 0 rfl hp))
  obtain ⟨x_24,hr_25,hx⟩:=ZD hx
  refine JL.callL2 (vs:=[_,_]) (v:=.tuple #[.int .u32 (x_24.1.toNat : Int),.int .i64 x_24.2]) E171 rfl rfl (fun H_23 hle_22 hl_21 => Does.mono (mac_Tag_ok p_1 x_16 _ (IsSlice.mono RU8.mono hle_22 (ha_2.mono RU8.mono hleH_11)) (Lent.row' 0 hl_21 RU8.mono hle_22 rfl (hr_18.old RU8.mono)) _ hr_25) (fun _ _ _ h => h.1)) rfl (Run.lnz_s [] 7 ZF rfl (ZJ (vs:=[.int .u32 (x_24.1.toNat : Int),.int .i64 x_24.2]) (K:=[]) (rst:=[_,_]) (.inl rfl) rfl rfl (ZG rfl (ZG rfl rfl)) ZC ?_))
  obtain rfl:=Option.some.inj hx
  exact ⟨rfl,rfl,trivial⟩

set_option maxHeartbeats 8000000 in
theorem seal_Open_ok (p_1 : List UInt8) (p_3 : UInt32) (p_4 : List UInt8) (p_6 : UInt32) (H : Heaplet) {aa_2 : Option Addr} {na_2 : Nat} {ca_2 : Nat} {aa_5 : Option Addr} {na_5 : Nat} {ca_5 : Nat} (ha_2 : IsSlice H RU8 1 (.slice aa_2 na_2 ca_2) p_1) (ha_5 : IsSlice H RU8 1 (.slice aa_5 na_5 ca_5) p_4) (r : List UInt8 × Int) (hx : seal_Open p_1 p_3 p_4 p_6 = some r) :
  Does Tryz.prog 48 #[.slice aa_2 na_2 ca_2,.int .u32 (p_3.toNat : Int),.slice aa_5 na_5 ca_5,.int .u32 (p_6.toNat : Int)] [] H (fun u K' H' => ∃ ao0 : Option Addr,∃ n0 : Nat,∃ cap0 : Nat,∃ K0 : Own,u = .tuple #[.slice ao0 n0 cap0,.int .i64 r.2] ∧ K' = [K0] ∧ RowOf (New H H') RU8 0 5 1 (.slice ao0 n0 cap0) r.1 K0 ∧ (∀ p ∈ K0,p.1 ∉ ids (List.flatten [])) ∧ True):=by
 refine Does.enterL (vs:=[.slice aa_2 na_2 ca_2,.int .u32 (p_3.toNat : Int),.slice aa_5 na_5 ca_5,.int .u32 (p_6.toNat : Int)]) (l:=[(0,.slice aa_2 na_2 ca_2),(1,.int .u32 (p_3.toNat : Int)),(2,.slice aa_5 na_5 ca_5),(3,.int .u32 (p_6.toNat : Int))]) Tryz.func48 rfl rfl ⟨rfl,rfl,rfl,rfl,trivial⟩ (fun w hlt => ?_)
 unfold seal_Open at hx
 refine Run.cl [] 11 ZF rfl ?_
 obtain ⟨x_7,hr_8,hx⟩:=ZD hx
 refine ZI (vs:=[_,_,_]) (args:=[_,_,_]) (K:=[]) (rst:=[]) E108 rfl rfl rfl ZC (seal_turned_ok p_1 p_3 p_4 _ ha_2 ha_5 _ hr_8) rfl (fun u_9 Ku_9 Hu_9 hRu_9 hleu_9 hfu_9 => ?_)
 obtain ⟨ar_10,nr_10,cr_10,Kr_10,rfl,rfl,hr_10,hnewr_10,-⟩:=hRu_9
 replace hr_10:=(RowOf.base (ZP (H2:=New H Hu_9) RU8.const hr_10) (fun p hp => (hfu_9 p (ZS 0 rfl hp)).resolve_left (hnewr_10 p hp)))
 refine Run.lc_s [] 14 ZF rfl (ZM rfl (fun c_11 => ?_) (fun c_11 => ?_))
 ·
  replace hx:=ZK c_11 hx
  refine Run.cnz_k [] 9 ZF rfl (Zj (ZJ (vs:=[.slice none 0 0,.int .i64 x_7.2]) (K:=[_]) (rst:=[_]) (.inl rfl) rfl rfl (ZG rfl (ZG rfl rfl)) (ZO 0 rfl ZC) ?_))
  obtain rfl:=Option.some.inj hx
  exact ⟨none,0,0,[],rfl,rfl,(ZR _ _ _ _ _),(fun p hp => by cases hp),trivial⟩
 ·
  replace hx:=ZL c_11 hx
  refine Run.cl_s [] 8 ZF rfl ?_
  obtain ⟨x_12,hr_13,hx⟩:=ZD hx
  refine ZI (vs:=[_,_,_]) (args:=[_,_,_]) (K:=[]) (rst:=[_]) E109 rfl rfl rfl ZC (seal_tagged_ok p_1 p_3 p_4 _ (ha_2.mono RU8.mono hleu_9) (ha_5.mono RU8.mono hleu_9) _ hr_13) rfl (fun u_14 Ku_14 Hu_14 hRu_14 hleu_14 hfu_14 => ?_)
  obtain ⟨rfl,rfl,-⟩:=hRu_14
  refine Run.ll_s [] 12 ZF rfl (ZQ (t:=33) rfl (fun c_15 => ?_) (fun c_15 => ?_))
  ·
   replace hx:=ZK c_15 hx
   refine Run.lnz_sk [] 15 ZF rfl (Zj (ZJ (vs:=[.slice none 0 0,.int .i64 131]) (K:=[_]) (rst:=[_]) (.inl rfl) rfl rfl (ZG rfl (ZG rfl rfl)) (ZO 0 rfl ZC) ?_))
   obtain rfl:=Option.some.inj hx
   exact ⟨none,0,0,[],rfl,rfl,(ZR _ _ _ _ _),(fun p hp => by cases hp),trivial⟩
  ·
   replace hx:=ZL c_15 hx
   refine Run.llz [] 5 ZF rfl (ZA rfl rfl (R.neq32 (a:=x_12.1) (b:=p_6) rfl rfl) (Run.lcz_s [] 3 ZF rfl (ZM rfl (fun c_16 => ?_) (fun c_16 => ?_))))
   ·
    replace hx:=ZK c_16 hx
    refine Run.cnz_k [] 8 ZF rfl (Zj (ZJ (vs:=[.slice none 0 0,.int .i64 131]) (K:=[_]) (rst:=[_]) (.inl rfl) rfl rfl (ZG rfl (ZG rfl rfl)) (ZO 0 rfl ZC) ?_))
    obtain rfl:=Option.some.inj hx
    exact ⟨none,0,0,[],rfl,rfl,(ZR _ _ _ _ _),(fun p hp => by cases hp),trivial⟩
   ·
    replace hx:=ZL c_16 hx
    refine Run.cnz_s [] 10 ZF rfl (ZJ (vs:=[.slice ar_10 nr_10 cr_10,.int .i64 0]) (K:=[_]) (rst:=[]) (.inl rfl) rfl rfl (ZG rfl (ZG rfl rfl)) (ZO 0 rfl ZC) ?_)
    obtain rfl:=Option.some.inj hx
    exact ⟨ar_10,nr_10,cr_10,Kr_10,rfl,rfl,(ZT (Nat.zero_le _) (hr_10.mono RU8.mono (New.mono hleu_14))),(Zh (hr_10.mono RU8.mono (New.mono hleu_14)) hlt),trivial⟩

set_option maxHeartbeats 8000000 in
theorem store_Open_ok (p_1 : Store) (p_5 : Ptr) (p_6 : List UInt8) (H : Heaplet) {aa_2 : Option Addr} {na_2 : Nat} {ca_2 : Nat} {aa_3 : Option Addr} {na_3 : Nat} {ca_3 : Nat} {aa_4 : Option Addr} {na_4 : Nat} {ca_4 : Nat} {aa_7 : Option Addr} {na_7 : Nat} {ca_7 : Nat} (ha_2 : IsSlice H (RSl RU8 1) 1 (.slice aa_2 na_2 ca_2) p_1.Disk.Blocks) (ha_3 : IsSlice H R_Write 2 (.slice aa_3 na_3 ca_3) p_1.Disk.Waits) (ha_4 : IsSlice H RU8 1 (.slice aa_4 na_4 ca_4) p_1.Space) (ha_7 : IsSlice H RU8 1 (.slice aa_7 na_7 ca_7) p_6) (r : List UInt8 × Int) (hx : store_Open p_1 p_5 p_6 = some r) :
  Does Tryz.prog 11 #[.agg #[.slice aa_2 na_2 ca_2,.slice aa_3 na_3 ca_3,.slice aa_4 na_4 ca_4,.int .u32 (p_1.Epoch.toNat : Int),.int .u32 (p_1.Count.toNat : Int)],.agg #[.int .i64 p_5.At,.int .u32 (p_5.Birth.toNat : Int),.int .u32 (p_5.Iv.toNat : Int),.int .u32 (p_5.Tag.toNat : Int),.int .u32 (p_5.Sum.toNat : Int)],.slice aa_7 na_7 ca_7] [] H (fun u K' H' => ∃ ao0 : Option Addr,∃ n0 : Nat,∃ cap0 : Nat,∃ K0 : Own,u = .tuple #[.slice ao0 n0 cap0,.int .i64 r.2] ∧ K' = [K0] ∧ RowOf (New H H') RU8 0 5 1 (.slice ao0 n0 cap0) r.1 K0 ∧ (∀ p ∈ K0,p.1 ∉ ids (List.flatten [])) ∧ True):=by
 refine Does.enterL (vs:=[.agg #[.slice aa_2 na_2 ca_2,.slice aa_3 na_3 ca_3,.slice aa_4 na_4 ca_4,.int .u32 (p_1.Epoch.toNat : Int),.int .u32 (p_1.Count.toNat : Int)],.agg #[.int .i64 p_5.At,.int .u32 (p_5.Birth.toNat : Int),.int .u32 (p_5.Iv.toNat : Int),.int .u32 (p_5.Tag.toNat : Int),.int .u32 (p_5.Sum.toNat : Int)],.slice aa_7 na_7 ca_7]) (l:=[(0,.agg #[.slice aa_2 na_2 ca_2,.slice aa_3 na_3 ca_3,.slice aa_4 na_4 ca_4,.int .u32 (p_1.Epoch.toNat : Int),.int .u32 (p_1.Count.toNat : Int)]),(1,.agg #[.int .i64 p_5.At,.int .u32 (p_5.Birth.toNat : Int),.int .u32 (p_5.Iv.toNat : Int),.int .u32 (p_5.Tag.toNat : Int),.int .u32 (p_5.Sum.toNat : Int)]),(2,.slice aa_7 na_7 ca_7)]) Tryz.func11 rfl rfl ⟨rfl,rfl,rfl,trivial⟩ (fun w hlt => ?_)
 unfold store_Open at hx
 refine Run.cl [] 2 ZF rfl (Zk rfl rfl (fun b_8 hb_8 => Zk rfl rfl (fun b_9 hb_9 => Run.ll_s [1,0] 8 ZF rfl ?_)))
 obtain ⟨x_10,hr_11,hx⟩:=ZD hx
 refine ZI (vs:=[_,_]) (args:=[_,_]) (K:=[]) (rst:=[_,_]) E9 rfl rfl rfl ZC (store_Look_ok p_1 p_5 _ ha_2 ha_3 ha_4 _ hr_11) rfl (fun u_12 Ku_12 Hu_12 hRu_12 hleu_12 hfu_12 => ?_)
 obtain ⟨az_13,nz_13,cz_13,rfl,rfl,hz_13,-⟩:=hRu_12
 replace hz_13:=IsSlice.mono RU8.mono (New.call (Hle.refl _)) hz_13
 refine Run.lc_s [] 14 ZF rfl (ZM rfl (fun c_14 => ?_) (fun c_14 => ?_))
 ·
  replace hx:=ZK c_14 hx
  refine Run.cnz_k [] 9 ZF rfl (Zj (ZJ (vs:=[.slice none 0 0,.int .i64 x_10.2]) (K:=[_]) (rst:=[_,_]) (.inl rfl) rfl rfl (ZG rfl (ZG rfl rfl)) (ZO 0 rfl ZC) ?_))
  obtain rfl:=Option.some.inj hx
  exact ⟨none,0,0,[],rfl,rfl,(ZR _ _ _ _ _),(fun p hp => by cases hp),trivial⟩
 ·
  replace hx:=ZL c_14 hx
  refine Run.cl_s [] 6 ZF rfl (ZA rfl rfl (ZV U26 rfl (IsSlice.long ha_7)) (Run.lcz_s [] 3 ZF rfl (ZM rfl (fun c_15 => ?_) (fun c_15 => ?_))))
  ·
   replace hx:=ZK c_15 hx
   refine Run.cnz_k [] 8 ZF rfl (Zj (ZJ (vs:=[.slice none 0 0,.int .i64 3]) (K:=[_]) (rst:=[_,_]) (.inl rfl) rfl rfl (ZG rfl (ZG rfl rfl)) (ZO 0 rfl ZC) ?_))
   obtain rfl:=Option.some.inj hx
   exact ⟨none,0,0,[],rfl,rfl,(ZR _ _ _ _ _),(fun p hp => by cases hp),trivial⟩
  ·
   replace hx:=ZL c_15 hx
   refine Run.cl_s [0,0] 10 ZF rfl ?_
   obtain ⟨x_16,hr_17,hx⟩:=ZD hx
   refine ZI (vs:=[_,_,_,_]) (args:=[_,_,_,_]) (K:=[]) (rst:=[_,_]) E48 rfl rfl rfl ZC (seal_Open_ok p_6 p_5.Iv x_10.1 p_5.Tag _ (ha_7.mono RU8.mono hleu_12) (hz_13.old RU8.mono) _ hr_17) rfl (fun u_18 Ku_18 Hu_18 hRu_18 hleu_18 hfu_18 => ?_)
   obtain ⟨ar_19,nr_19,cr_19,Kr_19,rfl,rfl,hr_19,hnewr_19,-⟩:=hRu_18
   replace hr_19:=(RowOf.base (ZP (H2:=New H Hu_18) RU8.const hr_19) (fun p hp => (hfu_18 p (ZS 0 rfl hp)).resolve_left (hnewr_19 p hp)))
   refine Run.lc_s [] 14 ZF rfl (ZM rfl (fun c_20 => ?_) (fun c_20 => ?_))
   ·
    replace hx:=ZK c_20 hx
    refine Run.cnz_k [] 8 ZF rfl (Zj (ZJ (vs:=[.slice none 0 0,.int .i64 131]) (K:=[_]) (rst:=[_,_,_]) (.inl rfl) rfl rfl (ZG rfl (ZG rfl rfl)) (ZO 0 rfl ZC) ?_))
    obtain rfl:=Option.some.inj hx
    exact ⟨none,0,0,[],rfl,rfl,(ZR _ _ _ _ _),(fun p hp => by cases hp),trivial⟩
   ·
    replace hx:=ZL c_20 hx
    refine Run.cnz_s [] 10 ZF rfl (ZJ (vs:=[.slice ar_19 nr_19 cr_19,.int .i64 0]) (K:=[_]) (rst:=[_,_]) (.inl rfl) rfl rfl (ZG rfl (ZG rfl rfl)) (ZO 0 rfl ZC) ?_)
    obtain rfl:=Option.some.inj hx
    exact ⟨ar_19,nr_19,cr_19,Kr_19,rfl,rfl,(ZT (Nat.zero_le _) hr_19),(Zh hr_19 hlt),trivial⟩

set_option maxHeartbeats 8000000 in
theorem ref06_asked_ok (p_1 : List UInt8) (p_3 : List UInt8) (H : Heaplet) {aa_2 : Option Addr} {na_2 : Nat} {ca_2 : Nat} {aa_4 : Option Addr} {na_4 : Nat} {ca_4 : Nat} (ha_2 : IsSlice H RU8 1 (.slice aa_2 na_2 ca_2) p_1) (ha_4 : IsSlice H RU8 1 (.slice aa_4 na_4 ca_4) p_3) (r : Int) (hx : ref06_asked p_1 p_3 = some r) :
  Does Tryz.prog 173 #[.slice aa_2 na_2 ca_2,.slice aa_4 na_4 ca_4] [] H (fun u K' H' => u = .int .i64 r ∧ K' = [] ∧ H = H' ∧ True):=by
 refine Does.enterL (vs:=[.slice aa_2 na_2 ca_2,.slice aa_4 na_4 ca_4]) (l:=[(0,.slice aa_2 na_2 ca_2),(1,.slice aa_4 na_4 ca_4)]) Tryz.func173 rfl rfl ⟨rfl,rfl,trivial⟩ (fun w hlt => ?_)
 unfold ref06_asked at hx
 refine Run.cl [] 9 ZF rfl (ZA rfl rfl (ZV U26 rfl (IsSlice.long ha_2)) (Run.lcz_s [] 3 ZF rfl (ZM rfl (fun c_5 => ?_) (fun c_5 => ?_))))
 ·
  replace hx:=ZK c_5 hx
  refine Run.cnz_k [] 7 ZF rfl (ZJ (vs:=[.int .i64 2]) (K:=[]) (rst:=[]) (.inl rfl) rfl rfl (ZG rfl rfl) ZC ?_)
  obtain rfl:=Option.some.inj hx
  exact ⟨rfl,rfl,rfl,trivial⟩
 ·
  replace hx:=ZL c_5 hx
  refine Run.cl_s [] 6 ZF rfl (ZA rfl rfl (ZV U26 rfl (IsSlice.long ha_4)) (Run.lcz_s [] 3 ZF rfl (ZM rfl (fun c_6 => ?_) (fun c_6 => ?_))))
  ·
   replace hx:=ZK c_6 hx
   refine Run.cnz_k [] 7 ZF rfl (ZJ (vs:=[.int .i64 3]) (K:=[]) (rst:=[]) (.inl rfl) rfl rfl (ZG rfl rfl) ZC ?_)
   obtain rfl:=Option.some.inj hx
   exact ⟨rfl,rfl,rfl,trivial⟩
  ·
   replace hx:=ZL c_6 hx
   refine Run.cnz_s [] 8 ZF rfl (ZJ (vs:=[.int .i64 0]) (K:=[]) (rst:=[]) (.inl rfl) rfl rfl (ZG rfl rfl) ZC ?_)
   obtain rfl:=Option.some.inj hx
   exact ⟨rfl,rfl,rfl,trivial⟩

set_option maxHeartbeats 8000000 in
theorem ref01_Room_n_ok : ∀ (fuel : Nat) (p_1 : Int) (H : Heaplet) (r : Int) (hx : ref01_Room_n fuel p_1 = some r),
  Does Tryz.prog 262 #[.int .i64 p_1] [] H (fun u K' H' => u = .int .i64 r ∧ K' = [] ∧ H = H' ∧ True):=by
 intro fuel
 induction fuel with
 | zero => intro p_1 H r hx; cases hx
 | succ n ih =>
 intro p_1 H r hx
 replace hx : ref01_Room_b (ref01_Room_n n) p_1 = some r:=hx
 obtain ⟨rec_0,hrec⟩ : ∃ q,q = ref01_Room_n n:=⟨_,rfl⟩
 rw [← hrec] at hx ih
 clear hrec
 refine Does.enterL (vs:=[.int .i64 p_1]) (l:=[(0,.int .i64 p_1)]) Tryz.func262 rfl rfl ⟨rfl,trivial⟩ (fun w hlt => ?_)
 unfold ref01_Room_b at hx
 refine Run.cc [] 12 ZF rfl (ZM rfl (fun c_2 => ?_) (fun c_2 => ?_))
 ·
  replace hx:=ZK c_2 hx
  refine Run.cnz_k [] 7 ZF rfl (ZJ (vs:=[.int .i64 1]) (K:=[]) (rst:=[]) (.inl rfl) rfl rfl (ZG rfl rfl) ZC ?_)
  obtain rfl:=Option.some.inj hx
  exact ⟨rfl,rfl,rfl,trivial⟩
 ·
  replace hx:=ZL c_2 hx
  refine Run.cl_s [] 6 ZF rfl ?_
  obtain ⟨x_3,hr_4,hx⟩:=ZD hx
  refine ZI (vs:=[_]) (args:=[_]) (K:=[]) (rst:=[]) E262 rfl rfl rfl ZC (ih (w64 (p_1 - 1)) _ _ hr_4) rfl (fun u_5 Ku_5 Hu_5 hRu_5 hleu_5 hfu_5 => ?_)
  obtain ⟨rfl,rfl,rfl,-⟩:=hRu_5
  refine Run.lnz_s [] 5 ZF rfl (ZJ (vs:=[.int .i64 (w64 (256 * x_3))]) (K:=[]) (rst:=[]) (.inl rfl) rfl rfl (ZG rfl rfl) ZC ?_)
  obtain rfl:=Option.some.inj hx
  exact ⟨rfl,rfl,rfl,trivial⟩

theorem ref01_Room_ok (p_1 : Int) (H : Heaplet) (r : Int) (hx : ref01_Room p_1 = some r) :
  Does Tryz.prog 262 #[.int .i64 p_1] [] H (fun u K' H' => u = .int .i64 r ∧ K' = [] ∧ H = H' ∧ True):=ref01_Room_n_ok FUEL p_1 H r hx

set_option maxHeartbeats 8000000 in
theorem ref01_Bytes_ok (p_1 : Int) (p_2 : Int) (H : Heaplet) (r : List UInt8) (hx : ref01_Bytes p_1 p_2 = some r) :
  Does Tryz.prog 225 #[.int .i64 p_1,.int .i64 p_2] [] H (fun u K' H' => ∃ ao0 : Option Addr,∃ n0 : Nat,∃ cap0 : Nat,∃ K0 : Own,u = .slice ao0 n0 cap0 ∧ K' = [K0] ∧ H = H' ∧ RowOf (New H H) RU8 0 5 1 (.slice ao0 n0 cap0) r K0 ∧ (∀ p ∈ K0,p.1 ∉ ids (List.flatten [])) ∧ True):=by
 refine Does.enterL (vs:=[.int .i64 p_1,.int .i64 p_2]) (l:=[(0,.int .i64 p_1),(1,.int .i64 p_2)]) Tryz.func225 rfl rfl ⟨rfl,rfl,trivial⟩ (fun w hlt => ?_)
 unfold ref01_Bytes at hx
 refine Run.cl [] 8 ZF rfl ?_
 obtain ⟨x_5,hm_4,hc_3,hx⟩:=mks_some hx
 refine JL.mkF (HF:=New H H) (R:=RU8) (y:=(0 : UInt8)) (n:=p_2) U26 I5 rfl rfl (fun _ => rfl) RU8.one hm_4 hc_3 rfl rfl (fun vr_6 Kr_6 hr_6 => ?_)
 obtain ⟨ar_6,cr_6,rfl⟩:=RowOf.val hr_6
 refine Run.lc_s [] 9 ZF rfl ?_
 obtain ⟨t_7,ht_9,hx⟩:=ZD hx
 refine JC.cut (fun l o g => ∃ Kr_14 : Own,l = [(5,.slice ar_6 x_5.length cr_6)] ∧ o = [Kr_14] ∧ H = g ∧ RowOf (New H H) RU8 w.heap.size 5 1 (.slice ar_6 x_5.length cr_6) t_7 Kr_14) ?_ ?_
 ·
  rintro _ _ _ ⟨Kr_14,rfl,rfl,rfl,hr_14⟩
  refine Run.nnz_s [] 8 ZF rfl (ZJ (vs:=[.slice ar_6 x_5.length cr_6]) (K:=[_]) (rst:=[]) (.inl rfl) rfl rfl (ZG rfl rfl) (ZO 0 rfl ZC) ?_)
  obtain rfl:=Option.some.inj hx
  exact ⟨ar_6,x_5.length,cr_6,Kr_14,rfl,rfl,rfl,(ZT (Nat.zero_le _) hr_14),(Zh hr_14 hlt),trivial⟩
 ·
  have hxo_8:=hx; clear hx; have hx:=ht_9; clear ht_9
  refine JC.block (Zf (fun n l o g => ∃ s_10 : List UInt8 × Int,∃ Kr_13 : Own,l = [(0,.int .i64 p_1),(1,.int .i64 p_2),(5,.slice ar_6 x_5.length cr_6),(6,.int .i64 s_10.2)] ∧ o = [Kr_13] ∧ H = g ∧ run (ref01_Bytes_l1 p_1 p_2) n s_10 = some t_7 ∧ RowOf (New H H) RU8 w.heap.size 5 1 (.slice ar_6 x_5.length cr_6) s_10.1 Kr_13) FUEL ?_ ⟨(x_5,0),Kr_6,rfl,rfl,rfl,hx,hr_6⟩ ⟨rfl,rfl,rfl,rfl,trivial⟩ ?_)
  ·
   rintro _ _ _ ⟨s_10,Kr_13,rfl,rfl,rfl,hn_11,hr_13⟩
   exact Ze hn_11
  ·
   rintro n_12 _ _ _ ⟨s_10,Kr_13,rfl,rfl,rfl,hn_11,hr_13⟩
   clear hx; obtain ⟨oo_15,hx,hd_14⟩:=Zd hn_11
   unfold ref01_Bytes_l1 at hx
   refine Run.cc [] 8 ZF rfl (ZM rfl (fun c_14 => ?_) (fun c_14 => ?_))
   ·
    replace hx:=ZK c_14 hx
    refine Run.cl_s [] 9 ZF rfl ?_
    obtain ⟨x_15,hr_16,hx⟩:=ZD hx
    refine ZI (vs:=[_]) (args:=[_]) (K:=[]) (rst:=[_]) E262 rfl rfl rfl ZC (ref01_Room_ok s_10.2 _ _ hr_16) rfl (fun u_17 Ku_17 Hu_17 hRu_17 hleu_17 hfu_17 => ?_)
    obtain ⟨rfl,rfl,rfl,-⟩:=hRu_17
    obtain ⟨hz_18,hx⟩:=chk_some hx
    refine ZA rfl rfl (R.quo_i rfl rfl hz_18) (ZA rfl rfl (R.rem_i rfl rfl (by decide)) (ZA rfl rfl (R.cv_i64_u8 U3 U5 rfl) ?_))
    obtain ⟨hp_19,hx⟩:=chk_some hx
    obtain ⟨b_20,o_21,hE_22⟩:=RowOf.place hr_13 hp_19
    refine ZA rfl rfl (Zu U26 S5 rfl rfl hE_22) ?_
    obtain ⟨m_23,hm_24,hi_25,hx⟩:=setI_some hx
    refine JL.stE 0 (k:=s_10.2) (y:=(u8i ((w64 (p_1.tdiv x_15)).tmod 256))) S5 rfl hr_13 rfl hE_22 rfl rfl (rfl) RU8.one hm_24 (fun Kr_26 hr_26 hlr_26 => Run.lnz_bs [] 8 ZF rfl ?_)
    replace hx:=ZX hd_14 hx
    exact JN.cut ⟨(m_23,w64 (s_10.2 + 1)),Kr_26,rfl,rfl,rfl,hx,hr_26⟩ ⟨rfl,rfl,rfl,rfl,trivial⟩ rfl rfl
   ·
    replace hx:=ZL c_14 hx
    refine Run.cnz_k [] 2 ZF rfl ?_
    obtain rfl:=Za hd_14 hx
    refine Run.nnz_kb [] 2 ZF rfl ?_
    exact JN.cut ⟨Kr_13,rfl,rfl,rfl,hr_13⟩ ⟨rfl,trivial⟩ rfl rfl

set_option maxHeartbeats 8000000 in
theorem ref02_Key_ok (p_1 : List UInt8) (H : Heaplet) {aa_2 : Option Addr} {na_2 : Nat} {ca_2 : Nat} (ha_2 : IsSlice H RU8 1 (.slice aa_2 na_2 ca_2) p_1) (r : List UInt8) (hx : ref02_Key p_1 = some r) :
  Does Tryz.prog 264 #[.slice aa_2 na_2 ca_2] [] H (fun u K' H' => ∃ ao0 : Option Addr,∃ n0 : Nat,∃ cap0 : Nat,∃ K0 : Own,u = .slice ao0 n0 cap0 ∧ K' = [K0] ∧ H = H' ∧ RowOf (New H H) RU8 0 5 1 (.slice ao0 n0 cap0) r K0 ∧ (∀ p ∈ K0,p.1 ∉ ids (List.flatten [])) ∧ True):=by
 refine Does.enterL (vs:=[.slice aa_2 na_2 ca_2]) (l:=[(0,.slice aa_2 na_2 ca_2)]) Tryz.func264 rfl rfl ⟨rfl,trivial⟩ (fun w hlt => ?_)
 unfold ref02_Key at hx
 refine Run.cl [] 8 ZF rfl ?_
 obtain ⟨x_3,hr_4,hx⟩:=ZD hx
 refine ZI (vs:=[_]) (args:=[_]) (K:=[]) (rst:=[]) E168 rfl rfl rfl ZC (ref02_Four_ok p_1 _ ha_2 _ hr_4) rfl (fun u_5 Ku_5 Hu_5 hRu_5 hleu_5 hfu_5 => ?_)
 obtain ⟨rfl,rfl,rfl,-⟩:=hRu_5
 refine JL.alloc Z156 rfl (fun b_6 hb_6 => Run.lc_s [0] 14 ZF rfl ?_)
 obtain ⟨t_7,ht_9,hx⟩:=ZD hx
 refine JC.cut (fun l o g => ∃ ar_14 : Option Addr,∃ nr_14 : Nat,∃ cr_14 : Nat,∃ Kr_14 : Own,l = [(4,.slice ar_14 nr_14 cr_14)] ∧ o = [Kr_14] ∧ H = g ∧ RowOf (New H H) RU8 w.heap.size 5 1 (.slice ar_14 nr_14 cr_14) t_7 Kr_14) ?_ ?_
 ·
  rintro _ _ _ ⟨ar_14,nr_14,cr_14,Kr_14,rfl,rfl,rfl,hr_14⟩
  refine Run.nnz_s [] 8 ZF rfl (ZJ (vs:=[.slice ar_14 nr_14 cr_14]) (K:=[_]) (rst:=[]) (.inl rfl) rfl rfl (ZG rfl rfl) (ZO 0 rfl ZC) ?_)
  obtain rfl:=Option.some.inj hx
  exact ⟨ar_14,nr_14,cr_14,Kr_14,rfl,rfl,rfl,(ZT (Nat.zero_le _) hr_14),(Zh hr_14 hlt),trivial⟩
 ·
  have hxo_8:=hx; clear hx; have hx:=ht_9; clear ht_9
  refine JC.block (JC.seg0 (Zc 1 rfl (Zf (fun n l o g => ∃ s_10 : List UInt8 × Nat,∃ ar_13 : Option Addr,∃ nr_13 : Nat,∃ cr_13 : Nat,∃ Kr_13 : Own,l = [(3,.pointer (some ⟨b_6,0,none⟩)),(4,.slice ar_13 nr_13 cr_13),(5,.int .i64 ((s_10.2 : Nat) : Int))] ∧ o = [[(b_6,.cells #[.int .u32 (x_3.e0.toNat : Int),.int .u32 (x_3.e1.toNat : Int),.int .u32 (x_3.e2.toNat : Int),.int .u32 (x_3.e3.toNat : Int)] 156 (0,0))],Kr_13] ∧ H = g ∧ run (ref02_Key_l2 x_3) n s_10 = some t_7 ∧ RowOf (New H H) RU8 w.heap.size 5 1 (.slice ar_13 nr_13 cr_13) s_10.1 Kr_13) FUEL ?_ ⟨(([] : List UInt8),0),none,0,0,[],rfl,rfl,rfl,hx,(ZR _ _ _ _ _)⟩ ⟨rfl,rfl,rfl,trivial⟩ ?_)))
  ·
   rintro _ _ _ ⟨s_10,ar_13,nr_13,cr_13,Kr_13,rfl,rfl,rfl,hn_11,hr_13⟩
   exact Ze hn_11
  ·
   rintro n_12 _ _ _ ⟨s_10,ar_13,nr_13,cr_13,Kr_13,rfl,rfl,rfl,hn_11,hr_13⟩
   clear hx; obtain ⟨oo_15,hx,hd_14⟩:=Zd hn_11
   unfold ref02_Key_l2 at hx
   refine Run.cc [] 7 ZF rfl (ZM rfl (fun c_14 => ?_) (fun c_14 => ?_))
   ·
    replace hx:=ZK c_14 hx
    refine Run.cl_s [] 7 ZF rfl (ZA rfl rfl (R.quo_i rfl rfl (by decide)) ?_)
    obtain ⟨y_15,hN_16,hx⟩:=ZY hx
    refine ZA rfl rfl (R.ixAd (L:=x_3.l) U156 S27 rfl rfl rfl hN_16) (ZA rfl rfl (R.ldoA (enc:=(fun a : UInt32 => Value.int .u32 (a.toNat : Int))) (L:=x_3.l) 0 S27 rfl rfl rfl hN_16) (Run.lc_s [] 9 ZF rfl ?_))
    obtain ⟨t_17,ht_19,hx⟩:=ZD hx
    refine JC.cut (fun l o g => l = [(3,.pointer (some ⟨b_6,0,none⟩)),(4,.slice ar_13 nr_13 cr_13),(5,.int .i64 ((s_10.2 : Nat) : Int)),(6,.int .u32 (t_17.toNat : Int))] ∧ o = [[(b_6,.cells #[.int .u32 (x_3.e0.toNat : Int),.int .u32 (x_3.e1.toNat : Int),.int .u32 (x_3.e2.toNat : Int),.int .u32 (x_3.e3.toNat : Int)] 156 (0,0))],Kr_13] ∧ H = g) ?_ ?_
    ·
     rintro _ _ _ ⟨rfl,rfl,rfl⟩
     refine Run.nlz_s [] 4 ZF rfl (ZA rfl rfl (R.rem32 (a:=t_17) (b:=(256 : UInt32)) rfl rfl (by decide)) (ZA rfl rfl (R.cv_u32_u8 (a:=t_17 % (256 : UInt32)) U27 U5 rfl) (JL.bslF (HF:=(New H H)) (R:=RU8) (ls:=[(t_17 % (256 : UInt32)).toUInt8]) (vs:=[.int .u8 (((t_17 % (256 : UInt32)).toUInt8).toNat : Int)]) U26 I5 rfl rfl (⟨_,_,rfl,rfl,rfl,rfl⟩) RU8.one rfl rfl rfl (by simp [maxLen]) rfl (fun vr_23 Kr_23 hr_23 => ?_))))
     obtain ⟨ar_23,cr_23,rfl⟩:=RowOf.val hr_23
     obtain ⟨q_24,hm_25,hl_26,hx⟩:=Zo hx
     refine Zr (HF:=(New H H)) 2 U26 I5 rfl rfl hr_13 rfl (SrcF.row 0 U26 rfl hr_23) hm_25 hl_26 rfl (Nat.le_refl _) rfl (fun vr_27 Kr_27 hr_27 => ?_)
     obtain ⟨ar_27,cr_27,rfl⟩:=RowOf.val hr_27
     refine Run.llz_bs [] 6 ZF rfl (ZA rfl rfl (Zt rfl rfl (of_decide_eq_true c_14) (by decide)) ?_)
     refine Run.lnz [] 2 ZF rfl ?_
     replace hx:=ZX hd_14 hx
     refine JN.forget 0 (ZH 1 rfl (ZH 1 rfl ?_))
     exact JN.cut ⟨(q_24,s_10.2 + 1),ar_27,q_24.length,cr_27,Kr_27,rfl,rfl,rfl,hx,hr_27⟩ ⟨rfl,rfl,rfl,trivial⟩ rfl rfl
    ·
     have hxo_18:=hx; clear hx; have hx:=ht_19; clear ht_19
     refine JC.block (Zc 1 rfl (Zc 1 rfl (Zf (fun n l o g => ∃ s_20 : UInt32 × Int,l = [(3,.pointer (some ⟨b_6,0,none⟩)),(4,.slice ar_13 nr_13 cr_13),(5,.int .i64 ((s_10.2 : Nat) : Int)),(6,.int .u32 (s_20.1.toNat : Int)),(7,.int .i64 s_20.2)] ∧ o = [[(b_6,.cells #[.int .u32 (x_3.e0.toNat : Int),.int .u32 (x_3.e1.toNat : Int),.int .u32 (x_3.e2.toNat : Int),.int .u32 (x_3.e3.toNat : Int)] 156 (0,0))],Kr_13] ∧ H = g ∧ run (ref02_Key_l1 s_10) n s_20 = some t_17) FUEL ?_ ⟨(y_15,0),rfl,rfl,rfl,hx⟩ ⟨rfl,rfl,rfl,rfl,rfl,trivial⟩ ?_)))
     ·
      rintro _ _ _ ⟨s_20,rfl,rfl,rfl,hn_21⟩
      exact Ze hn_21
     ·
      rintro n_22 _ _ _ ⟨s_20,rfl,rfl,rfl,hn_21⟩
      clear hx; obtain ⟨oo_24,hx,hd_23⟩:=Zd hn_21
      unfold ref02_Key_l1 at hx
      refine Run.cl [] 5 ZF rfl (ZA rfl rfl (R.rem_i rfl rfl (by decide)) ?_)
      refine Run.lcz_s [] 3 ZF rfl (ZM rfl (fun c_23 => ?_) (fun c_23 => ?_))
      ·
       replace hx:=ZK c_23 hx
       refine Run.cl_s [] 6 ZF rfl (ZA rfl rfl (R.quo32 (a:=s_20.1) (b:=(256 : UInt32)) rfl rfl (by decide)) ?_)
       refine Run.lnz_bs [] 9 ZF rfl ?_
       replace hx:=ZX hd_23 hx
       refine ZH 1 rfl (ZH 1 rfl ?_)
       exact JN.cut ⟨(s_20.1 / (256 : UInt32),w64 (s_20.2 + 1)),rfl,rfl,rfl,hx⟩ ⟨rfl,rfl,rfl,rfl,rfl,trivial⟩ rfl rfl
      ·
       replace hx:=ZL c_23 hx
       refine Run.cnz_k [] 2 ZF rfl ?_
       obtain rfl:=Za hd_23 hx
       refine Run.nnz_kb [] 2 ZF rfl (ZH 1 rfl (ZH 1 rfl ?_))
       exact JN.cut ⟨rfl,rfl,rfl⟩ ⟨rfl,rfl,rfl,rfl,trivial⟩ rfl rfl
   ·
    replace hx:=ZL c_14 hx
    refine Run.cnz_k [] 2 ZF rfl ?_
    obtain rfl:=Za hd_14 hx
    refine Run.nnz_kb [] 2 ZF rfl (JN.forget 0 ?_)
    exact JN.cut ⟨ar_13,nr_13,cr_13,Kr_13,rfl,rfl,rfl,hr_13⟩ ⟨rfl,trivial⟩ rfl rfl

set_option maxHeartbeats 8000000 in
theorem ref03_Inner_ok (p_1 : List UInt8) (p_3 : List UInt8) (H : Heaplet) {aa_2 : Option Addr} {na_2 : Nat} {ca_2 : Nat} {aa_4 : Option Addr} {na_4 : Nat} {ca_4 : Nat} (ha_2 : IsSlice H RU8 1 (.slice aa_2 na_2 ca_2) p_1) (ha_4 : IsSlice H RU8 1 (.slice aa_4 na_4 ca_4) p_3) (r : List UInt8) (hx : ref03_Inner p_1 p_3 = some r) :
  Does Tryz.prog 263 #[.slice aa_2 na_2 ca_2,.slice aa_4 na_4 ca_4] [] H (fun u K' H' => ∃ ao0 : Option Addr,∃ n0 : Nat,∃ cap0 : Nat,∃ K0 : Own,u = .slice ao0 n0 cap0 ∧ K' = [K0] ∧ H = H' ∧ RowOf (New H H) RU8 0 5 1 (.slice ao0 n0 cap0) r K0 ∧ (∀ p ∈ K0,p.1 ∉ ids (List.flatten [])) ∧ True):=by
 refine Does.enterL (vs:=[.slice aa_2 na_2 ca_2,.slice aa_4 na_4 ca_4]) (l:=[(0,.slice aa_2 na_2 ca_2),(1,.slice aa_4 na_4 ca_4)]) Tryz.func263 rfl rfl ⟨rfl,rfl,trivial⟩ (fun w hlt => ?_)
 unfold ref03_Inner at hx
 refine Run.cl [] 14 ZF rfl (JL.seg0 ?_)
 obtain ⟨q_6,hm_7,hl_8,hx⟩:=Zo hx
 refine Zr (HF:=(New H H)) 0 U26 I5 rfl rfl (ZR _ RU8 _ _ _) rfl (SrcF.sliceC RU8.const RU8.one U26 ha_2) hm_7 hl_8 rfl (Nat.le_refl _) rfl (fun vr_9 Kr_9 hr_9 => ?_)
 obtain ⟨ar_9,cr_9,rfl⟩:=RowOf.val hr_9
 refine Run.ll_s [] 6 ZF rfl (JL.bslF (HF:=(New H H)) (R:=RU8) (ls:=[(1 : UInt8)]) (vs:=[.int .u8 ((1 : UInt8).toNat : Int)]) U26 I5 rfl rfl (⟨_,_,rfl,rfl,rfl,rfl⟩) RU8.one rfl rfl rfl (by simp [maxLen]) rfl (fun vr_10 Kr_10 hr_10 => ?_))
 obtain ⟨ar_10,cr_10,rfl⟩:=RowOf.val hr_10
 obtain ⟨q_11,hm_12,hl_13,hx⟩:=Zo hx
 refine Zr (HF:=(New H H)) 1 U26 I5 rfl rfl hr_9 rfl (SrcF.row 0 U26 rfl hr_10) hm_12 hl_13 rfl (Nat.le_refl _) rfl (fun vr_14 Kr_14 hr_14 => ?_)
 obtain ⟨ar_14,cr_14,rfl⟩:=RowOf.val hr_14
 refine Run.ll_s [] 7 ZF rfl ?_
 obtain ⟨q_15,hm_16,hl_17,hx⟩:=Zo hx
 refine Zr (HF:=(New H H)) 1 U26 I5 rfl rfl hr_14 rfl (SrcF.sliceC RU8.const RU8.one U26 ha_4) hm_16 hl_17 rfl (Nat.le_refl _) rfl (fun vr_18 Kr_18 hr_18 => ?_)
 obtain ⟨ar_18,cr_18,rfl⟩:=RowOf.val hr_18
 refine Run.ll_s [] 6 ZF rfl ?_
 obtain ⟨x_22,hr_23,hx⟩:=ZD hx
 refine JL.callL3 (vs:=[_]) E264 rfl rfl (fun H_21 hle_20 hl_19 => ref02_Key_ok q_15 _ (Lent.row' 1 hl_19 RU8.mono hle_20 rfl (hr_18.old RU8.mono)) _ hr_23) rfl (fun _ _ _ _ hR_25 hf_26 => ?_)
 obtain ⟨ar_24,nr_24,cr_24,Kr_24,rfl,rfl,rfl,hr_24,-,-⟩:=hR_25
 replace hr_24:=RowOf.base (ZP (H2:=New H H) RU8.const hr_24) (fun p hp => hf_26 p (ZS 0 rfl hp))
 refine Run.lnz_s [] 4 ZF rfl (ZJ (vs:=[.slice ar_24 nr_24 cr_24]) (K:=[_]) (rst:=[_,_]) (.inl rfl) rfl rfl (ZG rfl rfl) (ZO 0 rfl ZC) ?_)
 obtain rfl:=Option.some.inj hx
 exact ⟨ar_24,nr_24,cr_24,Kr_24,rfl,rfl,rfl,(ZT (Nat.zero_le _) hr_24),(Zh hr_24 hlt),trivial⟩

set_option maxHeartbeats 8000000 in
theorem ref03_Of_ok (p_1 : List UInt8) (p_3 : List UInt8) (H : Heaplet) {aa_2 : Option Addr} {na_2 : Nat} {ca_2 : Nat} {aa_4 : Option Addr} {na_4 : Nat} {ca_4 : Nat} (ha_2 : IsSlice H RU8 1 (.slice aa_2 na_2 ca_2) p_1) (ha_4 : IsSlice H RU8 1 (.slice aa_4 na_4 ca_4) p_3) (r : UInt32) (hx : ref03_Of p_1 p_3 = some r) :
  Does Tryz.prog 226 #[.slice aa_2 na_2 ca_2,.slice aa_4 na_4 ca_4] [] H (fun u K' H' => u = .int .u32 (r.toNat : Int) ∧ K' = [] ∧ H = H' ∧ True):=by
 refine Does.enterL (vs:=[.slice aa_2 na_2 ca_2,.slice aa_4 na_4 ca_4]) (l:=[(0,.slice aa_2 na_2 ca_2),(1,.slice aa_4 na_4 ca_4)]) Tryz.func226 rfl rfl ⟨rfl,rfl,trivial⟩ (fun w hlt => ?_)
 unfold ref03_Of at hx
 refine Run.cl [] 14 ZF rfl (JL.seg0 ?_)
 obtain ⟨q_6,hm_7,hl_8,hx⟩:=Zo hx
 refine Zr (HF:=(New H H)) 0 U26 I5 rfl rfl (ZR _ RU8 _ _ _) rfl (SrcF.sliceC RU8.const RU8.one U26 ha_2) hm_7 hl_8 rfl (Nat.le_refl _) rfl (fun vr_9 Kr_9 hr_9 => ?_)
 obtain ⟨ar_9,cr_9,rfl⟩:=RowOf.val hr_9
 refine Run.ll_s [] 6 ZF rfl (JL.bslF (HF:=(New H H)) (R:=RU8) (ls:=[(2 : UInt8)]) (vs:=[.int .u8 ((2 : UInt8).toNat : Int)]) U26 I5 rfl rfl (⟨_,_,rfl,rfl,rfl,rfl⟩) RU8.one rfl rfl rfl (by simp [maxLen]) rfl (fun vr_10 Kr_10 hr_10 => ?_))
 obtain ⟨ar_10,cr_10,rfl⟩:=RowOf.val hr_10
 obtain ⟨q_11,hm_12,hl_13,hx⟩:=Zo hx
 refine Zr (HF:=(New H H)) 1 U26 I5 rfl rfl hr_9 rfl (SrcF.row 0 U26 rfl hr_10) hm_12 hl_13 rfl (Nat.le_refl _) rfl (fun vr_14 Kr_14 hr_14 => ?_)
 obtain ⟨ar_14,cr_14,rfl⟩:=RowOf.val hr_14
 refine Run.ll_s [] 8 ZF rfl ?_
 obtain ⟨x_15,hr_16,hx⟩:=ZD hx
 refine ZI (vs:=[_,_]) (args:=[_,_]) (K:=[]) (rst:=[_,_]) E263 rfl rfl rfl ZC (ref03_Inner_ok p_1 p_3 _ ha_2 ha_4 _ hr_16) rfl (fun u_17 Ku_17 Hu_17 hRu_17 hleu_17 hfu_17 => ?_)
 obtain ⟨ar_18,nr_18,cr_18,Kr_18,rfl,rfl,rfl,hr_18,hnewr_18,-⟩:=hRu_17
 replace hr_18:=(RowOf.base (ZP (H2:=New H H) RU8.const hr_18) (fun p hp => (hfu_17 p (ZS 0 rfl hp)).resolve_left (hnewr_18 p hp)))
 obtain ⟨q_19,hm_20,hl_21,hx⟩:=Zo hx
 refine Zr (HF:=(New H H)) 2 U26 I5 rfl rfl hr_14 rfl (SrcF.row 0 U26 rfl hr_18) hm_20 hl_21 rfl (Nat.le_refl _) rfl (fun vr_22 Kr_22 hr_22 => ?_)
 obtain ⟨ar_22,cr_22,rfl⟩:=RowOf.val hr_22
 refine Run.ll_s [] 6 ZF rfl ?_
 obtain ⟨x_26,hr_27,hx⟩:=ZD hx
 refine JL.callL2 (vs:=[_]) (v:=.int .u32 (x_26.toNat : Int)) E107 rfl rfl (fun H_25 hle_24 hl_23 => Does.mono (ref02_Sum_ok q_19 _ (Lent.row' 2 hl_23 RU8.mono hle_24 rfl (hr_22.old RU8.mono)) _ hr_27) (fun _ _ _ h => h.1)) rfl (Run.lnz_s [] 4 ZF rfl (ZJ (vs:=[.int .u32 (x_26.toNat : Int)]) (K:=[]) (rst:=[_,_,_]) (.inl rfl) rfl rfl (ZG rfl rfl) ZC ?_))
 obtain rfl:=Option.some.inj hx
 exact ⟨rfl,rfl,rfl,trivial⟩

set_option maxHeartbeats 8000000 in
theorem ref06_Tag_ok (p_1 : List UInt8) (p_3 : UInt32) (p_4 : List UInt8) (H : Heaplet) {aa_2 : Option Addr} {na_2 : Nat} {ca_2 : Nat} {aa_5 : Option Addr} {na_5 : Nat} {ca_5 : Nat} (ha_2 : IsSlice H RU8 1 (.slice aa_2 na_2 ca_2) p_1) (ha_5 : IsSlice H RU8 1 (.slice aa_5 na_5 ca_5) p_4) (r : UInt32) (hx : ref06_Tag p_1 p_3 p_4 = some r) :
  Does Tryz.prog 174 #[.slice aa_2 na_2 ca_2,.int .u32 (p_3.toNat : Int),.slice aa_5 na_5 ca_5] [] H (fun u K' H' => u = .int .u32 (r.toNat : Int) ∧ K' = [] ∧ H = H' ∧ True):=by
 refine Does.enterL (vs:=[.slice aa_2 na_2 ca_2,.int .u32 (p_3.toNat : Int),.slice aa_5 na_5 ca_5]) (l:=[(0,.slice aa_2 na_2 ca_2),(1,.int .u32 (p_3.toNat : Int)),(2,.slice aa_5 na_5 ca_5)]) Tryz.func174 rfl rfl ⟨rfl,rfl,rfl,trivial⟩ (fun w hlt => ?_)
 unfold ref06_Tag at hx
 refine Run.cl [] 8 ZF rfl (ZA rfl rfl (R.cv_u32_i64 (a:=p_3) U27 U3 rfl) ?_)
 obtain ⟨x_6,hr_7,hx⟩:=ZD hx
 refine ZI (vs:=[_,_]) (args:=[_,_]) (K:=[]) (rst:=[]) E225 rfl rfl rfl ZC (ref01_Bytes_ok (p_3.toNat : Int) 4 _ _ hr_7) rfl (fun u_8 Ku_8 Hu_8 hRu_8 hleu_8 hfu_8 => ?_)
 obtain ⟨ar_9,nr_9,cr_9,Kr_9,rfl,rfl,rfl,hr_9,hnewr_9,-⟩:=hRu_8
 replace hr_9:=(RowOf.base (ZP (H2:=New H H) RU8.const hr_9) (fun p hp => (hfu_8 p (ZS 0 rfl hp)).resolve_left (hnewr_9 p hp)))
 refine Run.ll_s [] 8 ZF rfl ?_
 obtain ⟨q_10,hm_11,hl_12,hx⟩:=Zo hx
 refine Zr (HF:=(New H H)) 0 U26 I5 rfl rfl hr_9 rfl (SrcF.sliceC RU8.const RU8.one U26 ha_5) hm_11 hl_12 rfl (Nat.le_refl _) rfl (fun vr_13 Kr_13 hr_13 => ?_)
 obtain ⟨ar_13,cr_13,rfl⟩:=RowOf.val hr_13
 obtain ⟨x_17,hr_18,hx⟩:=ZD hx
 refine JL.callL2 (vs:=[_,_]) (v:=.int .u32 (x_17.toNat : Int)) E226 rfl rfl (fun H_16 hle_15 hl_14 => Does.mono (ref03_Of_ok p_1 q_10 _ (IsSlice.mono RU8.mono hle_15 ha_2) (Lent.row' 0 hl_14 RU8.mono hle_15 rfl (hr_13.old RU8.mono)) _ hr_18) (fun _ _ _ h => h.1)) rfl (Run.lnz_s [] 4 ZF rfl (ZJ (vs:=[.int .u32 (x_17.toNat : Int)]) (K:=[]) (rst:=[_]) (.inl rfl) rfl rfl (ZG rfl rfl) ZC ?_))
 obtain rfl:=Option.some.inj hx
 exact ⟨rfl,rfl,rfl,trivial⟩

set_option maxHeartbeats 8000000 in
theorem ref05_Bytes_ok (p_1 : List UInt8) (p_3 : UInt32) (p_4 : Int) (H : Heaplet) {aa_2 : Option Addr} {na_2 : Nat} {ca_2 : Nat} (ha_2 : IsSlice H RU8 1 (.slice aa_2 na_2 ca_2) p_1) (r : List UInt8) (hx : ref05_Bytes p_1 p_3 p_4 = some r) :
  Does Tryz.prog 227 #[.slice aa_2 na_2 ca_2,.int .u32 (p_3.toNat : Int),.int .i64 p_4] [] H (fun u K' H' => ∃ ao0 : Option Addr,∃ n0 : Nat,∃ cap0 : Nat,u = .slice ao0 n0 cap0 ∧ K' = [] ∧ IsSlice (New H H') RU8 1 (.slice ao0 n0 cap0) r ∧ True):=by
 refine Does.enterL (vs:=[.slice aa_2 na_2 ca_2,.int .u32 (p_3.toNat : Int),.int .i64 p_4]) (l:=[(0,.slice aa_2 na_2 ca_2),(1,.int .u32 (p_3.toNat : Int)),(2,.int .i64 p_4)]) Tryz.func227 rfl rfl ⟨rfl,rfl,rfl,trivial⟩ (fun w hlt => ?_)
 unfold ref05_Bytes at hx
 refine Run.cc [] 16 ZF rfl ?_
 obtain ⟨t_5,ht_7,hx⟩:=ZD hx
 refine JC.cut (fun l o g => ∃ ar_12 : Option Addr,∃ nr_12 : Nat,∃ cr_12 : Nat,∃ Kr_12 : Own,l = [(2,.int .i64 p_4),(7,.slice ar_12 nr_12 cr_12)] ∧ o = [Kr_12] ∧ H = g ∧ RowOf (New H H) RU8 w.heap.size 5 1 (.slice ar_12 nr_12 cr_12) t_5 Kr_12) ?_ ?_
 ·
  rintro _ _ _ ⟨ar_12,nr_12,cr_12,Kr_12,rfl,rfl,rfl,hr_12⟩
  refine Run.nl_s [] 5 ZF rfl (JL.pubN 0 RU8.mono rfl hr_12 (Nat.le_refl _) (fun H_13 hleH_13 hsH_13 => JL.forget 0 ?_))
  obtain ⟨m_14,hm_16,hb_15,hx⟩:=slc_some hx
  obtain ⟨vv_17,cv_17,h1v_17,h2v_17,h3v_17,hsv_17⟩:=IsSlice.cutv hsH_13 hm_16 hb_15
  refine ZA rfl rfl (R.slc (cap:=cv_17) (a:=0) (b:=p_4) (c:=(cv_17 : Int)) (m:=t_5) (R:=RU8) U26 S5 rfl rfl ⟨_,rfl⟩ (by obtain ⟨ao,n,e,_⟩:=h1v_17; exact ⟨ao,n,e,rfl⟩) ⟨hb_15.1,hb_15.2.1,h2v_17⟩ h3v_17 (.inl rfl)) ?_
  obtain ⟨av_17,cv_17',rfl⟩:=IsSlice.val hsv_17
  refine Run.lnz_s [] 4 ZF rfl (ZJ (vs:=[.slice av_17 m_14.length cv_17']) (K:=[]) (rst:=[]) (.inl rfl) rfl rfl (ZG rfl rfl) ZC ?_)
  obtain rfl:=Option.some.inj hx
  exact ⟨av_17,m_14.length,cv_17',rfl,rfl,hsv_17,trivial⟩
 ·
  have hxo_6:=hx; clear hx; have hx:=ht_7; clear ht_7
  refine JC.block (JC.seg0 (Zf (fun n l o g => ∃ s_8 : List UInt8 × Int,∃ ar_11 : Option Addr,∃ nr_11 : Nat,∃ cr_11 : Nat,∃ Kr_11 : Own,l = [(0,.slice aa_2 na_2 ca_2),(1,.int .u32 (p_3.toNat : Int)),(2,.int .i64 p_4),(7,.slice ar_11 nr_11 cr_11),(8,.int .i64 s_8.2)] ∧ o = [Kr_11] ∧ H = g ∧ run (ref05_Bytes_l1 p_1 p_3 p_4) n s_8 = some t_5 ∧ RowOf (New H H) RU8 w.heap.size 5 1 (.slice ar_11 nr_11 cr_11) s_8.1 Kr_11) FUEL ?_ ⟨(([] : List UInt8),0),none,0,0,[],rfl,rfl,rfl,hx,(ZR _ _ _ _ _)⟩ ⟨rfl,rfl,rfl,rfl,rfl,trivial⟩ ?_))
  ·
   rintro _ _ _ ⟨s_8,ar_11,nr_11,cr_11,Kr_11,rfl,rfl,rfl,hn_9,hr_11⟩
   exact Ze hn_9
  ·
   rintro n_10 _ _ _ ⟨s_8,ar_11,nr_11,cr_11,Kr_11,rfl,rfl,rfl,hn_9,hr_11⟩
   clear hx; obtain ⟨oo_13,hx,hd_12⟩:=Zd hn_9
   unfold ref05_Bytes_l1 at hx
   refine Run.cc [] 9 ZF rfl (ZM rfl (fun c_12 => ?_) (fun c_12 => ?_))
   ·
    replace hx:=ZK c_12 hx
    refine Run.cl_s [] 13 ZF rfl (JL.seg0 ?_)
    obtain ⟨q_14,hm_15,hl_16,hx⟩:=Zo hx
    refine Zr (HF:=(New H H)) 0 U26 I5 rfl rfl (ZR _ RU8 _ _ _) rfl (SrcF.sliceC RU8.const RU8.one U26 ha_2) hm_15 hl_16 rfl (Nat.le_refl _) rfl (fun vr_17 Kr_17 hr_17 => ?_)
    obtain ⟨ar_17,cr_17,rfl⟩:=RowOf.val hr_17
    refine Run.ll_s [] 7 ZF rfl (ZA rfl rfl (R.cv_u32_i64 (a:=p_3) U27 U3 rfl) ?_)
    obtain ⟨x_18,hr_19,hx⟩:=ZD hx
    refine ZI (vs:=[_,_]) (args:=[_,_]) (K:=[]) (rst:=[_,_]) E225 rfl rfl rfl ZC (ref01_Bytes_ok (p_3.toNat : Int) 4 _ _ hr_19) rfl (fun u_20 Ku_20 Hu_20 hRu_20 hleu_20 hfu_20 => ?_)
    obtain ⟨ar_21,nr_21,cr_21,Kr_21,rfl,rfl,rfl,hr_21,hnewr_21,-⟩:=hRu_20
    replace hr_21:=(RowOf.base (ZP (H2:=New H H) RU8.const hr_21) (fun p hp => (hfu_20 p (ZS 0 rfl hp)).resolve_left (hnewr_21 p hp)))
    obtain ⟨q_22,hm_23,hl_24,hx⟩:=Zo hx
    refine Zr (HF:=(New H H)) 1 U26 I5 rfl rfl hr_17 rfl (SrcF.row 0 U26 rfl hr_21) hm_23 hl_24 rfl (Nat.le_refl _) rfl (fun vr_25 Kr_25 hr_25 => ?_)
    obtain ⟨ar_25,cr_25,rfl⟩:=RowOf.val hr_25
    refine Run.ll_s [] 7 ZF rfl ?_
    obtain ⟨x_26,hr_27,hx⟩:=ZD hx
    refine ZI (vs:=[_,_]) (args:=[_,_]) (K:=[]) (rst:=[_,_,_]) E225 rfl rfl rfl ZC (ref01_Bytes_ok s_8.2 4 _ _ hr_27) rfl (fun u_28 Ku_28 Hu_28 hRu_28 hleu_28 hfu_28 => ?_)
    obtain ⟨ar_29,nr_29,cr_29,Kr_29,rfl,rfl,rfl,hr_29,hnewr_29,-⟩:=hRu_28
    replace hr_29:=(RowOf.base (ZP (H2:=New H H) RU8.const hr_29) (fun p hp => (hfu_28 p (ZS 0 rfl hp)).resolve_left (hnewr_29 p hp)))
    obtain ⟨q_30,hm_31,hl_32,hx⟩:=Zo hx
    refine Zr (HF:=(New H H)) 2 U26 I5 rfl rfl hr_25 rfl (SrcF.row 0 U26 rfl hr_29) hm_31 hl_32 rfl (Nat.le_refl _) rfl (fun vr_33 Kr_33 hr_33 => ?_)
    obtain ⟨ar_33,cr_33,rfl⟩:=RowOf.val hr_33
    refine Run.llz_s [] 6 ZF rfl ?_
    obtain ⟨x_37,hr_38,hx⟩:=ZD hx
    refine JL.callL3 (vs:=[_]) E264 rfl rfl (fun H_36 hle_35 hl_34 => ref02_Key_ok q_30 _ (Lent.row' 2 hl_34 RU8.mono hle_35 rfl (hr_33.old RU8.mono)) _ hr_38) rfl (fun _ _ _ _ hR_40 hf_41 => ?_)
    obtain ⟨ar_39,nr_39,cr_39,Kr_39,rfl,rfl,rfl,hr_39,-,-⟩:=hR_40
    replace hr_39:=RowOf.base (ZP (H2:=New H H) RU8.const hr_39) (fun p hp => hf_41 p (ZS 0 rfl hp))
    obtain ⟨q_42,hm_43,hl_44,hx⟩:=Zo hx
    refine Zr (HF:=(New H H)) 4 U26 I5 rfl rfl hr_11 rfl (SrcF.row 0 U26 rfl hr_39) hm_43 hl_44 rfl (Nat.le_refl _) rfl (fun vr_45 Kr_45 hr_45 => ?_)
    obtain ⟨ar_45,cr_45,rfl⟩:=RowOf.val hr_45
    refine Run.lnz_bs [] 9 ZF rfl ?_
    replace hx:=ZX hd_12 hx
    refine JN.forget 3 (JN.forget 2 (JN.forget 1 (JN.forget 0 ?_)))
    exact JN.cut ⟨(q_42,w64 (s_8.2 + 1)),ar_45,q_42.length,cr_45,Kr_45,rfl,rfl,rfl,hx,hr_45⟩ ⟨rfl,rfl,rfl,rfl,rfl,trivial⟩ rfl rfl
   ·
    replace hx:=ZL c_12 hx
    refine Run.cnz_k [] 2 ZF rfl ?_
    obtain rfl:=Za hd_12 hx
    refine Run.nnz_kb [] 2 ZF rfl ?_
    exact JN.cut ⟨ar_11,nr_11,cr_11,Kr_11,rfl,rfl,rfl,hr_11⟩ ⟨rfl,rfl,trivial⟩ rfl rfl

set_option maxHeartbeats 8000000 in
theorem ref05_Turned_ok (p_1 : List UInt8) (p_3 : UInt32) (p_4 : List UInt8) (H : Heaplet) {aa_2 : Option Addr} {na_2 : Nat} {ca_2 : Nat} {aa_5 : Option Addr} {na_5 : Nat} {ca_5 : Nat} (ha_2 : IsSlice H RU8 1 (.slice aa_2 na_2 ca_2) p_1) (ha_5 : IsSlice H RU8 1 (.slice aa_5 na_5 ca_5) p_4) (r : List UInt8) (hx : ref05_Turned p_1 p_3 p_4 = some r) :
  Does Tryz.prog 175 #[.slice aa_2 na_2 ca_2,.int .u32 (p_3.toNat : Int),.slice aa_5 na_5 ca_5] [] H (fun u K' H' => ∃ ao0 : Option Addr,∃ n0 : Nat,∃ cap0 : Nat,∃ K0 : Own,u = .slice ao0 n0 cap0 ∧ K' = [K0] ∧ RowOf (New H H') RU8 0 5 1 (.slice ao0 n0 cap0) r K0 ∧ (∀ p ∈ K0,p.1 ∉ ids (List.flatten [])) ∧ True):=by
 refine Does.enterL (vs:=[.slice aa_2 na_2 ca_2,.int .u32 (p_3.toNat : Int),.slice aa_5 na_5 ca_5]) (l:=[(0,.slice aa_2 na_2 ca_2),(1,.int .u32 (p_3.toNat : Int)),(2,.slice aa_5 na_5 ca_5)]) Tryz.func175 rfl rfl ⟨rfl,rfl,rfl,trivial⟩ (fun w hlt => ?_)
 unfold ref05_Turned at hx
 refine Run.cl [] 10 ZF rfl (ZA rfl rfl (ZV U26 rfl (IsSlice.long ha_5)) ?_)
 obtain ⟨x_6,hr_7,hx⟩:=ZD hx
 refine ZI (vs:=[_,_,_]) (args:=[_,_,_]) (K:=[]) (rst:=[]) E227 rfl rfl rfl ZC (ref05_Bytes_ok p_1 p_3 (p_4.length : Int) _ ha_2 _ hr_7) rfl (fun u_8 Ku_8 Hu_8 hRu_8 hleu_8 hfu_8 => ?_)
 obtain ⟨az_9,nz_9,cz_9,rfl,rfl,hz_9,-⟩:=hRu_8
 replace hz_9:=IsSlice.mono RU8.mono (New.call (Hle.refl _)) hz_9
 refine Run.lc_s [] 14 ZF rfl ?_
 obtain ⟨t_10,ht_12,hx⟩:=ZD hx
 refine JC.cut (fun l o g => ∃ ar_17 : Option Addr,∃ nr_17 : Nat,∃ cr_17 : Nat,∃ Kr_17 : Own,l = [(8,.slice ar_17 nr_17 cr_17)] ∧ o = [Kr_17] ∧ Hu_8 = g ∧ RowOf (New H Hu_8) RU8 w.heap.size 5 1 (.slice ar_17 nr_17 cr_17) t_10 Kr_17) ?_ ?_
 ·
  rintro _ _ _ ⟨ar_17,nr_17,cr_17,Kr_17,rfl,rfl,rfl,hr_17⟩
  refine Run.nnz_s [] 8 ZF rfl (ZJ (vs:=[.slice ar_17 nr_17 cr_17]) (K:=[_]) (rst:=[]) (.inl rfl) rfl rfl (ZG rfl rfl) (ZO 0 rfl ZC) ?_)
  obtain rfl:=Option.some.inj hx
  exact ⟨ar_17,nr_17,cr_17,Kr_17,rfl,rfl,(ZT (Nat.zero_le _) hr_17),(Zh hr_17 hlt),trivial⟩
 ·
  have hxo_11:=hx; clear hx; have hx:=ht_12; clear ht_12
  refine JC.block (JC.seg0 (Zf (fun n l o g => ∃ s_13 : List UInt8 × Nat,∃ ar_16 : Option Addr,∃ nr_16 : Nat,∃ cr_16 : Nat,∃ Kr_16 : Own,l = [(2,.slice aa_5 na_5 ca_5),(7,.slice az_9 nz_9 cz_9),(8,.slice ar_16 nr_16 cr_16),(9,.int .i64 ((s_13.2 : Nat) : Int))] ∧ o = [Kr_16] ∧ Hu_8 = g ∧ run (ref05_Turned_l1 p_4 x_6) n s_13 = some t_10 ∧ RowOf (New H Hu_8) RU8 w.heap.size 5 1 (.slice ar_16 nr_16 cr_16) s_13.1 Kr_16) FUEL ?_ ⟨(([] : List UInt8),0),none,0,0,[],rfl,rfl,rfl,hx,(ZR _ _ _ _ _)⟩ ⟨rfl,rfl,rfl,rfl,trivial⟩ ?_))
  ·
   rintro _ _ _ ⟨s_13,ar_16,nr_16,cr_16,Kr_16,rfl,rfl,rfl,hn_14,hr_16⟩
   exact Ze hn_14
  ·
   rintro n_15 _ _ _ ⟨s_13,ar_16,nr_16,cr_16,Kr_16,rfl,rfl,rfl,hn_14,hr_16⟩
   clear hx; obtain ⟨oo_18,hx,hd_17⟩:=Zd hn_14
   unfold ref05_Turned_l1 at hx
   refine Run.cl [] 5 ZF rfl (ZA rfl rfl (ZV U26 rfl (IsSlice.long ha_5)) (Run.lcz_s [] 3 ZF rfl (ZM rfl (fun c_17 => ?_) (fun c_17 => ?_))))
   ·
    replace hx:=ZK c_17 hx
    refine Run.cc_s [] 4 ZF rfl (JC.draw (so:=[]) 13 rfl Mixed trivial (JA.val ⟨by kernel_rfl,by kernel_rfl⟩ (ZE _) (i:=0) rfl ⟨by kernel_rfl,by kernel_rfl,rfl⟩ trivial (ZB (Hle.refl _) trivial) (ZZ rfl) rfl (JA.val ⟨by kernel_rfl,by kernel_rfl⟩ (ZE _) (i:=1) rfl ⟨by kernel_rfl,by kernel_rfl,rfl⟩ trivial (ZB (Hle.refl _) trivial) (ZZ rfl) rfl (JA.val ⟨by kernel_rfl,by kernel_rfl⟩ (ZE _) (i:=2) rfl ⟨by kernel_rfl,by kernel_rfl,rfl⟩ trivial (ZB (Hle.refl _) trivial) (ZZ rfl) rfl ?_))))
    obtain ⟨y_18,hN_19,hx⟩:=ZY hx
    obtain ⟨b_20,o_21,cs_22,hE_23,hR_24,hl_25,hc_26⟩:=IsSlice.elem (ha_5.mono RU8.mono hleu_8) hN_19
    obtain rfl:=hR_24
    refine JA.val ⟨by kernel_rfl,by kernel_rfl⟩ (ZE _) (i:=3) rfl ⟨by kernel_rfl,by kernel_rfl,rfl⟩ trivial (ZB (Hle.refl _) trivial) (Zu U26 S5 rfl rfl hE_23) rfl (JA.val ⟨by kernel_rfl,by kernel_rfl⟩ (ZE _) (i:=4) rfl ⟨by kernel_rfl,by kernel_rfl,rfl⟩ trivial (ZB (Hle.refl _) trivial) (R.ldH S5 rfl (hc_26 0 _ rfl)) rfl (JA.val ⟨by kernel_rfl,by kernel_rfl⟩ (ZE _) (i:=5) rfl ⟨by kernel_rfl,by kernel_rfl,rfl⟩ trivial (ZB (Hle.refl _) trivial) (ZZ rfl) rfl (JA.val ⟨by kernel_rfl,by kernel_rfl⟩ (ZE _) (i:=6) rfl ⟨by kernel_rfl,by kernel_rfl,rfl⟩ trivial (ZB (Hle.refl _) trivial) (ZZ rfl) rfl ?_)))
    obtain ⟨y_27,hN_28,hx⟩:=ZY hx
    obtain ⟨b_29,o_30,cs_31,hE_32,hR_33,hl_34,hc_35⟩:=IsSlice.elem hz_9 hN_28
    obtain rfl:=hR_33
    refine JA.val ⟨by kernel_rfl,by kernel_rfl⟩ (ZE _) (i:=7) rfl ⟨by kernel_rfl,by kernel_rfl,rfl⟩ trivial (ZB (Hle.refl _) trivial) (Zu U26 S5 rfl rfl hE_32) rfl (JA.val ⟨by kernel_rfl,by kernel_rfl⟩ (ZE _) (i:=8) rfl ⟨by kernel_rfl,by kernel_rfl,rfl⟩ trivial (ZB (Hle.refl _) trivial) (R.ldH S5 rfl ((fun j u e => New.le _ _ _ _ _ (hc_35 j u e)) 0 _ rfl)) rfl (JA.val ⟨by kernel_rfl,by kernel_rfl⟩ (ZE _) (i:=9) rfl ⟨by kernel_rfl,by kernel_rfl,rfl⟩ trivial (ZB (Hle.refl _) trivial) (R.xor8 (a:=y_18) (b:=y_27) rfl rfl) rfl (JA.one (i:=10) (by kernel_rfl) (JO.step rfl trivial rfl (fun K hK => JL.bslF (HF:=(New H Hu_8)) (R:=RU8) (ls:=[y_18 ^^^ y_27]) (vs:=[.int .u8 ((y_18 ^^^ y_27).toNat : Int)]) U26 I5 rfl rfl (⟨_,_,rfl,rfl,rfl,rfl⟩) RU8.one rfl rfl rfl (by simp [maxLen]) rfl (fun vr_36 Kr_36 hr_36 => ?_))))))
    obtain ⟨ar_36,cr_36,rfl⟩:=RowOf.val hr_36
    refine ZW (hK _ _ _ (ZB (Hle.refl _) trivial) (JA.one (i:=11) (by kernel_rfl) (JO.step rfl trivial rfl (fun K hK => ?_))))
    obtain ⟨q_37,hm_38,hl_39,hx⟩:=Zo hx
    refine Zr (HF:=(New H Hu_8)) 1 U26 I5 rfl rfl hr_16 rfl (SrcF.row 0 U26 rfl hr_36) hm_38 hl_39 rfl (Nat.le_refl _) rfl (fun vr_40 Kr_40 hr_40 => ?_)
    obtain ⟨ar_40,cr_40,rfl⟩:=RowOf.val hr_40
    refine ZW (hK _ _ _ (ZB (Hle.refl _) trivial) (JA.val ⟨by kernel_rfl,by kernel_rfl⟩ (ZE _) (i:=12) rfl ⟨by kernel_rfl,by kernel_rfl,rfl⟩ trivial (ZB (Hle.refl _) trivial) (R.assign rfl) rfl (Zg (by kernel_rfl) ?_)))
    refine Run.nlz_bs [] 4 ZF rfl (ZA rfl rfl (Zt rfl rfl (of_decide_eq_true c_17) (IsSlice.lenI ha_5)) (Run.lnz [] 2 ZF rfl ?_))
    replace hx:=ZX hd_17 hx
    refine JN.forget 0 ?_
    exact JN.cut ⟨(q_37,s_13.2 + 1),ar_40,q_37.length,cr_40,Kr_40,rfl,rfl,rfl,hx,hr_40⟩ ⟨rfl,rfl,rfl,rfl,trivial⟩ rfl rfl
   ·
    replace hx:=ZL c_17 hx
    refine Run.cnz_k [] 2 ZF rfl ?_
    obtain rfl:=Za hd_17 hx
    refine Run.nnz_kb [] 2 ZF rfl ?_
    exact JN.cut ⟨ar_16,nr_16,cr_16,Kr_16,rfl,rfl,rfl,hr_16⟩ ⟨rfl,trivial⟩ rfl rfl

set_option maxHeartbeats 8000000 in
theorem ref06_Open_ok (p_1 : List UInt8) (p_3 : UInt32) (p_4 : List UInt8) (p_6 : UInt32) (H : Heaplet) {aa_2 : Option Addr} {na_2 : Nat} {ca_2 : Nat} {aa_5 : Option Addr} {na_5 : Nat} {ca_5 : Nat} (ha_2 : IsSlice H RU8 1 (.slice aa_2 na_2 ca_2) p_1) (ha_5 : IsSlice H RU8 1 (.slice aa_5 na_5 ca_5) p_4) (r : List UInt8 × Int) (hx : ref06_Open p_1 p_3 p_4 p_6 = some r) :
  Does Tryz.prog 110 #[.slice aa_2 na_2 ca_2,.int .u32 (p_3.toNat : Int),.slice aa_5 na_5 ca_5,.int .u32 (p_6.toNat : Int)] [] H (fun u K' H' => ∃ ao0 : Option Addr,∃ n0 : Nat,∃ cap0 : Nat,∃ K0 : Own,u = .tuple #[.slice ao0 n0 cap0,.int .i64 r.2] ∧ K' = [K0] ∧ RowOf (New H H') RU8 0 5 1 (.slice ao0 n0 cap0) r.1 K0 ∧ (∀ p ∈ K0,p.1 ∉ ids (List.flatten [])) ∧ True):=by
 refine Does.enterL (vs:=[.slice aa_2 na_2 ca_2,.int .u32 (p_3.toNat : Int),.slice aa_5 na_5 ca_5,.int .u32 (p_6.toNat : Int)]) (l:=[(0,.slice aa_2 na_2 ca_2),(1,.int .u32 (p_3.toNat : Int)),(2,.slice aa_5 na_5 ca_5),(3,.int .u32 (p_6.toNat : Int))]) Tryz.func110 rfl rfl ⟨rfl,rfl,rfl,rfl,trivial⟩ (fun w hlt => ?_)
 unfold ref06_Open at hx
 refine Run.cl [] 10 ZF rfl ?_
 obtain ⟨x_7,hr_8,hx⟩:=ZD hx
 refine ZI (vs:=[_,_]) (args:=[_,_]) (K:=[]) (rst:=[]) E173 rfl rfl rfl ZC (ref06_asked_ok p_1 p_4 _ ha_2 ha_5 _ hr_8) rfl (fun u_9 Ku_9 Hu_9 hRu_9 hleu_9 hfu_9 => ?_)
 obtain ⟨rfl,rfl,rfl,-⟩:=hRu_9
 refine Run.lc_s [] 10 ZF rfl (ZM rfl (fun c_10 => ?_) (fun c_10 => ?_))
 ·
  replace hx:=ZK c_10 hx
  refine Run.cnz_k [] 9 ZF rfl (Zj (ZJ (vs:=[.slice none 0 0,.int .i64 x_7]) (K:=[_]) (rst:=[]) (.inl rfl) rfl rfl (ZG rfl (ZG rfl rfl)) (ZO 0 rfl ZC) ?_))
  obtain rfl:=Option.some.inj hx
  exact ⟨none,0,0,[],rfl,rfl,(ZR _ _ _ _ _),(fun p hp => by cases hp),trivial⟩
 ·
  replace hx:=ZL c_10 hx
  refine Run.cl_s [] 8 ZF rfl ?_
  obtain ⟨x_11,hr_12,hx⟩:=ZD hx
  refine ZI (vs:=[_,_,_]) (args:=[_,_,_]) (K:=[]) (rst:=[]) E174 rfl rfl rfl ZC (ref06_Tag_ok p_1 p_3 p_4 _ ha_2 ha_5 _ hr_12) rfl (fun u_13 Ku_13 Hu_13 hRu_13 hleu_13 hfu_13 => ?_)
  obtain ⟨rfl,rfl,rfl,-⟩:=hRu_13
  refine ZA rfl rfl (ZZ rfl) (ZA rfl rfl (R.neq32 (a:=x_11) (b:=p_6) rfl rfl) (Run.lcz_s [] 2 ZF rfl (ZM rfl (fun c_14 => ?_) (fun c_14 => ?_))))
  ·
   replace hx:=ZK c_14 hx
   refine Run.cnz_k [] 8 ZF rfl (Zj (ZJ (vs:=[.slice none 0 0,.int .i64 131]) (K:=[_]) (rst:=[]) (.inl rfl) rfl rfl (ZG rfl (ZG rfl rfl)) (ZO 0 rfl ZC) ?_))
   obtain rfl:=Option.some.inj hx
   exact ⟨none,0,0,[],rfl,rfl,(ZR _ _ _ _ _),(fun p hp => by cases hp),trivial⟩
  ·
   replace hx:=ZL c_14 hx
   refine Run.cl_s [] 7 ZF rfl ?_
   obtain ⟨x_15,hr_16,hx⟩:=ZD hx
   refine ZI (vs:=[_,_,_]) (args:=[_,_,_]) (K:=[]) (rst:=[]) E175 rfl rfl rfl ZC (ref05_Turned_ok p_1 p_3 p_4 _ ha_2 ha_5 _ hr_16) rfl (fun u_17 Ku_17 Hu_17 hRu_17 hleu_17 hfu_17 => ?_)
   obtain ⟨ar_18,nr_18,cr_18,Kr_18,rfl,rfl,hr_18,hnewr_18,-⟩:=hRu_17
   replace hr_18:=(RowOf.base (ZP (H2:=New H Hu_17) RU8.const hr_18) (fun p hp => (hfu_17 p (ZS 0 rfl hp)).resolve_left (hnewr_18 p hp)))
   refine Run.lnz_s [] 5 ZF rfl (ZJ (vs:=[.slice ar_18 nr_18 cr_18,.int .i64 0]) (K:=[_]) (rst:=[]) (.inl rfl) rfl rfl (ZG rfl (ZG rfl rfl)) (ZO 0 rfl ZC) ?_)
   obtain rfl:=Option.some.inj hx
   exact ⟨ar_18,nr_18,cr_18,Kr_18,rfl,rfl,(ZT (Nat.zero_le _) hr_18),(Zh hr_18 hlt),trivial⟩

set_option maxHeartbeats 8000000 in
theorem ref13_Opened_ok (p_1 : Store) (p_5 : Ptr) (p_6 : List UInt8) (H : Heaplet) {aa_2 : Option Addr} {na_2 : Nat} {ca_2 : Nat} {aa_3 : Option Addr} {na_3 : Nat} {ca_3 : Nat} {aa_4 : Option Addr} {na_4 : Nat} {ca_4 : Nat} {aa_7 : Option Addr} {na_7 : Nat} {ca_7 : Nat} (ha_2 : IsSlice H (RSl RU8 1) 1 (.slice aa_2 na_2 ca_2) p_1.Disk.Blocks) (ha_3 : IsSlice H R_Write 2 (.slice aa_3 na_3 ca_3) p_1.Disk.Waits) (ha_4 : IsSlice H RU8 1 (.slice aa_4 na_4 ca_4) p_1.Space) (ha_7 : IsSlice H RU8 1 (.slice aa_7 na_7 ca_7) p_6) (r : List UInt8 × Int) (hx : ref13_Opened p_1 p_5 p_6 = some r) :
  Does Tryz.prog 49 #[.agg #[.slice aa_2 na_2 ca_2,.slice aa_3 na_3 ca_3,.slice aa_4 na_4 ca_4,.int .u32 (p_1.Epoch.toNat : Int),.int .u32 (p_1.Count.toNat : Int)],.agg #[.int .i64 p_5.At,.int .u32 (p_5.Birth.toNat : Int),.int .u32 (p_5.Iv.toNat : Int),.int .u32 (p_5.Tag.toNat : Int),.int .u32 (p_5.Sum.toNat : Int)],.slice aa_7 na_7 ca_7] [] H (fun u K' H' => ∃ ao0 : Option Addr,∃ n0 : Nat,∃ cap0 : Nat,∃ K0 : Own,u = .tuple #[.slice ao0 n0 cap0,.int .i64 r.2] ∧ K' = [K0] ∧ H = H' ∧ RowOf (New H H) RU8 0 5 1 (.slice ao0 n0 cap0) r.1 K0 ∧ (∀ p ∈ K0,p.1 ∉ ids (List.flatten [])) ∧ True):=by
 refine Does.enterL (vs:=[.agg #[.slice aa_2 na_2 ca_2,.slice aa_3 na_3 ca_3,.slice aa_4 na_4 ca_4,.int .u32 (p_1.Epoch.toNat : Int),.int .u32 (p_1.Count.toNat : Int)],.agg #[.int .i64 p_5.At,.int .u32 (p_5.Birth.toNat : Int),.int .u32 (p_5.Iv.toNat : Int),.int .u32 (p_5.Tag.toNat : Int),.int .u32 (p_5.Sum.toNat : Int)],.slice aa_7 na_7 ca_7]) (l:=[(0,.agg #[.slice aa_2 na_2 ca_2,.slice aa_3 na_3 ca_3,.slice aa_4 na_4 ca_4,.int .u32 (p_1.Epoch.toNat : Int),.int .u32 (p_1.Count.toNat : Int)]),(1,.agg #[.int .i64 p_5.At,.int .u32 (p_5.Birth.toNat : Int),.int .u32 (p_5.Iv.toNat : Int),.int .u32 (p_5.Tag.toNat : Int),.int .u32 (p_5.Sum.toNat : Int)]),(2,.slice aa_7 na_7 ca_7)]) Tryz.func49 rfl rfl ⟨rfl,rfl,rfl,trivial⟩ (fun w hlt => ?_)
 unfold ref13_Opened at hx
 refine Run.cl [] 2 ZF rfl (Zk rfl rfl (fun b_8 hb_8 => Zk rfl rfl (fun b_9 hb_9 => Run.ll_s [1,0] 8 ZF rfl ?_)))
 obtain ⟨x_10,hr_11,hx⟩:=ZD hx
 refine ZI (vs:=[_,_]) (args:=[_,_]) (K:=[]) (rst:=[_,_]) E47 rfl rfl rfl ZC (ref13_Seen_ok p_1 p_5 _ ha_2 ha_3 ha_4 _ hr_11) rfl (fun u_12 Ku_12 Hu_12 hRu_12 hleu_12 hfu_12 => ?_)
 obtain ⟨ar_13,nr_13,cr_13,Kr_13,rfl,rfl,rfl,hr_13,hnewr_13,-⟩:=hRu_12
 replace hr_13:=(RowOf.base (ZP (H2:=New H H) RU8.const hr_13) (fun p hp => (hfu_12 p (ZS 0 rfl hp)).resolve_left (hnewr_13 p hp)))
 refine Run.lc_s [] 14 ZF rfl (ZM rfl (fun c_14 => ?_) (fun c_14 => ?_))
 ·
  replace hx:=ZK c_14 hx
  refine Run.cnz_k [] 9 ZF rfl (Zj (ZJ (vs:=[.slice none 0 0,.int .i64 x_10.2]) (K:=[_]) (rst:=[_,_,_]) (.inl rfl) rfl rfl (ZG rfl (ZG rfl rfl)) (ZO 0 rfl ZC) ?_))
  obtain rfl:=Option.some.inj hx
  exact ⟨none,0,0,[],rfl,rfl,rfl,(ZR _ _ _ _ _),(fun p hp => by cases hp),trivial⟩
 ·
  replace hx:=ZL c_14 hx
  refine Run.cl_s [] 6 ZF rfl (ZA rfl rfl (ZV U26 rfl (IsSlice.long ha_7)) (Run.lcz_s [] 3 ZF rfl (ZM rfl (fun c_15 => ?_) (fun c_15 => ?_))))
  ·
   replace hx:=ZK c_15 hx
   refine Run.cnz_k [] 8 ZF rfl (Zj (ZJ (vs:=[.slice none 0 0,.int .i64 3]) (K:=[_]) (rst:=[_,_,_]) (.inl rfl) rfl rfl (ZG rfl (ZG rfl rfl)) (ZO 0 rfl ZC) ?_))
   obtain rfl:=Option.some.inj hx
   exact ⟨none,0,0,[],rfl,rfl,rfl,(ZR _ _ _ _ _),(fun p hp => by cases hp),trivial⟩
  ·
   replace hx:=ZL c_15 hx
   refine Run.cl_s [1,1] 10 ZF rfl ?_
   obtain ⟨x_19,hr_20,hx⟩:=ZD hx
   refine JL.callL3 (vs:=[_,_,_,_]) E110 rfl rfl (fun H_18 hle_17 hl_16 => ref06_Open_ok p_6 p_5.Iv x_10.1 p_5.Tag _ (IsSlice.mono RU8.mono hle_17 ha_7) (Lent.row' 0 hl_16 RU8.mono hle_17 rfl (hr_13.old RU8.mono)) _ hr_20) rfl (fun _ _ _ _ hR_22 hf_23 => ?_)
   obtain ⟨ar_21,nr_21,cr_21,Kr_21,rfl,rfl,hr_21,-,-⟩:=hR_22
   replace hr_21:=RowOf.base (ZP (H2:=New H H) RU8.const hr_21) (fun p hp => hf_23 p (ZS 0 rfl hp))
   refine Run.lc_s [] 14 ZF rfl (ZM rfl (fun c_24 => ?_) (fun c_24 => ?_))
   ·
    replace hx:=ZK c_24 hx
    refine Run.cnz_k [] 8 ZF rfl (Zj (ZJ (vs:=[.slice none 0 0,.int .i64 131]) (K:=[_]) (rst:=[_,_,_,_]) (.inl rfl) rfl rfl (ZG rfl (ZG rfl rfl)) (ZO 0 rfl ZC) ?_))
    obtain rfl:=Option.some.inj hx
    exact ⟨none,0,0,[],rfl,rfl,rfl,(ZR _ _ _ _ _),(fun p hp => by cases hp),trivial⟩
   ·
    replace hx:=ZL c_24 hx
    refine Run.cnz_s [] 10 ZF rfl (ZJ (vs:=[.slice ar_21 nr_21 cr_21,.int .i64 0]) (K:=[_]) (rst:=[_,_,_]) (.inl rfl) rfl rfl (ZG rfl (ZG rfl rfl)) (ZO 0 rfl ZC) ?_)
    obtain rfl:=Option.some.inj hx
    exact ⟨ar_21,nr_21,cr_21,Kr_21,rfl,rfl,rfl,(ZT (Nat.zero_le _) hr_21),(Zh hr_21 hlt),trivial⟩

set_option maxHeartbeats 8000000 in
theorem ref13_Open_ok (p_1 : Store) (p_5 : Ptr) (p_6 : List UInt8) (H : Heaplet) {aa_2 : Option Addr} {na_2 : Nat} {ca_2 : Nat} {aa_3 : Option Addr} {na_3 : Nat} {ca_3 : Nat} {aa_4 : Option Addr} {na_4 : Nat} {ca_4 : Nat} {aa_7 : Option Addr} {na_7 : Nat} {ca_7 : Nat} (ha_2 : IsSlice H (RSl RU8 1) 1 (.slice aa_2 na_2 ca_2) p_1.Disk.Blocks) (ha_3 : IsSlice H R_Write 2 (.slice aa_3 na_3 ca_3) p_1.Disk.Waits) (ha_4 : IsSlice H RU8 1 (.slice aa_4 na_4 ca_4) p_1.Space) (ha_7 : IsSlice H RU8 1 (.slice aa_7 na_7 ca_7) p_6) (r : List UInt8 × Int) (hx : ref13_Open p_1 p_5 p_6 = some r) :
  Does Tryz.prog 12 #[.agg #[.slice aa_2 na_2 ca_2,.slice aa_3 na_3 ca_3,.slice aa_4 na_4 ca_4,.int .u32 (p_1.Epoch.toNat : Int),.int .u32 (p_1.Count.toNat : Int)],.agg #[.int .i64 p_5.At,.int .u32 (p_5.Birth.toNat : Int),.int .u32 (p_5.Iv.toNat : Int),.int .u32 (p_5.Tag.toNat : Int),.int .u32 (p_5.Sum.toNat : Int)],.slice aa_7 na_7 ca_7] [] H (fun u K' H' => ∃ ao0 : Option Addr,∃ n0 : Nat,∃ cap0 : Nat,∃ K0 : Own,u = .tuple #[.slice ao0 n0 cap0,.int .i64 r.2] ∧ K' = [K0] ∧ H = H' ∧ RowOf (New H H) RU8 0 5 1 (.slice ao0 n0 cap0) r.1 K0 ∧ (∀ p ∈ K0,p.1 ∉ ids (List.flatten [])) ∧ True):=by
 refine Does.enterL (vs:=[.agg #[.slice aa_2 na_2 ca_2,.slice aa_3 na_3 ca_3,.slice aa_4 na_4 ca_4,.int .u32 (p_1.Epoch.toNat : Int),.int .u32 (p_1.Count.toNat : Int)],.agg #[.int .i64 p_5.At,.int .u32 (p_5.Birth.toNat : Int),.int .u32 (p_5.Iv.toNat : Int),.int .u32 (p_5.Tag.toNat : Int),.int .u32 (p_5.Sum.toNat : Int)],.slice aa_7 na_7 ca_7]) (l:=[(0,.agg #[.slice aa_2 na_2 ca_2,.slice aa_3 na_3 ca_3,.slice aa_4 na_4 ca_4,.int .u32 (p_1.Epoch.toNat : Int),.int .u32 (p_1.Count.toNat : Int)]),(1,.agg #[.int .i64 p_5.At,.int .u32 (p_5.Birth.toNat : Int),.int .u32 (p_5.Iv.toNat : Int),.int .u32 (p_5.Tag.toNat : Int),.int .u32 (p_5.Sum.toNat : Int)]),(2,.slice aa_7 na_7 ca_7)]) Tryz.func12 rfl rfl ⟨rfl,rfl,rfl,trivial⟩ (fun w hlt => ?_)
 unfold ref13_Open at hx
 refine Run.cl [] 2 ZF rfl (Zk rfl rfl (fun b_8 hb_8 => Zk rfl rfl (fun b_9 hb_9 => Run.ll_s [1] 8 ZF rfl ?_)))
 obtain ⟨x_10,hr_11,hx⟩:=ZD hx
 refine ZI (vs:=[_]) (args:=[_]) (K:=[]) (rst:=[_,_]) E45 rfl rfl rfl ZC (ref13_May_ok p_1 _ ha_2 ha_3 ha_4 _ hr_11) rfl (fun u_12 Ku_12 Hu_12 hRu_12 hleu_12 hfu_12 => ?_)
 obtain ⟨rfl,rfl,rfl,-⟩:=hRu_12
 refine Run.llz [] 2 ZF rfl (ZQ (t:=11) rfl (fun c_13 => ?_) (fun c_13 => ?_))
 ·
  replace hx:=ZK c_13 hx
  refine Run.lnz_sk [] 15 ZF rfl (Zj (ZJ (vs:=[.slice none 0 0,.int .i64 8]) (K:=[_]) (rst:=[_,_]) (.inl rfl) rfl rfl (ZG rfl (ZG rfl rfl)) (ZO 0 rfl ZC) ?_))
  obtain rfl:=Option.some.inj hx
  exact ⟨none,0,0,[],rfl,rfl,rfl,(ZR _ _ _ _ _),(fun p hp => by cases hp),trivial⟩
 ·
  replace hx:=ZL c_13 hx
  refine Run.llz [0] 3 ZF rfl ?_
  obtain ⟨x_14,hr_15,hx⟩:=ZD hx
  refine ZI (vs:=[_]) (args:=[_]) (K:=[]) (rst:=[_,_]) E46 rfl rfl rfl ZC (ref10_May_ok p_5 _ _ hr_15) rfl (fun u_16 Ku_16 Hu_16 hRu_16 hleu_16 hfu_16 => ?_)
  obtain ⟨rfl,rfl,rfl,-⟩:=hRu_16
  refine Run.lcz_s [] 5 ZF rfl (ZM rfl (fun c_17 => ?_) (fun c_17 => ?_))
  ·
   replace hx:=ZK c_17 hx
   refine Run.cnz_k [] 8 ZF rfl (Zj (ZJ (vs:=[.slice none 0 0,.int .i64 8]) (K:=[_]) (rst:=[_,_]) (.inl rfl) rfl rfl (ZG rfl (ZG rfl rfl)) (ZO 0 rfl ZC) ?_))
   obtain rfl:=Option.some.inj hx
   exact ⟨none,0,0,[],rfl,rfl,rfl,(ZR _ _ _ _ _),(fun p hp => by cases hp),trivial⟩
  ·
   replace hx:=ZL c_17 hx
   refine Run.cl_s [1,0] 7 ZF rfl ?_
   obtain ⟨x_18,hr_19,hx⟩:=ZD hx
   refine ZI (vs:=[_,_,_]) (args:=[_,_,_]) (K:=[]) (rst:=[_,_]) E49 rfl rfl rfl ZC (ref13_Opened_ok p_1 p_5 p_6 _ ha_2 ha_3 ha_4 ha_7 _ hr_19) rfl (fun u_20 Ku_20 Hu_20 hRu_20 hleu_20 hfu_20 => ?_)
   obtain ⟨ar_21,nr_21,cr_21,Kr_21,rfl,rfl,rfl,hr_21,hnewr_21,-⟩:=hRu_20
   replace hr_21:=(RowOf.base (ZP (H2:=New H H) RU8.const hr_21) (fun p hp => (hfu_20 p (ZS 0 rfl hp)).resolve_left (hnewr_21 p hp)))
   refine Run.lnz_s [] 7 ZF rfl (ZJ (vs:=[.slice ar_21 nr_21 cr_21,.int .i64 x_18.2]) (K:=[_]) (rst:=[_,_]) (.inl rfl) rfl rfl (ZG rfl (ZG rfl rfl)) (ZO 0 rfl ZC) ?_)
   obtain rfl:=Option.some.inj hx
   exact ⟨ar_21,nr_21,cr_21,Kr_21,rfl,rfl,rfl,(ZT (Nat.zero_le _) hr_21),(Zh hr_21 hlt),trivial⟩

set_option maxHeartbeats 8000000 in
theorem space_Give_ok (p_1 : List UInt8) (p_3 : Int) (H : Heaplet) {aa_2 : Option Addr} {na_2 : Nat} {ca_2 : Nat} (ha_2 : IsSlice H RU8 1 (.slice aa_2 na_2 ca_2) p_1) (r : List UInt8 × Int) (hx : space_Give p_1 p_3 = some r) :
  Does Tryz.prog 50 #[.slice aa_2 na_2 ca_2,.int .i64 p_3] [] H (fun u K' H' => ∃ ao0 : Option Addr,∃ n0 : Nat,∃ cap0 : Nat,∃ K0 : Own,u = .tuple #[.slice ao0 n0 cap0,.int .i64 r.2] ∧ K' = [K0] ∧ H = H' ∧ RowOf (New H H) RU8 0 5 1 (.slice ao0 n0 cap0) r.1 K0 ∧ (∀ p ∈ K0,p.1 ∉ ids (List.flatten [])) ∧ True):=by
 refine Does.enterL (vs:=[.slice aa_2 na_2 ca_2,.int .i64 p_3]) (l:=[(0,.slice aa_2 na_2 ca_2),(1,.int .i64 p_3)]) Tryz.func50 rfl rfl ⟨rfl,rfl,trivial⟩ (fun w hlt => ?_)
 unfold space_Give at hx
 refine Run.cl [] 11 ZF rfl ?_
 obtain ⟨x_4,hr_5,hx⟩:=ZD hx
 refine ZI (vs:=[_]) (args:=[_]) (K:=[]) (rst:=[]) E56 rfl rfl rfl ZC (space_Check_ok p_1 _ ha_2 _ hr_5) rfl (fun u_6 Ku_6 Hu_6 hRu_6 hleu_6 hfu_6 => ?_)
 obtain ⟨rfl,rfl,rfl,-⟩:=hRu_6
 refine Run.lcz_s [] 4 ZF rfl (ZM rfl (fun c_7 => ?_) (fun c_7 => ?_))
 ·
  replace hx:=ZK c_7 hx
  refine Run.cnz_bk [] 9 ZF rfl (Zj (ZJ (vs:=[.slice none 0 0,.int .i64 8]) (K:=[_]) (rst:=[]) (.inl rfl) rfl rfl (ZG rfl (ZG rfl rfl)) (ZO 0 rfl ZC) ?_))
  obtain rfl:=Option.some.inj hx
  exact ⟨none,0,0,[],rfl,rfl,rfl,(ZR _ _ _ _ _),(fun p hp => by cases hp),trivial⟩
 ·
  replace hx:=ZL c_7 hx
  refine Run.cl [] 5 ZF rfl (ZQ (t:=13) rfl (fun c_8 => ?_) (fun c_8 => ?_))
  ·
   replace hx:=ZK c_8 hx
   refine Run.lnz_sbk [] 16 ZF rfl (Zj (ZJ (vs:=[.slice none 0 0,.int .i64 2]) (K:=[_]) (rst:=[]) (.inl rfl) rfl rfl (ZG rfl (ZG rfl rfl)) (ZO 0 rfl ZC) ?_))
   obtain rfl:=Option.some.inj hx
   exact ⟨none,0,0,[],rfl,rfl,rfl,(ZR _ _ _ _ _),(fun p hp => by cases hp),trivial⟩
  ·
   replace hx:=ZL c_8 hx
   refine Run.lcz_s [] 8 ZF rfl (ZM rfl (fun c_9 => ?_) (fun c_9 => ?_))
   ·
    replace hx:=ZK c_9 hx
    refine Run.cnz_bk [] 9 ZF rfl (Zj (ZJ (vs:=[.slice none 0 0,.int .i64 2]) (K:=[_]) (rst:=[]) (.inl rfl) rfl rfl (ZG rfl (ZG rfl rfl)) (ZO 0 rfl ZC) ?_))
    obtain rfl:=Option.some.inj hx
    exact ⟨none,0,0,[],rfl,rfl,rfl,(ZR _ _ _ _ _),(fun p hp => by cases hp),trivial⟩
   ·
    replace hx:=ZL c_9 hx
    refine Run.cl [] 4 ZF rfl ?_
    obtain ⟨y_10,hN_11,hx⟩:=ZY hx
    obtain ⟨b_12,o_13,cs_14,hE_15,hR_16,hl_17,hc_18⟩:=IsSlice.elem ha_2 hN_11
    obtain rfl:=hR_16
    refine ZA rfl rfl (Zu U26 S5 rfl rfl hE_15) (ZA rfl rfl (R.ldH S5 rfl (hc_18 0 _ rfl)) (ZA rfl rfl (R.neq8 (a:=y_10) (b:=(1 : UInt8)) rfl rfl) (Run.lcz_s [] 3 ZF rfl (ZM rfl (fun c_19 => ?_) (fun c_19 => ?_)))))
    ·
     replace hx:=ZK c_19 hx
     refine Run.cnz_bk [] 9 ZF rfl (Zj (ZJ (vs:=[.slice none 0 0,.int .i64 6]) (K:=[_]) (rst:=[]) (.inl rfl) rfl rfl (ZG rfl (ZG rfl rfl)) (ZO 0 rfl ZC) ?_))
     obtain rfl:=Option.some.inj hx
     exact ⟨none,0,0,[],rfl,rfl,rfl,(ZR _ _ _ _ _),(fun p hp => by cases hp),trivial⟩
    ·
     replace hx:=ZL c_19 hx
     refine Run.cl_bs [] 6 ZF rfl ?_
     obtain ⟨x_20,hr_21,hx⟩:=ZD hx
     refine ZI (vs:=[_]) (args:=[_]) (K:=[]) (rst:=[]) E59 rfl rfl rfl ZC (bytes_Clone_ok p_1 _ ha_2 _ hr_21) rfl (fun u_22 Ku_22 Hu_22 hRu_22 hleu_22 hfu_22 => ?_)
     obtain ⟨ar_23,nr_23,cr_23,Kr_23,rfl,rfl,rfl,hr_23,hnewr_23,-⟩:=hRu_22
     replace hr_23:=(RowOf.base (ZP (H2:=New H H) RU8.const hr_23) (fun p hp => (hfu_22 p (ZS 0 rfl hp)).resolve_left (hnewr_23 p hp)))
     refine Run.ll_s [] 7 ZF rfl ?_
     obtain ⟨hp_24,hx⟩:=chk_some hx
     obtain ⟨b_25,o_26,hE_27⟩:=RowOf.place hr_23 hp_24
     refine ZA rfl rfl (Zu U26 S5 rfl rfl hE_27) ?_
     obtain ⟨m_28,hm_29,hi_30,hx⟩:=setI_some hx
     refine JL.stE 0 (k:=p_3) (y:=(2 : UInt8)) S5 rfl hr_23 rfl hE_27 rfl rfl (rfl) RU8.one hm_29 (fun Kr_31 hr_31 hlr_31 => Run.lnz_s [] 10 ZF rfl (ZJ (vs:=[.slice ar_23 nr_23 cr_23,.int .i64 0]) (K:=[_]) (rst:=[]) (.inl rfl) rfl rfl (ZG rfl (ZG rfl rfl)) (ZO 0 rfl ZC) ?_))
     obtain rfl:=Option.some.inj hx
     exact ⟨ar_23,nr_23,cr_23,Kr_31,rfl,rfl,rfl,(ZT (Nat.zero_le _) hr_31),(Zh hr_31 hlt),trivial⟩

set_option maxHeartbeats 8000000 in
theorem store_Give_ok (p_1 : Store) (p_5 : Ptr) (H : Heaplet) {aa_2 : Option Addr} {na_2 : Nat} {ca_2 : Nat} {aa_3 : Option Addr} {na_3 : Nat} {ca_3 : Nat} {aa_4 : Option Addr} {na_4 : Nat} {ca_4 : Nat} (ha_2 : IsSlice H (RSl RU8 1) 1 (.slice aa_2 na_2 ca_2) p_1.Disk.Blocks) (ha_3 : IsSlice H R_Write 2 (.slice aa_3 na_3 ca_3) p_1.Disk.Waits) (ha_4 : IsSlice H RU8 1 (.slice aa_4 na_4 ca_4) p_1.Space) (r : Store × Int) (hx : store_Give p_1 p_5 = some r) :
  Does Tryz.prog 13 #[.agg #[.slice aa_2 na_2 ca_2,.slice aa_3 na_3 ca_3,.slice aa_4 na_4 ca_4,.int .u32 (p_1.Epoch.toNat : Int),.int .u32 (p_1.Count.toNat : Int)],.agg #[.int .i64 p_5.At,.int .u32 (p_5.Birth.toNat : Int),.int .u32 (p_5.Iv.toNat : Int),.int .u32 (p_5.Tag.toNat : Int),.int .u32 (p_5.Sum.toNat : Int)]] [] H (fun u K' H' => ∃ ao0 : Option Addr,∃ n0 : Nat,∃ cap0 : Nat,∃ ao1 : Option Addr,∃ n1 : Nat,∃ cap1 : Nat,∃ K1 : Own,∃ ao2 : Option Addr,∃ n2 : Nat,∃ cap2 : Nat,∃ K2 : Own,u = .tuple #[.agg #[.slice ao0 n0 cap0,.slice ao1 n1 cap1,.slice ao2 n2 cap2,.int .u32 (r.1.Epoch.toNat : Int),.int .u32 (r.1.Count.toNat : Int)],.int .i64 r.2] ∧ K' = [K1,K2] ∧ IsSlice (New H H') (RSl RU8 1) 1 (.slice ao0 n0 cap0) r.1.Disk.Blocks ∧ RowOf (New H H') R_Write 0 96 2 (.slice ao1 n1 cap1) r.1.Disk.Waits K1 ∧ (∀ p ∈ K1,p.1 ∉ ids (List.flatten [])) ∧ RowOf (New H H') RU8 0 5 1 (.slice ao2 n2 cap2) r.1.Space K2 ∧ (∀ p ∈ K2,p.1 ∉ ids (List.flatten [])) ∧ True):=by
 refine Does.enterL (vs:=[.agg #[.slice aa_2 na_2 ca_2,.slice aa_3 na_3 ca_3,.slice aa_4 na_4 ca_4,.int .u32 (p_1.Epoch.toNat : Int),.int .u32 (p_1.Count.toNat : Int)],.agg #[.int .i64 p_5.At,.int .u32 (p_5.Birth.toNat : Int),.int .u32 (p_5.Iv.toNat : Int),.int .u32 (p_5.Tag.toNat : Int),.int .u32 (p_5.Sum.toNat : Int)]]) (l:=[(0,.agg #[.slice aa_2 na_2 ca_2,.slice aa_3 na_3 ca_3,.slice aa_4 na_4 ca_4,.int .u32 (p_1.Epoch.toNat : Int),.int .u32 (p_1.Count.toNat : Int)]),(1,.agg #[.int .i64 p_5.At,.int .u32 (p_5.Birth.toNat : Int),.int .u32 (p_5.Iv.toNat : Int),.int .u32 (p_5.Tag.toNat : Int),.int .u32 (p_5.Sum.toNat : Int)])]) Tryz.func13 rfl rfl ⟨rfl,rfl,trivial⟩ (fun w hlt => ?_)
 unfold store_Give at hx
 refine Run.cl [] 2 ZF rfl (Zk rfl rfl (fun b_6 hb_6 => Zk rfl rfl (fun b_7 hb_7 => JL.alloc Z29 rfl (fun b_8 hb_8 => Run.ll_s [2] 7 ZF rfl ?_))))
 obtain ⟨x_9,hr_10,hx⟩:=ZD hx
 refine ZI (vs:=[_]) (args:=[_]) (K:=[]) (rst:=[_,_,_]) E16 rfl rfl rfl ZC (store_Check_ok p_1 _ ha_2 ha_3 ha_4 _ hr_10) rfl (fun u_11 Ku_11 Hu_11 hRu_11 hleu_11 hfu_11 => ?_)
 obtain ⟨rfl,rfl,rfl,-⟩:=hRu_11
 refine Run.llz [] 2 ZF rfl (ZQ (t:=11) rfl (fun c_12 => ?_) (fun c_12 => ?_))
 ·
  replace hx:=ZK c_12 hx
  refine Run.lnz_sk [0] 16 ZF rfl (Zj (Zj (ZJ (vs:=[.agg #[.slice none 0 0,.slice none 0 0,.slice none 0 0,.int .u32 ((0 : UInt32).toNat : Int),.int .u32 ((0 : UInt32).toNat : Int)],.int .i64 8]) (K:=[_,_]) (rst:=[_,_,_]) (.inl rfl) rfl rfl (Zn 2 rfl rfl S29 (ZG rfl rfl)) (ZO 0 rfl (ZO 0 rfl ZC)) ?_)))
  obtain rfl:=Option.some.inj hx
  exact ⟨none,0,0,none,0,0,[],none,0,0,[],rfl,rfl,(IsSlice.nil _ _ _),(ZR _ _ _ _ _),(fun p hp => by cases hp),(ZR _ _ _ _ _),(fun p hp => by cases hp),trivial⟩
 ·
  replace hx:=ZL c_12 hx
  refine Run.llz [1] 3 ZF rfl ?_
  obtain ⟨x_13,hr_14,hx⟩:=ZD hx
  refine ZI (vs:=[_]) (args:=[_]) (K:=[]) (rst:=[_,_,_]) E42 rfl rfl rfl ZC (ptr_Check_ok p_5 _ _ hr_14) rfl (fun u_15 Ku_15 Hu_15 hRu_15 hleu_15 hfu_15 => ?_)
  obtain ⟨rfl,rfl,rfl,-⟩:=hRu_15
  refine Run.lcz_s [] 5 ZF rfl (ZM rfl (fun c_16 => ?_) (fun c_16 => ?_))
  ·
   replace hx:=ZK c_16 hx
   refine Run.cnz_k [0] 9 ZF rfl (Zj (Zj (ZJ (vs:=[.agg #[.slice none 0 0,.slice none 0 0,.slice none 0 0,.int .u32 ((0 : UInt32).toNat : Int),.int .u32 ((0 : UInt32).toNat : Int)],.int .i64 8]) (K:=[_,_]) (rst:=[_,_,_]) (.inl rfl) rfl rfl (Zn 2 rfl rfl S29 (ZG rfl rfl)) (ZO 0 rfl (ZO 0 rfl ZC)) ?_)))
   obtain rfl:=Option.some.inj hx
   exact ⟨none,0,0,none,0,0,[],none,0,0,[],rfl,rfl,(IsSlice.nil _ _ _),(ZR _ _ _ _ _),(fun p hp => by cases hp),(ZR _ _ _ _ _),(fun p hp => by cases hp),trivial⟩
  ·
   replace hx:=ZL c_16 hx
   refine Run.cl_s [1] 7 ZF rfl (ZA rfl rfl (R.eqlAgg QU31 QP31 QG31 QF31 rfl rfl (EqF.i (by decide) S3 U3 rfl rfl (EqF.u32 (a:=p_5.Birth) (b:=(0 : UInt32)) (by decide) S27 U27 rfl rfl (EqF.u32 (a:=p_5.Iv) (b:=(0 : UInt32)) (by decide) S27 U27 rfl rfl (EqF.u32 (a:=p_5.Tag) (b:=(0 : UInt32)) (by decide) S27 U27 rfl rfl (EqF.u32 (a:=p_5.Sum) (b:=(0 : UInt32)) (by decide) S27 U27 rfl rfl EqF.nil)))))) ?_)
   refine Run.lcz_s [] 2 ZF rfl (ZM rfl (fun c_17 => ?_) (fun c_17 => ?_))
   ·
    replace hx:=ZK c_17 hx
    refine Run.cnz_k [0] 9 ZF rfl (Zj (Zj (ZJ (vs:=[.agg #[.slice none 0 0,.slice none 0 0,.slice none 0 0,.int .u32 ((0 : UInt32).toNat : Int),.int .u32 ((0 : UInt32).toNat : Int)],.int .i64 6]) (K:=[_,_]) (rst:=[_,_,_]) (.inl rfl) rfl rfl (Zn 2 rfl rfl S29 (ZG rfl rfl)) (ZO 0 rfl (ZO 0 rfl ZC)) ?_)))
    obtain rfl:=Option.some.inj hx
    exact ⟨none,0,0,none,0,0,[],none,0,0,[],rfl,rfl,(IsSlice.nil _ _ _),(ZR _ _ _ _ _),(fun p hp => by cases hp),(ZR _ _ _ _ _),(fun p hp => by cases hp),trivial⟩
   ·
    replace hx:=ZL c_17 hx
    refine Run.cl_s [2,1] 8 ZF rfl ?_
    obtain ⟨x_18,hr_19,hx⟩:=ZD hx
    refine ZI (vs:=[_,_]) (args:=[_,_]) (K:=[]) (rst:=[_,_,_]) E50 rfl rfl rfl ZC (space_Give_ok p_1.Space p_5.At _ ha_4 _ hr_19) rfl (fun u_20 Ku_20 Hu_20 hRu_20 hleu_20 hfu_20 => ?_)
    obtain ⟨ar_21,nr_21,cr_21,Kr_21,rfl,rfl,rfl,hr_21,hnewr_21,-⟩:=hRu_20
    replace hr_21:=(RowOf.base (ZP (H2:=New H H) RU8.const hr_21) (fun p hp => (hfu_20 p (ZS 0 rfl hp)).resolve_left (hnewr_21 p hp)))
    refine Run.lc_s [] 14 ZF rfl (ZM rfl (fun c_22 => ?_) (fun c_22 => ?_))
    ·
     replace hx:=ZK c_22 hx
     refine Run.cnz_k [1] 10 ZF rfl (Zj (Zj (ZJ (vs:=[.agg #[.slice none 0 0,.slice none 0 0,.slice none 0 0,.int .u32 ((0 : UInt32).toNat : Int),.int .u32 ((0 : UInt32).toNat : Int)],.int .i64 x_18.2]) (K:=[_,_]) (rst:=[_,_,_,_]) (.inl rfl) rfl rfl (Zn 3 rfl rfl S29 (ZG rfl rfl)) (ZO 0 rfl (ZO 0 rfl ZC)) ?_)))
     obtain rfl:=Option.some.inj hx
     exact ⟨none,0,0,none,0,0,[],none,0,0,[],rfl,rfl,(IsSlice.nil _ _ _),(ZR _ _ _ _ _),(fun p hp => by cases hp),(ZR _ _ _ _ _),(fun p hp => by cases hp),trivial⟩
    ·
     replace hx:=ZL c_22 hx
     refine Run.cl_s [3] 6 ZF rfl ?_
     obtain ⟨x_23,hr_24,hx⟩:=ZD hx
     refine ZI (vs:=[_]) (args:=[_]) (K:=[]) (rst:=[_,_,_,_]) E51 rfl rfl rfl ZC (dev_Twin_ok (Disk.mk p_1.Disk.Blocks p_1.Disk.Waits) _ ha_2 ha_3 _ hr_24) rfl (fun u_25 Ku_25 Hu_25 hRu_25 hleu_25 hfu_25 => ?_)
     obtain ⟨ar_26,nr_26,cr_26,Kr_26,ar_27,nr_27,cr_27,Kr_27,rfl,rfl,hr_26,hnewr_26,hr_27,hnewr_27,-⟩:=hRu_25
     replace hr_26:=(Pcs.base hr_26 (fun p hp => (hfu_25 p (ZS 0 rfl hp)).resolve_left (hnewr_26 p hp)))
     replace hr_27:=(RowOf.base (RowOf.mono R_Write.mono (New.call (Hle.refl _)) hr_27) (fun p hp => (hfu_25 p (ZS 1 rfl hp)).resolve_left (hnewr_27 p hp)))
     refine Run.lnz_s [5,5,5,3] 15 ZF rfl (JN.pubPcs 0  rfl hr_26 (Nat.le_refl _) (fun H_28 hleH_28 hsH_28 => JN.forget 0 (ZJ (vs:=[.agg #[.slice ar_26 nr_26 cr_26,.slice ar_27 nr_27 cr_27,.slice ar_21 nr_21 cr_21,.int .u32 (p_1.Epoch.toNat : Int),.int .u32 (p_1.Count.toNat : Int)],.int .i64 0]) (K:=[_,_]) (rst:=[_,_,_]) (.inl rfl) rfl rfl (Zn 2 rfl rfl S29 (ZG rfl rfl)) (ZO 0 rfl (ZO 0 rfl ZC)) ?_)))
     obtain rfl:=Option.some.inj hx
     exact ⟨ar_26,nr_26,cr_26,ar_27,nr_27,cr_27,Kr_27,ar_21,nr_21,cr_21,Kr_21,rfl,rfl,hsH_28,(ZT (Nat.zero_le _) (hr_27.mono R_Write.mono (New.mono hleH_28))),(Zh (hr_27.mono R_Write.mono (New.mono hleH_28)) hlt),(ZT (Nat.zero_le _) (hr_21.mono RU8.mono (New.mono (hleu_25.trans hleH_28)))),(Zh (hr_21.mono RU8.mono (New.mono (hleu_25.trans hleH_28))) hlt),trivial⟩

set_option maxHeartbeats 8000000 in
theorem ref12_With_ok (p_1 : List UInt8) (p_3 : Int) (p_4 : UInt8) (H : Heaplet) {aa_2 : Option Addr} {na_2 : Nat} {ca_2 : Nat} (ha_2 : IsSlice H RU8 1 (.slice aa_2 na_2 ca_2) p_1) (r : List UInt8) (hx : ref12_With p_1 p_3 p_4 = some r) :
  Does Tryz.prog 53 #[.slice aa_2 na_2 ca_2,.int .i64 p_3,.int .u8 (p_4.toNat : Int)] [] H (fun u K' H' => ∃ ao0 : Option Addr,∃ n0 : Nat,∃ cap0 : Nat,∃ K0 : Own,u = .slice ao0 n0 cap0 ∧ K' = [K0] ∧ H = H' ∧ RowOf (New H H) RU8 0 5 1 (.slice ao0 n0 cap0) r K0 ∧ (∀ p ∈ K0,p.1 ∉ ids (List.flatten [])) ∧ True):=by
 refine Does.enterL (vs:=[.slice aa_2 na_2 ca_2,.int .i64 p_3,.int .u8 (p_4.toNat : Int)]) (l:=[(0,.slice aa_2 na_2 ca_2),(1,.int .i64 p_3),(2,.int .u8 (p_4.toNat : Int))]) Tryz.func53 rfl rfl ⟨rfl,rfl,rfl,trivial⟩ (fun w hlt => ?_)
 unfold ref12_With at hx
 refine Run.cl [] 8 ZF rfl (JL.seg0 ?_)
 obtain ⟨q_6,hm_7,hl_8,hx⟩:=Zo hx
 refine Zr (HF:=(New H H)) 0 U26 I5 rfl rfl (ZR _ RU8 _ _ _) rfl (SrcF.sliceC RU8.const RU8.one U26 ha_2) hm_7 hl_8 rfl (Nat.le_refl _) rfl (fun vr_9 Kr_9 hr_9 => ?_)
 obtain ⟨ar_9,cr_9,rfl⟩:=RowOf.val hr_9
 refine Run.ll_s [] 8 ZF rfl ?_
 obtain ⟨hp_10,hx⟩:=chk_some hx
 obtain ⟨b_11,o_12,hE_13⟩:=RowOf.place hr_9 hp_10
 refine ZA rfl rfl (Zu U26 S5 rfl rfl hE_13) ?_
 obtain ⟨m_14,hm_15,hi_16,hx⟩:=setI_some hx
 refine JL.stE 0 (k:=p_3) (y:=p_4) S5 rfl hr_9 rfl hE_13 rfl rfl (rfl) RU8.one hm_15 (fun Kr_17 hr_17 hlr_17 => Run.lnz_s [] 9 ZF rfl (ZJ (vs:=[.slice ar_9 q_6.length cr_9]) (K:=[_]) (rst:=[]) (.inl rfl) rfl rfl (ZG rfl rfl) (ZO 0 rfl ZC) ?_))
 obtain rfl:=Option.some.inj hx
 exact ⟨ar_9,q_6.length,cr_9,Kr_17,rfl,rfl,rfl,(ZT (Nat.zero_le _) hr_17),(Zh hr_17 hlt),trivial⟩

set_option maxHeartbeats 8000000 in
theorem ref13_Give_ok (p_1 : Store) (p_5 : Ptr) (H : Heaplet) {aa_2 : Option Addr} {na_2 : Nat} {ca_2 : Nat} {aa_3 : Option Addr} {na_3 : Nat} {ca_3 : Nat} {aa_4 : Option Addr} {na_4 : Nat} {ca_4 : Nat} (ha_2 : IsSlice H (RSl RU8 1) 1 (.slice aa_2 na_2 ca_2) p_1.Disk.Blocks) (ha_3 : IsSlice H R_Write 2 (.slice aa_3 na_3 ca_3) p_1.Disk.Waits) (ha_4 : IsSlice H RU8 1 (.slice aa_4 na_4 ca_4) p_1.Space) (r : Store × Int) (hx : ref13_Give p_1 p_5 = some r) :
  Does Tryz.prog 14 #[.agg #[.slice aa_2 na_2 ca_2,.slice aa_3 na_3 ca_3,.slice aa_4 na_4 ca_4,.int .u32 (p_1.Epoch.toNat : Int),.int .u32 (p_1.Count.toNat : Int)],.agg #[.int .i64 p_5.At,.int .u32 (p_5.Birth.toNat : Int),.int .u32 (p_5.Iv.toNat : Int),.int .u32 (p_5.Tag.toNat : Int),.int .u32 (p_5.Sum.toNat : Int)]] [] H (fun u K' H' => ∃ ao0 : Option Addr,∃ n0 : Nat,∃ cap0 : Nat,∃ ao1 : Option Addr,∃ n1 : Nat,∃ cap1 : Nat,∃ ao2 : Option Addr,∃ n2 : Nat,∃ cap2 : Nat,∃ K2 : Own,u = .tuple #[.agg #[.slice ao0 n0 cap0,.slice ao1 n1 cap1,.slice ao2 n2 cap2,.int .u32 (r.1.Epoch.toNat : Int),.int .u32 (r.1.Count.toNat : Int)],.int .i64 r.2] ∧ K' = [K2] ∧ H = H' ∧ IsSlice H (RSl RU8 1) 1 (.slice ao0 n0 cap0) r.1.Disk.Blocks ∧ IsSlice H R_Write 2 (.slice ao1 n1 cap1) r.1.Disk.Waits ∧ RowOf (New H H) RU8 0 5 1 (.slice ao2 n2 cap2) r.1.Space K2 ∧ (∀ p ∈ K2,p.1 ∉ ids (List.flatten [])) ∧ True):=by
 refine Does.enterL (vs:=[.agg #[.slice aa_2 na_2 ca_2,.slice aa_3 na_3 ca_3,.slice aa_4 na_4 ca_4,.int .u32 (p_1.Epoch.toNat : Int),.int .u32 (p_1.Count.toNat : Int)],.agg #[.int .i64 p_5.At,.int .u32 (p_5.Birth.toNat : Int),.int .u32 (p_5.Iv.toNat : Int),.int .u32 (p_5.Tag.toNat : Int),.int .u32 (p_5.Sum.toNat : Int)]]) (l:=[(0,.agg #[.slice aa_2 na_2 ca_2,.slice aa_3 na_3 ca_3,.slice aa_4 na_4 ca_4,.int .u32 (p_1.Epoch.toNat : Int),.int .u32 (p_1.Count.toNat : Int)]),(1,.agg #[.int .i64 p_5.At,.int .u32 (p_5.Birth.toNat : Int),.int .u32 (p_5.Iv.toNat : Int),.int .u32 (p_5.Tag.toNat : Int),.int .u32 (p_5.Sum.toNat : Int)])]) Tryz.func14 rfl rfl ⟨rfl,rfl,trivial⟩ (fun w hlt => ?_)
 unfold ref13_Give at hx
 refine Run.cl [] 2 ZF rfl (Zk rfl rfl (fun b_6 hb_6 => Zk rfl rfl (fun b_7 hb_7 => JL.alloc Z29 rfl (fun b_8 hb_8 => Run.ll_s [2] 7 ZF rfl ?_))))
 obtain ⟨x_9,hr_10,hx⟩:=ZD hx
 refine ZI (vs:=[_]) (args:=[_]) (K:=[]) (rst:=[_,_,_]) E45 rfl rfl rfl ZC (ref13_May_ok p_1 _ ha_2 ha_3 ha_4 _ hr_10) rfl (fun u_11 Ku_11 Hu_11 hRu_11 hleu_11 hfu_11 => ?_)
 obtain ⟨rfl,rfl,rfl,-⟩:=hRu_11
 refine Run.llz [] 2 ZF rfl (ZQ (t:=9) rfl (fun c_12 => ?_) (fun c_12 => ?_))
 ·
  replace hx:=ZK c_12 hx
  refine Run.lnz_sk [0] 16 ZF rfl (Zj (ZJ (vs:=[.agg #[.slice none 0 0,.slice none 0 0,.slice none 0 0,.int .u32 ((0 : UInt32).toNat : Int),.int .u32 ((0 : UInt32).toNat : Int)],.int .i64 8]) (K:=[_]) (rst:=[_,_,_]) (.inl rfl) rfl rfl (Zn 1 rfl rfl S29 (ZG rfl rfl)) (ZO 0 rfl ZC) ?_))
  obtain rfl:=Option.some.inj hx
  exact ⟨none,0,0,none,0,0,none,0,0,[],rfl,rfl,rfl,(IsSlice.nil _ _ _),(IsSlice.nil _ _ _),(ZR _ _ _ _ _),(fun p hp => by cases hp),trivial⟩
 ·
  replace hx:=ZL c_12 hx
  refine Run.llz [1] 3 ZF rfl ?_
  obtain ⟨x_13,hr_14,hx⟩:=ZD hx
  refine ZI (vs:=[_]) (args:=[_]) (K:=[]) (rst:=[_,_,_]) E46 rfl rfl rfl ZC (ref10_May_ok p_5 _ _ hr_14) rfl (fun u_15 Ku_15 Hu_15 hRu_15 hleu_15 hfu_15 => ?_)
  obtain ⟨rfl,rfl,rfl,-⟩:=hRu_15
  refine Run.lcz_s [] 5 ZF rfl (ZM rfl (fun c_16 => ?_) (fun c_16 => ?_))
  ·
   replace hx:=ZK c_16 hx
   refine Run.cnz_k [0] 9 ZF rfl (Zj (ZJ (vs:=[.agg #[.slice none 0 0,.slice none 0 0,.slice none 0 0,.int .u32 ((0 : UInt32).toNat : Int),.int .u32 ((0 : UInt32).toNat : Int)],.int .i64 8]) (K:=[_]) (rst:=[_,_,_]) (.inl rfl) rfl rfl (Zn 1 rfl rfl S29 (ZG rfl rfl)) (ZO 0 rfl ZC) ?_))
   obtain rfl:=Option.some.inj hx
   exact ⟨none,0,0,none,0,0,none,0,0,[],rfl,rfl,rfl,(IsSlice.nil _ _ _),(IsSlice.nil _ _ _),(ZR _ _ _ _ _),(fun p hp => by cases hp),trivial⟩
  ·
   replace hx:=ZL c_16 hx
   refine Run.cl_s [1] 6 ZF rfl ?_
   obtain ⟨x_17,hr_18,hx⟩:=ZD hx
   refine ZI (vs:=[_]) (args:=[_]) (K:=[]) (rst:=[_,_,_]) E52 rfl rfl rfl ZC (ref10_None_ok p_5 _ _ hr_18) rfl (fun u_19 Ku_19 Hu_19 hRu_19 hleu_19 hfu_19 => ?_)
   obtain ⟨rfl,rfl,rfl,-⟩:=hRu_19
   refine ZA rfl rfl (ZZ rfl) (ZQ (t:=17) rfl (fun c_20 => ?_) (fun c_20 => ?_))
   ·
    replace hx:=ZK c_20 hx
    refine Run.lnz_sk [0] 20 ZF rfl (Zj (ZJ (vs:=[.agg #[.slice none 0 0,.slice none 0 0,.slice none 0 0,.int .u32 ((0 : UInt32).toNat : Int),.int .u32 ((0 : UInt32).toNat : Int)],.int .i64 6]) (K:=[_]) (rst:=[_,_,_]) (.inl rfl) rfl rfl (Zn 1 rfl rfl S29 (ZG rfl rfl)) (ZO 0 rfl ZC) ?_))
    obtain rfl:=Option.some.inj hx
    exact ⟨none,0,0,none,0,0,none,0,0,[],rfl,rfl,rfl,(IsSlice.nil _ _ _),(IsSlice.nil _ _ _),(ZR _ _ _ _ _),(fun p hp => by cases hp),trivial⟩
   ·
    replace hx:=ZL c_20 hx
    refine Run.llz [2,1] 9 ZF rfl ?_
    obtain ⟨y_21,hN_22,hx⟩:=ZY hx
    obtain ⟨b_23,o_24,cs_25,hE_26,hR_27,hl_28,hc_29⟩:=IsSlice.elem ha_4 hN_22
    obtain rfl:=hR_27
    refine ZA rfl rfl (Zu U26 S5 rfl rfl hE_26) (JL.gYes rfl rfl rfl (ZA rfl rfl (R.ldH S5 rfl (hc_29 0 _ rfl)) (JL.gYes rfl rfl rfl (ZA rfl rfl (R.neq8 (a:=y_21) (b:=(1 : UInt8)) rfl rfl) (Run.lcz_s [] 3 ZF rfl (ZM rfl (fun c_30 => ?_) (fun c_30 => ?_)))))))
    ·
     replace hx:=ZK c_30 hx
     refine Run.cnz_k [0] 9 ZF rfl (Zj (ZJ (vs:=[.agg #[.slice none 0 0,.slice none 0 0,.slice none 0 0,.int .u32 ((0 : UInt32).toNat : Int),.int .u32 ((0 : UInt32).toNat : Int)],.int .i64 6]) (K:=[_]) (rst:=[_,_,_]) (.inl rfl) rfl rfl (Zn 1 rfl rfl S29 (ZG rfl rfl)) (ZO 0 rfl ZC) ?_))
     obtain rfl:=Option.some.inj hx
     exact ⟨none,0,0,none,0,0,none,0,0,[],rfl,rfl,rfl,(IsSlice.nil _ _ _),(IsSlice.nil _ _ _),(ZR _ _ _ _ _),(fun p hp => by cases hp),trivial⟩
    ·
     replace hx:=ZL c_30 hx
     refine Run.cl_s [2,1] 8 ZF rfl ?_
     obtain ⟨x_31,hr_32,hx⟩:=ZD hx
     refine ZI (vs:=[_,_,_]) (args:=[_,_,_]) (K:=[]) (rst:=[_,_,_]) E53 rfl rfl rfl ZC (ref12_With_ok p_1.Space p_5.At (2 : UInt8) _ ha_4 _ hr_32) rfl (fun u_33 Ku_33 Hu_33 hRu_33 hleu_33 hfu_33 => ?_)
     obtain ⟨ar_34,nr_34,cr_34,Kr_34,rfl,rfl,rfl,hr_34,hnewr_34,-⟩:=hRu_33
     replace hr_34:=(RowOf.base (ZP (H2:=New H H) RU8.const hr_34) (fun p hp => (hfu_33 p (ZS 0 rfl hp)).resolve_left (hnewr_34 p hp)))
     refine Run.lnz_s [3,3,1] 12 ZF rfl (ZJ (vs:=[.agg #[.slice aa_2 na_2 ca_2,.slice aa_3 na_3 ca_3,.slice ar_34 nr_34 cr_34,.int .u32 (p_1.Epoch.toNat : Int),.int .u32 (p_1.Count.toNat : Int)],.int .i64 0]) (K:=[_]) (rst:=[_,_,_]) (.inl rfl) rfl rfl (Zn 1 rfl rfl S29 (ZG rfl rfl)) (ZO 0 rfl ZC) ?_)
     obtain rfl:=Option.some.inj hx
     exact ⟨aa_2,na_2,ca_2,aa_3,na_3,ca_3,ar_34,nr_34,cr_34,Kr_34,rfl,rfl,rfl,ha_2,ha_3,(ZT (Nat.zero_le _) hr_34),(Zh hr_34 hlt),trivial⟩

set_option maxHeartbeats 8000000 in
theorem ref09_Same_ok (p_1 : Disk) (p_4 : Disk) (H : Heaplet) {aa_2 : Option Addr} {na_2 : Nat} {ca_2 : Nat} {aa_3 : Option Addr} {na_3 : Nat} {ca_3 : Nat} {aa_5 : Option Addr} {na_5 : Nat} {ca_5 : Nat} {aa_6 : Option Addr} {na_6 : Nat} {ca_6 : Nat} (ha_2 : IsSlice H (RSl RU8 1) 1 (.slice aa_2 na_2 ca_2) p_1.Blocks) (ha_3 : IsSlice H R_Write 2 (.slice aa_3 na_3 ca_3) p_1.Waits) (ha_5 : IsSlice H (RSl RU8 1) 1 (.slice aa_5 na_5 ca_5) p_4.Blocks) (ha_6 : IsSlice H R_Write 2 (.slice aa_6 na_6 ca_6) p_4.Waits) (r : Bool) (hx : ref09_Same p_1 p_4 = some r) :
  Does Tryz.prog 54 #[.agg #[.slice aa_2 na_2 ca_2,.slice aa_3 na_3 ca_3],.agg #[.slice aa_5 na_5 ca_5,.slice aa_6 na_6 ca_6]] [] H (fun u K' H' => u = .bool r ∧ K' = [] ∧ H = H' ∧ True):=by
 refine Does.enterL (vs:=[.agg #[.slice aa_2 na_2 ca_2,.slice aa_3 na_3 ca_3],.agg #[.slice aa_5 na_5 ca_5,.slice aa_6 na_6 ca_6]]) (l:=[(0,.agg #[.slice aa_2 na_2 ca_2,.slice aa_3 na_3 ca_3]),(1,.agg #[.slice aa_5 na_5 ca_5,.slice aa_6 na_6 ca_6])]) Tryz.func54 rfl rfl ⟨rfl,rfl,trivial⟩ (fun w hlt => ?_)
 unfold ref09_Same at hx
 refine Run.cl [] 2 ZF rfl (Zk rfl rfl (fun b_7 hb_7 => Zk rfl rfl (fun b_8 hb_8 => Run.ll_s [1] 8 ZF rfl (ZA rfl rfl (ZV U22 rfl (IsSlice.long ha_2)) (Run.llz [0] 2 ZF rfl (ZA rfl rfl (ZV U22 rfl (IsSlice.long ha_5)) (Run.llz [] 2 ZF rfl (ZQ (t:=17) rfl (fun c_9 => ?_) (fun c_9 => ?_)))))))))
 ·
  replace hx:=ZK c_9 hx
  refine Run.lnz_sk [] 18 ZF rfl (ZJ (vs:=[.bool false]) (K:=[]) (rst:=[_,_]) (.inl rfl) rfl rfl (ZG rfl rfl) ZC ?_)
  obtain rfl:=Option.some.inj hx
  exact ⟨rfl,rfl,rfl,trivial⟩
 ·
  replace hx:=ZL c_9 hx
  refine Run.llz [1] 5 ZF rfl (ZA rfl rfl (ZV U23 rfl (IsSlice.long ha_3)) (Run.llz [0] 5 ZF rfl (ZA rfl rfl (ZV U23 rfl (IsSlice.long ha_6)) (Run.lcz_s [] 5 ZF rfl (ZM rfl (fun c_10 => ?_) (fun c_10 => ?_))))))
  ·
   replace hx:=ZK c_10 hx
   refine Run.cnz_k [] 7 ZF rfl (ZJ (vs:=[.bool false]) (K:=[]) (rst:=[_,_]) (.inl rfl) rfl rfl (ZG rfl rfl) ZC ?_)
   obtain rfl:=Option.some.inj hx
   exact ⟨rfl,rfl,rfl,trivial⟩
  ·
   replace hx:=ZL c_10 hx
   refine Run.cc_s [] 13 ZF rfl ?_
   obtain ⟨t_11,ht_13,hx⟩:=ZD hx
   refine JC.cut (fun l o g => l = [(2,.pointer (some ⟨b_7,0,none⟩)),(3,.pointer (some ⟨b_8,0,none⟩)),(5,.int .i64 t_11)] ∧ o = [[(b_7,.cells #[.slice aa_2 na_2 ca_2,.slice aa_3 na_3 ca_3] 25 (0,0))],[(b_8,.cells #[.slice aa_5 na_5 ca_5,.slice aa_6 na_6 ca_6] 25 (0,0))]] ∧ H = g) ?_ ?_
   ·
    rintro _ _ _ ⟨rfl,rfl,rfl⟩
    refine Run.nc_s [] 7 ZF rfl ?_
    obtain ⟨t_17,ht_19,hx⟩:=ZD hx
    refine JC.cut (fun l o g => l = [(5,.int .i64 t_17)] ∧ o = [] ∧ H = g) ?_ ?_
    ·
     rintro _ _ _ ⟨rfl,rfl,rfl⟩
     refine Run.nnz_s [] 9 ZF rfl (ZJ (vs:=[.bool (decide (t_17 = 0))]) (K:=[]) (rst:=[]) (.inl rfl) rfl rfl (ZG rfl rfl) ZC ?_)
     obtain rfl:=Option.some.inj hx
     exact ⟨rfl,rfl,rfl,trivial⟩
    ·
     have hxo_18:=hx; clear hx; have hx:=ht_19; clear ht_19
     refine JC.block (Zc 1 rfl (Zc 1 rfl (Zf (fun n l o g => ∃ s_20 : Int × Nat,l = [(2,.pointer (some ⟨b_7,0,none⟩)),(3,.pointer (some ⟨b_8,0,none⟩)),(5,.int .i64 s_20.1),(7,.int .i64 ((s_20.2 : Nat) : Int))] ∧ o = [[(b_7,.cells #[.slice aa_2 na_2 ca_2,.slice aa_3 na_3 ca_3] 25 (0,0))],[(b_8,.cells #[.slice aa_5 na_5 ca_5,.slice aa_6 na_6 ca_6] 25 (0,0))]] ∧ H = g ∧ run (ref09_Same_l2 p_1 p_4) n s_20 = some t_17) FUEL ?_ ⟨(t_11,0),rfl,rfl,rfl,hx⟩ ⟨rfl,rfl,rfl,rfl,trivial⟩ ?_)))
     ·
      rintro _ _ _ ⟨s_20,rfl,rfl,rfl,hn_21⟩
      exact Ze hn_21
     ·
      rintro n_22 _ _ _ ⟨s_20,rfl,rfl,rfl,hn_21⟩
      clear hx; obtain ⟨oo_24,hx,hd_23⟩:=Zd hn_21
      unfold ref09_Same_l2 at hx
      refine Run.cl [0] 6 ZF rfl (ZA rfl rfl (ZV U23 rfl (IsSlice.long ha_3)) (Run.lcz_s [] 3 ZF rfl (ZM rfl (fun c_23 => ?_) (fun c_23 => ?_))))
      ·
       replace hx:=ZK c_23 hx
       refine Run.cl_s [0] 9 ZF rfl ?_
       obtain ⟨y_24,hN_25,hx⟩:=ZY hx
       obtain ⟨b_26,o_27,cs_28,hE_29,hR_30,hl_31,hc_32⟩:=IsSlice.elem ha_3 hN_25
       obtain ⟨v_33,rfl,hs_34⟩:=hR_30
       obtain ⟨av_33,cv_33',rfl⟩:=IsSlice.val hs_34
       refine ZA rfl rfl (Zu U23 S96 rfl rfl hE_29) (ZA rfl rfl (R.ldHE (cs:=[.int .i64 y_24.At,.slice av_33 y_24.Data.length cv_33']) (k:=0) (vs:=[.int .i64 y_24.At,.slice av_33 y_24.Data.length cv_33']) S96 rfl hc_32 rfl rfl) (JL.alloc Z96 rfl (fun b_35 hb_35 => Run.ll_s [0,2] 8 ZF rfl ?_)))
       obtain ⟨y_36,hN_37,hx⟩:=ZY hx
       obtain ⟨b_38,o_39,cs_40,hE_41,hR_42,hl_43,hc_44⟩:=IsSlice.elem ha_6 hN_37
       obtain ⟨v_45,rfl,hs_46⟩:=hR_42
       obtain ⟨av_45,cv_45,rfl⟩:=IsSlice.val hs_46
       refine ZA rfl rfl (Zu U23 S96 rfl rfl hE_41) (ZA rfl rfl (R.ldHE (cs:=[.int .i64 y_36.At,.slice av_45 y_36.Data.length cv_45]) (k:=0) (vs:=[.int .i64 y_36.At,.slice av_45 y_36.Data.length cv_45]) S96 rfl hc_44 rfl rfl) (JL.alloc Z96 rfl (fun b_47 hb_47 => Run.ll_s [0,1,0] 11 ZF rfl (ZQ (t:=70) rfl (fun c_48 => ?_) (fun c_48 => ?_)))))
       ·
        replace hx:=ZK c_48 hx
        refine Run.llz_sbs [] 20 ZF rfl (ZA rfl rfl (Zt rfl rfl (of_decide_eq_true c_23) (IsSlice.lenI ha_3)) (Run.lnz [] 2 ZF rfl ?_))
        replace hx:=ZX hd_23 hx
        refine JN.forget 1 (JN.forget 0 (ZH 1 rfl (ZH 1 rfl ?_)))
        exact JN.cut ⟨(w64 (s_20.1 + 1),s_20.2 + 1),rfl,rfl,rfl,hx⟩ ⟨rfl,rfl,rfl,rfl,trivial⟩ rfl rfl
       ·
        replace hx:=ZL c_48 hx
        refine Run.llz [1] 5 ZF rfl (ZA rfl rfl (R.toStr U26 U5 U9 rfl hs_34) (Run.llz [0] 5 ZF rfl (ZA rfl rfl (R.toStr U26 U5 U9 rfl hs_46) (JL.gYes rfl rfl rfl (ZA rfl rfl (R.neqStr (a:=y_24.Data) (b:=y_36.Data) rfl rfl) (Run.lcz_s [] 3 ZF rfl (ZM rfl (fun c_49 => ?_) (fun c_49 => ?_))))))))
        ·
         replace hx:=ZK c_49 hx
         refine Run.clz_bs [] 9 ZF rfl (ZA rfl rfl (Zt rfl rfl (of_decide_eq_true c_23) (IsSlice.lenI ha_3)) (Run.lnz [] 2 ZF rfl ?_))
         replace hx:=ZX hd_23 hx
         refine JN.forget 1 (JN.forget 0 (ZH 1 rfl (ZH 1 rfl ?_)))
         exact JN.cut ⟨(w64 (s_20.1 + 1),s_20.2 + 1),rfl,rfl,rfl,hx⟩ ⟨rfl,rfl,rfl,rfl,trivial⟩ rfl rfl
        ·
         replace hx:=ZL c_49 hx
         refine Run.clz_bs [] 5 ZF rfl (ZA rfl rfl (Zt rfl rfl (of_decide_eq_true c_23) (IsSlice.lenI ha_3)) (Run.lnz [] 2 ZF rfl ?_))
         replace hx:=ZX hd_23 hx
         refine JN.forget 1 (JN.forget 0 (ZH 1 rfl (ZH 1 rfl ?_)))
         exact JN.cut ⟨(s_20.1,s_20.2 + 1),rfl,rfl,rfl,hx⟩ ⟨rfl,rfl,rfl,rfl,trivial⟩ rfl rfl
      ·
       replace hx:=ZL c_23 hx
       refine Run.cnz_k [] 2 ZF rfl ?_
       obtain rfl:=Za hd_23 hx
       refine Run.nnz_kb [] 2 ZF rfl (JN.forget 1 (JN.forget 0 ?_))
       exact JN.cut ⟨rfl,rfl,rfl⟩ ⟨rfl,trivial⟩ rfl rfl
   ·
    have hxo_12:=hx; clear hx; have hx:=ht_13; clear ht_13
    refine JC.block (Zc 1 rfl (Zf (fun n l o g => ∃ s_14 : Int × Nat,l = [(2,.pointer (some ⟨b_7,0,none⟩)),(3,.pointer (some ⟨b_8,0,none⟩)),(5,.int .i64 s_14.1),(6,.int .i64 ((s_14.2 : Nat) : Int))] ∧ o = [[(b_7,.cells #[.slice aa_2 na_2 ca_2,.slice aa_3 na_3 ca_3] 25 (0,0))],[(b_8,.cells #[.slice aa_5 na_5 ca_5,.slice aa_6 na_6 ca_6] 25 (0,0))]] ∧ H = g ∧ run (ref09_Same_l1 p_1 p_4) n s_14 = some t_11) FUEL ?_ ⟨(0,0),rfl,rfl,rfl,hx⟩ ⟨rfl,rfl,rfl,rfl,trivial⟩ ?_))
    ·
     rintro _ _ _ ⟨s_14,rfl,rfl,rfl,hn_15⟩
     exact Ze hn_15
    ·
     rintro n_16 _ _ _ ⟨s_14,rfl,rfl,rfl,hn_15⟩
     clear hx; obtain ⟨oo_18,hx,hd_17⟩:=Zd hn_15
     unfold ref09_Same_l1 at hx
     refine Run.cl [0] 6 ZF rfl (ZA rfl rfl (ZV U22 rfl (IsSlice.long ha_2)) (Run.lcz_s [] 3 ZF rfl (ZM rfl (fun c_17 => ?_) (fun c_17 => ?_))))
     ·
      replace hx:=ZK c_17 hx
      refine Run.cc_s [] 5 ZF rfl (JC.draw (so:=[_,_]) 13 rfl Mixed ⟨⟨0,rfl⟩,⟨1,rfl⟩,trivial⟩ (JA.val ⟨by kernel_rfl,by kernel_rfl⟩ (ZE _) (i:=0) rfl ⟨by kernel_rfl,by kernel_rfl,rfl⟩ trivial (ZB (Hle.refl _) ⟨⟨0,rfl⟩,⟨1,rfl⟩,trivial⟩) (R.fa F25_0 rfl) rfl (JA.val ⟨by kernel_rfl,by kernel_rfl⟩ (ZE _) (i:=1) rfl ⟨by kernel_rfl,by kernel_rfl,rfl⟩ trivial (ZB (Hle.refl _) ⟨⟨0,rfl⟩,⟨1,rfl⟩,trivial⟩) (R.ldo 0 S22 rfl rfl rfl) rfl (JA.val ⟨by kernel_rfl,by kernel_rfl⟩ (ZE _) (i:=2) rfl ⟨by kernel_rfl,by kernel_rfl,rfl⟩ trivial (ZB (Hle.refl _) ⟨⟨0,rfl⟩,⟨1,rfl⟩,trivial⟩) (ZZ rfl) rfl ?_))))
      obtain ⟨y_18,hN_19,hx⟩:=ZY hx
      obtain ⟨b_20,o_21,cs_22,hE_23,hR_24,hl_25,hc_26⟩:=IsSlice.elem ha_2 hN_19
      obtain ⟨v_27,rfl,hs_28⟩:=hR_24
      obtain ⟨av_27,cv_27',rfl⟩:=IsSlice.val hs_28
      refine JA.val ⟨by kernel_rfl,by kernel_rfl⟩ (ZE _) (i:=3) rfl ⟨by kernel_rfl,by kernel_rfl,rfl⟩ trivial (ZB (Hle.refl _) ⟨⟨0,rfl⟩,⟨1,rfl⟩,trivial⟩) (Zu U22 S26 rfl rfl hE_23) rfl (JA.val ⟨by kernel_rfl,by kernel_rfl⟩ (ZE _) (i:=4) rfl ⟨by kernel_rfl,by kernel_rfl,rfl⟩ trivial (ZB (Hle.refl _) ⟨⟨0,rfl⟩,⟨1,rfl⟩,trivial⟩) (R.ldH S26 rfl (hc_26 0 _ rfl)) rfl (JA.val ⟨by kernel_rfl,by kernel_rfl⟩ (ZE _) (i:=5) rfl ⟨by kernel_rfl,by kernel_rfl,rfl⟩ trivial (ZB (Hle.refl _) ⟨⟨0,rfl⟩,⟨1,rfl⟩,trivial⟩) (R.toStr U26 U5 U9 rfl hs_28) rfl (JA.val ⟨by kernel_rfl,by kernel_rfl⟩ (ZE _) (i:=6) rfl ⟨by kernel_rfl,by kernel_rfl,rfl⟩ trivial (ZB (Hle.refl _) ⟨⟨0,rfl⟩,⟨1,rfl⟩,trivial⟩) (R.fa F25_0 rfl) rfl (JA.val ⟨by kernel_rfl,by kernel_rfl⟩ (ZE _) (i:=7) rfl ⟨by kernel_rfl,by kernel_rfl,rfl⟩ trivial (ZB (Hle.refl _) ⟨⟨0,rfl⟩,⟨1,rfl⟩,trivial⟩) (R.ldo 1 S22 rfl rfl rfl) rfl (JA.val ⟨by kernel_rfl,by kernel_rfl⟩ (ZE _) (i:=8) rfl ⟨by kernel_rfl,by kernel_rfl,rfl⟩ trivial (ZB (Hle.refl _) ⟨⟨0,rfl⟩,⟨1,rfl⟩,trivial⟩) (ZZ rfl) rfl ?_)))))
      obtain ⟨y_29,hN_30,hx⟩:=ZY hx
      obtain ⟨b_31,o_32,cs_33,hE_34,hR_35,hl_36,hc_37⟩:=IsSlice.elem ha_5 hN_30
      obtain ⟨v_38,rfl,hs_39⟩:=hR_35
      obtain ⟨av_38,cv_38,rfl⟩:=IsSlice.val hs_39
      refine JA.val ⟨by kernel_rfl,by kernel_rfl⟩ (ZE _) (i:=9) rfl ⟨by kernel_rfl,by kernel_rfl,rfl⟩ trivial (ZB (Hle.refl _) ⟨⟨0,rfl⟩,⟨1,rfl⟩,trivial⟩) (Zu U22 S26 rfl rfl hE_34) rfl (JA.val ⟨by kernel_rfl,by kernel_rfl⟩ (ZE _) (i:=10) rfl ⟨by kernel_rfl,by kernel_rfl,rfl⟩ trivial (ZB (Hle.refl _) ⟨⟨0,rfl⟩,⟨1,rfl⟩,trivial⟩) (R.ldH S26 rfl (hc_37 0 _ rfl)) rfl (JA.val ⟨by kernel_rfl,by kernel_rfl⟩ (ZE _) (i:=11) rfl ⟨by kernel_rfl,by kernel_rfl,rfl⟩ trivial (ZB (Hle.refl _) ⟨⟨0,rfl⟩,⟨1,rfl⟩,trivial⟩) (R.toStr U26 U5 U9 rfl hs_39) rfl (JA.val ⟨by kernel_rfl,by kernel_rfl⟩ (ZE _) (i:=12) rfl ⟨by kernel_rfl,by kernel_rfl,rfl⟩ trivial (ZB (Hle.refl _) ⟨⟨0,rfl⟩,⟨1,rfl⟩,trivial⟩) (R.neqStr (a:=y_18) (b:=y_29) rfl rfl) rfl (Zg (by kernel_rfl) (JN.next (ZM rfl (fun c_40 => ?_) (fun c_40 => ?_)))))))
      ·
       replace hx:=ZK c_40 hx
       refine Run.clz_bs [] 9 ZF rfl (ZA rfl rfl (Zt rfl rfl (of_decide_eq_true c_17) (IsSlice.lenI ha_2)) (Run.lnz [] 2 ZF rfl ?_))
       replace hx:=ZX hd_17 hx
       refine ZH 1 rfl (ZH 1 rfl ?_)
       exact JN.cut ⟨(w64 (s_14.1 + 1),s_14.2 + 1),rfl,rfl,rfl,hx⟩ ⟨rfl,rfl,rfl,rfl,trivial⟩ rfl rfl
      ·
       replace hx:=ZL c_40 hx
       refine Run.clz_bs [] 5 ZF rfl (ZA rfl rfl (Zt rfl rfl (of_decide_eq_true c_17) (IsSlice.lenI ha_2)) (Run.lnz [] 2 ZF rfl ?_))
       replace hx:=ZX hd_17 hx
       refine ZH 1 rfl (ZH 1 rfl ?_)
       exact JN.cut ⟨(s_14.1,s_14.2 + 1),rfl,rfl,rfl,hx⟩ ⟨rfl,rfl,rfl,rfl,trivial⟩ rfl rfl
     ·
      replace hx:=ZL c_17 hx
      refine Run.cnz_k [] 2 ZF rfl ?_
      obtain rfl:=Za hd_17 hx
      refine Run.nnz_kb [] 2 ZF rfl (ZH 1 rfl (ZH 1 rfl ?_))
      exact JN.cut ⟨rfl,rfl,rfl⟩ ⟨rfl,rfl,rfl,trivial⟩ rfl rfl

set_option maxHeartbeats 8000000 in
theorem ref13_Same_ok (p_1 : Store) (p_5 : Store) (H : Heaplet) {aa_2 : Option Addr} {na_2 : Nat} {ca_2 : Nat} {aa_3 : Option Addr} {na_3 : Nat} {ca_3 : Nat} {aa_4 : Option Addr} {na_4 : Nat} {ca_4 : Nat} {aa_6 : Option Addr} {na_6 : Nat} {ca_6 : Nat} {aa_7 : Option Addr} {na_7 : Nat} {ca_7 : Nat} {aa_8 : Option Addr} {na_8 : Nat} {ca_8 : Nat} (ha_2 : IsSlice H (RSl RU8 1) 1 (.slice aa_2 na_2 ca_2) p_1.Disk.Blocks) (ha_3 : IsSlice H R_Write 2 (.slice aa_3 na_3 ca_3) p_1.Disk.Waits) (ha_4 : IsSlice H RU8 1 (.slice aa_4 na_4 ca_4) p_1.Space) (ha_6 : IsSlice H (RSl RU8 1) 1 (.slice aa_6 na_6 ca_6) p_5.Disk.Blocks) (ha_7 : IsSlice H R_Write 2 (.slice aa_7 na_7 ca_7) p_5.Disk.Waits) (ha_8 : IsSlice H RU8 1 (.slice aa_8 na_8 ca_8) p_5.Space) (r : Bool) (hx : ref13_Same p_1 p_5 = some r) :
  Does Tryz.prog 15 #[.agg #[.slice aa_2 na_2 ca_2,.slice aa_3 na_3 ca_3,.slice aa_4 na_4 ca_4,.int .u32 (p_1.Epoch.toNat : Int),.int .u32 (p_1.Count.toNat : Int)],.agg #[.slice aa_6 na_6 ca_6,.slice aa_7 na_7 ca_7,.slice aa_8 na_8 ca_8,.int .u32 (p_5.Epoch.toNat : Int),.int .u32 (p_5.Count.toNat : Int)]] [] H (fun u K' H' => u = .bool r ∧ K' = [] ∧ H = H' ∧ True):=by
 refine Does.enterL (vs:=[.agg #[.slice aa_2 na_2 ca_2,.slice aa_3 na_3 ca_3,.slice aa_4 na_4 ca_4,.int .u32 (p_1.Epoch.toNat : Int),.int .u32 (p_1.Count.toNat : Int)],.agg #[.slice aa_6 na_6 ca_6,.slice aa_7 na_7 ca_7,.slice aa_8 na_8 ca_8,.int .u32 (p_5.Epoch.toNat : Int),.int .u32 (p_5.Count.toNat : Int)]]) (l:=[(0,.agg #[.slice aa_2 na_2 ca_2,.slice aa_3 na_3 ca_3,.slice aa_4 na_4 ca_4,.int .u32 (p_1.Epoch.toNat : Int),.int .u32 (p_1.Count.toNat : Int)]),(1,.agg #[.slice aa_6 na_6 ca_6,.slice aa_7 na_7 ca_7,.slice aa_8 na_8 ca_8,.int .u32 (p_5.Epoch.toNat : Int),.int .u32 (p_5.Count.toNat : Int)])]) Tryz.func15 rfl rfl ⟨rfl,rfl,trivial⟩ (fun w hlt => ?_)
 unfold ref13_Same at hx
 refine Run.cl [] 2 ZF rfl (Zk rfl rfl (fun b_9 hb_9 => Zk rfl rfl (fun b_10 hb_10 => Run.lc_s [] 4 ZF rfl ?_)))
 obtain ⟨t_11,ht_13,hx⟩:=ZD hx
 refine JC.cut (fun l o g => l = [(4,.bool t_11)] ∧ o = [] ∧ H = g) ?_ ?_
 ·
  rintro _ _ _ ⟨rfl,rfl,rfl⟩
  refine Run.nnz_s [] 2 ZF rfl (ZJ (vs:=[.bool t_11]) (K:=[]) (rst:=[]) (.inl rfl) rfl rfl (ZG rfl rfl) ZC ?_)
  obtain rfl:=Option.some.inj hx
  exact ⟨rfl,rfl,rfl,trivial⟩
 ·
  have hxo_12:=hx; clear hx; have hx:=ht_13; clear ht_13
  refine Run.clz [1,0] 5 ZF rfl ?_
  obtain ⟨x_14,hr_15,hx⟩:=ZD hx
  refine ZI (vs:=[_,_]) (args:=[_,_]) (K:=[]) (rst:=[_,_]) E54 rfl rfl rfl ZC (ref09_Same_ok (Disk.mk p_1.Disk.Blocks p_1.Disk.Waits) (Disk.mk p_5.Disk.Blocks p_5.Disk.Waits) _ ha_2 ha_3 ha_6 ha_7 _ hr_15) rfl (fun u_16 Ku_16 Hu_16 hRu_16 hleu_16 hfu_16 => ?_)
  obtain ⟨rfl,rfl,rfl,-⟩:=hRu_16
  refine ZA rfl rfl (ZZ rfl) (ZQ (t:=10) rfl (fun c_17 => ?_) (fun c_17 => ?_))
  ·
   replace hx:=ZK c_17 hx
   refine Run.llz [1] 5 ZF rfl (ZA rfl rfl (R.toStr U26 U5 U9 rfl ha_4) (Run.llz [0] 5 ZF rfl (ZA rfl rfl (R.toStr U26 U5 U9 rfl ha_8) (JL.gYes rfl rfl rfl (ZA rfl rfl (R.eqlStr (a:=p_1.Space) (b:=p_5.Space) rfl rfl) (Run.llz [] 2 ZF rfl (ZQ (t:=19) rfl (fun c_18 => ?_) (fun c_18 => ?_))))))))
   ·
    replace hx:=ZK c_18 hx
    refine Run.llz [1,0] 9 ZF rfl (ZA rfl rfl (R.eql32 (a:=p_1.Epoch) (b:=p_5.Epoch) rfl rfl) (Run.llz [] 2 ZF rfl (ZQ (t:=26) rfl (fun c_19 => ?_) (fun c_19 => ?_))))
    ·
     replace hx:=ZK c_19 hx
     refine Run.llz [1,0] 9 ZF rfl (ZA rfl rfl (R.eql32 (a:=p_1.Count) (b:=p_5.Count) rfl rfl) (Run.lnz [] 3 ZF rfl ?_))
     obtain rfl:=Option.some.inj hx
     refine JN.forget 1 (JN.forget 0 ?_)
     exact JN.cut ⟨rfl,rfl,rfl⟩ ⟨rfl,trivial⟩ rfl rfl
    ·
     replace hx:=ZL c_19 hx
     refine Run.lnz [] 8 ZF rfl ?_
     obtain rfl:=Option.some.inj hx
     refine JN.forget 1 (JN.forget 0 ?_)
     exact JN.cut ⟨rfl,rfl,rfl⟩ ⟨rfl,trivial⟩ rfl rfl
   ·
    replace hx:=ZL c_18 hx
    refine Run.lnz [] 15 ZF rfl ?_
    obtain rfl:=Option.some.inj hx
    refine JN.forget 1 (JN.forget 0 ?_)
    exact JN.cut ⟨rfl,rfl,rfl⟩ ⟨rfl,trivial⟩ rfl rfl
  ·
   replace hx:=ZL c_17 hx
   refine Run.lnz [] 24 ZF rfl ?_
   obtain rfl:=Option.some.inj hx
   refine JN.forget 1 (JN.forget 0 ?_)
   exact JN.cut ⟨rfl,rfl,rfl⟩ ⟨rfl,trivial⟩ rfl rfl

set_option maxHeartbeats 8000000 in
theorem ref13_Check_ok (p_1 : Store) (H : Heaplet) {aa_2 : Option Addr} {na_2 : Nat} {ca_2 : Nat} {aa_3 : Option Addr} {na_3 : Nat} {ca_3 : Nat} {aa_4 : Option Addr} {na_4 : Nat} {ca_4 : Nat} (ha_2 : IsSlice H (RSl RU8 1) 1 (.slice aa_2 na_2 ca_2) p_1.Disk.Blocks) (ha_3 : IsSlice H R_Write 2 (.slice aa_3 na_3 ca_3) p_1.Disk.Waits) (ha_4 : IsSlice H RU8 1 (.slice aa_4 na_4 ca_4) p_1.Space) (r : Int) (hx : ref13_Check p_1 = some r) :
  Does Tryz.prog 17 #[.agg #[.slice aa_2 na_2 ca_2,.slice aa_3 na_3 ca_3,.slice aa_4 na_4 ca_4,.int .u32 (p_1.Epoch.toNat : Int),.int .u32 (p_1.Count.toNat : Int)]] [] H (fun u K' H' => u = .int .i64 r ∧ K' = [] ∧ H = H' ∧ True):=by
 refine Does.enterL (vs:=[.agg #[.slice aa_2 na_2 ca_2,.slice aa_3 na_3 ca_3,.slice aa_4 na_4 ca_4,.int .u32 (p_1.Epoch.toNat : Int),.int .u32 (p_1.Count.toNat : Int)]]) (l:=[(0,.agg #[.slice aa_2 na_2 ca_2,.slice aa_3 na_3 ca_3,.slice aa_4 na_4 ca_4,.int .u32 (p_1.Epoch.toNat : Int),.int .u32 (p_1.Count.toNat : Int)])]) Tryz.func17 rfl rfl ⟨rfl,trivial⟩ (fun w hlt => ?_)
 unfold ref13_Check at hx
 refine Run.cl [] 2 ZF rfl (Zk rfl rfl (fun b_5 hb_5 => Run.ll_s [0] 7 ZF rfl ?_))
 obtain ⟨x_6,hr_7,hx⟩:=ZD hx
 refine ZI (vs:=[_]) (args:=[_]) (K:=[]) (rst:=[_]) E45 rfl rfl rfl ZC (ref13_May_ok p_1 _ ha_2 ha_3 ha_4 _ hr_7) rfl (fun u_8 Ku_8 Hu_8 hRu_8 hleu_8 hfu_8 => ?_)
 obtain ⟨rfl,rfl,rfl,-⟩:=hRu_8
 refine Run.lcz_s [] 3 ZF rfl (ZM rfl (fun c_9 => ?_) (fun c_9 => ?_))
 ·
  replace hx:=ZK c_9 hx
  refine Run.cnz_k [] 7 ZF rfl (ZJ (vs:=[.int .i64 8]) (K:=[]) (rst:=[_]) (.inl rfl) rfl rfl (ZG rfl rfl) ZC ?_)
  obtain rfl:=Option.some.inj hx
  exact ⟨rfl,rfl,rfl,trivial⟩
 ·
  replace hx:=ZL c_9 hx
  refine Run.cnz_s [] 8 ZF rfl (ZJ (vs:=[.int .i64 0]) (K:=[]) (rst:=[_]) (.inl rfl) rfl rfl (ZG rfl rfl) ZC ?_)
  obtain rfl:=Option.some.inj hx
  exact ⟨rfl,rfl,rfl,trivial⟩

set_option maxHeartbeats 8000000 in
theorem bytes_Compare_ok (p_1 : List UInt8) (p_3 : List UInt8) (H : Heaplet) {aa_2 : Option Addr} {na_2 : Nat} {ca_2 : Nat} {aa_4 : Option Addr} {na_4 : Nat} {ca_4 : Nat} (ha_2 : IsSlice H RU8 1 (.slice aa_2 na_2 ca_2) p_1) (ha_4 : IsSlice H RU8 1 (.slice aa_4 na_4 ca_4) p_3) (r : Int) (hx : bytes_Compare p_1 p_3 = some r) :
  Does Tryz.prog 115 #[.slice aa_2 na_2 ca_2,.slice aa_4 na_4 ca_4] [] H (fun u K' H' => u = .int .i64 r ∧ K' = [] ∧ H = H' ∧ True):=by
 refine Does.enterL (vs:=[.slice aa_2 na_2 ca_2,.slice aa_4 na_4 ca_4]) (l:=[(0,.slice aa_2 na_2 ca_2),(1,.slice aa_4 na_4 ca_4)]) Tryz.func115 rfl rfl ⟨rfl,rfl,trivial⟩ (fun w hlt => ?_)
 unfold bytes_Compare at hx
 refine Run.cl [] 9 ZF rfl (ZA rfl rfl (R.compareB (m:=p_1) (m':=p_3) Tryz.func179 (by kernel_rfl) rfl (by kernel_rfl) (by kernel_rfl) rfl ha_2 rfl ha_4) ?_)
 refine Run.lnz_s [] 4 ZF rfl (ZJ (vs:=[.int .i64 (cmpB p_1 p_3)]) (K:=[]) (rst:=[]) (.inl rfl) rfl rfl (ZG rfl rfl) ZC ?_)
 obtain rfl:=Option.some.inj hx
 exact ⟨rfl,rfl,rfl,trivial⟩

set_option maxHeartbeats 8000000 in
theorem dev_Same_1_ok (p_1 : List UInt8) (p_3 : List UInt8) (H : Heaplet) {aa_2 : Option Addr} {na_2 : Nat} {ca_2 : Nat} {aa_4 : Option Addr} {na_4 : Nat} {ca_4 : Nat} (ha_2 : IsSlice H RU8 1 (.slice aa_2 na_2 ca_2) p_1) (ha_4 : IsSlice H RU8 1 (.slice aa_4 na_4 ca_4) p_3) (r : Int) (hx : dev_Same_1 p_1 p_3 = some r) :
  Does Tryz.prog 114 #[.slice aa_2 na_2 ca_2,.slice aa_4 na_4 ca_4] [] H (fun u K' H' => u = .int .i64 r ∧ K' = [] ∧ H = H' ∧ True):=by
 refine Does.enterL (vs:=[.slice aa_2 na_2 ca_2,.slice aa_4 na_4 ca_4]) (l:=[(0,.slice aa_2 na_2 ca_2),(1,.slice aa_4 na_4 ca_4)]) Tryz.func114 rfl rfl ⟨rfl,rfl,trivial⟩ (fun w hlt => ?_)
 unfold dev_Same_1 at hx
 refine Run.cl [] 9 ZF rfl ?_
 obtain ⟨x_5,hr_6,hx⟩:=ZD hx
 refine ZI (vs:=[_,_]) (args:=[_,_]) (K:=[]) (rst:=[]) E115 rfl rfl rfl ZC (bytes_Compare_ok p_1 p_3 _ ha_2 ha_4 _ hr_6) rfl (fun u_7 Ku_7 Hu_7 hRu_7 hleu_7 hfu_7 => ?_)
 obtain ⟨rfl,rfl,rfl,-⟩:=hRu_7
 refine Run.lnz_s [] 4 ZF rfl (ZJ (vs:=[.int .i64 x_5]) (K:=[]) (rst:=[]) (.inl rfl) rfl rfl (ZG rfl rfl) ZC ?_)
 obtain rfl:=Option.some.inj hx
 exact ⟨rfl,rfl,rfl,trivial⟩

set_option maxHeartbeats 8000000 in
theorem dev_Same_2_ok (p_1 : Write) (p_3 : Write) (H : Heaplet) {aa_2 : Option Addr} {na_2 : Nat} {ca_2 : Nat} {aa_4 : Option Addr} {na_4 : Nat} {ca_4 : Nat} {b_5 : Nat} (ha_2 : IsSlice H RU8 1 (.slice aa_2 na_2 ca_2) p_1.Data) (ha_4 : IsSlice H RU8 1 (.slice aa_4 na_4 ca_4) p_3.Data) (r : Bool) (hx : dev_Same_2 p_1 p_3 = some r) :
  Does Tryz.prog 117 #[.agg #[.int .i64 p_1.At,.slice aa_2 na_2 ca_2],.agg #[.int .i64 p_3.At,.slice aa_4 na_4 ca_4],.pointer (some ⟨b_5,0,none⟩)] [[(b_5,.cells #[.func (.func 114) #[] #[]] 167 (0,0))]] H (fun u K' H' => u = .bool r ∧ K' = [[(b_5,.cells #[.func (.func 114) #[] #[]] 167 (0,0))]] ∧ H = H' ∧ True):=by
 refine Does.enterL (vs:=[.agg #[.int .i64 p_1.At,.slice aa_2 na_2 ca_2],.agg #[.int .i64 p_3.At,.slice aa_4 na_4 ca_4],.pointer (some ⟨b_5,0,none⟩)]) (l:=[(0,.agg #[.int .i64 p_1.At,.slice aa_2 na_2 ca_2]),(1,.agg #[.int .i64 p_3.At,.slice aa_4 na_4 ca_4]),(2,.pointer (some ⟨b_5,0,none⟩))]) Tryz.func117 rfl rfl ⟨rfl,rfl,rfl,trivial⟩ (fun w hlt => ?_)
 unfold dev_Same_2 at hx
 refine Run.cl [] 2 ZF rfl (Zk rfl rfl (fun b_6 hb_6 => Zk rfl rfl (fun b_7 hb_7 => Run.lc_s [] 4 ZF rfl ?_)))
 obtain ⟨t_8,ht_10,hx⟩:=ZD hx
 refine JC.cut (fun l o g => l = [(2,.pointer (some ⟨b_5,0,none⟩)),(5,.bool t_8)] ∧ o = [[(b_5,.cells #[.func (.func 114) #[] #[]] 167 (0,0))]] ∧ H = g) ?_ ?_
 ·
  rintro _ _ _ ⟨rfl,rfl,rfl⟩
  refine Run.nnz_s [] 2 ZF rfl (ZJ (vs:=[.bool t_8]) (K:=[_]) (rst:=[]) (.inl rfl) rfl rfl (ZG rfl rfl) (ZO 0 rfl ZC) ?_)
  obtain rfl:=Option.some.inj hx
  exact ⟨rfl,rfl,rfl,trivial⟩
 ·
  have hxo_9:=hx; clear hx; have hx:=ht_10; clear ht_10
  refine Run.clz [1,0] 7 ZF rfl (ZQ (t:=11) rfl (fun c_11 => ?_) (fun c_11 => ?_))
  ·
   replace hx:=ZK c_11 hx
   refine Run.llz [2,1,0] 11 ZF rfl ?_
   obtain ⟨x_12,hr_13,hx⟩:=ZD hx
   refine ZI (vs:=[_,_]) (args:=[_,_]) (K:=[]) (rst:=[_,_,_]) E114 rfl rfl rfl ZC (dev_Same_1_ok p_1.Data p_3.Data _ ha_2 ha_4 _ hr_13) rfl (fun u_14 Ku_14 Hu_14 hRu_14 hleu_14 hfu_14 => ?_)
   obtain ⟨rfl,rfl,rfl,-⟩:=hRu_14
   refine Run.lnz [] 5 ZF rfl ?_
   obtain rfl:=Option.some.inj hx
   refine JN.forget 1 (JN.forget 0 ?_)
   exact JN.cut ⟨rfl,rfl,rfl⟩ ⟨rfl,rfl,trivial⟩ rfl rfl
  ·
   replace hx:=ZL c_11 hx
   refine Run.lnz [] 10 ZF rfl ?_
   obtain rfl:=Option.some.inj hx
   refine JN.forget 1 (JN.forget 0 ?_)
   exact JN.cut ⟨rfl,rfl,rfl⟩ ⟨rfl,rfl,trivial⟩ rfl rfl

set_option maxHeartbeats 8000000 in
theorem slices_EqualFunc_Write_ok (p_1 : List Write) (p_3 : List Write) (H : Heaplet) {aa_2 : Option Addr} {na_2 : Nat} {ca_2 : Nat} {aa_4 : Option Addr} {na_4 : Nat} {ca_4 : Nat} {b_5 : Nat} (ha_2 : IsSlice H R_Write 2 (.slice aa_2 na_2 ca_2) p_1) (ha_4 : IsSlice H R_Write 2 (.slice aa_4 na_4 ca_4) p_3) (r : Bool) (hx : slices_EqualFunc_Write p_1 p_3 = some r) :
  Does Tryz.prog 116 #[.slice aa_2 na_2 ca_2,.slice aa_4 na_4 ca_4,.func (.func 117) #[] #[.pointer (some ⟨b_5,0,none⟩)]] [[(b_5,.cells #[.func (.func 114) #[] #[]] 167 (0,0))]] H (fun u K' H' => u = .bool r ∧ K' = [[(b_5,.cells #[.func (.func 114) #[] #[]] 167 (0,0))]] ∧ H = H' ∧ True):=by
 refine Does.enterL (vs:=[.slice aa_2 na_2 ca_2,.slice aa_4 na_4 ca_4,.func (.func 117) #[] #[.pointer (some ⟨b_5,0,none⟩)]]) (l:=[(0,.slice aa_2 na_2 ca_2),(1,.slice aa_4 na_4 ca_4),(2,.func (.func 117) #[] #[.pointer (some ⟨b_5,0,none⟩)])]) Tryz.func116 rfl rfl ⟨rfl,rfl,rfl,trivial⟩ (fun w hlt => ?_)
 unfold slices_EqualFunc_Write at hx
 refine Run.cl [] 9 ZF rfl (ZA rfl rfl (ZV U23 rfl (IsSlice.long ha_2)) (ZA rfl rfl (ZZ rfl) (ZA rfl rfl (ZV U23 rfl (IsSlice.long ha_4)) (Run.lcz_s [] 3 ZF rfl (ZM rfl (fun c_6 => ?_) (fun c_6 => ?_))))))
 ·
  replace hx:=ZK c_6 hx
  refine Run.cnz_k [] 7 ZF rfl (ZJ (vs:=[.bool false]) (K:=[_]) (rst:=[]) (.inl rfl) rfl rfl (ZG rfl rfl) (ZO 0 rfl ZC) ?_)
  obtain rfl:=Option.some.inj hx
  exact ⟨rfl,rfl,rfl,trivial⟩
 ·
  replace hx:=ZL c_6 hx
  refine Run.cl_s [] 6 ZF rfl (ZA rfl rfl (ZV U23 rfl (IsSlice.long ha_2)) (Run.lcz_s [] 3 ZF rfl ?_))
  obtain ⟨t_7,ht_9,hx⟩:=ZD hx
  refine JC.cut (fun l o g => ∃ t_7a : Unit,l = [(2,.func (.func 117) #[] #[.pointer (some ⟨b_5,0,none⟩)])] ∧ o = [[(b_5,.cells #[.func (.func 114) #[] #[]] 167 (0,0))]] ∧ H = g ∧ t_7 = .inl t_7a) ?_ ?_
  ·
   rintro _ _ _ ⟨t_7a,rfl,rfl,rfl,rfl⟩
   simp only [Sum.elim_inl] at hx
   refine Run.nnz_s [] 7 ZF rfl (ZJ (vs:=[.bool true]) (K:=[_]) (rst:=[]) (.inl rfl) rfl rfl (ZG rfl rfl) (ZO 0 rfl ZC) ?_)
   obtain rfl:=Option.some.inj hx
   exact ⟨rfl,rfl,rfl,trivial⟩
  ·
   have hxo_8:=hx; clear hx; have hx:=ht_9; clear ht_9
   refine JC.block (Zf (fun n l o g => ∃ s_10 : Nat,l = [(1,.slice aa_4 na_4 ca_4),(2,.func (.func 117) #[] #[.pointer (some ⟨b_5,0,none⟩)]),(15,.slice aa_2 na_2 ca_2),(16,.int .i64 (p_1.length : Int)),(17,.int .i64 ((s_10 : Nat) : Int))] ∧ o = [[(b_5,.cells #[.func (.func 114) #[] #[]] 167 (0,0))]] ∧ H = g ∧ run (slices_EqualFunc_Write_l1 p_1 p_3) n s_10 = some t_7) FUEL ?_ ⟨0,rfl,rfl,rfl,hx⟩ ⟨rfl,rfl,rfl,rfl,rfl,trivial⟩ ?_)
   ·
    rintro _ _ _ ⟨s_10,rfl,rfl,rfl,hn_11⟩
    exact Ze hn_11
   ·
    rintro n_12 _ _ _ ⟨s_10,rfl,rfl,rfl,hn_11⟩
    clear hx; obtain ⟨oo_14,hx,hd_13⟩:=Zd hn_11
    unfold slices_EqualFunc_Write_l1 at hx
    refine Run.cc [] 6 ZF rfl (ZM rfl (fun c_13 => ?_) (fun c_13 => ?_))
    ·
     replace hx:=ZK c_13 hx
     refine Run.cl_s [] 7 ZF rfl ?_
     obtain ⟨y_14,hN_15,hx⟩:=ZY hx
     obtain ⟨b_16,o_17,cs_18,hE_19,hR_20,hl_21,hc_22⟩:=IsSlice.elem ha_2 hN_15
     obtain ⟨v_23,rfl,hs_24⟩:=hR_20
     obtain ⟨av_23,cv_23,rfl⟩:=IsSlice.val hs_24
     refine ZA rfl rfl (Zu U23 S96 rfl rfl hE_19) (ZA rfl rfl (R.ldHE (cs:=[.int .i64 y_14.At,.slice av_23 y_14.Data.length cv_23]) (k:=0) (vs:=[.int .i64 y_14.At,.slice av_23 y_14.Data.length cv_23]) S96 rfl hc_22 rfl rfl) (JL.alloc Z96 rfl (fun b_25 hb_25 => Run.ll_s [0] 8 ZF rfl ?_)))
     obtain ⟨y_26,hN_27,hx⟩:=ZY hx
     obtain ⟨b_28,o_29,cs_30,hE_31,hR_32,hl_33,hc_34⟩:=IsSlice.elem ha_4 hN_27
     obtain ⟨v_35,rfl,hs_36⟩:=hR_32
     obtain ⟨av_35,cv_35,rfl⟩:=IsSlice.val hs_36
     refine ZA rfl rfl (Zu U23 S96 rfl rfl hE_31) (ZA rfl rfl (R.ldHE (cs:=[.int .i64 y_26.At,.slice av_35 y_26.Data.length cv_35]) (k:=0) (vs:=[.int .i64 y_26.At,.slice av_35 y_26.Data.length cv_35]) S96 rfl hc_34 rfl rfl) (JL.alloc Z96 rfl (fun b_37 hb_37 => Run.ll_s [0,1,0] 8 ZF rfl ?_)))
     obtain ⟨x_38,hr_39,hx⟩:=ZD hx
     refine ZI (vs:=[_,_]) (args:=[_,_,_]) (K:=[_]) (rst:=[_,_]) E117 rfl rfl rfl (ZO 2 rfl ZC) (dev_Same_2_ok y_14 y_26 _ hs_24 hs_36 _ hr_39) rfl (fun u_40 Ku_40 Hu_40 hRu_40 hleu_40 hfu_40 => ?_)
     obtain ⟨rfl,rfl,rfl,-⟩:=hRu_40
     refine Run.lcz_s [] 3 ZF rfl (ZM rfl (fun c_41 => ?_) (fun c_41 => ?_))
     ·
      replace hx:=ZK c_41 hx
      refine Run.cnz_bk [] 8 ZF rfl ?_
      obtain rfl:=Za hd_13 hx
      refine Run.nnz_kb [] 2 ZF rfl ?_
      clear hx; have hx:=hxo_8
      simp only [Sum.elim_inl,Sum.elim_inr] at hx
      refine Run.nnz_kk [] 2 ZF rfl (ZJ (vs:=[.bool false]) (K:=[_]) (rst:=[_,_]) (.inl rfl) rfl rfl (ZG rfl rfl) (ZO 0 rfl ZC) ?_)
      obtain rfl:=Option.some.inj hx
      exact ⟨rfl,rfl,rfl,trivial⟩
     ·
      replace hx:=ZL c_41 hx
      refine Run.clz_bs [] 4 ZF rfl (ZA rfl rfl (Zt rfl rfl (of_decide_eq_true c_13) (IsSlice.lenI ha_2)) (Run.lnz [] 2 ZF rfl ?_))
      replace hx:=ZX hd_13 hx
      refine JN.forget 2 (JN.forget 1 ?_)
      exact JN.cut ⟨s_10 + 1,rfl,rfl,rfl,hx⟩ ⟨rfl,rfl,rfl,rfl,rfl,trivial⟩ rfl rfl
    ·
     replace hx:=ZL c_13 hx
     refine Run.cnz_k [] 2 ZF rfl ?_
     obtain rfl:=Za hd_13 hx
     refine Run.nnz_kb [] 2 ZF rfl ?_
     exact JN.cut ⟨(),rfl,rfl,rfl,rfl⟩ ⟨rfl,trivial⟩ rfl rfl

set_option maxHeartbeats 8000000 in
theorem slices_CompareFunc_byte_ok (p_1 : List (List UInt8)) (p_3 : List (List UInt8)) (H : Heaplet) {aa_2 : Option Addr} {na_2 : Nat} {ca_2 : Nat} {aa_4 : Option Addr} {na_4 : Nat} {ca_4 : Nat} (ha_2 : IsSlice H (RSl RU8 1) 1 (.slice aa_2 na_2 ca_2) p_1) (ha_4 : IsSlice H (RSl RU8 1) 1 (.slice aa_4 na_4 ca_4) p_3) (r : Int) (hx : slices_CompareFunc_byte p_1 p_3 = some r) :
  Does Tryz.prog 118 #[.slice aa_2 na_2 ca_2,.slice aa_4 na_4 ca_4,.func (.func 114) #[] #[]] [] H (fun u K' H' => u = .int .i64 r ∧ K' = [] ∧ H = H' ∧ True):=by
 refine Does.enterL (vs:=[.slice aa_2 na_2 ca_2,.slice aa_4 na_4 ca_4,.func (.func 114) #[] #[]]) (l:=[(0,.slice aa_2 na_2 ca_2),(1,.slice aa_4 na_4 ca_4),(2,.func (.func 114) #[] #[])]) Tryz.func118 rfl rfl ⟨rfl,rfl,rfl,trivial⟩ (fun w hlt => ?_)
 unfold slices_CompareFunc_byte at hx
 refine Run.cl [] 9 ZF rfl (ZA rfl rfl (ZV U22 rfl (IsSlice.long ha_2)) (Run.lcz_s [] 3 ZF rfl ?_))
 obtain ⟨t_5,ht_7,hx⟩:=ZD hx
 refine JC.cut (fun l o g => ∃ t_5a : Unit,l = [(0,.slice aa_2 na_2 ca_2),(1,.slice aa_4 na_4 ca_4)] ∧ o = [] ∧ H = g ∧ t_5 = .inl t_5a) ?_ ?_
 ·
  rintro _ _ _ ⟨t_5a,rfl,rfl,rfl,rfl⟩
  simp only [Sum.elim_inl] at hx
  refine Run.nl_s [] 5 ZF rfl (ZA rfl rfl (ZV U22 rfl (IsSlice.long ha_2)) (ZA rfl rfl (ZZ rfl) (ZA rfl rfl (ZV U22 rfl (IsSlice.long ha_4)) (Run.lcz_s [] 3 ZF rfl (ZM rfl (fun c_11 => ?_) (fun c_11 => ?_))))))
  ·
   replace hx:=ZK c_11 hx
   refine Run.cnz_k [] 7 ZF rfl (ZJ (vs:=[.int .i64 (-1)]) (K:=[]) (rst:=[]) (.inl rfl) rfl rfl (ZG rfl rfl) ZC ?_)
   obtain rfl:=Option.some.inj hx
   exact ⟨rfl,rfl,rfl,trivial⟩
  ·
   replace hx:=ZL c_11 hx
   refine Run.cnz_s [] 8 ZF rfl (ZJ (vs:=[.int .i64 0]) (K:=[]) (rst:=[]) (.inl rfl) rfl rfl (ZG rfl rfl) ZC ?_)
   obtain rfl:=Option.some.inj hx
   exact ⟨rfl,rfl,rfl,trivial⟩
 ·
  have hxo_6:=hx; clear hx; have hx:=ht_7; clear ht_7
  refine JC.block (Zf (fun n l o g => ∃ s_8 : Nat,l = [(0,.slice aa_2 na_2 ca_2),(1,.slice aa_4 na_4 ca_4),(2,.func (.func 114) #[] #[]),(11,.slice aa_2 na_2 ca_2),(12,.int .i64 (p_1.length : Int)),(13,.int .i64 ((s_8 : Nat) : Int))] ∧ o = [] ∧ H = g ∧ run (slices_CompareFunc_byte_l1 p_1 p_3) n s_8 = some t_5) FUEL ?_ ⟨0,rfl,rfl,rfl,hx⟩ ⟨rfl,rfl,rfl,rfl,rfl,rfl,trivial⟩ ?_)
  ·
   rintro _ _ _ ⟨s_8,rfl,rfl,rfl,hn_9⟩
   exact Ze hn_9
  ·
   rintro n_10 _ _ _ ⟨s_8,rfl,rfl,rfl,hn_9⟩
   clear hx; obtain ⟨oo_12,hx,hd_11⟩:=Zd hn_9
   unfold slices_CompareFunc_byte_l1 at hx
   refine Run.cc [] 6 ZF rfl (ZM rfl (fun c_11 => ?_) (fun c_11 => ?_))
   ·
    replace hx:=ZK c_11 hx
    refine Run.cl_s [] 7 ZF rfl ?_
    obtain ⟨y_12,hN_13,hx⟩:=ZY hx
    obtain ⟨b_14,o_15,cs_16,hE_17,hR_18,hl_19,hc_20⟩:=IsSlice.elem ha_2 hN_13
    obtain ⟨v_21,rfl,hs_22⟩:=hR_18
    obtain ⟨av_21,cv_21,rfl⟩:=IsSlice.val hs_22
    refine ZA rfl rfl (Zu U22 S26 rfl rfl hE_17) (ZA rfl rfl (R.ldH S26 rfl (hc_20 0 _ rfl)) (Run.ll_s [] 9 ZF rfl (ZA rfl rfl (ZV U22 rfl (IsSlice.long ha_4)) (Run.lcz_s [] 3 ZF rfl (ZM rfl (fun c_23 => ?_) (fun c_23 => ?_))))))
    ·
     replace hx:=ZK c_23 hx
     refine Run.cnz_kbk [] 9 ZF rfl ?_
     obtain rfl:=Za hd_11 hx
     refine Run.nnz_kb [] 2 ZF rfl ?_
     clear hx; have hx:=hxo_6
     simp only [Sum.elim_inl,Sum.elim_inr] at hx
     refine Run.nnz_kk [] 2 ZF rfl (ZJ (vs:=[.int .i64 1]) (K:=[]) (rst:=[]) (.inl rfl) rfl rfl (ZG rfl rfl) ZC ?_)
     obtain rfl:=Option.some.inj hx
     exact ⟨rfl,rfl,rfl,trivial⟩
    ·
     replace hx:=ZL c_23 hx
     refine Run.cl_s [] 6 ZF rfl ?_
     obtain ⟨y_24,hN_25,hx⟩:=ZY hx
     obtain ⟨b_26,o_27,cs_28,hE_29,hR_30,hl_31,hc_32⟩:=IsSlice.elem ha_4 hN_25
     obtain ⟨v_33,rfl,hs_34⟩:=hR_30
     obtain ⟨av_33,cv_33',rfl⟩:=IsSlice.val hs_34
     refine ZA rfl rfl (Zu U22 S26 rfl rfl hE_29) (ZA rfl rfl (R.ldH S26 rfl (hc_32 0 _ rfl)) (Run.ll_s [] 8 ZF rfl ?_))
     obtain ⟨x_35,hr_36,hx⟩:=ZD hx
     refine ZI (vs:=[_,_]) (args:=[_,_]) (K:=[]) (rst:=[]) E114 rfl rfl rfl ZC (dev_Same_1_ok y_12 y_24 _ hs_22 hs_34 _ hr_36) rfl (fun u_37 Ku_37 Hu_37 hRu_37 hleu_37 hfu_37 => ?_)
     obtain ⟨rfl,rfl,rfl,-⟩:=hRu_37
     refine Run.lcz_s [] 9 ZF rfl (ZM rfl (fun c_38 => ?_) (fun c_38 => ?_))
     ·
      replace hx:=ZK c_38 hx
      refine Run.cnz_bk [] 9 ZF rfl ?_
      obtain rfl:=Za hd_11 hx
      refine Run.nnz_kb [] 2 ZF rfl ?_
      clear hx; have hx:=hxo_6
      simp only [Sum.elim_inl,Sum.elim_inr] at hx
      refine Run.nnz_kk [] 2 ZF rfl (ZJ (vs:=[.int .i64 x_35]) (K:=[]) (rst:=[]) (.inl rfl) rfl rfl (ZG rfl rfl) ZC ?_)
      obtain rfl:=Option.some.inj hx
      exact ⟨rfl,rfl,rfl,trivial⟩
     ·
      replace hx:=ZL c_38 hx
      refine Run.clz_bs [] 4 ZF rfl (ZA rfl rfl (Zt rfl rfl (of_decide_eq_true c_11) (IsSlice.lenI ha_2)) (Run.lnz [] 2 ZF rfl ?_))
      replace hx:=ZX hd_11 hx
      exact JN.cut ⟨s_8 + 1,rfl,rfl,rfl,hx⟩ ⟨rfl,rfl,rfl,rfl,rfl,rfl,trivial⟩ rfl rfl
   ·
    replace hx:=ZL c_11 hx
    refine Run.cnz_k [] 2 ZF rfl ?_
    obtain rfl:=Za hd_11 hx
    refine Run.nnz_kb [] 2 ZF rfl ?_
    exact JN.cut ⟨(),rfl,rfl,rfl,rfl⟩ ⟨rfl,rfl,trivial⟩ rfl rfl

set_option maxHeartbeats 8000000 in
theorem dev_Same_ok (p_1 : Disk) (p_4 : Disk) (H : Heaplet) {aa_2 : Option Addr} {na_2 : Nat} {ca_2 : Nat} {aa_3 : Option Addr} {na_3 : Nat} {ca_3 : Nat} {aa_5 : Option Addr} {na_5 : Nat} {ca_5 : Nat} {aa_6 : Option Addr} {na_6 : Nat} {ca_6 : Nat} (ha_2 : IsSlice H (RSl RU8 1) 1 (.slice aa_2 na_2 ca_2) p_1.Blocks) (ha_3 : IsSlice H R_Write 2 (.slice aa_3 na_3 ca_3) p_1.Waits) (ha_5 : IsSlice H (RSl RU8 1) 1 (.slice aa_5 na_5 ca_5) p_4.Blocks) (ha_6 : IsSlice H R_Write 2 (.slice aa_6 na_6 ca_6) p_4.Waits) (r : Bool) (hx : dev_Same p_1 p_4 = some r) :
  Does Tryz.prog 57 #[.agg #[.slice aa_2 na_2 ca_2,.slice aa_3 na_3 ca_3],.agg #[.slice aa_5 na_5 ca_5,.slice aa_6 na_6 ca_6]] [] H (fun u K' H' => u = .bool r ∧ K' = [] ∧ H = H' ∧ True):=by
 refine Does.enterL (vs:=[.agg #[.slice aa_2 na_2 ca_2,.slice aa_3 na_3 ca_3],.agg #[.slice aa_5 na_5 ca_5,.slice aa_6 na_6 ca_6]]) (l:=[(0,.agg #[.slice aa_2 na_2 ca_2,.slice aa_3 na_3 ca_3]),(1,.agg #[.slice aa_5 na_5 ca_5,.slice aa_6 na_6 ca_6])]) Tryz.func57 rfl rfl ⟨rfl,rfl,trivial⟩ (fun w hlt => ?_)
 unfold dev_Same at hx
 refine Run.cl [] 2 ZF rfl (Zk rfl rfl (fun b_7 hb_7 => Zk rfl rfl (fun b_8 hb_8 => Run.ll_s [] 5 ZF rfl (JL.alloc Z167 rfl (fun b_9 hb_9 => Run.ll_s [0,2,1] 10 ZF rfl ?_)))))
 obtain ⟨x_10,hr_11,hx⟩:=ZD hx
 refine ZI (vs:=[_,_,_]) (args:=[_,_,_]) (K:=[_]) (rst:=[_,_]) E116 rfl rfl rfl (ZO 0 rfl ZC) (slices_EqualFunc_Write_ok p_1.Waits p_4.Waits _ ha_3 ha_6 _ hr_11) rfl (fun u_12 Ku_12 Hu_12 hRu_12 hleu_12 hfu_12 => ?_)
 obtain ⟨rfl,rfl,rfl,-⟩:=hRu_12
 refine Run.lc_s [] 4 ZF rfl ?_
 obtain ⟨t_13,ht_15,hx⟩:=ZD hx
 refine JC.cut (fun l o g => l = [(4,.bool t_13)] ∧ o = [] ∧ H = g) ?_ ?_
 ·
  rintro _ _ _ ⟨rfl,rfl,rfl⟩
  refine Run.nnz_s [] 2 ZF rfl (ZJ (vs:=[.bool t_13]) (K:=[]) (rst:=[]) (.inl rfl) rfl rfl (ZG rfl rfl) ZC ?_)
  obtain rfl:=Option.some.inj hx
  exact ⟨rfl,rfl,rfl,trivial⟩
 ·
  have hxo_14:=hx; clear hx; have hx:=ht_15; clear ht_15
  refine Run.clz [] 3 ZF rfl (ZQ (t:=14) rfl (fun c_16 => ?_) (fun c_16 => ?_))
  ·
   replace hx:=ZK c_16 hx
   refine Run.llz [2,1,0] 11 ZF rfl ?_
   obtain ⟨x_17,hr_18,hx⟩:=ZD hx
   refine ZI (vs:=[_,_,_]) (args:=[_,_,_]) (K:=[]) (rst:=[_,_,_]) E118 rfl rfl rfl ZC (slices_CompareFunc_byte_ok p_1.Blocks p_4.Blocks _ ha_2 ha_5 _ hr_18) rfl (fun u_19 Ku_19 Hu_19 hRu_19 hleu_19 hfu_19 => ?_)
   obtain ⟨rfl,rfl,rfl,-⟩:=hRu_19
   refine Run.lnz [] 5 ZF rfl ?_
   obtain rfl:=Option.some.inj hx
   refine JN.forget 2 (JN.forget 1 (JN.forget 0 ?_))
   exact JN.cut ⟨rfl,rfl,rfl⟩ ⟨rfl,trivial⟩ rfl rfl
  ·
   replace hx:=ZL c_16 hx
   refine Run.lnz [] 10 ZF rfl ?_
   obtain rfl:=Option.some.inj hx
   refine JN.forget 2 (JN.forget 1 (JN.forget 0 ?_))
   exact JN.cut ⟨rfl,rfl,rfl⟩ ⟨rfl,trivial⟩ rfl rfl

set_option maxHeartbeats 8000000 in
theorem bytes_Equal_ok (p_1 : List UInt8) (p_3 : List UInt8) (H : Heaplet) {aa_2 : Option Addr} {na_2 : Nat} {ca_2 : Nat} {aa_4 : Option Addr} {na_4 : Nat} {ca_4 : Nat} (ha_2 : IsSlice H RU8 1 (.slice aa_2 na_2 ca_2) p_1) (ha_4 : IsSlice H RU8 1 (.slice aa_4 na_4 ca_4) p_3) (r : Bool) (hx : bytes_Equal p_1 p_3 = some r) :
  Does Tryz.prog 58 #[.slice aa_2 na_2 ca_2,.slice aa_4 na_4 ca_4] [] H (fun u K' H' => u = .bool r ∧ K' = [] ∧ H = H' ∧ True):=by
 refine Does.enterL (vs:=[.slice aa_2 na_2 ca_2,.slice aa_4 na_4 ca_4]) (l:=[(0,.slice aa_2 na_2 ca_2),(1,.slice aa_4 na_4 ca_4)]) Tryz.func58 rfl rfl ⟨rfl,rfl,trivial⟩ (fun w hlt => ?_)
 unfold bytes_Equal at hx
 refine Run.cl [] 8 ZF rfl (ZA rfl rfl (R.toStr U26 U5 U9 rfl ha_2) (ZA rfl rfl (ZZ rfl) (ZA rfl rfl (R.toStr U26 U5 U9 rfl ha_4) (ZA rfl rfl (R.eqlStr (a:=p_1) (b:=p_3) rfl rfl) (Run.lnz_s [] 4 ZF rfl (ZJ (vs:=[.bool (decide (p_1 = p_3))]) (K:=[]) (rst:=[]) (.inl rfl) rfl rfl (ZG rfl rfl) ZC ?_))))))
 obtain rfl:=Option.some.inj hx
 exact ⟨rfl,rfl,rfl,trivial⟩

set_option maxHeartbeats 8000000 in
theorem store_Same_ok (p_1 : Store) (p_5 : Store) (H : Heaplet) {aa_2 : Option Addr} {na_2 : Nat} {ca_2 : Nat} {aa_3 : Option Addr} {na_3 : Nat} {ca_3 : Nat} {aa_4 : Option Addr} {na_4 : Nat} {ca_4 : Nat} {aa_6 : Option Addr} {na_6 : Nat} {ca_6 : Nat} {aa_7 : Option Addr} {na_7 : Nat} {ca_7 : Nat} {aa_8 : Option Addr} {na_8 : Nat} {ca_8 : Nat} (ha_2 : IsSlice H (RSl RU8 1) 1 (.slice aa_2 na_2 ca_2) p_1.Disk.Blocks) (ha_3 : IsSlice H R_Write 2 (.slice aa_3 na_3 ca_3) p_1.Disk.Waits) (ha_4 : IsSlice H RU8 1 (.slice aa_4 na_4 ca_4) p_1.Space) (ha_6 : IsSlice H (RSl RU8 1) 1 (.slice aa_6 na_6 ca_6) p_5.Disk.Blocks) (ha_7 : IsSlice H R_Write 2 (.slice aa_7 na_7 ca_7) p_5.Disk.Waits) (ha_8 : IsSlice H RU8 1 (.slice aa_8 na_8 ca_8) p_5.Space) (r : Bool) (hx : store_Same p_1 p_5 = some r) :
  Does Tryz.prog 18 #[.agg #[.slice aa_2 na_2 ca_2,.slice aa_3 na_3 ca_3,.slice aa_4 na_4 ca_4,.int .u32 (p_1.Epoch.toNat : Int),.int .u32 (p_1.Count.toNat : Int)],.agg #[.slice aa_6 na_6 ca_6,.slice aa_7 na_7 ca_7,.slice aa_8 na_8 ca_8,.int .u32 (p_5.Epoch.toNat : Int),.int .u32 (p_5.Count.toNat : Int)]] [] H (fun u K' H' => u = .bool r ∧ K' = [] ∧ H = H' ∧ True):=by
 refine Does.enterL (vs:=[.agg #[.slice aa_2 na_2 ca_2,.slice aa_3 na_3 ca_3,.slice aa_4 na_4 ca_4,.int .u32 (p_1.Epoch.toNat : Int),.int .u32 (p_1.Count.toNat : Int)],.agg #[.slice aa_6 na_6 ca_6,.slice aa_7 na_7 ca_7,.slice aa_8 na_8 ca_8,.int .u32 (p_5.Epoch.toNat : Int),.int .u32 (p_5.Count.toNat : Int)]]) (l:=[(0,.agg #[.slice aa_2 na_2 ca_2,.slice aa_3 na_3 ca_3,.slice aa_4 na_4 ca_4,.int .u32 (p_1.Epoch.toNat : Int),.int .u32 (p_1.Count.toNat : Int)]),(1,.agg #[.slice aa_6 na_6 ca_6,.slice aa_7 na_7 ca_7,.slice aa_8 na_8 ca_8,.int .u32 (p_5.Epoch.toNat : Int),.int .u32 (p_5.Count.toNat : Int)])]) Tryz.func18 rfl rfl ⟨rfl,rfl,trivial⟩ (fun w hlt => ?_)
 unfold store_Same at hx
 refine Run.cl [] 2 ZF rfl (Zk rfl rfl (fun b_9 hb_9 => Zk rfl rfl (fun b_10 hb_10 => Run.lc_s [] 4 ZF rfl ?_)))
 obtain ⟨t_11,ht_13,hx⟩:=ZD hx
 refine JC.cut (fun l o g => l = [(4,.bool t_11)] ∧ o = [] ∧ H = g) ?_ ?_
 ·
  rintro _ _ _ ⟨rfl,rfl,rfl⟩
  refine Run.nnz_s [] 2 ZF rfl (ZJ (vs:=[.bool t_11]) (K:=[]) (rst:=[]) (.inl rfl) rfl rfl (ZG rfl rfl) ZC ?_)
  obtain rfl:=Option.some.inj hx
  exact ⟨rfl,rfl,rfl,trivial⟩
 ·
  have hxo_12:=hx; clear hx; have hx:=ht_13; clear ht_13
  refine Run.clz [1,0] 5 ZF rfl ?_
  obtain ⟨x_14,hr_15,hx⟩:=ZD hx
  refine ZI (vs:=[_,_]) (args:=[_,_]) (K:=[]) (rst:=[_,_]) E57 rfl rfl rfl ZC (dev_Same_ok (Disk.mk p_1.Disk.Blocks p_1.Disk.Waits) (Disk.mk p_5.Disk.Blocks p_5.Disk.Waits) _ ha_2 ha_3 ha_6 ha_7 _ hr_15) rfl (fun u_16 Ku_16 Hu_16 hRu_16 hleu_16 hfu_16 => ?_)
  obtain ⟨rfl,rfl,rfl,-⟩:=hRu_16
  refine ZA rfl rfl (ZZ rfl) (ZQ (t:=10) rfl (fun c_17 => ?_) (fun c_17 => ?_))
  ·
   replace hx:=ZK c_17 hx
   refine Run.llz [1,0] 9 ZF rfl ?_
   obtain ⟨x_18,hr_19,hx⟩:=ZD hx
   refine ZI (vs:=[_,_]) (args:=[_,_]) (K:=[]) (rst:=[_,_]) E58 rfl rfl rfl ZC (bytes_Equal_ok p_1.Space p_5.Space _ ha_4 ha_8 _ hr_19) rfl (fun u_20 Ku_20 Hu_20 hRu_20 hleu_20 hfu_20 => ?_)
   obtain ⟨rfl,rfl,rfl,-⟩:=hRu_20
   refine Run.llz [] 2 ZF rfl (ZQ (t:=17) rfl (fun c_21 => ?_) (fun c_21 => ?_))
   ·
    replace hx:=ZK c_21 hx
    refine Run.llz [1,0] 9 ZF rfl (ZA rfl rfl (R.eql32 (a:=p_1.Epoch) (b:=p_5.Epoch) rfl rfl) (Run.llz [] 2 ZF rfl (ZQ (t:=24) rfl (fun c_22 => ?_) (fun c_22 => ?_))))
    ·
     replace hx:=ZK c_22 hx
     refine Run.llz [1,0] 9 ZF rfl (ZA rfl rfl (R.eql32 (a:=p_1.Count) (b:=p_5.Count) rfl rfl) (Run.lnz [] 3 ZF rfl ?_))
     obtain rfl:=Option.some.inj hx
     refine JN.forget 1 (JN.forget 0 ?_)
     exact JN.cut ⟨rfl,rfl,rfl⟩ ⟨rfl,trivial⟩ rfl rfl
    ·
     replace hx:=ZL c_22 hx
     refine Run.lnz [] 8 ZF rfl ?_
     obtain rfl:=Option.some.inj hx
     refine JN.forget 1 (JN.forget 0 ?_)
     exact JN.cut ⟨rfl,rfl,rfl⟩ ⟨rfl,trivial⟩ rfl rfl
   ·
    replace hx:=ZL c_21 hx
    refine Run.lnz [] 15 ZF rfl ?_
    obtain rfl:=Option.some.inj hx
    refine JN.forget 1 (JN.forget 0 ?_)
    exact JN.cut ⟨rfl,rfl,rfl⟩ ⟨rfl,trivial⟩ rfl rfl
  ·
   replace hx:=ZL c_17 hx
   refine Run.lnz [] 22 ZF rfl ?_
   obtain rfl:=Option.some.inj hx
   refine JN.forget 1 (JN.forget 0 ?_)
   exact JN.cut ⟨rfl,rfl,rfl⟩ ⟨rfl,trivial⟩ rfl rfl

set_option maxHeartbeats 8000000 in
theorem store_Twin_ok (p_1 : Store) (H : Heaplet) {aa_2 : Option Addr} {na_2 : Nat} {ca_2 : Nat} {aa_3 : Option Addr} {na_3 : Nat} {ca_3 : Nat} {aa_4 : Option Addr} {na_4 : Nat} {ca_4 : Nat} (ha_2 : IsSlice H (RSl RU8 1) 1 (.slice aa_2 na_2 ca_2) p_1.Disk.Blocks) (ha_3 : IsSlice H R_Write 2 (.slice aa_3 na_3 ca_3) p_1.Disk.Waits) (ha_4 : IsSlice H RU8 1 (.slice aa_4 na_4 ca_4) p_1.Space) (r : Store) (hx : store_Twin p_1 = some r) :
  Does Tryz.prog 19 #[.agg #[.slice aa_2 na_2 ca_2,.slice aa_3 na_3 ca_3,.slice aa_4 na_4 ca_4,.int .u32 (p_1.Epoch.toNat : Int),.int .u32 (p_1.Count.toNat : Int)]] [] H (fun u K' H' => ∃ ao0 : Option Addr,∃ n0 : Nat,∃ cap0 : Nat,∃ K0 : Own,∃ ao1 : Option Addr,∃ n1 : Nat,∃ cap1 : Nat,∃ K1 : Own,∃ ao2 : Option Addr,∃ n2 : Nat,∃ cap2 : Nat,∃ K2 : Own,u = .agg #[.slice ao0 n0 cap0,.slice ao1 n1 cap1,.slice ao2 n2 cap2,.int .u32 (r.Epoch.toNat : Int),.int .u32 (r.Count.toNat : Int)] ∧ K' = [K0,K1,K2] ∧ Pcs 0 5 26 (.slice ao0 n0 cap0) r.Disk.Blocks K0 ∧ (∀ p ∈ K0,p.1 ∉ ids (List.flatten [])) ∧ RowOf (New H H') R_Write 0 96 2 (.slice ao1 n1 cap1) r.Disk.Waits K1 ∧ (∀ p ∈ K1,p.1 ∉ ids (List.flatten [])) ∧ RowOf (New H H') RU8 0 5 1 (.slice ao2 n2 cap2) r.Space K2 ∧ (∀ p ∈ K2,p.1 ∉ ids (List.flatten [])) ∧ True):=by
 refine Does.enterL (vs:=[.agg #[.slice aa_2 na_2 ca_2,.slice aa_3 na_3 ca_3,.slice aa_4 na_4 ca_4,.int .u32 (p_1.Epoch.toNat : Int),.int .u32 (p_1.Count.toNat : Int)]]) (l:=[(0,.agg #[.slice aa_2 na_2 ca_2,.slice aa_3 na_3 ca_3,.slice aa_4 na_4 ca_4,.int .u32 (p_1.Epoch.toNat : Int),.int .u32 (p_1.Count.toNat : Int)])]) Tryz.func19 rfl rfl ⟨rfl,trivial⟩ (fun w hlt => ?_)
 unfold store_Twin at hx
 refine Run.cl [] 2 ZF rfl (Zk rfl rfl (fun b_5 hb_5 => JL.alloc Z29 rfl (fun b_6 hb_6 => Run.lc_s [] 3 ZF rfl ?_)))
 obtain ⟨t_7,ht_9,hx⟩:=ZD hx
 refine JC.cut (fun l o g => ∃ H_19 : Heaplet,∃ ar_20 : Option Addr,∃ nr_20 : Nat,∃ cr_20 : Nat,∃ Kr_20 : Own,∃ ar_21 : Option Addr,∃ nr_21 : Nat,∃ cr_21 : Nat,∃ Kr_21 : Own,∃ ar_22 : Option Addr,∃ nr_22 : Nat,∃ cr_22 : Nat,∃ Kr_22 : Own,l = [(1,.pointer (some ⟨b_5,0,none⟩)),(2,.pointer (some ⟨b_6,0,none⟩))] ∧ o = [[(b_5,.cells #[.slice ar_20 nr_20 cr_20,.slice ar_21 nr_21 cr_21,.slice ar_22 nr_22 cr_22,.int .u32 (p_1.Epoch.toNat : Int),.int .u32 (p_1.Count.toNat : Int)] 29 (0,0))],Kr_20,Kr_21,Kr_22,[(b_6,.cells #[.slice none 0 0,.slice none 0 0,.slice none 0 0,.int .u32 ((0 : UInt32).toNat : Int),.int .u32 ((0 : UInt32).toNat : Int)] 29 (0,0))]] ∧ H_19 = g ∧ Hle H H_19 ∧ Pcs w.heap.size 5 26 (.slice ar_20 nr_20 cr_20) t_7.1 Kr_20 ∧ RowOf (New H H_19) R_Write w.heap.size 96 2 (.slice ar_21 nr_21 cr_21) t_7.2.1 Kr_21 ∧ RowOf (New H H_19) RU8 w.heap.size 5 1 (.slice ar_22 nr_22 cr_22) t_7.2.2 Kr_22) ?_ ?_
 ·
  rintro _ _ _ ⟨H_19,ar_20,nr_20,cr_20,Kr_20,ar_21,nr_21,cr_21,Kr_21,ar_22,nr_22,cr_22,Kr_22,rfl,rfl,rfl,hleH_19,hr_20,hr_21,hr_22⟩
  refine Run.nnz_s [0,4] 8 ZF rfl (ZJ (vs:=[.agg #[.slice ar_20 nr_20 cr_20,.slice ar_21 nr_21 cr_21,.slice ar_22 nr_22 cr_22,.int .u32 (p_1.Epoch.toNat : Int),.int .u32 (p_1.Count.toNat : Int)]]) (K:=[_,_,_]) (rst:=[_,_]) (.inl rfl) rfl rfl (Zn 4 rfl rfl S29 rfl) (ZO 1 rfl (ZO 1 rfl (ZO 1 rfl ZC))) ?_)
  obtain rfl:=Option.some.inj hx
  exact ⟨ar_20,nr_20,cr_20,Kr_20,ar_21,nr_21,cr_21,Kr_21,ar_22,nr_22,cr_22,Kr_22,rfl,rfl,(Pcs.weak (Nat.zero_le _) hr_20),(newP_ids hr_20 hlt),(ZT (Nat.zero_le _) hr_21),(Zh hr_21 hlt),(ZT (Nat.zero_le _) hr_22),(Zh hr_22 hlt),trivial⟩
 ·
  have hxo_8:=hx; clear hx; have hx:=ht_9; clear ht_9
  refine JC.draw (so:=[_]) 10 rfl Mixed ⟨⟨0,rfl⟩,trivial⟩ (JA.val ⟨by kernel_rfl,by kernel_rfl⟩ (ZE _) (i:=0) rfl ⟨by kernel_rfl,by kernel_rfl,rfl⟩ trivial (ZB (Hle.refl _) ⟨⟨0,rfl⟩,trivial⟩) (R.fa F29_0 rfl) rfl (JA.val ⟨by kernel_rfl,by kernel_rfl⟩ (ZE _) (i:=3) rfl ⟨by kernel_rfl,by kernel_rfl,rfl⟩ trivial (ZB (Hle.refl _) ⟨⟨0,rfl⟩,trivial⟩) (R.fa F29_1 rfl) rfl ?_))
  obtain ⟨x_10,hr_11,hx⟩:=ZD hx
  obtain ⟨x_15,hr_16,hx⟩:=ZD hx
  refine JA.two (i:=1) (j:=4) (by kernel_rfl) ?_ ?_
  ·
   refine JO.step rfl trivial rfl (fun K hK => Run.lnz [1] 2 ZF rfl (hK _ _ _ (ZB (Hle.refl _) ⟨⟨0,rfl⟩,trivial⟩) (JA.two (i:=2) (j:=4) (by kernel_rfl) ?_ ?_)))
   ·
    refine JO.step rfl trivial rfl (fun K hK => ZI (vs:=[_]) (args:=[_]) (K:=[]) (rst:=[_,_]) E51 rfl rfl rfl ZC (dev_Twin_ok (Disk.mk p_1.Disk.Blocks p_1.Disk.Waits) _ ha_2 ha_3 _ hr_11) rfl (fun u_12 Ku_12 Hu_12 hRu_12 hleu_12 hfu_12 => ?_))
    obtain ⟨ar_13,nr_13,cr_13,Kr_13,ar_14,nr_14,cr_14,Kr_14,rfl,rfl,hr_13,hnewr_13,hr_14,hnewr_14,-⟩:=hRu_12
    replace hr_13:=(Pcs.base hr_13 (fun p hp => (hfu_12 p (ZS 0 rfl hp)).resolve_left (hnewr_13 p hp)))
    replace hr_14:=(RowOf.base (RowOf.mono R_Write.mono (New.call (Hle.refl _)) hr_14) (fun p hp => (hfu_12 p (ZS 1 rfl hp)).resolve_left (hnewr_14 p hp)))
    refine ZW (hK _ _ _ (ZB hleu_12 ⟨⟨2,rfl⟩,trivial⟩) (JA.one (i:=4) (by kernel_rfl) (JO.step rfl trivial rfl (fun K hK => ?_))))
    refine Run.lnz [3] 2 ZF rfl (hK _ _ _ (ZB hleu_12 ⟨⟨2,rfl⟩,trivial⟩) (JA.val ⟨by kernel_rfl,by kernel_rfl⟩ (ZE _) (i:=6) rfl ⟨by kernel_rfl,by kernel_rfl,rfl⟩ trivial (ZB hleu_12 ⟨⟨2,rfl⟩,trivial⟩) (R.fa F29_0 rfl) rfl (JA.one (i:=5) (by kernel_rfl) (JO.step rfl trivial rfl (fun K hK => ZI (vs:=[_]) (args:=[_]) (K:=[]) (rst:=[_,_,_,_]) E59 rfl rfl rfl ZC (bytes_Clone_ok p_1.Space _ (ha_4.mono RU8.mono hleu_12) _ hr_16) rfl (fun u_17 Ku_17 Hu_17 hRu_17 hleu_17 hfu_17 => ?_))))))
    obtain ⟨ar_18,nr_18,cr_18,Kr_18,rfl,rfl,rfl,hr_18,hnewr_18,-⟩:=hRu_17
    replace hr_18:=(RowOf.base (ZP (H2:=New H Hu_12) RU8.const hr_18) (fun p hp => (hfu_17 p (ZS 0 rfl hp)).resolve_left (hnewr_18 p hp)))
    refine ZW (hK _ _ _ (ZB hleu_12 ⟨⟨3,rfl⟩,trivial⟩) (JA.one (i:=7) (by kernel_rfl) (JO.step rfl trivial rfl (fun K hK => ?_))))
    refine Run.lnz [4] 2 ZF rfl (hK _ _ _ (ZB hleu_12 ⟨⟨3,rfl⟩,trivial⟩) (JA.val ⟨by kernel_rfl,by kernel_rfl⟩ (ZE _) (i:=8) rfl ⟨by kernel_rfl,by kernel_rfl,rfl⟩ trivial (ZB hleu_12 ⟨⟨3,rfl⟩,trivial⟩) (R.fa F29_1 rfl) rfl (JA.one (i:=9) (by kernel_rfl) (JO.step rfl trivial rfl (fun K hK => ?_)))))
    refine Run.lnz [4] 2 ZF rfl (hK _ _ _ (ZB hleu_12 ⟨⟨3,rfl⟩,trivial⟩) (Zg (by kernel_rfl) ?_))
    obtain rfl:=Option.some.inj hx
    refine ZH 3 rfl (ZH 1 rfl (ZH 3 rfl (ZH 3 rfl (ZH 4 rfl ?_))))
    exact JN.cut ⟨Hu_12,ar_13,nr_13,cr_13,Kr_13,ar_14,nr_14,cr_14,Kr_14,ar_18,nr_18,cr_18,Kr_18,rfl,rfl,rfl,(hleu_12),hr_13,hr_14,hr_18⟩ ⟨rfl,rfl,trivial⟩ rfl rfl
   ·
    refine JO.step rfl trivial rfl (fun K hK => Run.lnz [1] 2 ZF rfl (hK _ _ _ (ZB (Hle.refl _) ⟨⟨0,rfl⟩,trivial⟩) (JA.one (i:=2) (by kernel_rfl) (JO.step rfl trivial rfl (fun K hK => ZI (vs:=[_]) (args:=[_]) (K:=[]) (rst:=[_,_]) E51 rfl rfl rfl ZC (dev_Twin_ok (Disk.mk p_1.Disk.Blocks p_1.Disk.Waits) _ ha_2 ha_3 _ hr_11) rfl (fun u_12 Ku_12 Hu_12 hRu_12 hleu_12 hfu_12 => ?_))))))
    obtain ⟨ar_13,nr_13,cr_13,Kr_13,ar_14,nr_14,cr_14,Kr_14,rfl,rfl,hr_13,hnewr_13,hr_14,hnewr_14,-⟩:=hRu_12
    replace hr_13:=(Pcs.base hr_13 (fun p hp => (hfu_12 p (ZS 0 rfl hp)).resolve_left (hnewr_13 p hp)))
    replace hr_14:=(RowOf.base (RowOf.mono R_Write.mono (New.call (Hle.refl _)) hr_14) (fun p hp => (hfu_12 p (ZS 1 rfl hp)).resolve_left (hnewr_14 p hp)))
    refine ZW (hK _ _ _ (ZB hleu_12 ⟨⟨2,rfl⟩,trivial⟩) (JA.val ⟨by kernel_rfl,by kernel_rfl⟩ (ZE _) (i:=6) rfl ⟨by kernel_rfl,by kernel_rfl,rfl⟩ trivial (ZB hleu_12 ⟨⟨2,rfl⟩,trivial⟩) (R.fa F29_0 rfl) rfl (JA.one (i:=5) (by kernel_rfl) (JO.step rfl trivial rfl (fun K hK => ZI (vs:=[_]) (args:=[_]) (K:=[]) (rst:=[_,_,_,_]) E59 rfl rfl rfl ZC (bytes_Clone_ok p_1.Space _ (ha_4.mono RU8.mono hleu_12) _ hr_16) rfl (fun u_17 Ku_17 Hu_17 hRu_17 hleu_17 hfu_17 => ?_))))))
    obtain ⟨ar_18,nr_18,cr_18,Kr_18,rfl,rfl,rfl,hr_18,hnewr_18,-⟩:=hRu_17
    replace hr_18:=(RowOf.base (ZP (H2:=New H Hu_12) RU8.const hr_18) (fun p hp => (hfu_17 p (ZS 0 rfl hp)).resolve_left (hnewr_18 p hp)))
    refine ZW (hK _ _ _ (ZB hleu_12 ⟨⟨3,rfl⟩,trivial⟩) (JA.one (i:=7) (by kernel_rfl) (JO.step rfl trivial rfl (fun K hK => ?_))))
    refine Run.lnz [4] 2 ZF rfl (hK _ _ _ (ZB hleu_12 ⟨⟨3,rfl⟩,trivial⟩) (JA.val ⟨by kernel_rfl,by kernel_rfl⟩ (ZE _) (i:=8) rfl ⟨by kernel_rfl,by kernel_rfl,rfl⟩ trivial (ZB hleu_12 ⟨⟨3,rfl⟩,trivial⟩) (R.fa F29_1 rfl) rfl (JA.one (i:=9) (by kernel_rfl) (JO.step rfl trivial rfl (fun K hK => ?_)))))
    refine Run.lnz [4] 2 ZF rfl (hK _ _ _ (ZB hleu_12 ⟨⟨3,rfl⟩,trivial⟩) (Zg (by kernel_rfl) ?_))
    obtain rfl:=Option.some.inj hx
    refine ZH 3 rfl (ZH 1 rfl (ZH 3 rfl (ZH 3 rfl (ZH 4 rfl ?_))))
    exact JN.cut ⟨Hu_12,ar_13,nr_13,cr_13,Kr_13,ar_14,nr_14,cr_14,Kr_14,ar_18,nr_18,cr_18,Kr_18,rfl,rfl,rfl,(hleu_12),hr_13,hr_14,hr_18⟩ ⟨rfl,rfl,trivial⟩ rfl rfl
  ·
   refine JO.step rfl trivial rfl (fun K hK => Run.lnz [1] 2 ZF rfl (hK _ _ _ (ZB (Hle.refl _) ⟨⟨0,rfl⟩,trivial⟩) (JA.one (i:=1) (by kernel_rfl) (JO.step rfl trivial rfl (fun K hK => ?_)))))
   refine Run.lnz [1] 2 ZF rfl (hK _ _ _ (ZB (Hle.refl _) ⟨⟨0,rfl⟩,trivial⟩) (JA.one (i:=2) (by kernel_rfl) (JO.step rfl trivial rfl (fun K hK => ZI (vs:=[_]) (args:=[_]) (K:=[]) (rst:=[_,_]) E51 rfl rfl rfl ZC (dev_Twin_ok (Disk.mk p_1.Disk.Blocks p_1.Disk.Waits) _ ha_2 ha_3 _ hr_11) rfl (fun u_12 Ku_12 Hu_12 hRu_12 hleu_12 hfu_12 => ?_)))))
   obtain ⟨ar_13,nr_13,cr_13,Kr_13,ar_14,nr_14,cr_14,Kr_14,rfl,rfl,hr_13,hnewr_13,hr_14,hnewr_14,-⟩:=hRu_12
   replace hr_13:=(Pcs.base hr_13 (fun p hp => (hfu_12 p (ZS 0 rfl hp)).resolve_left (hnewr_13 p hp)))
   replace hr_14:=(RowOf.base (RowOf.mono R_Write.mono (New.call (Hle.refl _)) hr_14) (fun p hp => (hfu_12 p (ZS 1 rfl hp)).resolve_left (hnewr_14 p hp)))
   refine ZW (hK _ _ _ (ZB hleu_12 ⟨⟨2,rfl⟩,trivial⟩) (JA.val ⟨by kernel_rfl,by kernel_rfl⟩ (ZE _) (i:=6) rfl ⟨by kernel_rfl,by kernel_rfl,rfl⟩ trivial (ZB hleu_12 ⟨⟨2,rfl⟩,trivial⟩) (R.fa F29_0 rfl) rfl (JA.one (i:=5) (by kernel_rfl) (JO.step rfl trivial rfl (fun K hK => ZI (vs:=[_]) (args:=[_]) (K:=[]) (rst:=[_,_,_,_]) E59 rfl rfl rfl ZC (bytes_Clone_ok p_1.Space _ (ha_4.mono RU8.mono hleu_12) _ hr_16) rfl (fun u_17 Ku_17 Hu_17 hRu_17 hleu_17 hfu_17 => ?_))))))
   obtain ⟨ar_18,nr_18,cr_18,Kr_18,rfl,rfl,rfl,hr_18,hnewr_18,-⟩:=hRu_17
   replace hr_18:=(RowOf.base (ZP (H2:=New H Hu_12) RU8.const hr_18) (fun p hp => (hfu_17 p (ZS 0 rfl hp)).resolve_left (hnewr_18 p hp)))
   refine ZW (hK _ _ _ (ZB hleu_12 ⟨⟨3,rfl⟩,trivial⟩) (JA.one (i:=7) (by kernel_rfl) (JO.step rfl trivial rfl (fun K hK => ?_))))
   refine Run.lnz [4] 2 ZF rfl (hK _ _ _ (ZB hleu_12 ⟨⟨3,rfl⟩,trivial⟩) (JA.val ⟨by kernel_rfl,by kernel_rfl⟩ (ZE _) (i:=8) rfl ⟨by kernel_rfl,by kernel_rfl,rfl⟩ trivial (ZB hleu_12 ⟨⟨3,rfl⟩,trivial⟩) (R.fa F29_1 rfl) rfl (JA.one (i:=9) (by kernel_rfl) (JO.step rfl trivial rfl (fun K hK => ?_)))))
   refine Run.lnz [4] 2 ZF rfl (hK _ _ _ (ZB hleu_12 ⟨⟨3,rfl⟩,trivial⟩) (Zg (by kernel_rfl) ?_))
   obtain rfl:=Option.some.inj hx
   refine ZH 3 rfl (ZH 1 rfl (ZH 3 rfl (ZH 3 rfl (ZH 4 rfl ?_))))
   exact JN.cut ⟨Hu_12,ar_13,nr_13,cr_13,Kr_13,ar_14,nr_14,cr_14,Kr_14,ar_18,nr_18,cr_18,Kr_18,rfl,rfl,rfl,(hleu_12),hr_13,hr_14,hr_18⟩ ⟨rfl,rfl,trivial⟩ rfl rfl
end Go.Proofs.YtebhagohhbmgoaaGreat
