import Derived.Test.YtebhagohhbmgoaaGreatT2
import Derived.Test.YtebhagohhbmgoaaGreatOwMc
/- walks: what the code computes, function by function. -/
namespace Go.Proofs.YtebhagohhbmgoaaGreat
open Go.Ow Go.RowKit Go.Proofs
set_option linter.unusedVariables false
set_option linter.unusedSimpArgs false
set_option maxHeartbeats 8000000 in
theorem ref09_Great_ok (p_1 : Disk) (H : Heaplet) {aa_2 : Option Addr} {na_2 : Nat} {ca_2 : Nat} {aa_3 : Option Addr} {na_3 : Nat} {ca_3 : Nat} (ha_2 : IsSlice H (RSl RU8 1) 1 (.slice aa_2 na_2 ca_2) p_1.Blocks) (ha_3 : IsSlice H R_Write 2 (.slice aa_3 na_3 ca_3) p_1.Waits) (r : Bool) (hx : ref09_Great p_1 = some r) :
  Does Tryz.prog 40 #[.agg #[.slice aa_2 na_2 ca_2,.slice aa_3 na_3 ca_3]] [] H (fun u K' H' => u = .bool r ∧ K' = [] ∧ H = H' ∧ True):=by
 refine Does.enterL (vs:=[.agg #[.slice aa_2 na_2 ca_2,.slice aa_3 na_3 ca_3]]) (l:=[(0,.agg #[.slice aa_2 na_2 ca_2,.slice aa_3 na_3 ca_3])]) Tryz.func40 rfl rfl ⟨rfl,trivial⟩ (fun w hlt => ?_)
 unfold ref09_Great at hx
 refine Run.cl [] 2 ZF rfl (Zk rfl rfl (fun b_4 hb_4 => Run.lc_s [] 4 ZF rfl ?_))
 obtain ⟨t_5,ht_7,hx⟩:=ZD hx
 refine JC.cut (fun l o g => ∃ t_5a : Unit,l = [(1,.pointer (some ⟨b_4,0,none⟩))] ∧ o = [[(b_4,.cells #[.slice aa_2 na_2 ca_2,.slice aa_3 na_3 ca_3] 25 (0,0))]] ∧ H = g ∧ t_5 = .inl t_5a) ?_ ?_
 ·
  rintro _ _ _ ⟨t_5a,rfl,rfl,rfl,rfl⟩
  simp only [Sum.elim_inl] at hx
  refine Run.nc_s [] 12 ZF rfl ?_
  obtain ⟨t_13,ht_15,hx⟩:=ZD hx
  refine JC.cut (fun l o g => l = [(1,.pointer (some ⟨b_4,0,none⟩)),(3,.int .i64 t_13)] ∧ o = [[(b_4,.cells #[.slice aa_2 na_2 ca_2,.slice aa_3 na_3 ca_3] 25 (0,0))]] ∧ H = g) ?_ ?_
  ·
   rintro _ _ _ ⟨rfl,rfl,rfl⟩
   refine Run.nc_s [] 7 ZF rfl ?_
   obtain ⟨t_19,ht_21,hx⟩:=ZD hx
   refine JC.cut (fun l o g => l = [(3,.int .i64 t_19)] ∧ o = [] ∧ H = g) ?_ ?_
   ·
    rintro _ _ _ ⟨rfl,rfl,rfl⟩
    refine Run.nnz_s [] 9 ZF rfl (ZJ (vs:=[.bool (decide (2000000 ≤ t_19))]) (K:=[]) (rst:=[]) (.inl rfl) rfl rfl (ZG rfl rfl) ZC ?_)
    obtain rfl:=Option.some.inj hx
    exact ⟨rfl,rfl,rfl,trivial⟩
   ·
    have hxo_20:=hx; clear hx; have hx:=ht_21; clear ht_21
    refine JC.block (Zf (fun n l o g => ∃ s_22 : Int × Nat,l = [(1,.pointer (some ⟨b_4,0,none⟩)),(3,.int .i64 s_22.1),(5,.int .i64 ((s_22.2 : Nat) : Int))] ∧ o = [[(b_4,.cells #[.slice aa_2 na_2 ca_2,.slice aa_3 na_3 ca_3] 25 (0,0))]] ∧ H = g ∧ run (ref09_Great_l2 p_1) n s_22 = some t_19) FUEL ?_ ⟨(t_13,0),rfl,rfl,rfl,hx⟩ ⟨rfl,rfl,rfl,trivial⟩ ?_)
    ·
     rintro _ _ _ ⟨s_22,rfl,rfl,rfl,hn_23⟩
     exact Ze hn_23
    ·
     rintro n_24 _ _ _ ⟨s_22,rfl,rfl,rfl,hn_23⟩
     clear hx; obtain ⟨oo_26,hx,hd_25⟩:=Zd hn_23
     unfold ref09_Great_l2 at hx
     refine Run.cl [0] 6 ZF rfl (ZA rfl rfl (ZV U23 rfl (IsSlice.long ha_3)) (Run.llz [] 2 ZF rfl (ZQ (t:=52) rfl (fun c_25 => ?_) (fun c_25 => ?_))))
     ·
      replace hx:=ZK c_25 hx
      refine Run.lcz_s [] 7 ZF rfl (ZM rfl (fun c_26 => ?_) (fun c_26 => ?_))
      ·
       replace hx:=ZK c_26 hx
       refine Run.cl_s [0] 9 ZF rfl ?_
       obtain ⟨y_27,hN_28,hx⟩:=ZY hx
       obtain ⟨b_29,o_30,cs_31,hE_32,hR_33,hl_34,hc_35⟩:=IsSlice.elem ha_3 hN_28
       obtain ⟨v_36,rfl,hs_37⟩:=hR_33
       obtain ⟨av_36,cv_36,rfl⟩:=IsSlice.val hs_37
       refine ZA rfl rfl (Zu U23 S96 rfl rfl hE_32) (ZA rfl rfl (R.fa F96_1 rfl) (ZA rfl rfl (R.ldH S26 rfl (hc_35 1 _ rfl)) (ZA rfl rfl (ZV U26 rfl (IsSlice.long hs_37)) (Run.llz_bs [] 7 ZF rfl (ZA rfl rfl (Zt rfl rfl (of_decide_eq_true c_25) (IsSlice.lenI ha_3)) (Run.lnz [] 2 ZF rfl ?_))))))
       replace hx:=ZX hd_25 hx
       exact JN.cut ⟨(w64 (s_22.1 + (y_27.Data.length : Int)),s_22.2 + 1),rfl,rfl,rfl,hx⟩ ⟨rfl,rfl,rfl,trivial⟩ rfl rfl
      ·
       replace hx:=ZL c_26 hx
       refine Run.cnz_k [] 2 ZF rfl ?_
       obtain rfl:=Za hd_25 hx
       refine Run.nnz_kb [] 2 ZF rfl (JN.forget 0 ?_)
       exact JN.cut ⟨rfl,rfl,rfl⟩ ⟨rfl,trivial⟩ rfl rfl
     ·
      replace hx:=ZL c_25 hx
      refine Run.lnz_sk [] 8 ZF rfl ?_
      obtain rfl:=Za hd_25 hx
      refine Run.nnz_kb [] 2 ZF rfl (JN.forget 0 ?_)
      exact JN.cut ⟨rfl,rfl,rfl⟩ ⟨rfl,trivial⟩ rfl rfl
  ·
   have hxo_14:=hx; clear hx; have hx:=ht_15; clear ht_15
   refine JC.block (Zf (fun n l o g => ∃ s_16 : Int × Nat,l = [(1,.pointer (some ⟨b_4,0,none⟩)),(3,.int .i64 s_16.1),(4,.int .i64 ((s_16.2 : Nat) : Int))] ∧ o = [[(b_4,.cells #[.slice aa_2 na_2 ca_2,.slice aa_3 na_3 ca_3] 25 (0,0))]] ∧ H = g ∧ run (ref09_Great_l1 p_1) n s_16 = some t_13) FUEL ?_ ⟨(0,0),rfl,rfl,rfl,hx⟩ ⟨rfl,rfl,rfl,trivial⟩ ?_)
   ·
    rintro _ _ _ ⟨s_16,rfl,rfl,rfl,hn_17⟩
    exact Ze hn_17
   ·
    rintro n_18 _ _ _ ⟨s_16,rfl,rfl,rfl,hn_17⟩
    clear hx; obtain ⟨oo_20,hx,hd_19⟩:=Zd hn_17
    unfold ref09_Great_l1 at hx
    refine Run.cl [0] 6 ZF rfl (ZA rfl rfl (ZV U22 rfl (IsSlice.long ha_2)) (Run.llz [] 2 ZF rfl (ZQ (t:=33) rfl (fun c_19 => ?_) (fun c_19 => ?_))))
    ·
     replace hx:=ZK c_19 hx
     refine Run.lcz_s [] 7 ZF rfl (ZM rfl (fun c_20 => ?_) (fun c_20 => ?_))
     ·
      replace hx:=ZK c_20 hx
      refine Run.cl_s [0] 9 ZF rfl ?_
      obtain ⟨y_21,hN_22,hx⟩:=ZY hx
      obtain ⟨b_23,o_24,cs_25,hE_26,hR_27,hl_28,hc_29⟩:=IsSlice.elem ha_2 hN_22
      obtain ⟨v_30,rfl,hs_31⟩:=hR_27
      obtain ⟨av_30,cv_30,rfl⟩:=IsSlice.val hs_31
      refine ZA rfl rfl (Zu U22 S26 rfl rfl hE_26) (ZA rfl rfl (R.ldH S26 rfl (hc_29 0 _ rfl)) (ZA rfl rfl (ZV U26 rfl (IsSlice.long hs_31)) (Run.llz_bs [] 7 ZF rfl (ZA rfl rfl (Zt rfl rfl (of_decide_eq_true c_19) (IsSlice.lenI ha_2)) (Run.lnz [] 2 ZF rfl ?_)))))
      replace hx:=ZX hd_19 hx
      exact JN.cut ⟨(w64 (s_16.1 + (y_21.length : Int)),s_16.2 + 1),rfl,rfl,rfl,hx⟩ ⟨rfl,rfl,rfl,trivial⟩ rfl rfl
     ·
      replace hx:=ZL c_20 hx
      refine Run.cnz_k [] 2 ZF rfl ?_
      obtain rfl:=Za hd_19 hx
      refine Run.nnz_kb [] 2 ZF rfl ?_
      exact JN.cut ⟨rfl,rfl,rfl⟩ ⟨rfl,rfl,trivial⟩ rfl rfl
    ·
     replace hx:=ZL c_19 hx
     refine Run.lnz_sk [] 8 ZF rfl ?_
     obtain rfl:=Za hd_19 hx
     refine Run.nnz_kb [] 2 ZF rfl ?_
     exact JN.cut ⟨rfl,rfl,rfl⟩ ⟨rfl,rfl,trivial⟩ rfl rfl
 ·
  have hxo_6:=hx; clear hx; have hx:=ht_7; clear ht_7
  refine Run.cl [0] 4 ZF rfl (ZA rfl rfl (ZV U22 rfl (IsSlice.long ha_2)) (Run.llz [] 2 ZF rfl (ZQ (t:=10) rfl (fun c_8 => ?_) (fun c_8 => ?_))))
  ·
   replace hx:=ZK c_8 hx
   refine Run.lnz_s [] 26 ZF rfl ?_
   obtain rfl:=Option.some.inj hx
   clear hx; have hx:=hxo_6
   simp only [Sum.elim_inl,Sum.elim_inr] at hx
   refine Run.nnz_kk [] 2 ZF rfl (ZJ (vs:=[.bool true]) (K:=[]) (rst:=[_]) (.inl rfl) rfl rfl (ZG rfl rfl) ZC ?_)
   obtain rfl:=Option.some.inj hx
   exact ⟨rfl,rfl,rfl,trivial⟩
  ·
   replace hx:=ZL c_8 hx
   refine Run.llz [0] 5 ZF rfl (ZA rfl rfl (ZV U23 rfl (IsSlice.long ha_3)) (Run.llz [] 4 ZF rfl (ZQ (t:=15) rfl (fun c_9 => ?_) (fun c_9 => ?_))))
   ·
    replace hx:=ZK c_9 hx
    refine Run.llz [0] 5 ZF rfl (ZA rfl rfl (ZV U23 rfl (IsSlice.long ha_3)) (Run.llz [] 6 ZF rfl (ZQ (t:=22) rfl (fun c_10 => ?_) (fun c_10 => ?_))))
    ·
     replace hx:=ZK c_10 hx
     refine Run.lnz_s [] 14 ZF rfl ?_
     obtain rfl:=Option.some.inj hx
     clear hx; have hx:=hxo_6
     simp only [Sum.elim_inl,Sum.elim_inr] at hx
     refine Run.nnz_kk [] 2 ZF rfl (ZJ (vs:=[.bool true]) (K:=[]) (rst:=[_]) (.inl rfl) rfl rfl (ZG rfl rfl) ZC ?_)
     obtain rfl:=Option.some.inj hx
     exact ⟨rfl,rfl,rfl,trivial⟩
    ·
     replace hx:=ZL c_10 hx
     refine Run.llz [0] 5 ZF rfl (ZA rfl rfl (ZV U23 rfl (IsSlice.long ha_3)) (Run.lcz_s [] 5 ZF rfl (ZM rfl (fun c_11 => ?_) (fun c_11 => ?_))))
     ·
      replace hx:=ZK c_11 hx
      refine Run.cnz [] 6 ZF rfl ?_
      obtain rfl:=Option.some.inj hx
      clear hx; have hx:=hxo_6
      simp only [Sum.elim_inl,Sum.elim_inr] at hx
      refine Run.nnz_kk [] 2 ZF rfl (ZJ (vs:=[.bool true]) (K:=[]) (rst:=[_]) (.inl rfl) rfl rfl (ZG rfl rfl) ZC ?_)
      obtain rfl:=Option.some.inj hx
      exact ⟨rfl,rfl,rfl,trivial⟩
     ·
      replace hx:=ZL c_11 hx
      refine JC.skip ?_
      obtain rfl:=Option.some.inj hx
      exact JN.cut ⟨(),rfl,rfl,rfl,rfl⟩ ⟨rfl,trivial⟩ rfl rfl
   ·
    replace hx:=ZL c_9 hx
    refine Run.llz [0] 13 ZF rfl (ZA rfl rfl (ZV U23 rfl (IsSlice.long ha_3)) (Run.lcz_s [] 5 ZF rfl (ZM rfl (fun c_12 => ?_) (fun c_12 => ?_))))
    ·
     replace hx:=ZK c_12 hx
     refine Run.cnz [] 6 ZF rfl ?_
     obtain rfl:=Option.some.inj hx
     clear hx; have hx:=hxo_6
     simp only [Sum.elim_inl,Sum.elim_inr] at hx
     refine Run.nnz_kk [] 2 ZF rfl (ZJ (vs:=[.bool true]) (K:=[]) (rst:=[_]) (.inl rfl) rfl rfl (ZG rfl rfl) ZC ?_)
     obtain rfl:=Option.some.inj hx
     exact ⟨rfl,rfl,rfl,trivial⟩
    ·
     replace hx:=ZL c_12 hx
     refine JC.skip ?_
     obtain rfl:=Option.some.inj hx
     exact JN.cut ⟨(),rfl,rfl,rfl,rfl⟩ ⟨rfl,trivial⟩ rfl rfl

set_option maxHeartbeats 8000000 in
theorem ref13_Great_ok (p_1 : Store) (H : Heaplet) {aa_2 : Option Addr} {na_2 : Nat} {ca_2 : Nat} {aa_3 : Option Addr} {na_3 : Nat} {ca_3 : Nat} {aa_4 : Option Addr} {na_4 : Nat} {ca_4 : Nat} (ha_2 : IsSlice H (RSl RU8 1) 1 (.slice aa_2 na_2 ca_2) p_1.Disk.Blocks) (ha_3 : IsSlice H R_Write 2 (.slice aa_3 na_3 ca_3) p_1.Disk.Waits) (ha_4 : IsSlice H RU8 1 (.slice aa_4 na_4 ca_4) p_1.Space) (r : Bool) (hx : ref13_Great p_1 = some r) :
  Does Tryz.prog 7 #[.agg #[.slice aa_2 na_2 ca_2,.slice aa_3 na_3 ca_3,.slice aa_4 na_4 ca_4,.int .u32 (p_1.Epoch.toNat : Int),.int .u32 (p_1.Count.toNat : Int)]] [] H (fun u K' H' => u = .bool r ∧ K' = [] ∧ H = H' ∧ True):=by
 refine Does.enterL (vs:=[.agg #[.slice aa_2 na_2 ca_2,.slice aa_3 na_3 ca_3,.slice aa_4 na_4 ca_4,.int .u32 (p_1.Epoch.toNat : Int),.int .u32 (p_1.Count.toNat : Int)]]) (l:=[(0,.agg #[.slice aa_2 na_2 ca_2,.slice aa_3 na_3 ca_3,.slice aa_4 na_4 ca_4,.int .u32 (p_1.Epoch.toNat : Int),.int .u32 (p_1.Count.toNat : Int)])]) Tryz.func7 rfl rfl ⟨rfl,trivial⟩ (fun w hlt => ?_)
 unfold ref13_Great at hx
 refine Run.cl [] 2 ZF rfl (Zk rfl rfl (fun b_5 hb_5 => Run.lc_s [] 4 ZF rfl ?_))
 obtain ⟨t_6,ht_8,hx⟩:=ZD hx
 refine JC.cut (fun l o g => l = [(2,.bool t_6)] ∧ o = [] ∧ H = g) ?_ ?_
 ·
  rintro _ _ _ ⟨rfl,rfl,rfl⟩
  refine Run.nnz_s [] 2 ZF rfl (ZJ (vs:=[.bool t_6]) (K:=[]) (rst:=[]) (.inl rfl) rfl rfl (ZG rfl rfl) ZC ?_)
  obtain rfl:=Option.some.inj hx
  exact ⟨rfl,rfl,rfl,trivial⟩
 ·
  have hxo_7:=hx; clear hx; have hx:=ht_8; clear ht_8
  refine Run.clz [0] 3 ZF rfl ?_
  obtain ⟨x_9,hr_10,hx⟩:=ZD hx
  refine ZI (vs:=[_]) (args:=[_]) (K:=[]) (rst:=[_]) E40 rfl rfl rfl ZC (ref09_Great_ok (Disk.mk p_1.Disk.Blocks p_1.Disk.Waits) _ ha_2 ha_3 _ hr_10) rfl (fun u_11 Ku_11 Hu_11 hRu_11 hleu_11 hfu_11 => ?_)
  obtain ⟨rfl,rfl,rfl,-⟩:=hRu_11
  refine ZA rfl rfl (ZZ rfl) (ZQ (t:=6) rfl (fun c_12 => ?_) (fun c_12 => ?_))
  ·
   replace hx:=ZK c_12 hx
   refine Run.lnz [] 7 ZF rfl ?_
   obtain rfl:=Option.some.inj hx
   refine JN.forget 0 ?_
   exact JN.cut ⟨rfl,rfl,rfl⟩ ⟨rfl,trivial⟩ rfl rfl
  ·
   replace hx:=ZL c_12 hx
   refine Run.llz [0] 5 ZF rfl (ZA rfl rfl (ZV U26 rfl (IsSlice.long ha_4)) (Run.lnz [] 5 ZF rfl ?_))
   obtain rfl:=Option.some.inj hx
   refine JN.forget 0 ?_
   exact JN.cut ⟨rfl,rfl,rfl⟩ ⟨rfl,trivial⟩ rfl rfl

set_option maxHeartbeats 8000000 in
theorem ref09_Twin_ok (p_1 : Disk) (H : Heaplet) {aa_2 : Option Addr} {na_2 : Nat} {ca_2 : Nat} {aa_3 : Option Addr} {na_3 : Nat} {ca_3 : Nat} (ha_2 : IsSlice H (RSl RU8 1) 1 (.slice aa_2 na_2 ca_2) p_1.Blocks) (ha_3 : IsSlice H R_Write 2 (.slice aa_3 na_3 ca_3) p_1.Waits) (r : Disk) (hx : ref09_Twin p_1 = some r) :
  Does Tryz.prog 41 #[.agg #[.slice aa_2 na_2 ca_2,.slice aa_3 na_3 ca_3]] [] H (fun u K' H' => ∃ ao0 : Option Addr,∃ n0 : Nat,∃ cap0 : Nat,∃ K0 : Own,∃ ao1 : Option Addr,∃ n1 : Nat,∃ cap1 : Nat,∃ K1 : Own,u = .agg #[.slice ao0 n0 cap0,.slice ao1 n1 cap1] ∧ K' = [K0,K1] ∧ RowOf (New H H') (RSl RU8 1) 0 26 1 (.slice ao0 n0 cap0) r.Blocks K0 ∧ (∀ p ∈ K0,p.1 ∉ ids (List.flatten [])) ∧ RowOf (New H H') R_Write 0 96 2 (.slice ao1 n1 cap1) r.Waits K1 ∧ (∀ p ∈ K1,p.1 ∉ ids (List.flatten [])) ∧ True):=by
 refine Does.enterL (vs:=[.agg #[.slice aa_2 na_2 ca_2,.slice aa_3 na_3 ca_3]]) (l:=[(0,.agg #[.slice aa_2 na_2 ca_2,.slice aa_3 na_3 ca_3])]) Tryz.func41 rfl rfl ⟨rfl,trivial⟩ (fun w hlt => ?_)
 unfold ref09_Twin at hx
 refine Run.cl [] 2 ZF rfl (Zk rfl rfl (fun b_4 hb_4 => JL.alloc Z25 rfl (fun b_5 hb_5 => Run.lc_s [] 3 ZF rfl ?_)))
 obtain ⟨t_6,ht_8,hx⟩:=ZD hx
 refine JC.cut (fun l o g => ∃ b_28 : Nat,∃ ar_29 : Option Addr,∃ nr_29 : Nat,∃ cr_29 : Nat,∃ Kr_29 : Own,∃ ar_30 : Option Addr,∃ nr_30 : Nat,∃ cr_30 : Nat,∃ Kr_30 : Own,l = [(1,.pointer (some ⟨b_4,0,none⟩)),(2,.pointer (some ⟨b_5,0,none⟩)),(3,.pointer (some ⟨b_28,0,none⟩))] ∧ o = [[(b_4,.cells #[.slice aa_2 na_2 ca_2,.slice aa_3 na_3 ca_3] 25 (0,0))],[(b_5,.cells #[.slice none 0 0,.slice none 0 0] 25 (0,0))],[(b_28,.cells #[.slice ar_29 nr_29 cr_29,.slice ar_30 nr_30 cr_30] 25 (0,0))],Kr_29,Kr_30] ∧ H = g ∧ w.heap.size ≤ b_28 ∧ RowOf (New H H) (ROSl RU8 1) w.heap.size 26 1 (.slice ar_29 nr_29 cr_29) t_6.1 Kr_29 ∧ RowOf (New H H) R_WriteO w.heap.size 96 2 (.slice ar_30 nr_30 cr_30) t_6.2 Kr_30) ?_ ?_
 ·
  rintro _ _ _ ⟨b_28,ar_29,nr_29,cr_29,Kr_29,ar_30,nr_30,cr_30,Kr_30,rfl,rfl,rfl,hb_28,hr_29,hr_30⟩
  refine Run.nc_s [] 7 ZF rfl ?_
  obtain ⟨t_31,ht_33,hx⟩:=ZD hx
  refine JC.cut (fun l o g => ∃ H_39 : Heaplet,∃ Kr_40 : Own,l = [(1,.pointer (some ⟨b_4,0,none⟩)),(2,.pointer (some ⟨b_5,0,none⟩)),(3,.pointer (some ⟨b_28,0,none⟩))] ∧ o = [[(b_4,.cells #[.slice aa_2 na_2 ca_2,.slice aa_3 na_3 ca_3] 25 (0,0))],[(b_5,.cells #[.slice none 0 0,.slice none 0 0] 25 (0,0))],[(b_28,.cells #[.slice ar_29 nr_29 cr_29,.slice ar_30 nr_30 cr_30] 25 (0,0))],Kr_40,Kr_30] ∧ H_39 = g ∧ Hle H H_39 ∧ RowOf (New H H_39) (ROSl RU8 1) w.heap.size 26 1 (.slice ar_29 nr_29 cr_29) t_31 Kr_40) ?_ ?_
  ·
   rintro _ _ _ ⟨H_39,Kr_40,rfl,rfl,rfl,hleH_39,hr_40⟩
   refine Run.nc_s [] 7 ZF rfl ?_
   obtain ⟨t_41,ht_43,hx⟩:=ZD hx
   refine JC.cut (fun l o g => ∃ H_49 : Heaplet,∃ Kr_50 : Own,l = [(2,.pointer (some ⟨b_5,0,none⟩)),(3,.pointer (some ⟨b_28,0,none⟩))] ∧ o = [[(b_5,.cells #[.slice none 0 0,.slice none 0 0] 25 (0,0))],[(b_28,.cells #[.slice ar_29 nr_29 cr_29,.slice ar_30 nr_30 cr_30] 25 (0,0))],Kr_40,Kr_50] ∧ H_49 = g ∧ Hle H_39 H_49 ∧ RowOf (New H H_49) R_WriteO w.heap.size 96 2 (.slice ar_30 nr_30 cr_30) t_41 Kr_50) ?_ ?_
   ·
    rintro _ _ _ ⟨H_49,Kr_50,rfl,rfl,rfl,hleH_49,hr_50⟩
    refine Run.nnz_s [1,0] 8 ZF rfl ?_
    have hr_51:=RowOf.mapR (fun y => y.getD []) ((ROSl.un RU8 1) _) hr_40
    have hr_52:=RowOf.mapR WriteO.w (R_WriteO.un _) hr_50
    refine ZJ (vs:=[.agg #[.slice ar_29 nr_29 cr_29,.slice ar_30 nr_30 cr_30]]) (K:=[_,_]) (rst:=[_,_]) (.inl rfl) rfl rfl (Zn 0 rfl rfl S25 rfl) (ZO 2 rfl (ZO 2 rfl ZC)) ?_
    obtain rfl:=Option.some.inj hx
    exact ⟨ar_29,nr_29,cr_29,Kr_40,ar_30,nr_30,cr_30,Kr_50,rfl,rfl,(ZT (Nat.zero_le _) (hr_51.mono (RSl.mono RU8.mono) (New.mono hleH_49))),(Zh (hr_51.mono (RSl.mono RU8.mono) (New.mono hleH_49)) hlt),(ZT (Nat.zero_le _) hr_52),(Zh hr_52 hlt),trivial⟩
   ·
    have hxo_42:=hx; clear hx; have hx:=ht_43; clear ht_43
    refine JC.block (Zc 4 rfl (Zc 4 rfl (Zc 4 rfl (Zc 4 rfl (Zc 4 rfl (Zf (fun n l o g => ∃ s_44 : List WriteO × Nat,∃ H_47 : Heaplet,∃ Kr_48 : Own,l = [(1,.pointer (some ⟨b_4,0,none⟩)),(2,.pointer (some ⟨b_5,0,none⟩)),(3,.pointer (some ⟨b_28,0,none⟩)),(5,.int .i64 ((s_44.2 : Nat) : Int))] ∧ o = [[(b_4,.cells #[.slice aa_2 na_2 ca_2,.slice aa_3 na_3 ca_3] 25 (0,0))],[(b_5,.cells #[.slice none 0 0,.slice none 0 0] 25 (0,0))],[(b_28,.cells #[.slice ar_29 nr_29 cr_29,.slice ar_30 nr_30 cr_30] 25 (0,0))],Kr_40,Kr_48] ∧ H_47 = g ∧ run (ref09_Twin_l2 p_1) n s_44 = some t_41 ∧ Hle H_39 H_47 ∧ RowOf (New H H_47) R_WriteO w.heap.size 96 2 (.slice ar_30 nr_30 cr_30) s_44.1 Kr_48) FUEL ?_ ⟨(t_6.2,0),H_39,Kr_30,rfl,rfl,rfl,hx,(Hle.refl _),(hr_30.mono R_WriteO.mono (New.mono hleH_39))⟩ ⟨rfl,rfl,rfl,rfl,trivial⟩ ?_))))))
    ·
     rintro _ _ _ ⟨s_44,H_47,Kr_48,rfl,rfl,rfl,hn_45,hleH_47,hr_48⟩
     exact Ze hn_45
    ·
     rintro n_46 _ _ _ ⟨s_44,H_47,Kr_48,rfl,rfl,rfl,hn_45,hleH_47,hr_48⟩
     clear hx; obtain ⟨oo_50,hx,hd_49⟩:=Zd hn_45
     unfold ref09_Twin_l2 at hx
     refine Run.cl [0] 6 ZF rfl (ZA rfl rfl (ZV U23 rfl (IsSlice.long ha_3)) (Run.lcz_s [] 3 ZF rfl (ZM rfl (fun c_49 => ?_) (fun c_49 => ?_))))
     ·
      replace hx:=ZK c_49 hx
      refine Run.cc_s [] 5 ZF rfl (JC.draw (so:=[_,_,_,_]) 12 rfl Mixed ⟨⟨0,rfl⟩,⟨1,rfl⟩,⟨2,rfl⟩,⟨3,rfl⟩,trivial⟩ (JA.val ⟨by kernel_rfl,by kernel_rfl⟩ (ZE _) (i:=0) rfl ⟨by kernel_rfl,by kernel_rfl,rfl⟩ trivial (ZB (Hle.refl _) ⟨⟨0,rfl⟩,⟨1,rfl⟩,⟨2,rfl⟩,⟨3,rfl⟩,trivial⟩) (R.fa F25_1 rfl) rfl (JA.val ⟨by kernel_rfl,by kernel_rfl⟩ (ZE _) (i:=1) rfl ⟨by kernel_rfl,by kernel_rfl,rfl⟩ trivial (ZB (Hle.refl _) ⟨⟨0,rfl⟩,⟨1,rfl⟩,⟨2,rfl⟩,⟨3,rfl⟩,trivial⟩) (R.ldo 2 S23 rfl rfl rfl) rfl (JA.val ⟨by kernel_rfl,by kernel_rfl⟩ (ZE _) (i:=2) rfl ⟨by kernel_rfl,by kernel_rfl,rfl⟩ trivial (ZB (Hle.refl _) ⟨⟨0,rfl⟩,⟨1,rfl⟩,⟨2,rfl⟩,⟨3,rfl⟩,trivial⟩) (ZZ rfl) rfl (JA.val ⟨by kernel_rfl,by kernel_rfl⟩ (ZE _) (i:=3) rfl ⟨by kernel_rfl,by kernel_rfl,rfl⟩ trivial (ZB (Hle.refl _) ⟨⟨0,rfl⟩,⟨1,rfl⟩,⟨2,rfl⟩,⟨3,rfl⟩,trivial⟩) (R.fa F25_1 rfl) rfl (JA.val ⟨by kernel_rfl,by kernel_rfl⟩ (ZE _) (i:=4) rfl ⟨by kernel_rfl,by kernel_rfl,rfl⟩ trivial (ZB (Hle.refl _) ⟨⟨0,rfl⟩,⟨1,rfl⟩,⟨2,rfl⟩,⟨3,rfl⟩,trivial⟩) (R.ldo 0 S23 rfl rfl rfl) rfl (JA.val ⟨by kernel_rfl,by kernel_rfl⟩ (ZE _) (i:=5) rfl ⟨by kernel_rfl,by kernel_rfl,rfl⟩ trivial (ZB (Hle.refl _) ⟨⟨0,rfl⟩,⟨1,rfl⟩,⟨2,rfl⟩,⟨3,rfl⟩,trivial⟩) (ZZ rfl) rfl ?_)))))))
      obtain ⟨y_50,hN_51,hx⟩:=ZY hx
      obtain ⟨b_52,o_53,cs_54,hE_55,hR_56,hl_57,hc_58⟩:=IsSlice.elem (ha_3.mono R_Write.mono (hleH_39.trans hleH_47)) hN_51
      obtain ⟨v_59,rfl,hs_60⟩:=hR_56
      obtain ⟨av_59,cv_59',rfl⟩:=IsSlice.val hs_60
      refine JA.val ⟨by kernel_rfl,by kernel_rfl⟩ (ZE _) (i:=6) rfl ⟨by kernel_rfl,by kernel_rfl,rfl⟩ trivial (ZB (Hle.refl _) ⟨⟨0,rfl⟩,⟨1,rfl⟩,⟨2,rfl⟩,⟨3,rfl⟩,trivial⟩) (Zu U23 S96 rfl rfl hE_55) rfl (JA.val ⟨by kernel_rfl,by kernel_rfl⟩ (ZE _) (i:=7) rfl ⟨by kernel_rfl,by kernel_rfl,rfl⟩ trivial (ZB (Hle.refl _) ⟨⟨0,rfl⟩,⟨1,rfl⟩,⟨2,rfl⟩,⟨3,rfl⟩,trivial⟩) (R.fa F96_0 rfl) rfl (JA.val ⟨by kernel_rfl,by kernel_rfl⟩ (ZE _) (i:=8) rfl ⟨by kernel_rfl,by kernel_rfl,rfl⟩ trivial (ZB (Hle.refl _) ⟨⟨0,rfl⟩,⟨1,rfl⟩,⟨2,rfl⟩,⟨3,rfl⟩,trivial⟩) (R.ldH S3 rfl (hc_58 0 _ rfl)) rfl (JA.one (i:=9) (by kernel_rfl) (JO.step rfl trivial rfl (fun K hK => ?_)))))
      obtain ⟨y_61,hN_62,hx⟩:=ZY hx
      obtain ⟨b_63,o_64,cs_65,cur_70,hK_71,hE_66,hR_67,hl_68,hc_69⟩:=RowOf.elem hr_48 hN_62
      subst hK_71
      obtain ⟨v_72,rfl,hs_73⟩:=hR_67
      refine ZA rfl rfl (Zu U23 S96 rfl rfl hE_66) (ZW (hK _ _ _ (ZB (Hle.refl _) ⟨⟨0,rfl⟩,⟨1,rfl⟩,⟨2,rfl⟩,⟨3,rfl⟩,trivial⟩) (JA.val ⟨by kernel_rfl,by kernel_rfl⟩ (ZE _) (i:=10) rfl ⟨by kernel_rfl,by kernel_rfl,rfl⟩ trivial (ZB (Hle.refl _) ⟨⟨0,rfl⟩,⟨1,rfl⟩,⟨2,rfl⟩,⟨3,rfl⟩,trivial⟩) (R.fa F96_0 rfl) rfl (JA.one (i:=11) (by kernel_rfl) (JO.step rfl trivial rfl (fun K hK => ?_))))))
      obtain ⟨m_74,hm_75,hi_76,hx⟩:=setI_some hx
      refine JL.stP 4 0 (j:=((s_44.2 : Nat) : Int)) (y':=WriteO.mk y_50.At y_61.Data) (cs:=[.int .i64 y_61.At,v_72]) S3 rfl hr_48 rfl hE_66 rfl rfl hc_69 rfl (⟨_,rfl,hs_73⟩) R_WriteO.one (Nat.le_of_ble_eq_true rfl) hm_75 (fun Kr_77 hr_77 hlr_77 => ZW (hK _ _ _ (ZB (Hle.refl _) ⟨⟨0,rfl⟩,⟨1,rfl⟩,⟨2,rfl⟩,⟨3,rfl⟩,trivial⟩) (Zg (by kernel_rfl) (JN.next (JC.draw (so:=[_,_,_,_]) 19 rfl Mixed ⟨⟨0,rfl⟩,⟨1,rfl⟩,⟨2,rfl⟩,⟨3,rfl⟩,trivial⟩ (JA.val ⟨by kernel_rfl,by kernel_rfl⟩ (ZE _) (i:=0) rfl ⟨by kernel_rfl,by kernel_rfl,rfl⟩ trivial (ZB (Hle.refl _) ⟨⟨0,rfl⟩,⟨1,rfl⟩,⟨2,rfl⟩,⟨3,rfl⟩,trivial⟩) (R.fa F25_1 rfl) rfl (JA.val ⟨by kernel_rfl,by kernel_rfl⟩ (ZE _) (i:=1) rfl ⟨by kernel_rfl,by kernel_rfl,rfl⟩ trivial (ZB (Hle.refl _) ⟨⟨0,rfl⟩,⟨1,rfl⟩,⟨2,rfl⟩,⟨3,rfl⟩,trivial⟩) (R.ldo 2 S23 rfl rfl rfl) rfl (JA.val ⟨by kernel_rfl,by kernel_rfl⟩ (ZE _) (i:=2) rfl ⟨by kernel_rfl,by kernel_rfl,rfl⟩ trivial (ZB (Hle.refl _) ⟨⟨0,rfl⟩,⟨1,rfl⟩,⟨2,rfl⟩,⟨3,rfl⟩,trivial⟩) (ZZ rfl) rfl (JA.val ⟨by kernel_rfl,by kernel_rfl⟩ (ZE _) (i:=3) rfl ⟨by kernel_rfl,by kernel_rfl,rfl⟩ trivial (ZB (Hle.refl _) ⟨⟨0,rfl⟩,⟨1,rfl⟩,⟨2,rfl⟩,⟨3,rfl⟩,trivial⟩) (R.fa F25_1 rfl) rfl (JA.val ⟨by kernel_rfl,by kernel_rfl⟩ (ZE _) (i:=4) rfl ⟨by kernel_rfl,by kernel_rfl,rfl⟩ trivial (ZB (Hle.refl _) ⟨⟨0,rfl⟩,⟨1,rfl⟩,⟨2,rfl⟩,⟨3,rfl⟩,trivial⟩) (R.ldo 2 S23 rfl rfl rfl) rfl (JA.val ⟨by kernel_rfl,by kernel_rfl⟩ (ZE _) (i:=5) rfl ⟨by kernel_rfl,by kernel_rfl,rfl⟩ trivial (ZB (Hle.refl _) ⟨⟨0,rfl⟩,⟨1,rfl⟩,⟨2,rfl⟩,⟨3,rfl⟩,trivial⟩) (ZZ rfl) rfl ?_)))))))))))
      refine JA.val ⟨by kernel_rfl,by kernel_rfl⟩ (ZE _) (i:=9) rfl ⟨by kernel_rfl,by kernel_rfl,rfl⟩ trivial (ZB (Hle.refl _) ⟨⟨0,rfl⟩,⟨1,rfl⟩,⟨2,rfl⟩,⟨3,rfl⟩,trivial⟩) (R.fa F25_1 rfl) rfl (JA.val ⟨by kernel_rfl,by kernel_rfl⟩ (ZE _) (i:=10) rfl ⟨by kernel_rfl,by kernel_rfl,rfl⟩ trivial (ZB (Hle.refl _) ⟨⟨0,rfl⟩,⟨1,rfl⟩,⟨2,rfl⟩,⟨3,rfl⟩,trivial⟩) (R.ldo 0 S23 rfl rfl rfl) rfl (JA.val ⟨by kernel_rfl,by kernel_rfl⟩ (ZE _) (i:=11) rfl ⟨by kernel_rfl,by kernel_rfl,rfl⟩ trivial (ZB (Hle.refl _) ⟨⟨0,rfl⟩,⟨1,rfl⟩,⟨2,rfl⟩,⟨3,rfl⟩,trivial⟩) (ZZ rfl) rfl ?_))
      obtain ⟨y_78,hN_79,hx⟩:=ZY hx
      obtain ⟨b_80,o_81,cs_82,hE_83,hR_84,hl_85,hc_86⟩:=IsSlice.elem (ha_3.mono R_Write.mono (hleH_39.trans hleH_47)) hN_79
      obtain ⟨v_87,rfl,hs_88⟩:=hR_84
      obtain ⟨av_87,cv_87,rfl⟩:=IsSlice.val hs_88
      refine JA.val ⟨by kernel_rfl,by kernel_rfl⟩ (ZE _) (i:=12) rfl ⟨by kernel_rfl,by kernel_rfl,rfl⟩ trivial (ZB (Hle.refl _) ⟨⟨0,rfl⟩,⟨1,rfl⟩,⟨2,rfl⟩,⟨3,rfl⟩,trivial⟩) (Zu U23 S96 rfl rfl hE_83) rfl (JA.val ⟨by kernel_rfl,by kernel_rfl⟩ (ZE _) (i:=13) rfl ⟨by kernel_rfl,by kernel_rfl,rfl⟩ trivial (ZB (Hle.refl _) ⟨⟨0,rfl⟩,⟨1,rfl⟩,⟨2,rfl⟩,⟨3,rfl⟩,trivial⟩) (R.fa F96_1 rfl) rfl (JA.val ⟨by kernel_rfl,by kernel_rfl⟩ (ZE _) (i:=14) rfl ⟨by kernel_rfl,by kernel_rfl,rfl⟩ trivial (ZB (Hle.refl _) ⟨⟨0,rfl⟩,⟨1,rfl⟩,⟨2,rfl⟩,⟨3,rfl⟩,trivial⟩) (R.ldH S26 rfl (hc_86 1 _ rfl)) rfl (JA.one (i:=6) (by kernel_rfl) (JO.step rfl trivial rfl (fun K hK => ?_)))))
      obtain ⟨y_89,hN_90,hx⟩:=ZY hx
      obtain ⟨b_91,o_92,cs_93,cur_98,hK_99,hE_94,hR_95,hl_96,hc_97⟩:=RowOf.elem hr_77 hN_90
      subst hK_99
      obtain ⟨v_100,rfl,hs_101⟩:=hR_95
      refine ZA rfl rfl (Zu U23 S96 rfl rfl hE_94) (ZW (hK _ _ _ (ZB (Hle.refl _) ⟨⟨0,rfl⟩,⟨1,rfl⟩,⟨2,rfl⟩,⟨3,rfl⟩,trivial⟩) (JA.val ⟨by kernel_rfl,by kernel_rfl⟩ (ZE _) (i:=7) rfl ⟨by kernel_rfl,by kernel_rfl,rfl⟩ trivial (ZB (Hle.refl _) ⟨⟨0,rfl⟩,⟨1,rfl⟩,⟨2,rfl⟩,⟨3,rfl⟩,trivial⟩) (R.fa F96_1 rfl) rfl (JA.one (i:=8) (by kernel_rfl) (JO.step rfl trivial rfl (fun K hK => ZA rfl rfl (R.ldo 4 S26 rfl rfl (hc_97 1 _ rfl)) (ZW (hK _ _ _ (ZB (Hle.refl _) ⟨⟨0,rfl⟩,⟨1,rfl⟩,⟨2,rfl⟩,⟨3,rfl⟩,trivial⟩) (JA.one (i:=15) (by kernel_rfl) (JO.step rfl trivial rfl (fun K hK => ?_)))))))))))
      obtain ⟨hn_102,hx⟩:=chkN_some hx
      obtain rfl:=OSl.none hn_102 hs_101
      refine JL.seg0 ?_
      obtain ⟨q_104,hm_105,hl_106,hx⟩:=Zo hx
      refine Zr (HF:=(New H H_47)) 0 U26 I5 rfl rfl (ZR _ RU8 _ _ _) rfl (SrcF.sliceC RU8.const RU8.one U26 hs_88) hm_105 hl_106 rfl (Nat.le_refl _) rfl (fun vr_107 Kr_107 hr_107 => ?_)
      obtain ⟨ar_107,cr_107,rfl⟩:=RowOf.val hr_107
      refine ZW (hK _ _ _ (ZB (Hle.refl _) ⟨⟨1,rfl⟩,⟨2,rfl⟩,⟨3,rfl⟩,⟨4,rfl⟩,trivial⟩) (JA.one (i:=16) (by kernel_rfl) (JO.step rfl trivial rfl (fun K hK => ?_))))
      obtain ⟨y_108,hN_109,hx⟩:=ZY hx
      obtain ⟨b_110,o_111,cs_112,cur_117,hK_118,hE_113,hR_114,hl_115,hc_116⟩:=RowOf.elem hr_77 hN_109
      obtain ⟨rfl,rfl⟩ : b_91 = b_110 ∧ cur_98 = cur_117:=by simpa using hK_118
      obtain ⟨v_119,rfl,hs_120⟩:=hR_114
      refine ZA rfl rfl (Zu U23 S96 rfl rfl hE_113) (ZW (hK _ _ _ (ZB (Hle.refl _) ⟨⟨1,rfl⟩,⟨2,rfl⟩,⟨3,rfl⟩,⟨4,rfl⟩,trivial⟩) (JA.val ⟨by kernel_rfl,by kernel_rfl⟩ (ZE _) (i:=17) rfl ⟨by kernel_rfl,by kernel_rfl,rfl⟩ trivial (ZB (Hle.refl _) ⟨⟨1,rfl⟩,⟨2,rfl⟩,⟨3,rfl⟩,⟨4,rfl⟩,trivial⟩) (R.fa F96_1 rfl) rfl (JA.one (i:=18) (by kernel_rfl) (JO.step rfl trivial rfl (fun K hK => JL.pubN 0 RU8.mono rfl hr_107 (Nat.le_refl _) (fun H_121 hleH_121 hsH_121 => JL.forget 0 ?_)))))))
      obtain ⟨m_122,hm_123,hi_124,hx⟩:=setI_some hx
      refine JL.stP 4 1 (j:=((s_44.2 : Nat) : Int)) (y':=WriteO.mk y_108.At (some q_104)) (cs:=[.int .i64 y_108.At,v_119]) S26 rfl (hr_77.mono R_WriteO.mono (New.mono hleH_121)) rfl hE_113 rfl rfl hc_116 rfl (⟨_,rfl,hsH_121⟩) R_WriteO.one (Nat.le_of_ble_eq_true rfl) hm_123 (fun Kr_125 hr_125 hlr_125 => ZW (hK _ _ _ (ZB hleH_121 ⟨⟨0,rfl⟩,⟨1,rfl⟩,⟨2,rfl⟩,⟨3,rfl⟩,trivial⟩) (Zg (by kernel_rfl) ?_)))
      refine Run.nlz_bs [] 4 ZF rfl (ZA rfl rfl (Zt rfl rfl (of_decide_eq_true c_49) (IsSlice.lenI ha_3)) (Run.lnz [] 2 ZF rfl ?_))
      replace hx:=ZX hd_49 hx
      refine ZH 4 rfl (ZH 4 rfl (ZH 4 rfl (ZH 4 rfl (ZH 4 rfl ?_))))
      exact JN.cut ⟨(m_122,s_44.2 + 1),H_121,Kr_125,rfl,rfl,rfl,hx,((hleH_47.trans hleH_121)),hr_125⟩ ⟨rfl,rfl,rfl,rfl,trivial⟩ rfl rfl
     ·
      replace hx:=ZL c_49 hx
      refine Run.cnz_k [] 2 ZF rfl ?_
      obtain rfl:=Za hd_49 hx
      refine Run.nnz_kb [] 2 ZF rfl (JN.forget 0 (ZH 3 rfl (ZH 3 rfl (ZH 3 rfl (ZH 3 rfl ?_)))))
      exact JN.cut ⟨H_47,Kr_48,rfl,rfl,rfl,(hleH_47),hr_48⟩ ⟨rfl,rfl,trivial⟩ rfl rfl
  ·
   have hxo_32:=hx; clear hx; have hx:=ht_33; clear ht_33
   refine JC.block (Zc 4 rfl (Zc 4 rfl (Zc 4 rfl (Zc 4 rfl (Zc 4 rfl (Zf (fun n l o g => ∃ s_34 : List (Option (List UInt8)) × Nat,∃ H_37 : Heaplet,∃ Kr_38 : Own,l = [(1,.pointer (some ⟨b_4,0,none⟩)),(2,.pointer (some ⟨b_5,0,none⟩)),(3,.pointer (some ⟨b_28,0,none⟩)),(4,.int .i64 ((s_34.2 : Nat) : Int))] ∧ o = [[(b_4,.cells #[.slice aa_2 na_2 ca_2,.slice aa_3 na_3 ca_3] 25 (0,0))],[(b_5,.cells #[.slice none 0 0,.slice none 0 0] 25 (0,0))],[(b_28,.cells #[.slice ar_29 nr_29 cr_29,.slice ar_30 nr_30 cr_30] 25 (0,0))],Kr_38,Kr_30] ∧ H_37 = g ∧ run (ref09_Twin_l1 p_1) n s_34 = some t_31 ∧ Hle H H_37 ∧ RowOf (New H H_37) (ROSl RU8 1) w.heap.size 26 1 (.slice ar_29 nr_29 cr_29) s_34.1 Kr_38) FUEL ?_ ⟨(t_6.1,0),H,Kr_29,rfl,rfl,rfl,hx,(Hle.refl _),hr_29⟩ ⟨rfl,rfl,rfl,rfl,trivial⟩ ?_))))))
   ·
    rintro _ _ _ ⟨s_34,H_37,Kr_38,rfl,rfl,rfl,hn_35,hleH_37,hr_38⟩
    exact Ze hn_35
   ·
    rintro n_36 _ _ _ ⟨s_34,H_37,Kr_38,rfl,rfl,rfl,hn_35,hleH_37,hr_38⟩
    clear hx; obtain ⟨oo_40,hx,hd_39⟩:=Zd hn_35
    unfold ref09_Twin_l1 at hx
    refine Run.cl [0] 6 ZF rfl (ZA rfl rfl (ZV U22 rfl (IsSlice.long ha_2)) (Run.lcz_s [] 3 ZF rfl (ZM rfl (fun c_39 => ?_) (fun c_39 => ?_))))
    ·
     replace hx:=ZK c_39 hx
     refine Run.cc_s [] 4 ZF rfl (JC.draw (so:=[_,_,_,_]) 16 rfl Mixed ⟨⟨0,rfl⟩,⟨1,rfl⟩,⟨2,rfl⟩,⟨4,rfl⟩,trivial⟩ (JA.val ⟨by kernel_rfl,by kernel_rfl⟩ (ZE _) (i:=0) rfl ⟨by kernel_rfl,by kernel_rfl,rfl⟩ trivial (ZB (Hle.refl _) ⟨⟨0,rfl⟩,⟨1,rfl⟩,⟨2,rfl⟩,⟨4,rfl⟩,trivial⟩) (R.fa F25_0 rfl) rfl (JA.val ⟨by kernel_rfl,by kernel_rfl⟩ (ZE _) (i:=1) rfl ⟨by kernel_rfl,by kernel_rfl,rfl⟩ trivial (ZB (Hle.refl _) ⟨⟨0,rfl⟩,⟨1,rfl⟩,⟨2,rfl⟩,⟨4,rfl⟩,trivial⟩) (R.ldo 2 S22 rfl rfl rfl) rfl (JA.val ⟨by kernel_rfl,by kernel_rfl⟩ (ZE _) (i:=2) rfl ⟨by kernel_rfl,by kernel_rfl,rfl⟩ trivial (ZB (Hle.refl _) ⟨⟨0,rfl⟩,⟨1,rfl⟩,⟨2,rfl⟩,⟨4,rfl⟩,trivial⟩) (ZZ rfl) rfl (JA.val ⟨by kernel_rfl,by kernel_rfl⟩ (ZE _) (i:=3) rfl ⟨by kernel_rfl,by kernel_rfl,rfl⟩ trivial (ZB (Hle.refl _) ⟨⟨0,rfl⟩,⟨1,rfl⟩,⟨2,rfl⟩,⟨4,rfl⟩,trivial⟩) (R.fa F25_0 rfl) rfl (JA.val ⟨by kernel_rfl,by kernel_rfl⟩ (ZE _) (i:=4) rfl ⟨by kernel_rfl,by kernel_rfl,rfl⟩ trivial (ZB (Hle.refl _) ⟨⟨0,rfl⟩,⟨1,rfl⟩,⟨2,rfl⟩,⟨4,rfl⟩,trivial⟩) (R.ldo 2 S22 rfl rfl rfl) rfl (JA.val ⟨by kernel_rfl,by kernel_rfl⟩ (ZE _) (i:=5) rfl ⟨by kernel_rfl,by kernel_rfl,rfl⟩ trivial (ZB (Hle.refl _) ⟨⟨0,rfl⟩,⟨1,rfl⟩,⟨2,rfl⟩,⟨4,rfl⟩,trivial⟩) (ZZ rfl) rfl (JA.val ⟨by kernel_rfl,by kernel_rfl⟩ (ZE _) (i:=8) rfl ⟨by kernel_rfl,by kernel_rfl,rfl⟩ trivial (ZB (Hle.refl _) ⟨⟨0,rfl⟩,⟨1,rfl⟩,⟨2,rfl⟩,⟨4,rfl⟩,trivial⟩) (R.fa F25_0 rfl) rfl (JA.val ⟨by kernel_rfl,by kernel_rfl⟩ (ZE _) (i:=9) rfl ⟨by kernel_rfl,by kernel_rfl,rfl⟩ trivial (ZB (Hle.refl _) ⟨⟨0,rfl⟩,⟨1,rfl⟩,⟨2,rfl⟩,⟨4,rfl⟩,trivial⟩) (R.ldo 0 S22 rfl rfl rfl) rfl (JA.val ⟨by kernel_rfl,by kernel_rfl⟩ (ZE _) (i:=10) rfl ⟨by kernel_rfl,by kernel_rfl,rfl⟩ trivial (ZB (Hle.refl _) ⟨⟨0,rfl⟩,⟨1,rfl⟩,⟨2,rfl⟩,⟨4,rfl⟩,trivial⟩) (ZZ rfl) rfl ?_))))))))))
     obtain ⟨y_40,hN_41,hx⟩:=ZY hx
     obtain ⟨b_42,o_43,cs_44,hE_45,hR_46,hl_47,hc_48⟩:=IsSlice.elem (ha_2.mono (RSl.mono RU8.mono) hleH_37) hN_41
     obtain ⟨v_49,rfl,hs_50⟩:=hR_46
     obtain ⟨av_49,cv_49,rfl⟩:=IsSlice.val hs_50
     refine JA.val ⟨by kernel_rfl,by kernel_rfl⟩ (ZE _) (i:=11) rfl ⟨by kernel_rfl,by kernel_rfl,rfl⟩ trivial (ZB (Hle.refl _) ⟨⟨0,rfl⟩,⟨1,rfl⟩,⟨2,rfl⟩,⟨4,rfl⟩,trivial⟩) (Zu U22 S26 rfl rfl hE_45) rfl (JA.val ⟨by kernel_rfl,by kernel_rfl⟩ (ZE _) (i:=12) rfl ⟨by kernel_rfl,by kernel_rfl,rfl⟩ trivial (ZB (Hle.refl _) ⟨⟨0,rfl⟩,⟨1,rfl⟩,⟨2,rfl⟩,⟨4,rfl⟩,trivial⟩) (R.ldH S26 rfl (hc_48 0 _ rfl)) rfl (JA.one (i:=6) (by kernel_rfl) (JO.step rfl trivial rfl (fun K hK => ?_))))
     obtain ⟨y_51,hN_52,hx⟩:=ZY hx
     obtain ⟨b_53,o_54,cs_55,cur_60,hK_61,hE_56,hR_57,hl_58,hc_59⟩:=RowOf.elem hr_38 hN_52
     subst hK_61
     obtain ⟨v_62,rfl,hs_63⟩:=hR_57
     refine ZA rfl rfl (Zu U22 S26 rfl rfl hE_56) (ZW (hK _ _ _ (ZB (Hle.refl _) ⟨⟨0,rfl⟩,⟨1,rfl⟩,⟨2,rfl⟩,⟨4,rfl⟩,trivial⟩) (JA.one (i:=7) (by kernel_rfl) (JO.step rfl trivial rfl (fun K hK => ZA rfl rfl (R.ldo 3 S26 rfl rfl (hc_59 0 _ rfl)) (ZW (hK _ _ _ (ZB (Hle.refl _) ⟨⟨0,rfl⟩,⟨1,rfl⟩,⟨2,rfl⟩,⟨4,rfl⟩,trivial⟩) (JA.one (i:=13) (by kernel_rfl) (JO.step rfl trivial rfl (fun K hK => ?_))))))))))
     obtain ⟨hn_64,hx⟩:=chkN_some hx
     obtain rfl:=OSl.none hn_64 hs_63
     refine JL.seg0 ?_
     obtain ⟨q_66,hm_67,hl_68,hx⟩:=Zo hx
     refine Zr (HF:=(New H H_37)) 0 U26 I5 rfl rfl (ZR _ RU8 _ _ _) rfl (SrcF.sliceC RU8.const RU8.one U26 hs_50) hm_67 hl_68 rfl (Nat.le_refl _) rfl (fun vr_69 Kr_69 hr_69 => ?_)
     obtain ⟨ar_69,cr_69,rfl⟩:=RowOf.val hr_69
     refine ZW (hK _ _ _ (ZB (Hle.refl _) ⟨⟨1,rfl⟩,⟨2,rfl⟩,⟨3,rfl⟩,⟨5,rfl⟩,trivial⟩) (JA.one (i:=14) (by kernel_rfl) (JO.step rfl trivial rfl (fun K hK => ?_))))
     obtain ⟨hp_70,hx⟩:=chk_some hx
     obtain ⟨b_71,o_72,hE_73⟩:=RowOf.place hr_38 hp_70
     refine ZA rfl rfl (Zu U22 S26 rfl rfl hE_73) (ZW (hK _ _ _ (ZB (Hle.refl _) ⟨⟨1,rfl⟩,⟨2,rfl⟩,⟨3,rfl⟩,⟨5,rfl⟩,trivial⟩) (JA.one (i:=15) (by kernel_rfl) (JO.step rfl trivial rfl (fun K hK => JL.pubN 0 RU8.mono rfl hr_69 (Nat.le_refl _) (fun H_74 hleH_74 hsH_74 => JL.forget 0 ?_))))))
     obtain ⟨m_75,hm_76,hi_77,hx⟩:=setI_some hx
     refine JL.stE 3 (k:=((s_34.2 : Nat) : Int)) (y:=(some q_66)) S26 rfl (hr_38.mono (ROSl.mono RU8.mono) (New.mono hleH_74)) rfl hE_73 rfl rfl (⟨_,rfl,hsH_74⟩) ROSl.one hm_76 (fun Kr_78 hr_78 hlr_78 => ZW (hK _ _ _ (ZB hleH_74 ⟨⟨0,rfl⟩,⟨1,rfl⟩,⟨2,rfl⟩,⟨4,rfl⟩,trivial⟩) (Zg (by kernel_rfl) ?_)))
     refine Run.nlz_bs [] 4 ZF rfl (ZA rfl rfl (Zt rfl rfl (of_decide_eq_true c_39) (IsSlice.lenI ha_2)) (Run.lnz [] 2 ZF rfl ?_))
     replace hx:=ZX hd_39 hx
     refine ZH 4 rfl (ZH 4 rfl (ZH 4 rfl (ZH 4 rfl (ZH 4 rfl ?_))))
     exact JN.cut ⟨(m_75,s_34.2 + 1),H_74,Kr_78,rfl,rfl,rfl,hx,((hleH_37.trans hleH_74)),hr_78⟩ ⟨rfl,rfl,rfl,rfl,trivial⟩ rfl rfl
    ·
     replace hx:=ZL c_39 hx
     refine Run.cnz_k [] 2 ZF rfl ?_
     obtain rfl:=Za hd_39 hx
     refine Run.nnz_kb [] 2 ZF rfl (ZH 4 rfl (ZH 4 rfl (ZH 4 rfl (ZH 4 rfl (ZH 4 rfl ?_)))))
     exact JN.cut ⟨H_37,Kr_38,rfl,rfl,rfl,(hleH_37),hr_38⟩ ⟨rfl,rfl,rfl,trivial⟩ rfl rfl
 ·
  have hxo_7:=hx; clear hx; have hx:=ht_8; clear ht_8
  refine JC.draw (so:=[_,_]) 11 rfl Mixed ⟨⟨0,rfl⟩,⟨1,rfl⟩,trivial⟩ (JA.val ⟨by kernel_rfl,by kernel_rfl⟩ (ZE _) (i:=0) rfl ⟨by kernel_rfl,by kernel_rfl,rfl⟩ trivial (ZB (Hle.refl _) ⟨⟨0,rfl⟩,⟨1,rfl⟩,trivial⟩) (R.fa F25_0 rfl) rfl (JA.val ⟨by kernel_rfl,by kernel_rfl⟩ (ZE _) (i:=1) rfl ⟨by kernel_rfl,by kernel_rfl,rfl⟩ trivial (ZB (Hle.refl _) ⟨⟨0,rfl⟩,⟨1,rfl⟩,trivial⟩) (R.ldo 1 S22 rfl rfl rfl) rfl (JA.val ⟨by kernel_rfl,by kernel_rfl⟩ (ZE _) (i:=2) rfl ⟨by kernel_rfl,by kernel_rfl,rfl⟩ trivial (ZB (Hle.refl _) ⟨⟨0,rfl⟩,⟨1,rfl⟩,trivial⟩) (ZV U22 rfl (IsSlice.long ha_2)) rfl (JA.val ⟨by kernel_rfl,by kernel_rfl⟩ (ZE _) (i:=4) rfl ⟨by kernel_rfl,by kernel_rfl,rfl⟩ trivial (ZB (Hle.refl _) ⟨⟨0,rfl⟩,⟨1,rfl⟩,trivial⟩) (R.fa F25_1 rfl) rfl (JA.val ⟨by kernel_rfl,by kernel_rfl⟩ (ZE _) (i:=5) rfl ⟨by kernel_rfl,by kernel_rfl,rfl⟩ trivial (ZB (Hle.refl _) ⟨⟨0,rfl⟩,⟨1,rfl⟩,trivial⟩) (R.ldo 1 S23 rfl rfl rfl) rfl (JA.val ⟨by kernel_rfl,by kernel_rfl⟩ (ZE _) (i:=6) rfl ⟨by kernel_rfl,by kernel_rfl,rfl⟩ trivial (ZB (Hle.refl _) ⟨⟨0,rfl⟩,⟨1,rfl⟩,trivial⟩) (ZV U23 rfl (IsSlice.long ha_3)) rfl (JAA.start [⟨9,3,25,.agg #[.slice none 0 0,.slice none 0 0]⟩] rfl ?_)))))))
  obtain ⟨x_11,hm_10,hc_9,hx⟩:=mks_some hx
  obtain ⟨x_15,hm_14,hc_13,hx⟩:=mks_some hx
  refine JAA.two (i:=3) (j:=7) ⟨⟨_,_,_,rfl,Z25,rfl⟩,trivial⟩ (Hle.refl _) ⟨⟨0,rfl⟩,⟨1,rfl⟩,trivial⟩ rfl (by kernel_rfl) ?_ ?_
  ·
   refine JOA.step rfl trivial rfl (fun tl_18 to_19 K hK => JL.mkF (HF:=New H H) (R:=(ROSl RU8 1)) (y:=(none : Option (List UInt8))) (n:=(p_1.Blocks.length : Int)) U22 I26 rfl rfl (fun _ => ⟨_,rfl,rfl⟩) ROSl.one hm_10 hc_9 rfl rfl (fun vr_12 Kr_12 hr_12 => ?_))
   obtain ⟨ar_12,cr_12,rfl⟩:=RowOf.val hr_12
   refine ZW (hK (by repeat constructor) (by repeat constructor) (ZB (Hle.refl _) ⟨⟨1,rfl⟩,⟨2,rfl⟩,trivial⟩) (JAA.one (i:=7) ⟨⟨_,_,_,rfl,Z25,rfl⟩,trivial⟩ (Hle.refl _) ⟨⟨1,rfl⟩,⟨2,rfl⟩,trivial⟩ rfl (by kernel_rfl) (JOA.step rfl trivial rfl (fun tl_20 to_21 K hK => JL.mkF (HF:=New H H) (R:=R_WriteO) (y:=WriteO.mk 0 (none : Option (List UInt8))) (n:=(p_1.Waits.length : Int)) U23 I96 rfl rfl (fun _ => ⟨_,rfl,rfl⟩) R_WriteO.one hm_14 hc_13 rfl rfl (fun vr_16 Kr_16 hr_16 => ?_)))))
   obtain ⟨ar_16,cr_16,rfl⟩:=RowOf.val hr_16
   refine ZW (hK (by repeat constructor) (by repeat constructor) (ZB (Hle.refl _) ⟨⟨2,rfl⟩,⟨3,rfl⟩,trivial⟩) (JAA.val ⟨by kernel_rfl,by kernel_rfl⟩ (ZE _) (i:=8) rfl (by kernel_rfl) rfl trivial (Hle.refl _) ⟨⟨2,rfl⟩,⟨3,rfl⟩,trivial⟩ (R.bldP (vs:=[(0,.slice ar_12 x_11.length cr_12),(1,.slice ar_16 x_15.length cr_16)]) (cs:=[.slice ar_12 x_11.length cr_12,.slice ar_16 x_15.length cr_16]) Z25 B25 rfl rfl rfl) rfl (JAA.all ⟨⟨_,_,_,rfl,Z25,rfl⟩,trivial⟩ (Hle.refl _) ⟨⟨2,rfl⟩,⟨3,rfl⟩,trivial⟩ rfl (by kernel_rfl) (fun b_22 hb_22 => JA.one (i:=10) (by kernel_rfl) (JO.step rfl trivial rfl (fun K hK => ?_))))))
   refine Run.lnz [4] 2 ZF rfl (hK _ _ _ (ZB (Hle.refl _) ⟨⟨2,rfl⟩,⟨3,rfl⟩,trivial⟩) (Zg (by kernel_rfl) ?_))
   obtain rfl:=Option.some.inj hx
   refine ZH 1 rfl (ZH 4 rfl (ZH 3 rfl (ZH 4 rfl ?_)))
   exact JN.cut ⟨b_22,ar_12,x_11.length,cr_12,Kr_12,ar_16,x_15.length,cr_16,Kr_16,rfl,rfl,rfl,hb_22,hr_12,hr_16⟩ ⟨rfl,rfl,rfl,trivial⟩ rfl rfl
  ·
   refine JOA.step rfl trivial rfl (fun tl_23 to_24 K hK => JL.mkF (HF:=New H H) (R:=R_WriteO) (y:=WriteO.mk 0 (none : Option (List UInt8))) (n:=(p_1.Waits.length : Int)) U23 I96 rfl rfl (fun _ => ⟨_,rfl,rfl⟩) R_WriteO.one hm_14 hc_13 rfl rfl (fun vr_16 Kr_16 hr_16 => ?_))
   obtain ⟨ar_16,cr_16,rfl⟩:=RowOf.val hr_16
   refine ZW (hK (by repeat constructor) (by repeat constructor) (ZB (Hle.refl _) ⟨⟨1,rfl⟩,⟨2,rfl⟩,trivial⟩) (JAA.one (i:=3) ⟨⟨_,_,_,rfl,Z25,rfl⟩,trivial⟩ (Hle.refl _) ⟨⟨1,rfl⟩,⟨2,rfl⟩,trivial⟩ rfl (by kernel_rfl) (JOA.step rfl trivial rfl (fun tl_25 to_26 K hK => JL.mkF (HF:=New H H) (R:=(ROSl RU8 1)) (y:=(none : Option (List UInt8))) (n:=(p_1.Blocks.length : Int)) U22 I26 rfl rfl (fun _ => ⟨_,rfl,rfl⟩) ROSl.one hm_10 hc_9 rfl rfl (fun vr_12 Kr_12 hr_12 => ?_)))))
   obtain ⟨ar_12,cr_12,rfl⟩:=RowOf.val hr_12
   refine ZW (hK (by repeat constructor) (by repeat constructor) (ZB (Hle.refl _) ⟨⟨2,rfl⟩,⟨3,rfl⟩,trivial⟩) (JAA.val ⟨by kernel_rfl,by kernel_rfl⟩ (ZE _) (i:=8) rfl (by kernel_rfl) rfl trivial (Hle.refl _) ⟨⟨2,rfl⟩,⟨3,rfl⟩,trivial⟩ (R.bldP (vs:=[(0,.slice ar_12 x_11.length cr_12),(1,.slice ar_16 x_15.length cr_16)]) (cs:=[.slice ar_12 x_11.length cr_12,.slice ar_16 x_15.length cr_16]) Z25 B25 rfl rfl rfl) rfl (JAA.all ⟨⟨_,_,_,rfl,Z25,rfl⟩,trivial⟩ (Hle.refl _) ⟨⟨2,rfl⟩,⟨3,rfl⟩,trivial⟩ rfl (by kernel_rfl) (fun b_27 hb_27 => JA.one (i:=10) (by kernel_rfl) (JO.step rfl trivial rfl (fun K hK => ?_))))))
   refine Run.lnz [4] 2 ZF rfl (hK _ _ _ (ZB (Hle.refl _) ⟨⟨2,rfl⟩,⟨3,rfl⟩,trivial⟩) (Zg (by kernel_rfl) ?_))
   obtain rfl:=Option.some.inj hx
   refine ZH 1 rfl (ZH 1 rfl (ZH 4 rfl (ZH 3 rfl (ZH 4 rfl ?_))))
   exact JN.cut ⟨b_27,ar_12,x_11.length,cr_12,Kr_12,ar_16,x_15.length,cr_16,Kr_16,rfl,rfl,rfl,hb_27,hr_12,hr_16⟩ ⟨rfl,rfl,rfl,trivial⟩ rfl rfl

set_option maxHeartbeats 8000000 in
theorem ref13_Twin_ok (p_1 : Store) (H : Heaplet) {aa_2 : Option Addr} {na_2 : Nat} {ca_2 : Nat} {aa_3 : Option Addr} {na_3 : Nat} {ca_3 : Nat} {aa_4 : Option Addr} {na_4 : Nat} {ca_4 : Nat} (ha_2 : IsSlice H (RSl RU8 1) 1 (.slice aa_2 na_2 ca_2) p_1.Disk.Blocks) (ha_3 : IsSlice H R_Write 2 (.slice aa_3 na_3 ca_3) p_1.Disk.Waits) (ha_4 : IsSlice H RU8 1 (.slice aa_4 na_4 ca_4) p_1.Space) (r : Store) (hx : ref13_Twin p_1 = some r) :
  Does Tryz.prog 8 #[.agg #[.slice aa_2 na_2 ca_2,.slice aa_3 na_3 ca_3,.slice aa_4 na_4 ca_4,.int .u32 (p_1.Epoch.toNat : Int),.int .u32 (p_1.Count.toNat : Int)]] [] H (fun u K' H' => ∃ ao0 : Option Addr,∃ n0 : Nat,∃ cap0 : Nat,∃ K0 : Own,∃ ao1 : Option Addr,∃ n1 : Nat,∃ cap1 : Nat,∃ K1 : Own,∃ ao2 : Option Addr,∃ n2 : Nat,∃ cap2 : Nat,∃ K2 : Own,u = .agg #[.slice ao0 n0 cap0,.slice ao1 n1 cap1,.slice ao2 n2 cap2,.int .u32 (r.Epoch.toNat : Int),.int .u32 (r.Count.toNat : Int)] ∧ K' = [K0,K1,K2] ∧ RowOf (New H H') (RSl RU8 1) 0 26 1 (.slice ao0 n0 cap0) r.Disk.Blocks K0 ∧ (∀ p ∈ K0,p.1 ∉ ids (List.flatten [])) ∧ RowOf (New H H') R_Write 0 96 2 (.slice ao1 n1 cap1) r.Disk.Waits K1 ∧ (∀ p ∈ K1,p.1 ∉ ids (List.flatten [])) ∧ RowOf (New H H') RU8 0 5 1 (.slice ao2 n2 cap2) r.Space K2 ∧ (∀ p ∈ K2,p.1 ∉ ids (List.flatten [])) ∧ True):=by
 refine Does.enterL (vs:=[.agg #[.slice aa_2 na_2 ca_2,.slice aa_3 na_3 ca_3,.slice aa_4 na_4 ca_4,.int .u32 (p_1.Epoch.toNat : Int),.int .u32 (p_1.Count.toNat : Int)]]) (l:=[(0,.agg #[.slice aa_2 na_2 ca_2,.slice aa_3 na_3 ca_3,.slice aa_4 na_4 ca_4,.int .u32 (p_1.Epoch.toNat : Int),.int .u32 (p_1.Count.toNat : Int)])]) Tryz.func8 rfl rfl ⟨rfl,trivial⟩ (fun w hlt => ?_)
 unfold ref13_Twin at hx
 refine Run.cl [] 2 ZF rfl (Zk rfl rfl (fun b_5 hb_5 => JL.alloc Z29 rfl (fun b_6 hb_6 => Run.ll_s [1] 6 ZF rfl ?_)))
 obtain ⟨x_7,hr_8,hx⟩:=ZD hx
 refine ZI (vs:=[_]) (args:=[_]) (K:=[]) (rst:=[_,_]) E41 rfl rfl rfl ZC (ref09_Twin_ok (Disk.mk p_1.Disk.Blocks p_1.Disk.Waits) _ ha_2 ha_3 _ hr_8) rfl (fun u_9 Ku_9 Hu_9 hRu_9 hleu_9 hfu_9 => ?_)
 obtain ⟨ar_10,nr_10,cr_10,Kr_10,ar_11,nr_11,cr_11,Kr_11,rfl,rfl,hr_10,hnewr_10,hr_11,hnewr_11,-⟩:=hRu_9
 replace hr_10:=(RowOf.base (RowOf.mono (RSl.mono RU8.mono) (New.call (Hle.refl _)) hr_10) (fun p hp => (hfu_9 p (ZS 0 rfl hp)).resolve_left (hnewr_10 p hp)))
 replace hr_11:=(RowOf.base (RowOf.mono R_Write.mono (New.call (Hle.refl _)) hr_11) (fun p hp => (hfu_9 p (ZS 1 rfl hp)).resolve_left (hnewr_11 p hp)))
 refine Run.ll_s [3,3] 8 ZF rfl (JL.seg0 ?_)
 obtain ⟨q_13,hm_14,hl_15,hx⟩:=Zo hx
 refine Zr (HF:=(New H Hu_9)) 0 U26 I5 rfl rfl (ZR _ RU8 _ _ _) rfl (SrcF.sliceC RU8.const RU8.one U26 (ha_4.mono RU8.mono hleu_9)) hm_14 hl_15 rfl (Nat.le_refl _) rfl (fun vr_16 Kr_16 hr_16 => ?_)
 obtain ⟨ar_16,cr_16,rfl⟩:=RowOf.val hr_16
 refine Run.lnz_s [4,4,3] 11 ZF rfl (ZJ (vs:=[.agg #[.slice ar_10 nr_10 cr_10,.slice ar_11 nr_11 cr_11,.slice ar_16 q_13.length cr_16,.int .u32 (p_1.Epoch.toNat : Int),.int .u32 (p_1.Count.toNat : Int)]]) (K:=[_,_,_]) (rst:=[_,_]) (.inl rfl) rfl rfl (Zn 3 rfl rfl S29 rfl) (ZO 1 rfl (ZO 1 rfl (ZO 0 rfl ZC))) ?_)
 obtain rfl:=Option.some.inj hx
 exact ⟨ar_10,nr_10,cr_10,Kr_10,ar_11,nr_11,cr_11,Kr_11,ar_16,q_13.length,cr_16,Kr_16,rfl,rfl,(ZT (Nat.zero_le _) hr_10),(Zh hr_10 hlt),(ZT (Nat.zero_le _) hr_11),(Zh hr_11 hlt),(ZT (Nat.zero_le _) hr_16),(Zh hr_16 hlt),trivial⟩

set_option maxHeartbeats 8000000 in
theorem dev_place_ok (p_1 : Int) (H : Heaplet) (r : Bool) (hx : dev_place p_1 = some r) :
  Does Tryz.prog 99 #[.int .i64 p_1] [] H (fun u K' H' => u = .bool r ∧ K' = [] ∧ H = H' ∧ True):=by
 refine Does.enterL (vs:=[.int .i64 p_1]) (l:=[(0,.int .i64 p_1)]) Tryz.func99 rfl rfl ⟨rfl,trivial⟩ (fun w hlt => ?_)
 unfold dev_place at hx
 refine Run.cl [] 8 ZF rfl (ZA rfl rfl (R.cv_i64_u64 U3 U214 rfl) (ZA rfl rfl (R.lss64 (a:=u64i p_1) (b:=(256 : UInt64)) rfl rfl) (Run.lnz_s [] 4 ZF rfl (ZJ (vs:=[.bool (decide ((u64i p_1) < (256 : UInt64)))]) (K:=[]) (rst:=[]) (.inl rfl) rfl rfl (ZG rfl rfl) ZC ?_))))
 obtain rfl:=Option.some.inj hx
 exact ⟨rfl,rfl,rfl,trivial⟩

set_option maxHeartbeats 8000000 in
theorem dev_Check_ok (p_1 : Disk) (H : Heaplet) {aa_2 : Option Addr} {na_2 : Nat} {ca_2 : Nat} {aa_3 : Option Addr} {na_3 : Nat} {ca_3 : Nat} (ha_2 : IsSlice H (RSl RU8 1) 1 (.slice aa_2 na_2 ca_2) p_1.Blocks) (ha_3 : IsSlice H R_Write 2 (.slice aa_3 na_3 ca_3) p_1.Waits) (r : Int) (hx : dev_Check p_1 = some r) :
  Does Tryz.prog 55 #[.agg #[.slice aa_2 na_2 ca_2,.slice aa_3 na_3 ca_3]] [] H (fun u K' H' => u = .int .i64 r ∧ K' = [] ∧ H = H' ∧ True):=by
 refine Does.enterL (vs:=[.agg #[.slice aa_2 na_2 ca_2,.slice aa_3 na_3 ca_3]]) (l:=[(0,.agg #[.slice aa_2 na_2 ca_2,.slice aa_3 na_3 ca_3])]) Tryz.func55 rfl rfl ⟨rfl,trivial⟩ (fun w hlt => ?_)
 unfold dev_Check at hx
 refine Run.cl [] 2 ZF rfl (Zk rfl rfl (fun b_4 hb_4 => Run.lc_s [] 4 ZF rfl ?_))
 obtain ⟨t_5,ht_7,hx⟩:=ZD hx
 refine JC.cut (fun l o g => l = [(1,.pointer (some ⟨b_4,0,none⟩)),(3,.bool t_5)] ∧ o = [[(b_4,.cells #[.slice aa_2 na_2 ca_2,.slice aa_3 na_3 ca_3] 25 (0,0))]] ∧ H = g) ?_ ?_
 ·
  rintro _ _ _ ⟨rfl,rfl,rfl⟩
  refine Run.nl_s [0] 6 ZF rfl (ZA rfl rfl (ZV U22 rfl (IsSlice.long ha_2)) (Run.lcz_s [] 3 ZF rfl ?_))
  obtain ⟨t_9,ht_11,hx⟩:=ZD hx
  refine JC.cut (fun l o g => l = [(1,.pointer (some ⟨b_4,0,none⟩)),(3,.bool t_9)] ∧ o = [[(b_4,.cells #[.slice aa_2 na_2 ca_2,.slice aa_3 na_3 ca_3] 25 (0,0))]] ∧ H = g) ?_ ?_
  ·
   rintro _ _ _ ⟨rfl,rfl,rfl⟩
   refine Run.nl_s [0] 6 ZF rfl (ZA rfl rfl (ZV U23 rfl (IsSlice.long ha_3)) (Run.lcz_s [] 3 ZF rfl ?_))
   obtain ⟨t_15,ht_17,hx⟩:=ZD hx
   refine JC.cut (fun l o g => l = [(3,.bool t_15)] ∧ o = [] ∧ H = g) ?_ ?_
   ·
    rintro _ _ _ ⟨rfl,rfl,rfl⟩
    refine Run.nc_s [] 7 ZF rfl (ZM rfl (fun c_21 => ?_) (fun c_21 => ?_))
    ·
     replace hx:=ZK c_21 hx
     refine Run.cnz_k [] 7 ZF rfl (ZJ (vs:=[.int .i64 0]) (K:=[]) (rst:=[]) (.inl rfl) rfl rfl (ZG rfl rfl) ZC ?_)
     obtain rfl:=Option.some.inj hx
     exact ⟨rfl,rfl,rfl,trivial⟩
    ·
     replace hx:=ZL c_21 hx
     refine Run.cnz_s [] 8 ZF rfl (ZJ (vs:=[.int .i64 8]) (K:=[]) (rst:=[]) (.inl rfl) rfl rfl (ZG rfl rfl) ZC ?_)
     obtain rfl:=Option.some.inj hx
     exact ⟨rfl,rfl,rfl,trivial⟩
   ·
    have hxo_16:=hx; clear hx; have hx:=ht_17; clear ht_17
    refine JC.block (JC.forget 0 (Zf (fun n l o g => ∃ s_18 : Bool × Nat,l = [(3,.bool s_18.1),(33,.slice aa_3 na_3 ca_3),(34,.int .i64 (p_1.Waits.length : Int)),(35,.int .i64 ((s_18.2 : Nat) : Int))] ∧ o = [] ∧ H = g ∧ run (dev_Check_l2 p_1) n s_18 = some t_15) FUEL ?_ ⟨(t_9,0),rfl,rfl,rfl,hx⟩ ⟨rfl,rfl,rfl,rfl,trivial⟩ ?_))
    ·
     rintro _ _ _ ⟨s_18,rfl,rfl,rfl,hn_19⟩
     exact Ze hn_19
    ·
     rintro n_20 _ _ _ ⟨s_18,rfl,rfl,rfl,hn_19⟩
     clear hx; obtain ⟨oo_22,hx,hd_21⟩:=Zd hn_19
     unfold dev_Check_l2 at hx
     refine Run.cc [] 6 ZF rfl (ZM rfl (fun c_21 => ?_) (fun c_21 => ?_))
     ·
      replace hx:=ZK c_21 hx
      refine Run.cl_s [] 6 ZF rfl ?_
      obtain ⟨y_22,hN_23,hx⟩:=ZY hx
      obtain ⟨b_24,o_25,cs_26,hE_27,hR_28,hl_29,hc_30⟩:=IsSlice.elem ha_3 hN_23
      obtain ⟨v_31,rfl,hs_32⟩:=hR_28
      obtain ⟨av_31,cv_31,rfl⟩:=IsSlice.val hs_32
      refine ZA rfl rfl (Zu U23 S96 rfl rfl hE_27) (ZA rfl rfl (R.ldHE (cs:=[.int .i64 y_22.At,.slice av_31 y_22.Data.length cv_31]) (k:=0) (vs:=[.int .i64 y_22.At,.slice av_31 y_22.Data.length cv_31]) S96 rfl hc_30 rfl rfl) (JL.alloc Z96 rfl (fun b_33 hb_33 => Run.llz_s [0] 6 ZF rfl (ZQ (t:=40) rfl (fun c_34 => ?_) (fun c_34 => ?_)))))
      ·
       replace hx:=ZK c_34 hx
       refine Run.llz [0] 5 ZF rfl ?_
       obtain ⟨x_35,hr_36,hx⟩:=ZD hx
       refine ZI (vs:=[_]) (args:=[_]) (K:=[]) (rst:=[_]) E99 rfl rfl rfl ZC (dev_place_ok y_22.At _ _ hr_36) rfl (fun u_37 Ku_37 Hu_37 hRu_37 hleu_37 hfu_37 => ?_)
       obtain ⟨rfl,rfl,rfl,-⟩:=hRu_37
       refine Run.llz [] 2 ZF rfl (ZQ (t:=45) rfl (fun c_38 => ?_) (fun c_38 => ?_))
       ·
        replace hx:=ZK c_38 hx
        refine Run.llz [0] 5 ZF rfl (ZA rfl rfl (ZV U26 rfl (IsSlice.long hs_32)) (Run.llz_bs [] 8 ZF rfl (ZA rfl rfl (Zt rfl rfl (of_decide_eq_true c_21) (IsSlice.lenI ha_3)) (Run.lnz [] 2 ZF rfl ?_))))
        replace hx:=ZX hd_21 hx
        refine JN.forget 0 ?_
        exact JN.cut ⟨(decide ((y_22.Data.length : Int) = 256),s_18.2 + 1),rfl,rfl,rfl,hx⟩ ⟨rfl,rfl,rfl,rfl,trivial⟩ rfl rfl
       ·
        replace hx:=ZL c_38 hx
        refine Run.llz_bs [] 10 ZF rfl (ZA rfl rfl (Zt rfl rfl (of_decide_eq_true c_21) (IsSlice.lenI ha_3)) (Run.lnz [] 2 ZF rfl ?_))
        replace hx:=ZX hd_21 hx
        refine JN.forget 0 ?_
        exact JN.cut ⟨(false,s_18.2 + 1),rfl,rfl,rfl,hx⟩ ⟨rfl,rfl,rfl,rfl,trivial⟩ rfl rfl
      ·
       replace hx:=ZL c_34 hx
       refine Run.llz_bs [] 15 ZF rfl (ZA rfl rfl (Zt rfl rfl (of_decide_eq_true c_21) (IsSlice.lenI ha_3)) (Run.lnz [] 2 ZF rfl ?_))
       replace hx:=ZX hd_21 hx
       refine JN.forget 0 ?_
       exact JN.cut ⟨(false,s_18.2 + 1),rfl,rfl,rfl,hx⟩ ⟨rfl,rfl,rfl,rfl,trivial⟩ rfl rfl
     ·
      replace hx:=ZL c_21 hx
      refine Run.cnz_k [] 2 ZF rfl ?_
      obtain rfl:=Za hd_21 hx
      refine Run.nnz_kb [] 2 ZF rfl ?_
      exact JN.cut ⟨rfl,rfl,rfl⟩ ⟨rfl,trivial⟩ rfl rfl
  ·
   have hxo_10:=hx; clear hx; have hx:=ht_11; clear ht_11
   refine JC.block (Zf (fun n l o g => ∃ s_12 : Bool × Nat,l = [(1,.pointer (some ⟨b_4,0,none⟩)),(3,.bool s_12.1),(19,.slice aa_2 na_2 ca_2),(20,.int .i64 (p_1.Blocks.length : Int)),(21,.int .i64 ((s_12.2 : Nat) : Int))] ∧ o = [[(b_4,.cells #[.slice aa_2 na_2 ca_2,.slice aa_3 na_3 ca_3] 25 (0,0))]] ∧ H = g ∧ run (dev_Check_l1 p_1) n s_12 = some t_9) FUEL ?_ ⟨(t_5,0),rfl,rfl,rfl,hx⟩ ⟨rfl,rfl,rfl,rfl,rfl,trivial⟩ ?_)
   ·
    rintro _ _ _ ⟨s_12,rfl,rfl,rfl,hn_13⟩
    exact Ze hn_13
   ·
    rintro n_14 _ _ _ ⟨s_12,rfl,rfl,rfl,hn_13⟩
    clear hx; obtain ⟨oo_16,hx,hd_15⟩:=Zd hn_13
    unfold dev_Check_l1 at hx
    refine Run.cc [] 6 ZF rfl (ZM rfl (fun c_15 => ?_) (fun c_15 => ?_))
    ·
     replace hx:=ZK c_15 hx
     refine Run.cl_s [] 6 ZF rfl ?_
     obtain ⟨y_16,hN_17,hx⟩:=ZY hx
     obtain ⟨b_18,o_19,cs_20,hE_21,hR_22,hl_23,hc_24⟩:=IsSlice.elem ha_2 hN_17
     obtain ⟨v_25,rfl,hs_26⟩:=hR_22
     obtain ⟨av_25,cv_25,rfl⟩:=IsSlice.val hs_26
     refine ZA rfl rfl (Zu U22 S26 rfl rfl hE_21) (ZA rfl rfl (R.ldH S26 rfl (hc_24 0 _ rfl)) (Run.llz_s [] 6 ZF rfl (ZQ (t:=26) rfl (fun c_27 => ?_) (fun c_27 => ?_))))
     ·
      replace hx:=ZK c_27 hx
      refine Run.llz [] 3 ZF rfl (ZA rfl rfl (ZV U26 rfl (IsSlice.long hs_26)) (Run.llz_bs [] 8 ZF rfl (ZA rfl rfl (Zt rfl rfl (of_decide_eq_true c_15) (IsSlice.lenI ha_2)) (Run.lnz [] 2 ZF rfl ?_))))
      replace hx:=ZX hd_15 hx
      exact JN.cut ⟨(decide ((y_16.length : Int) = 256),s_12.2 + 1),rfl,rfl,rfl,hx⟩ ⟨rfl,rfl,rfl,rfl,rfl,trivial⟩ rfl rfl
     ·
      replace hx:=ZL c_27 hx
      refine Run.llz_bs [] 9 ZF rfl (ZA rfl rfl (Zt rfl rfl (of_decide_eq_true c_15) (IsSlice.lenI ha_2)) (Run.lnz [] 2 ZF rfl ?_))
      replace hx:=ZX hd_15 hx
      exact JN.cut ⟨(false,s_12.2 + 1),rfl,rfl,rfl,hx⟩ ⟨rfl,rfl,rfl,rfl,rfl,trivial⟩ rfl rfl
    ·
     replace hx:=ZL c_15 hx
     refine Run.cnz_k [] 2 ZF rfl ?_
     obtain rfl:=Za hd_15 hx
     refine Run.nnz_kb [] 2 ZF rfl ?_
     exact JN.cut ⟨rfl,rfl,rfl⟩ ⟨rfl,rfl,trivial⟩ rfl rfl
 ·
  have hxo_6:=hx; clear hx; have hx:=ht_7; clear ht_7
  refine Run.clz [0] 3 ZF rfl (ZA rfl rfl (ZV U22 rfl (IsSlice.long ha_2)) (Run.llz [] 2 ZF rfl (ZQ (t:=12) rfl (fun c_8 => ?_) (fun c_8 => ?_))))
  ·
   replace hx:=ZK c_8 hx
   refine Run.llz [0] 5 ZF rfl (ZA rfl rfl (ZV U23 rfl (IsSlice.long ha_3)) (Run.lnz [] 5 ZF rfl ?_))
   obtain rfl:=Option.some.inj hx
   exact JN.cut ⟨rfl,rfl,rfl⟩ ⟨rfl,rfl,trivial⟩ rfl rfl
  ·
   replace hx:=ZL c_8 hx
   refine Run.lnz [] 7 ZF rfl ?_
   obtain rfl:=Option.some.inj hx
   exact JN.cut ⟨rfl,rfl,rfl⟩ ⟨rfl,rfl,trivial⟩ rfl rfl

set_option maxHeartbeats 8000000 in
theorem slices_Max_byte_ok (p_1 : List UInt8) (H : Heaplet) {aa_2 : Option Addr} {na_2 : Nat} {ca_2 : Nat} (ha_2 : IsSlice H RU8 1 (.slice aa_2 na_2 ca_2) p_1) (r : UInt8) (hx : slices_Max_byte p_1 = some r) :
  Does Tryz.prog 112 #[.slice aa_2 na_2 ca_2] [] H (fun u K' H' => u = .int .u8 (r.toNat : Int) ∧ K' = [] ∧ H = H' ∧ True):=by
 refine Does.enterL (vs:=[.slice aa_2 na_2 ca_2]) (l:=[(0,.slice aa_2 na_2 ca_2)]) Tryz.func112 rfl rfl ⟨rfl,trivial⟩ (fun w hlt => ?_)
 unfold slices_Max_byte at hx
 refine Run.cl [] 9 ZF rfl (ZA rfl rfl (ZV U26 rfl (IsSlice.long ha_2)) (Run.lcz_s [] 3 ZF rfl (ZM rfl (fun c_3 => ?_) (fun c_3 => ?_))))
 ·
  replace hx:=ZK c_3 hx
  refine JC.region ?_
  cases hx
 ·
  replace hx:=ZL c_3 hx
  refine Run.cl_s [] 5 ZF rfl ?_
  obtain ⟨y_4,hN_5,hx⟩:=ZY hx
  obtain ⟨b_6,o_7,cs_8,hE_9,hR_10,hl_11,hc_12⟩:=IsSlice.elem ha_2 hN_5
  obtain rfl:=hR_10
  refine ZA rfl rfl (Zu U26 S5 rfl rfl hE_9) (ZA rfl rfl (R.ldH S5 rfl (hc_12 0 _ rfl)) (Run.lc_s [] 9 ZF rfl ?_))
  obtain ⟨t_13,ht_15,hx⟩:=ZD hx
  refine JC.cut (fun l o g => l = [(3,.int .u8 (t_13.toNat : Int))] ∧ o = [] ∧ H = g) ?_ ?_
  ·
   rintro _ _ _ ⟨rfl,rfl,rfl⟩
   refine Run.nnz_s [] 8 ZF rfl (ZJ (vs:=[.int .u8 (t_13.toNat : Int)]) (K:=[]) (rst:=[]) (.inl rfl) rfl rfl (ZG rfl rfl) ZC ?_)
   obtain rfl:=Option.some.inj hx
   exact ⟨rfl,rfl,rfl,trivial⟩
  ·
   have hxo_14:=hx; clear hx; have hx:=ht_15; clear ht_15
   refine JC.block (Zf (fun n l o g => ∃ s_16 : UInt8 × Nat,l = [(0,.slice aa_2 na_2 ca_2),(3,.int .u8 (s_16.1.toNat : Int)),(4,.int .i64 ((s_16.2 : Nat) : Int))] ∧ o = [] ∧ H = g ∧ run (slices_Max_byte_l1 p_1) n s_16 = some t_13) FUEL ?_ ⟨(y_4,1),rfl,rfl,rfl,hx⟩ ⟨rfl,rfl,rfl,trivial⟩ ?_)
   ·
    rintro _ _ _ ⟨s_16,rfl,rfl,rfl,hn_17⟩
    exact Ze hn_17
   ·
    rintro n_18 _ _ _ ⟨s_16,rfl,rfl,rfl,hn_17⟩
    clear hx; obtain ⟨oo_20,hx,hd_19⟩:=Zd hn_17
    unfold slices_Max_byte_l1 at hx
    refine Run.cl [] 5 ZF rfl (ZA rfl rfl (ZV U26 rfl (IsSlice.long ha_2)) (Run.lcz_s [] 3 ZF rfl (ZM rfl (fun c_19 => ?_) (fun c_19 => ?_))))
    ·
     replace hx:=ZK c_19 hx
     refine Run.cl_s [] 8 ZF rfl ?_
     obtain ⟨y_20,hN_21,hx⟩:=ZY hx
     obtain ⟨b_22,o_23,cs_24,hE_25,hR_26,hl_27,hc_28⟩:=IsSlice.elem ha_2 hN_21
     obtain rfl:=hR_26
     refine ZA rfl rfl (Zu U26 S5 rfl rfl hE_25) (ZA rfl rfl (R.ldH S5 rfl (hc_28 0 _ rfl)) (ZA rfl rfl (R.max2b (a:=s_16.1) (b:=y_20) rfl rfl) (Run.llz_bs [] 6 ZF rfl (ZA rfl rfl (Zt rfl rfl (of_decide_eq_true c_19) (IsSlice.lenI ha_2)) (Run.lnz [] 2 ZF rfl ?_)))))
     replace hx:=ZX hd_19 hx
     exact JN.cut ⟨(maxB s_16.1 y_20,s_16.2 + 1),rfl,rfl,rfl,hx⟩ ⟨rfl,rfl,rfl,trivial⟩ rfl rfl
    ·
     replace hx:=ZL c_19 hx
     refine Run.cnz_k [] 2 ZF rfl ?_
     obtain rfl:=Za hd_19 hx
     refine Run.nnz_kb [] 2 ZF rfl ?_
     exact JN.cut ⟨rfl,rfl,rfl⟩ ⟨rfl,trivial⟩ rfl rfl

theorem unicode_utf8_RuneCount_ok (p_0 : List UInt8) (H : Heaplet) {ao0 : Option Addr} {n0 cap0 : Nat} (h0 : IsSlice H RU8 1 (.slice ao0 n0 cap0) p_0) (r : Int) (hx : unicode_utf8_RuneCount p_0 = some r) :
  Does Tryz.prog 176 #[.slice ao0 n0 cap0] [] H (fun u K' H' => u = .int .i64 r ∧ K' = [] ∧ H = H' ∧ True):=by cases hx

theorem bytes_Index_ok (p_0 : List UInt8) (p_1 : List UInt8) (H : Heaplet) {ao0 : Option Addr} {n0 cap0 : Nat} {ao1 : Option Addr} {n1 cap1 : Nat} (h0 : IsSlice H RU8 1 (.slice ao0 n0 cap0) p_0) (h1 : IsSlice H RU8 1 (.slice ao1 n1 cap1) p_1) (r : Int) (hx : bytes_Index p_0 p_1 = some r) :
  Does Tryz.prog 178 #[.slice ao0 n0 cap0,.slice ao1 n1 cap1] [] H (fun u K' H' => u = .int .i64 r ∧ K' = [] ∧ H = H' ∧ True):=by cases hx

set_option maxHeartbeats 8000000 in
theorem bytes_Count_ok (p_1 : List UInt8) (p_3 : List UInt8) (H : Heaplet) {aa_2 : Option Addr} {na_2 : Nat} {ca_2 : Nat} {aa_4 : Option Addr} {na_4 : Nat} {ca_4 : Nat} (ha_2 : IsSlice H RU8 1 (.slice aa_2 na_2 ca_2) p_1) (ha_4 : IsSlice H RU8 1 (.slice aa_4 na_4 ca_4) p_3) (r : Int) (hx : bytes_Count p_1 p_3 = some r) :
  Does Tryz.prog 113 #[.slice aa_2 na_2 ca_2,.slice aa_4 na_4 ca_4] [] H (fun u K' H' => u = .int .i64 r ∧ K' = [] ∧ H = H' ∧ True):=by
 refine Does.enterL (vs:=[.slice aa_2 na_2 ca_2,.slice aa_4 na_4 ca_4]) (l:=[(0,.slice aa_2 na_2 ca_2),(1,.slice aa_4 na_4 ca_4)]) Tryz.func113 rfl rfl ⟨rfl,rfl,trivial⟩ (fun w hlt => ?_)
 unfold bytes_Count at hx
 refine Run.cl [] 9 ZF rfl (ZA rfl rfl (ZV U26 rfl (IsSlice.long ha_4)) (Run.lcz_s [] 3 ZF rfl (ZM rfl (fun c_5 => ?_) (fun c_5 => ?_))))
 ·
  replace hx:=ZK c_5 hx
  refine Run.cl [] 3 ZF rfl ?_
  obtain ⟨x_6,hr_7,hx⟩:=ZD hx
  refine ZI (vs:=[_]) (args:=[_]) (K:=[]) (rst:=[]) E176 rfl rfl rfl ZC (unicode_utf8_RuneCount_ok p_1 _ ha_2 _ hr_7) rfl (fun u_8 Ku_8 Hu_8 hRu_8 hleu_8 hfu_8 => ?_)
  obtain ⟨rfl,rfl,rfl,-⟩:=hRu_8
  refine Run.lnz_sk [] 6 ZF rfl (ZJ (vs:=[.int .i64 (w64 (x_6 + 1))]) (K:=[]) (rst:=[]) (.inl rfl) rfl rfl (ZG rfl rfl) ZC ?_)
  obtain rfl:=Option.some.inj hx
  exact ⟨rfl,rfl,rfl,trivial⟩
 ·
  replace hx:=ZL c_5 hx
  refine Run.cl_s [] 6 ZF rfl (ZA rfl rfl (ZV U26 rfl (IsSlice.long ha_4)) (Run.lcz_s [] 3 ZF rfl (ZM rfl (fun c_9 => ?_) (fun c_9 => ?_))))
  ·
   replace hx:=ZK c_9 hx
   refine Run.cl [] 4 ZF rfl ?_
   obtain ⟨y_10,hN_11,hx⟩:=ZY hx
   obtain ⟨b_12,o_13,cs_14,hE_15,hR_16,hl_17,hc_18⟩:=IsSlice.elem ha_4 hN_11
   obtain rfl:=hR_16
   refine ZA rfl rfl (Zu U26 S5 rfl rfl hE_15) (ZA rfl rfl (R.ldH S5 rfl (hc_18 0 _ rfl)) (ZA rfl rfl (R.countB (m:=p_1) (c:=y_10) Tryz.func177 (by kernel_rfl) rfl (by kernel_rfl) (by kernel_rfl) rfl ha_2 rfl) ?_))
   refine Run.lnz_sk [] 5 ZF rfl (ZJ (vs:=[.int .i64 ((cntB p_1 y_10 : Nat) : Int)]) (K:=[]) (rst:=[]) (.inl rfl) rfl rfl (ZG rfl rfl) ZC ?_)
   obtain rfl:=Option.some.inj hx
   exact ⟨rfl,rfl,rfl,trivial⟩
  ·
   replace hx:=ZL c_9 hx
   refine Run.ccz_s [] 7 ZF rfl ?_
   obtain ⟨t_19,ht_21,hx⟩:=ZD hx
   have hxo_20:=hx; clear hx; have hx:=ht_21; clear ht_21
   refine JC.block (Zf (fun n l o g => ∃ s_22 : List UInt8 × Int,∃ az_25 : Option Addr,∃ nz_25 : Nat,∃ cz_25 : Nat,l = [(0,.slice az_25 nz_25 cz_25),(1,.slice aa_4 na_4 ca_4),(5,.int .i64 s_22.2)] ∧ o = [] ∧ H = g ∧ run (bytes_Count_l1 p_3) n s_22 = some t_19 ∧ IsSlice H RU8 1 (.slice az_25 nz_25 cz_25) s_22.1) FUEL ?_ ⟨(p_1,0),aa_2,na_2,ca_2,rfl,rfl,rfl,hx,ha_2⟩ ⟨rfl,rfl,rfl,trivial⟩ ?_)
   ·
    rintro _ _ _ ⟨s_22,az_25,nz_25,cz_25,rfl,rfl,rfl,hn_23,hz_25⟩
    exact Ze hn_23
   ·
    rintro n_24 _ _ _ ⟨s_22,az_25,nz_25,cz_25,rfl,rfl,rfl,hn_23,hz_25⟩
    clear hx; obtain ⟨oo_27,hx,hd_26⟩:=Zd hn_23
    unfold bytes_Count_l1 at hx
    refine Run.cl [] 5 ZF rfl ?_
    obtain ⟨x_26,hr_27,hx⟩:=ZD hx
    refine ZI (vs:=[_,_]) (args:=[_,_]) (K:=[]) (rst:=[]) E178 rfl rfl rfl ZC (bytes_Index_ok s_22.1 p_3 _ hz_25 ha_4 _ hr_27) rfl (fun u_28 Ku_28 Hu_28 hRu_28 hleu_28 hfu_28 => ?_)
    obtain ⟨rfl,rfl,rfl,-⟩:=hRu_28
    refine Run.lc_s [] 10 ZF rfl (ZM rfl (fun c_29 => ?_) (fun c_29 => ?_))
    ·
     replace hx:=ZK c_29 hx
     refine Run.cnz_kb [] 9 ZF rfl ?_
     obtain rfl:=Za hd_26 hx
     refine Run.nnz_kb [] 2 ZF rfl ?_
     clear hx; have hx:=hxo_20
     refine ZJ (vs:=[.int .i64 s_22.2]) (K:=[]) (rst:=[]) (.inl rfl) rfl rfl (ZG rfl rfl) ZC ?_
     obtain rfl:=Option.some.inj hx
     exact ⟨rfl,rfl,rfl,trivial⟩
    ·
     replace hx:=ZL c_29 hx
     refine Run.clz_s [] 13 ZF rfl (ZA rfl rfl (ZV U26 rfl (IsSlice.long ha_4)) (ZA rfl rfl (R.add_i rfl rfl) ?_))
     obtain ⟨m_30,hm_32,hb_31,hx⟩:=slc_some hx
     obtain ⟨vv_33,cv_33,h1v_33,h2v_33,h3v_33,hsv_33⟩:=IsSlice.cutv hz_25 hm_32 hb_31
     refine ZA rfl rfl (R.slc (cap:=cv_33) (a:=w64 (x_26 + (p_3.length : Int))) (b:=(s_22.1.length : Int)) (c:=(cv_33 : Int)) (m:=s_22.1) (R:=RU8) U26 S5 rfl ⟨_,rfl⟩ rfl (by obtain ⟨ao,n,e,_⟩:=h1v_33; exact ⟨ao,n,e,rfl⟩) ⟨hb_31.1,hb_31.2.1,h2v_33⟩ h3v_33 (.inl rfl)) ?_
     obtain ⟨av_33,cv_33',rfl⟩:=IsSlice.val hsv_33
     refine Run.lnz_b [] 3 ZF rfl ?_
     replace hx:=ZX hd_26 hx
     exact JN.cut ⟨(m_30,w64 (s_22.2 + 1)),av_33,m_30.length,cv_33',rfl,rfl,rfl,hx,hsv_33⟩ ⟨rfl,rfl,rfl,trivial⟩ rfl rfl

set_option maxHeartbeats 8000000 in
theorem space_Check_ok (p_1 : List UInt8) (H : Heaplet) {aa_2 : Option Addr} {na_2 : Nat} {ca_2 : Nat} (ha_2 : IsSlice H RU8 1 (.slice aa_2 na_2 ca_2) p_1) (r : Int) (hx : space_Check p_1 = some r) :
  Does Tryz.prog 56 #[.slice aa_2 na_2 ca_2] [] H (fun u K' H' => u = .int .i64 r ∧ K' = [] ∧ H = H' ∧ True):=by
 refine Does.enterL (vs:=[.slice aa_2 na_2 ca_2]) (l:=[(0,.slice aa_2 na_2 ca_2)]) Tryz.func56 rfl rfl ⟨rfl,trivial⟩ (fun w hlt => ?_)
 unfold space_Check at hx
 refine Run.cl [] 9 ZF rfl (ZA rfl rfl (ZV U26 rfl (IsSlice.long ha_2)) (Run.llz [] 2 ZF rfl (ZQ (t:=6) rfl (fun c_3 => ?_) (fun c_3 => ?_))))
 ·
  replace hx:=ZK c_3 hx
  refine Run.lnz_sk [] 21 ZF rfl (ZJ (vs:=[.int .i64 8]) (K:=[]) (rst:=[]) (.inl rfl) rfl rfl (ZG rfl rfl) ZC ?_)
  obtain rfl:=Option.some.inj hx
  exact ⟨rfl,rfl,rfl,trivial⟩
 ·
  replace hx:=ZL c_3 hx
  refine Run.llz [] 3 ZF rfl ?_
  obtain ⟨x_4,hr_5,hx⟩:=ZD hx
  refine ZI (vs:=[_]) (args:=[_]) (K:=[]) (rst:=[]) E112 rfl rfl rfl ZC (slices_Max_byte_ok p_1 _ ha_2 _ hr_5) rfl (fun u_6 Ku_6 Hu_6 hRu_6 hleu_6 hfu_6 => ?_)
  obtain ⟨rfl,rfl,rfl,-⟩:=hRu_6
  refine JL.gYes rfl rfl rfl (ZA rfl rfl (R.gtr8 (a:=x_4) (b:=(2 : UInt8)) rfl rfl) (Run.llz [] 2 ZF rfl (ZQ (t:=11) rfl (fun c_7 => ?_) (fun c_7 => ?_))))
  ·
   replace hx:=ZK c_7 hx
   refine Run.lnz_sk [] 16 ZF rfl (ZJ (vs:=[.int .i64 8]) (K:=[]) (rst:=[]) (.inl rfl) rfl rfl (ZG rfl rfl) ZC ?_)
   obtain rfl:=Option.some.inj hx
   exact ⟨rfl,rfl,rfl,trivial⟩
  ·
   replace hx:=ZL c_7 hx
   refine Run.llz [] 3 ZF rfl ?_
   obtain ⟨m_8,hm_10,hb_9,hx⟩:=slc_some hx
   obtain ⟨vv_11,cv_11,h1v_11,h2v_11,h3v_11,hsv_11⟩:=IsSlice.cutv ha_2 hm_10 hb_9
   refine ZA rfl rfl (R.slc (cap:=cv_11) (a:=0) (b:=12) (c:=(cv_11 : Int)) (m:=p_1) (R:=RU8) U26 S5 rfl rfl ⟨_,rfl⟩ (by obtain ⟨ao,n,e,_⟩:=h1v_11; exact ⟨ao,n,e,rfl⟩) ⟨hb_9.1,hb_9.2.1,h2v_11⟩ h3v_11 (.inl rfl)) ?_
   obtain ⟨av_11,cv_11',rfl⟩:=IsSlice.val hsv_11
   refine JL.gYes rfl rfl rfl (JL.bslF (HF:=(New H H)) (R:=RU8) (ls:=[(1 : UInt8)]) (vs:=[.int .u8 ((1 : UInt8).toNat : Int)]) U26 I5 rfl rfl (⟨_,_,rfl,rfl,rfl,rfl⟩) RU8.one rfl rfl rfl (by simp [maxLen]) rfl (fun vr_12 Kr_12 hr_12 => ?_))
   obtain ⟨ar_12,cr_12,rfl⟩:=RowOf.val hr_12
   refine JL.gYes rfl rfl rfl ?_
   obtain ⟨x_16,hr_17,hx⟩:=ZD hx
   refine JL.callL2 (vs:=[_,_]) (v:=.int .i64 x_16) E113 rfl rfl (fun H_15 hle_14 hl_13 => Does.mono (bytes_Count_ok m_8 ([(1 : UInt8)]) _ (IsSlice.mono RU8.mono hle_14 hsv_11) (Lent.row' 0 hl_13 RU8.mono hle_14 rfl (hr_12.old RU8.mono)) _ hr_17) (fun _ _ _ h => h.1)) rfl (Run.lcz_s [] 5 ZF rfl (ZM rfl (fun c_18 => ?_) (fun c_18 => ?_)))
   ·
    replace hx:=ZK c_18 hx
    refine Run.cnz_k [] 7 ZF rfl (ZJ (vs:=[.int .i64 8]) (K:=[]) (rst:=[_]) (.inl rfl) rfl rfl (ZG rfl rfl) ZC ?_)
    obtain rfl:=Option.some.inj hx
    exact ⟨rfl,rfl,rfl,trivial⟩
   ·
    replace hx:=ZL c_18 hx
    refine Run.cnz_s [] 8 ZF rfl (ZJ (vs:=[.int .i64 0]) (K:=[]) (rst:=[_]) (.inl rfl) rfl rfl (ZG rfl rfl) ZC ?_)
    obtain rfl:=Option.some.inj hx
    exact ⟨rfl,rfl,rfl,trivial⟩

set_option maxHeartbeats 8000000 in
theorem store_Check_ok (p_1 : Store) (H : Heaplet) {aa_2 : Option Addr} {na_2 : Nat} {ca_2 : Nat} {aa_3 : Option Addr} {na_3 : Nat} {ca_3 : Nat} {aa_4 : Option Addr} {na_4 : Nat} {ca_4 : Nat} (ha_2 : IsSlice H (RSl RU8 1) 1 (.slice aa_2 na_2 ca_2) p_1.Disk.Blocks) (ha_3 : IsSlice H R_Write 2 (.slice aa_3 na_3 ca_3) p_1.Disk.Waits) (ha_4 : IsSlice H RU8 1 (.slice aa_4 na_4 ca_4) p_1.Space) (r : Int) (hx : store_Check p_1 = some r) :
  Does Tryz.prog 16 #[.agg #[.slice aa_2 na_2 ca_2,.slice aa_3 na_3 ca_3,.slice aa_4 na_4 ca_4,.int .u32 (p_1.Epoch.toNat : Int),.int .u32 (p_1.Count.toNat : Int)]] [] H (fun u K' H' => u = .int .i64 r ∧ K' = [] ∧ H = H' ∧ True):=by
 refine Does.enterL (vs:=[.agg #[.slice aa_2 na_2 ca_2,.slice aa_3 na_3 ca_3,.slice aa_4 na_4 ca_4,.int .u32 (p_1.Epoch.toNat : Int),.int .u32 (p_1.Count.toNat : Int)]]) (l:=[(0,.agg #[.slice aa_2 na_2 ca_2,.slice aa_3 na_3 ca_3,.slice aa_4 na_4 ca_4,.int .u32 (p_1.Epoch.toNat : Int),.int .u32 (p_1.Count.toNat : Int)])]) Tryz.func16 rfl rfl ⟨rfl,trivial⟩ (fun w hlt => ?_)
 unfold store_Check at hx
 refine Run.cl [] 2 ZF rfl (Zk rfl rfl (fun b_5 hb_5 => Run.ll_s [0] 8 ZF rfl ?_))
 obtain ⟨x_6,hr_7,hx⟩:=ZD hx
 refine ZI (vs:=[_]) (args:=[_]) (K:=[]) (rst:=[_]) E55 rfl rfl rfl ZC (dev_Check_ok (Disk.mk p_1.Disk.Blocks p_1.Disk.Waits) _ ha_2 ha_3 _ hr_7) rfl (fun u_8 Ku_8 Hu_8 hRu_8 hleu_8 hfu_8 => ?_)
 obtain ⟨rfl,rfl,rfl,-⟩:=hRu_8
 refine Run.llz [] 2 ZF rfl (ZQ (t:=7) rfl (fun c_9 => ?_) (fun c_9 => ?_))
 ·
  replace hx:=ZK c_9 hx
  refine Run.lnz_sk [] 30 ZF rfl (ZJ (vs:=[.int .i64 8]) (K:=[]) (rst:=[_]) (.inl rfl) rfl rfl (ZG rfl rfl) ZC ?_)
  obtain rfl:=Option.some.inj hx
  exact ⟨rfl,rfl,rfl,trivial⟩
 ·
  replace hx:=ZL c_9 hx
  refine Run.llz [0] 5 ZF rfl ?_
  obtain ⟨x_10,hr_11,hx⟩:=ZD hx
  refine ZI (vs:=[_]) (args:=[_]) (K:=[]) (rst:=[_]) E56 rfl rfl rfl ZC (space_Check_ok p_1.Space _ ha_4 _ hr_11) rfl (fun u_12 Ku_12 Hu_12 hRu_12 hleu_12 hfu_12 => ?_)
  obtain ⟨rfl,rfl,rfl,-⟩:=hRu_12
  refine Run.llz [] 4 ZF rfl (ZQ (t:=13) rfl (fun c_13 => ?_) (fun c_13 => ?_))
  ·
   replace hx:=ZK c_13 hx
   refine Run.lnz_sk [] 24 ZF rfl (ZJ (vs:=[.int .i64 8]) (K:=[]) (rst:=[_]) (.inl rfl) rfl rfl (ZG rfl rfl) ZC ?_)
   obtain rfl:=Option.some.inj hx
   exact ⟨rfl,rfl,rfl,trivial⟩
  ·
   replace hx:=ZL c_13 hx
   refine Run.llz [0] 5 ZF rfl (ZA rfl rfl (R.lss32 (a:=p_1.Epoch) (b:=(1 : UInt32)) rfl rfl) (Run.llz [] 2 ZF rfl (ZQ (t:=18) rfl (fun c_14 => ?_) (fun c_14 => ?_))))
   ·
    replace hx:=ZK c_14 hx
    refine Run.lnz_sk [] 19 ZF rfl (ZJ (vs:=[.int .i64 8]) (K:=[]) (rst:=[_]) (.inl rfl) rfl rfl (ZG rfl rfl) ZC ?_)
    obtain rfl:=Option.some.inj hx
    exact ⟨rfl,rfl,rfl,trivial⟩
   ·
    replace hx:=ZL c_14 hx
    refine Run.llz [0] 5 ZF rfl (ZA rfl rfl (R.gtr32 (a:=p_1.Epoch) (b:=(65535 : UInt32)) rfl rfl) (Run.llz [] 2 ZF rfl (ZQ (t:=23) rfl (fun c_15 => ?_) (fun c_15 => ?_))))
    ·
     replace hx:=ZK c_15 hx
     refine Run.lnz_sk [] 14 ZF rfl (ZJ (vs:=[.int .i64 8]) (K:=[]) (rst:=[_]) (.inl rfl) rfl rfl (ZG rfl rfl) ZC ?_)
     obtain rfl:=Option.some.inj hx
     exact ⟨rfl,rfl,rfl,trivial⟩
    ·
     replace hx:=ZL c_15 hx
     refine Run.llz [0] 5 ZF rfl (ZA rfl rfl (R.gtr32 (a:=p_1.Count) (b:=(65535 : UInt32)) rfl rfl) (Run.lcz_s [] 3 ZF rfl (ZM rfl (fun c_16 => ?_) (fun c_16 => ?_))))
     ·
      replace hx:=ZK c_16 hx
      refine Run.cnz_k [] 7 ZF rfl (ZJ (vs:=[.int .i64 8]) (K:=[]) (rst:=[_]) (.inl rfl) rfl rfl (ZG rfl rfl) ZC ?_)
      obtain rfl:=Option.some.inj hx
      exact ⟨rfl,rfl,rfl,trivial⟩
     ·
      replace hx:=ZL c_16 hx
      refine Run.cnz_s [] 8 ZF rfl (ZJ (vs:=[.int .i64 0]) (K:=[]) (rst:=[_]) (.inl rfl) rfl rfl (ZG rfl rfl) ZC ?_)
      obtain rfl:=Option.some.inj hx
      exact ⟨rfl,rfl,rfl,trivial⟩

set_option maxHeartbeats 8000000 in
theorem ptr_Check_ok (p_1 : Ptr) (H : Heaplet) (r : Int) (hx : ptr_Check p_1 = some r) :
  Does Tryz.prog 42 #[.agg #[.int .i64 p_1.At,.int .u32 (p_1.Birth.toNat : Int),.int .u32 (p_1.Iv.toNat : Int),.int .u32 (p_1.Tag.toNat : Int),.int .u32 (p_1.Sum.toNat : Int)]] [] H (fun u K' H' => u = .int .i64 r ∧ K' = [] ∧ H = H' ∧ True):=by
 refine Does.enterL (vs:=[.agg #[.int .i64 p_1.At,.int .u32 (p_1.Birth.toNat : Int),.int .u32 (p_1.Iv.toNat : Int),.int .u32 (p_1.Tag.toNat : Int),.int .u32 (p_1.Sum.toNat : Int)]]) (l:=[(0,.agg #[.int .i64 p_1.At,.int .u32 (p_1.Birth.toNat : Int),.int .u32 (p_1.Iv.toNat : Int),.int .u32 (p_1.Tag.toNat : Int),.int .u32 (p_1.Sum.toNat : Int)])]) Tryz.func42 rfl rfl ⟨rfl,trivial⟩ (fun w hlt => ?_)
 unfold ptr_Check at hx
 refine Run.cl [] 2 ZF rfl (Zk rfl rfl (fun b_2 hb_2 => Run.ll_s [0] 8 ZF rfl (ZA rfl rfl (R.eqlAgg QU31 QP31 QG31 QF31 rfl rfl (EqF.i (by decide) S3 U3 rfl rfl (EqF.u32 (a:=p_1.Birth) (b:=(0 : UInt32)) (by decide) S27 U27 rfl rfl (EqF.u32 (a:=p_1.Iv) (b:=(0 : UInt32)) (by decide) S27 U27 rfl rfl (EqF.u32 (a:=p_1.Tag) (b:=(0 : UInt32)) (by decide) S27 U27 rfl rfl (EqF.u32 (a:=p_1.Sum) (b:=(0 : UInt32)) (by decide) S27 U27 rfl rfl EqF.nil)))))) ?_)))
 refine Run.lcz_s [] 2 ZF rfl (ZM rfl (fun c_3 => ?_) (fun c_3 => ?_))
 ·
  replace hx:=ZK c_3 hx
  refine Run.cnz_k [] 7 ZF rfl (ZJ (vs:=[.int .i64 0]) (K:=[]) (rst:=[_]) (.inl rfl) rfl rfl (ZG rfl rfl) ZC ?_)
  obtain rfl:=Option.some.inj hx
  exact ⟨rfl,rfl,rfl,trivial⟩
 ·
  replace hx:=ZL c_3 hx
  refine Run.cl_s [0] 9 ZF rfl (ZQ (t:=9) rfl (fun c_4 => ?_) (fun c_4 => ?_))
  ·
   replace hx:=ZK c_4 hx
   refine Run.lnz_sk [] 24 ZF rfl (ZJ (vs:=[.int .i64 8]) (K:=[]) (rst:=[_]) (.inl rfl) rfl rfl (ZG rfl rfl) ZC ?_)
   obtain rfl:=Option.some.inj hx
   exact ⟨rfl,rfl,rfl,trivial⟩
  ·
   replace hx:=ZL c_4 hx
   refine Run.llz [0] 8 ZF rfl (ZQ (t:=14) rfl (fun c_5 => ?_) (fun c_5 => ?_))
   ·
    replace hx:=ZK c_5 hx
    refine Run.lnz_sk [] 19 ZF rfl (ZJ (vs:=[.int .i64 8]) (K:=[]) (rst:=[_]) (.inl rfl) rfl rfl (ZG rfl rfl) ZC ?_)
    obtain rfl:=Option.some.inj hx
    exact ⟨rfl,rfl,rfl,trivial⟩
   ·
    replace hx:=ZL c_5 hx
    refine Run.llz [0] 5 ZF rfl (ZA rfl rfl (R.lss32 (a:=p_1.Birth) (b:=(1 : UInt32)) rfl rfl) (Run.llz [] 2 ZF rfl (ZQ (t:=19) rfl (fun c_6 => ?_) (fun c_6 => ?_))))
    ·
     replace hx:=ZK c_6 hx
     refine Run.lnz_sk [] 14 ZF rfl (ZJ (vs:=[.int .i64 8]) (K:=[]) (rst:=[_]) (.inl rfl) rfl rfl (ZG rfl rfl) ZC ?_)
     obtain rfl:=Option.some.inj hx
     exact ⟨rfl,rfl,rfl,trivial⟩
    ·
     replace hx:=ZL c_6 hx
     refine Run.llz [0] 5 ZF rfl (ZA rfl rfl (R.gtr32 (a:=p_1.Birth) (b:=(16777215 : UInt32)) rfl rfl) (Run.lcz_s [] 3 ZF rfl (ZM rfl (fun c_7 => ?_) (fun c_7 => ?_))))
     ·
      replace hx:=ZK c_7 hx
      refine Run.cnz_k [] 7 ZF rfl (ZJ (vs:=[.int .i64 8]) (K:=[]) (rst:=[_]) (.inl rfl) rfl rfl (ZG rfl rfl) ZC ?_)
      obtain rfl:=Option.some.inj hx
      exact ⟨rfl,rfl,rfl,trivial⟩
     ·
      replace hx:=ZL c_7 hx
      refine Run.cnz_s [] 8 ZF rfl (ZJ (vs:=[.int .i64 0]) (K:=[]) (rst:=[_]) (.inl rfl) rfl rfl (ZG rfl rfl) ZC ?_)
      obtain rfl:=Option.some.inj hx
      exact ⟨rfl,rfl,rfl,trivial⟩

theorem slices_Clone_byte_L_ok (p_1 : List (List UInt8)) (H : Heaplet) {ao : Option Addr} {n cap : Nat} (hs : IsSlice H (RSl RU8 1) 1 (.slice ao n cap) p_1) (r : List (List UInt8)) (hx : slices_Clone_byte_L p_1 = some r) :
  Does Tryz.prog 160 #[.slice ao n cap] [] H (fun u K' H' => ∃ ao0 : Option Addr,∃ n0 : Nat,∃ cap0 : Nat,∃ K0 : Own,u = .slice ao0 n0 cap0 ∧ K' = [K0] ∧ H = H' ∧ RowOf H' (RSl RU8 1) 0 26 1 (.slice ao0 n0 cap0) r K0 ∧ (∀ p ∈ K0,p.1 ∉ ids (List.flatten [])) ∧ True):=by
 rw [slices_Clone_byte_L.eq_1] at hx
 obtain ⟨q,hq,hl,hx⟩:=Zo hx
 obtain rfl:=Option.some.inj hx
 refine Does.enter (vs:=[.slice ao n cap]) (l:=[(0,.slice ao n cap)]) Tryz.func160 rfl rfl ⟨rfl,trivial⟩ (fun w => Run.cl [] 9 ZF rfl (ZA rfl rfl (R.eqlNil U22 rfl rfl) (Run.lcz_s [] 2 ZF rfl ?_)))
 cases ao with
 | none =>
  have hp:=hs.none_nil
  subst hp
  simp only [List.append_nil] at hq
  subst hq
  refine Run.cnz_k [] 8 ZF rfl (Zj (ZJ (vs:=[.slice none 0 0]) (K:=[_]) (rst:=[]) (.inl rfl) rfl rfl (ZG rfl rfl) (ZO 0 rfl ZC) ?_))
  exact ⟨none,0,0,[],rfl,rfl,rfl,ZR _ _ _ _ _,(fun p hp => by cases hp),trivial⟩
 | some a =>
  refine Run.cl_s [] 5 ZF rfl (JL.bslF (HF:=H) (R:=(RSl RU8 1)) (ls:=[]) (vs:=[]) U22 I26 rfl rfl rfl RSl.one rfl rfl rfl (by simp [maxLen]) rfl (fun v1 K1 h1 => ?_))
  obtain ⟨ao1,cap1,rfl⟩:=RowOf.val h1
  refine ZA rfl rfl (ZZ rfl) (Zr (HF:=H) 0 U22 I26 rfl rfl h1 rfl (SrcF.slice RSl.one U22 (Hle.refl _) hs) hq hl rfl (Nat.le_refl _) rfl (fun v2 K2 h2 => ?_))
  obtain ⟨ao2,cap2,rfl⟩:=RowOf.val h2
  refine Run.lnz_s [] 4 ZF rfl (ZJ (vs:=[.slice ao2 _ cap2]) (K:=[_]) (rst:=[]) (.inl rfl) rfl rfl (ZG rfl rfl) (ZO 0 rfl ZC) ?_)
  exact ⟨_,_,_,_,rfl,rfl,rfl,ZT (Nat.zero_le _) h2,(fun p hp hm => by cases hm),trivial⟩

set_option maxHeartbeats 8000000 in
theorem dev_all_ok (p_1 : Int) (H : Heaplet) (r : Bool) (hx : dev_all p_1 = some r) :
  Does Tryz.prog 102 #[.int .i64 p_1] [] H (fun u K' H' => u = .bool r ∧ K' = [] ∧ H = H' ∧ True):=by
 refine Does.enterL (vs:=[.int .i64 p_1]) (l:=[(0,.int .i64 p_1)]) Tryz.func102 rfl rfl ⟨rfl,trivial⟩ (fun w hlt => ?_)
 unfold dev_all at hx
 refine Run.cnz [] 11 ZF rfl (ZJ (vs:=[.bool true]) (K:=[]) (rst:=[]) (.inl rfl) rfl rfl (ZG rfl rfl) ZC ?_)
 obtain rfl:=Option.some.inj hx
 exact ⟨rfl,rfl,rfl,trivial⟩

set_option maxHeartbeats 8000000 in
theorem dev_lasts_ok (p_1 : Disk) (H : Heaplet) {va_2 : Value} {aa_3 : Option Addr} {na_3 : Nat} {ca_3 : Nat} (ha_3 : IsSlice H R_Write 2 (.slice aa_3 na_3 ca_3) p_1.Waits) (r : (List (Int × Write))) (hx : dev_lasts p_1 = some r) :
  Does Tryz.prog 161 #[.agg #[va_2,.slice aa_3 na_3 ca_3],.func (.func 102) #[] #[]] [] H (fun u K' H' => ∃ ao0 : Option Addr,∃ n0 : Nat,∃ cap0 : Nat,∃ K0 : Own,u = .map (some n0) ∧ K' = [K0] ∧ H = H' ∧ MapOf H R_Write 0 n0 r K0 ∧ (∀ p ∈ K0,p.1 ∉ ids (List.flatten [])) ∧ True):=by
 refine Does.enterL (vs:=[.agg #[va_2,.slice aa_3 na_3 ca_3],.func (.func 102) #[] #[]]) (l:=[(0,.agg #[va_2,.slice aa_3 na_3 ca_3]),(1,.func (.func 102) #[] #[])]) Tryz.func161 rfl rfl ⟨rfl,rfl,trivial⟩ (fun w hlt => ?_)
 unfold dev_lasts at hx
 refine Run.cl [] 2 ZF rfl (Zk rfl rfl (fun b_4 hb_4 => Run.ll_s [] 5 ZF rfl (JL.mkMapF (New H H) R_Write rfl (fun nr_5 Kr_5 hr_5 => Run.ll_s [1] 8 ZF rfl (ZA rfl rfl (ZV U23 rfl (IsSlice.long ha_3)) (Run.lcz_s [] 3 ZF rfl ?_))))))
 obtain ⟨t_6,ht_8,hx⟩:=ZD hx
 refine JC.cut (fun l o g => ∃ Kr_13 : Own,l = [(5,.map (some nr_5))] ∧ o = [Kr_13] ∧ H = g ∧ MapOf H R_Write w.heap.size nr_5 t_6 Kr_13) ?_ ?_
 ·
  rintro _ _ _ ⟨Kr_13,rfl,rfl,rfl,hr_13⟩
  refine Run.nnz_s [] 8 ZF rfl (ZJ (vs:=[.map (some nr_5)]) (K:=[_]) (rst:=[]) (.inl rfl) rfl rfl (ZG rfl rfl) (ZO 0 rfl ZC) ?_)
  obtain rfl:=Option.some.inj hx
  exact ⟨none,nr_5,0,Kr_13,rfl,rfl,rfl,(MapOf.weak (Nat.zero_le _) hr_13),(newM_ids hr_13 hlt),trivial⟩
 ·
  have hxo_7:=hx; clear hx; have hx:=ht_8; clear ht_8
  refine JC.block (JC.forget 1 (Zf (fun n l o g => ∃ s_9 : (List (Int × Write)) × Nat,∃ Kr_12 : Own,l = [(1,.func (.func 102) #[] #[]),(5,.map (some nr_5)),(10,.slice aa_3 na_3 ca_3),(11,.int .i64 (p_1.Waits.length : Int)),(12,.int .i64 ((s_9.2 : Nat) : Int))] ∧ o = [Kr_12] ∧ H = g ∧ run (dev_lasts_l1 p_1) n s_9 = some t_6 ∧ MapOf H R_Write w.heap.size nr_5 s_9.1 Kr_12) FUEL ?_ ⟨(([] : List (Int × Write)),0),Kr_5,rfl,rfl,rfl,hx,(hr_5.old R_Write.mono)⟩ ⟨rfl,rfl,rfl,rfl,rfl,trivial⟩ ?_))
  ·
   rintro _ _ _ ⟨s_9,Kr_12,rfl,rfl,rfl,hn_10,hr_12⟩
   exact Ze hn_10
  ·
   rintro n_11 _ _ _ ⟨s_9,Kr_12,rfl,rfl,rfl,hn_10,hr_12⟩
   clear hx; obtain ⟨oo_14,hx,hd_13⟩:=Zd hn_10
   unfold dev_lasts_l1 at hx
   refine Run.cc [] 6 ZF rfl (ZM rfl (fun c_13 => ?_) (fun c_13 => ?_))
   ·
    replace hx:=ZK c_13 hx
    refine Run.cl_s [] 7 ZF rfl ?_
    obtain ⟨y_14,hN_15,hx⟩:=ZY hx
    obtain ⟨b_16,o_17,cs_18,hE_19,hR_20,hl_21,hc_22⟩:=IsSlice.elem ha_3 hN_15
    obtain ⟨v_23,rfl,hs_24⟩:=hR_20
    obtain ⟨av_23,cv_23,rfl⟩:=IsSlice.val hs_24
    refine ZA rfl rfl (Zu U23 S96 rfl rfl hE_19) (ZA rfl rfl (R.ldHE (cs:=[.int .i64 y_14.At,.slice av_23 y_14.Data.length cv_23]) (k:=0) (vs:=[.int .i64 y_14.At,.slice av_23 y_14.Data.length cv_23]) S96 rfl hc_22 rfl rfl) (JL.alloc Z96 rfl (fun b_25 hb_25 => Run.ll_s [0] 8 ZF rfl ?_)))
    obtain ⟨x_26,hr_27,hx⟩:=ZD hx
    refine ZI (vs:=[_]) (args:=[_]) (K:=[]) (rst:=[_,_]) E102 rfl rfl rfl ZC (dev_all_ok ((s_9.2 : Nat) : Int) _ _ hr_27) rfl (fun u_28 Ku_28 Hu_28 hRu_28 hleu_28 hfu_28 => ?_)
    obtain ⟨rfl,rfl,rfl,-⟩:=hRu_28
    refine Run.lcz_s [] 2 ZF rfl (ZM rfl (fun c_29 => ?_) (fun c_29 => ?_))
    ·
     replace hx:=ZK c_29 hx
     refine Run.clz [0,0] 5 ZF rfl (JL.mapUpdF 1 (cs:=[.int .i64 y_14.At,.slice av_23 y_14.Data.length cv_23]) U215 U3 rfl rfl rfl rfl hr_12 ⟨_,rfl,hs_24⟩ (fun Kr_30 hr_30 => Run.llz_bs [] 4 ZF rfl (ZA rfl rfl (Zt rfl rfl (of_decide_eq_true c_13) (IsSlice.lenI ha_3)) (Run.lnz [] 2 ZF rfl ?_))))
     replace hx:=ZX hd_13 hx
     refine JN.forget 0 ?_
     exact JN.cut ⟨((putM s_9.1 y_14.At y_14),s_9.2 + 1),Kr_30,rfl,rfl,rfl,hx,hr_30⟩ ⟨rfl,rfl,rfl,rfl,rfl,trivial⟩ rfl rfl
    ·
     replace hx:=ZL c_29 hx
     refine Run.clz_bs [] 4 ZF rfl (ZA rfl rfl (Zt rfl rfl (of_decide_eq_true c_13) (IsSlice.lenI ha_3)) (Run.lnz [] 2 ZF rfl ?_))
     replace hx:=ZX hd_13 hx
     refine JN.forget 0 ?_
     exact JN.cut ⟨(s_9.1,s_9.2 + 1),Kr_12,rfl,rfl,rfl,hx,hr_12⟩ ⟨rfl,rfl,rfl,rfl,rfl,trivial⟩ rfl rfl
   ·
    replace hx:=ZL c_13 hx
    refine Run.cnz_k [] 2 ZF rfl ?_
    obtain rfl:=Za hd_13 hx
    refine Run.nnz_kb [] 2 ZF rfl ?_
    exact JN.cut ⟨Kr_12,rfl,rfl,rfl,hr_12⟩ ⟨rfl,trivial⟩ rfl rfl

set_option maxHeartbeats 8000000 in
theorem dev_cut_ok (p_1 : List Int) (H : Heaplet) {ao : Option Addr} {n cap : Nat} (hs : IsSlice H RInt 1 (.slice ao n cap) p_1) (r : List (List UInt8)) (hx : dev_cut p_1 = some r) :
  Does Tryz.prog 111 #[.slice ao n cap] [] H (fun u K' H' => ∃ ao0 : Option Addr,∃ n0 : Nat,∃ cap0 : Nat,∃ K0 : Own,u = .slice ao0 n0 cap0 ∧ K' = [K0] ∧ H = H' ∧ Pcs 0 5 26 (.slice ao0 n0 cap0) r K0 ∧ (∀ p ∈ K0,p.1 ∉ ids (List.flatten [])) ∧ True):=by
 unfold dev_cut at hx
 split at hx
 case isFalse => cases hx
 rename_i hp
 obtain rfl:=Option.some.inj hx
 obtain ⟨ns,hns⟩ : ∃ ns,ns = p_1.map Int.toNat:=⟨_,rfl⟩
 have hpn : p_1 = ns.map (fun n : Nat => (n : Int)):=by
  rw [hns,List.map_map]
  have : ∀ (q : List Int),(∀ n ∈ q,0 ≤ n) → q = q.map ((fun n : Nat => (n : Int)) ∘ Int.toNat):=by
   intro q
   induction q with
   | nil => intro _; rfl
   | cons y q ih => intro h; rw [List.map_cons,← ih (fun n hn => h n (by simp [hn]))]; congr 1; have:=h y (by simp); simp only [Function.comp]; omega
  exact this _ hp.1
 have hsum : ns.sum ≤ LIM:=by rw [hns]; exact hp.2.1
 have hlen : ns.length ≤ LIM:=by rw [hns,List.length_map]; exact hp.2.2
 have hpl : p_1.length = ns.length:=by rw [hns,List.length_map]
 have hat : ∀ i,i < ns.length → ∃ y : Nat,ns[i]? = some y ∧ Nth p_1 (i : Int) (y : Int):=fun i hi => by
  refine ⟨ns[i],List.getElem?_eq_getElem hi,Int.natCast_nonneg i,?_⟩
  rw [hpn]; simp [hi]
 have htk : ∀ i,(ns.take i).sum ≤ ns.sum:=fun i => by
  have:=congrArg List.sum (List.take_append_drop i ns)
  rw [List.sum_append] at this; omega
 have hstep : ∀ i y,ns[i]? = some y → ns.take (i + 1) = ns.take i ++ [y]:=fun i y h => by rw [List.take_add_one,h]; rfl
 have hL : LIM = 1099511627776:=rfl
 have hr : (p_1.map fun n => List.replicate n.toNat (0 : UInt8)) = ns.map fun n => List.replicate n 0:=by rw [hpn,List.map_map]; rfl
 rw [hr]
 clear hr
 obtain ⟨ao,cap,e0⟩:=hs.val
 rw [e0] at hs
 simp only [e0]
 rw [hpl] at hs ⊢
 refine Does.enterL (vs:=[.slice ao ns.length cap]) (l:=[(0,.slice ao ns.length cap)]) Tryz.func111 rfl rfl ⟨rfl,trivial⟩ (fun w hlt => Run.cc [] 11 ZF rfl ?_)
 -- how many in all
 refine JC.cut (fun l o g => l = [(0,.slice ao ns.length cap),(2,.slice none 0 0),(3,.int .i64 ((ns.sum : Nat) : Int))] ∧ o = [] ∧ H = g) ?_ ?_
 rotate_left
 ·
  refine Run.cl [] 3 ZF rfl (ZA rfl rfl (ZV U51 rfl ⟨_,_,rfl⟩) (Run.lc_s [] 4 ZF rfl (JC.loop (ι:=Nat) (fun i => [(0,.slice ao ns.length cap),(2,.slice none 0 0),(9,.slice ao ns.length cap),(10,.int .i64 (ns.length : Int)),(3,.int .i64 (((ns.take i).sum : Nat) : Int)),(11,.int .i64 ((i : Nat) : Int))]) (fun _ => []) (fun _ => H) (fun i => i ≤ ns.length) (fun i => ns.length - i) 0 (Nat.zero_le _) ⟨rfl,rfl,rfl,rfl,rfl,rfl,trivial⟩ rfl rfl ?_)))
  intro i hi
  refine Run.cc [] 6 ZF rfl (ZM rfl (fun c => ?_) (fun c => ?_))
  ·
   have hlt' : i < ns.length:=by have:=of_decide_eq_true c; omega
   obtain ⟨y,hy,hN⟩:=hat i hlt'
   obtain ⟨b1,q1,cs1,hE1,hR1,hl1,hc1⟩:=IsSlice.elem hs hN
   obtain rfl : cs1 = [.int .i64 (y : Int)]:=hR1
   have hsy:=hstep i y hy
   have hw : w64 ((((ns.take i).sum : Nat) : Int) + (y : Int)) = (((ns.take (i + 1)).sum : Nat) : Int):=by
    have h1:=htk (i + 1)
    rw [hsy,List.sum_append] at h1 ⊢
    simp only [List.sum_cons,List.sum_nil,Nat.add_zero] at h1 ⊢
    rw [Zq (by omega) (by omega)]; omega
   refine Run.cl_s [] 6 ZF rfl (ZA rfl rfl (Zu U51 S3 rfl rfl hE1) (ZA rfl rfl (R.ldH S3 rfl (hc1 0 _ rfl)) (Run.llz_s [] 7 ZF rfl ?_)))
   rw [hw]
   refine Run.llz_bs [] 5 ZF rfl (ZA rfl rfl (Zt rfl rfl (of_decide_eq_true c) (by omega)) ?_)
   refine Run.lnz [] 2 ZF rfl (JN.again (i:=i) (i + 1) hlt' (by omega) ⟨rfl,rfl,rfl,rfl,rfl,rfl,trivial⟩ rfl rfl)
  ·
   have hge : i = ns.length:=by have:=of_decide_eq_false c; omega
   subst hge
   refine Run.cnz_kkb [] 4 ZF rfl ?_
   rw [List.take_length]
   exact JN.cut ⟨rfl,rfl,rfl⟩ ⟨rfl,rfl,rfl,trivial⟩ rfl rfl
 rintro _ _ _ ⟨rfl,rfl,rfl⟩
 refine Run.nl_s [] 4 ZF rfl (JL.mkB U26 I5 rfl rfl hsum rfl rfl (fun hb hhb => Run.lc_s [] 4 ZF rfl (JC.cut (fun l o g => ∃ (ao2 : Option Addr) (n2 cap2 : Nat) (Ko : Own),l = [(2,.slice ao2 n2 cap2)] ∧ o = [Ko,[(hb,.cells (bvs (List.replicate ns.sum 0)).toArray 5 (0,0))]] ∧ H = g ∧ RowOf (fun _ _ => none) (RPc hb) w.heap.size 26 1 (.slice ao2 n2 cap2) (offs 0 ns) Ko) ?_ ?_)))
 rotate_left
 ·
  refine Run.cl [] 3 ZF rfl (ZA rfl rfl (ZV U51 rfl ⟨_,_,rfl⟩) (ZA rfl rfl (ZZ rfl) (JL.seg0 (Run.lc_s [] 3 ZF rfl ?_))))
  refine JC.loop (ι:=Nat × Nat × Option Addr × Nat × Nat × Own) (fun i => [(21,.slice ao ns.length cap),(22,.int .i64 (ns.length : Int)),(2,.slice i.2.2.1 i.2.2.2.1 i.2.2.2.2.1),(6,.slice (some ⟨hb,i.2.1,none⟩) (ns.sum - (ns.take i.1).sum) (ns.sum - (ns.take i.1).sum)),(23,.int .i64 ((i.1 : Nat) : Int))])
   (fun i => [i.2.2.2.2.2,[(hb,.cells (bvs (List.replicate ns.sum 0)).toArray 5 (0,0))]]) (fun _ => H)
   (fun i => i.1 ≤ ns.length ∧ (ns.sum - (ns.take i.1).sum = 0 ∨ i.2.1 = (ns.take i.1).sum) ∧ RowOf (fun _ _ => none) (RPc hb) w.heap.size 26 1 (.slice i.2.2.1 i.2.2.2.1 i.2.2.2.2.1) (offs 0 (ns.take i.1)) i.2.2.2.2.2) (fun i => ns.length - i.1) (0,0,none,0,0,[])
   ⟨Nat.zero_le _,.inr rfl,ZR _ _ _ _ _⟩ ⟨rfl,rfl,rfl,rfl,rfl,trivial⟩ rfl rfl ?_
  rintro ⟨i,s,ao2,n2,cap2,Ko⟩ ⟨hi,hsi,hout⟩
  dsimp only at hi hsi hout ⊢
  refine Run.cc [] 6 ZF rfl (ZM rfl (fun c => ?_) (fun c => ?_))
  ·
   have hlt' : i < ns.length:=by have:=of_decide_eq_true c; omega
   obtain ⟨y,hy,hN⟩:=hat i hlt'
   obtain ⟨b1,q1,cs1,hE1,hR1,hl1,hc1⟩:=IsSlice.elem hs hN
   obtain rfl : cs1 = [.int .i64 (y : Int)]:=hR1
   have hsy:=hstep i y hy
   have htot:=htk (i + 1)
   have hsm : (ns.take (i + 1)).sum = (ns.take i).sum + y:=by rw [hsy,List.sum_append]; simp
   obtain ⟨rem,hrem⟩ : ∃ rem,rem = ns.sum - (ns.take i).sum:=⟨_,rfl⟩
   rw [← hrem] at hsi ⊢
   have hyr : y ≤ rem:=by omega
   have hcy : y = 0 ∨ s = (ns.take i).sum:=by
    rcases hsi with h | h
    ·
     left; omega
    ·
     exact .inr h
   have hrem2 : ns.sum - (ns.take (i + 1)).sum = rem - y:=by omega
   have e31 : Value.slice (some ⟨hb,s,none⟩) y y = sliced (some ⟨hb,s,none⟩) (0 : Int).toNat (y : Int).toNat (y : Int).toNat 1:=by
    unfold sliced
    simp only [Int.toNat_natCast,Int.toNat_zero,Nat.sub_zero,Option.map_some,Nat.zero_mul,add_lit,Nat.add_zero]
    split <;> rfl
   obtain ⟨s2,hs2,e36⟩ : ∃ s2,(rem - y = 0 ∨ s2 = (ns.take (i + 1)).sum) ∧ Value.slice (some ⟨hb,s2,none⟩) (rem - y) (rem - y) = sliced (some ⟨hb,s,none⟩) (y : Int).toNat (rem : Int).toNat (rem : Int).toNat 1:=by
    unfold sliced
    simp only [Int.toNat_natCast,Option.map_some,add_lit,Nat.mul_one]
    by_cases h : rem = y
    ·
     exact ⟨s,.inl (by omega),by rw [if_pos h]⟩
    ·
     refine ⟨s + y,.inr ?_,by rw [if_neg h]⟩
     rcases hsi with h' | h' <;> omega
   have hq : offs 0 (ns.take (i + 1)) = offs 0 (ns.take i) ++ [((ns.take i).sum,y)]:=by rw [hsy,offs_append]; simp [offs]
   have hll : (offs 0 (ns.take i)).length + [((ns.take i).sum,y)].length ≤ LIM:=by rw [offs_length,List.length_take]; simp only [List.length_cons,List.length_nil]; omega
   refine Run.cl_s [] 6 ZF rfl (ZA rfl rfl (Zu U51 S3 rfl rfl hE1) (ZA rfl rfl (R.ldH S3 rfl (hc1 0 _ rfl)) (Run.ll_s [] 9 ZF rfl (ZA rfl rfl (R.slc (cap:=rem) (a:=0) (b:=(y : Int)) (c:=(y : Int)) (m:=List.replicate rem (0 : UInt8)) (R:=RU8) (v':=.slice (some ⟨hb,s,none⟩) y y) U26 S5 rfl rfl ⟨_,rfl⟩ ⟨_,rfl⟩ ⟨Int.le_refl _,by omega,Int.le_refl _⟩ ⟨some ⟨hb,s,none⟩,by rw [List.length_replicate],by omega,e31⟩ (.inr (fun h => by cases h))) (JL.bslF (HF:=fun _ _ => none) (R:=RPc hb) (ls:=[((ns.take i).sum,y)]) (vs:=[.slice (some ⟨hb,s,none⟩) y y]) U22 I26 rfl rfl (⟨_,_,rfl,rfl,⟨s,rfl,hcy⟩,rfl⟩) (RPc.one hb) rfl rfl rfl (by simp [maxLen]) rfl (fun v3 K3 h3 => ?_))))))
   obtain ⟨ao3,cap3,rfl⟩:=RowOf.val h3
   refine Zr (HF:=fun _ _ => none) 1 U22 I26 rfl rfl hout rfl (SrcF.row 0 U22 rfl h3) hq hll rfl (Nat.le_refl _) rfl (fun v4 K4 h4 => ?_)
   obtain ⟨ao4,cap4,rfl⟩:=RowOf.val h4
   refine Run.llz_s [] 6 ZF rfl (ZA rfl rfl (R.slc (cap:=rem) (a:=(y : Int)) (b:=(rem : Int)) (c:=(rem : Int)) (m:=List.replicate rem (0 : UInt8)) (R:=RU8) (v':=.slice (some ⟨hb,s2,none⟩) (rem - y) (rem - y)) U26 S5 rfl ⟨_,rfl⟩ (by simp) ⟨some ⟨hb,s,none⟩,rem,rfl,rfl⟩ ⟨by omega,by omega,Int.le_refl _⟩ ⟨some ⟨hb,s,none⟩,by rw [List.length_replicate],by omega,e36⟩ (.inl rfl)) ?_)
   refine Run.llz_bs [] 5 ZF rfl (ZA rfl rfl (Zt rfl rfl (of_decide_eq_true c) (by omega)) ?_)
   refine Run.lnz [] 2 ZF rfl (JN.forget 0 (JN.again (i:=(i,s,ao2,n2,cap2,Ko)) (i + 1,s2,ao4,_,cap4,K4) ⟨hlt',by dsimp only; rw [hrem2]; exact hs2,h4⟩ (by dsimp only; omega) ⟨rfl,rfl,rfl,by dsimp only; rw [hrem2]; rfl,rfl,trivial⟩ rfl rfl))
  ·
   have hge : i = ns.length:=by have:=of_decide_eq_false c; omega
   subst hge
   refine Run.cnz_kkb [] 4 ZF rfl ?_
   rw [List.take_length] at hout
   exact JN.cut ⟨_,_,_,_,rfl,rfl,rfl,hout⟩ ⟨rfl,trivial⟩ rfl rfl
 rintro _ _ _ ⟨ao2,n2,cap2,Ko,rfl,rfl,rfl,hout⟩
 refine Run.nnz_s [] 2 ZF rfl (ZJ (vs:=[.slice ao2 n2 cap2]) (K:=[Ko ++ [(hb,.cells (bvs (List.replicate ns.sum 0)).toArray 5 (0,0))]]) (rst:=[]) (.inl rfl) rfl rfl (ZG rfl rfl) (by simp) ?_)
 have hflat : (ns.map fun n => List.replicate n (0 : UInt8)).flatten = List.replicate ns.sum 0:=by
  clear hat hstep htk hs hout hpn hns hpl hsum hlen
  induction ns with
  | nil => rfl
  | cons y r ih => rw [List.map_cons,List.flatten_cons,ih,List.sum_cons,List.replicate_append_replicate]
 have hlens : lens (ns.map fun n => List.replicate n (0 : UInt8)) = ns:=by unfold lens; rw [List.map_map]; simp [Function.comp_def]
 refine ⟨ao2,n2,cap2,_,rfl,rfl,rfl,⟨hb,Ko,?_,Nat.zero_le _,?_,?_⟩,(fun p hp hm => by cases hm),trivial⟩
 ·
  rw [hflat]
 ·
  rw [hflat,List.length_replicate]; exact lim_max hsum
 ·
  rw [hlens]; exact ZT (Nat.zero_le _) hout

theorem bytes_Clone_ok (p_1 : List UInt8) (H : Heaplet) {ao : Option Addr} {n cap : Nat} (hs : IsSlice H RU8 1 (.slice ao n cap) p_1) (r : List UInt8) (hx : bytes_Clone p_1 = some r) :
  Does Tryz.prog 59 #[.slice ao n cap] [] H (fun u K' H' => ∃ ao0 : Option Addr,∃ n0 : Nat,∃ cap0 : Nat,∃ K0 : Own,u = .slice ao0 n0 cap0 ∧ K' = [K0] ∧ H = H' ∧ RowOf (New H H') RU8 0 5 1 (.slice ao0 n0 cap0) r K0 ∧ (∀ p ∈ K0,p.1 ∉ ids (List.flatten [])) ∧ True):=by
 rw [bytes_Clone.eq_1] at hx
 obtain ⟨q,hq,hl,hx⟩:=Zo hx
 obtain rfl:=Option.some.inj hx
 refine Does.enter (vs:=[.slice ao n cap]) (l:=[(0,.slice ao n cap)]) Tryz.func59 rfl rfl ⟨rfl,trivial⟩ (fun w => Run.cl [] 9 ZF rfl (ZA rfl rfl (R.eqlNil U26 rfl rfl) (Run.lcz_s [] 2 ZF rfl ?_)))
 cases ao with
 | none =>
  have hp:=hs.none_nil
  subst hp
  simp only [List.append_nil] at hq
  subst hq
  refine Run.cnz_k [] 8 ZF rfl (Zj (ZJ (vs:=[.slice none 0 0]) (K:=[_]) (rst:=[]) (.inl rfl) rfl rfl (ZG rfl rfl) (ZO 0 rfl ZC) ?_))
  exact ⟨none,0,0,[],rfl,rfl,rfl,ZR _ _ _ _ _,(fun p hp => by cases hp),trivial⟩
 | some a =>
  refine Run.cl_s [] 5 ZF rfl (JL.bslF (HF:=New H H) (R:=RU8) (ls:=[]) (vs:=[]) U26 I5 rfl rfl rfl RU8.one rfl rfl rfl (by simp [maxLen]) rfl (fun v1 K1 h1 => ?_))
  obtain ⟨ao1,cap1,rfl⟩:=RowOf.val h1
  refine ZA rfl rfl (ZZ rfl) (Zr (HF:=New H H) 0 U26 I5 rfl rfl h1 rfl (SrcF.sliceC RU8.const RU8.one U26 hs) hq hl rfl (Nat.le_refl _) rfl (fun v2 K2 h2 => ?_))
  obtain ⟨ao2,cap2,rfl⟩:=RowOf.val h2
  refine Run.lnz_s [] 4 ZF rfl (ZJ (vs:=[.slice ao2 _ cap2]) (K:=[_]) (rst:=[]) (.inl rfl) rfl rfl (ZG rfl rfl) (ZO 0 rfl ZC) ?_)
  exact ⟨_,_,_,_,rfl,rfl,rfl,ZT (Nat.zero_le _) h2,(fun p hp hm => by cases hm),trivial⟩

set_option maxHeartbeats 8000000 in
theorem dev_Twin_ok (p_1 : Disk) (H : Heaplet) {aa_2 : Option Addr} {na_2 : Nat} {ca_2 : Nat} {aa_3 : Option Addr} {na_3 : Nat} {ca_3 : Nat} (ha_2 : IsSlice H (RSl RU8 1) 1 (.slice aa_2 na_2 ca_2) p_1.Blocks) (ha_3 : IsSlice H R_Write 2 (.slice aa_3 na_3 ca_3) p_1.Waits) (r : Disk) (hx : dev_Twin p_1 = some r) :
  Does Tryz.prog 51 #[.agg #[.slice aa_2 na_2 ca_2,.slice aa_3 na_3 ca_3]] [] H (fun u K' H' => ∃ ao0 : Option Addr,∃ n0 : Nat,∃ cap0 : Nat,∃ K0 : Own,∃ ao1 : Option Addr,∃ n1 : Nat,∃ cap1 : Nat,∃ K1 : Own,u = .agg #[.slice ao0 n0 cap0,.slice ao1 n1 cap1] ∧ K' = [K0,K1] ∧ Pcs 0 5 26 (.slice ao0 n0 cap0) r.Blocks K0 ∧ (∀ p ∈ K0,p.1 ∉ ids (List.flatten [])) ∧ RowOf (New H H') R_Write 0 96 2 (.slice ao1 n1 cap1) r.Waits K1 ∧ (∀ p ∈ K1,p.1 ∉ ids (List.flatten [])) ∧ True):=by
 refine Does.enterL (vs:=[.agg #[.slice aa_2 na_2 ca_2,.slice aa_3 na_3 ca_3]]) (l:=[(0,.agg #[.slice aa_2 na_2 ca_2,.slice aa_3 na_3 ca_3])]) Tryz.func51 rfl rfl ⟨rfl,trivial⟩ (fun w hlt => ?_)
 unfold dev_Twin at hx
 refine Run.cl [] 2 ZF rfl (Zk rfl rfl (fun b_4 hb_4 => JL.alloc Z25 rfl (fun b_5 hb_5 => Run.ll_s [1] 12 ZF rfl (ZA rfl rfl (ZV U22 rfl (IsSlice.long ha_2)) (Run.lcz_s [] 3 ZF rfl ?_)))))
 obtain ⟨t_6,ht_8,hx⟩:=ZD hx
 refine JC.cut (fun l o g => ∃ ar_13 : Option Addr,∃ nr_13 : Nat,∃ cr_13 : Nat,∃ Kr_13 : Own,l = [(1,.pointer (some ⟨b_4,0,none⟩)),(2,.pointer (some ⟨b_5,0,none⟩)),(3,.slice ar_13 nr_13 cr_13)] ∧ o = [[(b_4,.cells #[.slice aa_2 na_2 ca_2,.slice aa_3 na_3 ca_3] 25 (0,0))],[(b_5,.cells #[.slice none 0 0,.slice none 0 0] 25 (0,0))],Kr_13] ∧ H = g ∧ RowOf (New H H) RInt w.heap.size 3 1 (.slice ar_13 nr_13 cr_13) t_6 Kr_13) ?_ ?_
 ·
  rintro _ _ _ ⟨ar_13,nr_13,cr_13,Kr_13,rfl,rfl,rfl,hr_13⟩
  refine Run.nl_s [] 4 ZF rfl (JL.pubN 2 RInt.mono rfl hr_13 (Nat.le_refl _) (fun H_14 hleH_14 hsH_14 => JL.forget 2 ?_))
  obtain ⟨x_15,hr_16,hx⟩:=ZD hx
  refine ZI (vs:=[_]) (args:=[_]) (K:=[]) (rst:=[_,_]) E111 rfl rfl rfl ZC (dev_cut_ok t_6 _ (hsH_14.old RInt.mono) _ hr_16) rfl (fun u_17 Ku_17 Hu_17 hRu_17 hleu_17 hfu_17 => ?_)
  obtain ⟨ar_18,nr_18,cr_18,Kr_18,rfl,rfl,rfl,hr_18,hnewr_18,-⟩:=hRu_17
  replace hr_18:=(Pcs.base hr_18 (fun p hp => (hfu_17 p (ZS 0 rfl hp)).resolve_left (hnewr_18 p hp)))
  refine Run.ll_s [2,1] 9 ZF rfl (ZA rfl rfl (ZV U22 rfl (IsSlice.long ha_2)) (Run.lcz_s [] 3 ZF rfl ?_))
  obtain ⟨t_19,ht_21,hx⟩:=ZD hx
  refine JC.cut (fun l o g => ∃ Kr_26 : Own,l = [(1,.pointer (some ⟨b_4,0,none⟩)),(2,.pointer (some ⟨b_5,0,none⟩))] ∧ o = [[(b_4,.cells #[.slice aa_2 na_2 ca_2,.slice aa_3 na_3 ca_3] 25 (0,0))],[(b_5,.cells #[.slice ar_18 nr_18 cr_18,.slice none 0 0] 25 (0,0))],Kr_26] ∧ H_14 = g ∧ Pcs w.heap.size 5 26 (.slice ar_18 nr_18 cr_18) t_19 Kr_26) ?_ ?_
  ·
   rintro _ _ _ ⟨Kr_26,rfl,rfl,rfl,hr_26⟩
   refine Run.nl_s [0] 6 ZF rfl (ZA rfl rfl (ZV U23 rfl (IsSlice.long ha_3)) (Run.lcz_s [] 3 ZF rfl ?_))
   obtain ⟨t_27,ht_29,hx⟩:=ZD hx
   refine JC.cut (fun l o g => ∃ H_35 : Heaplet,∃ ar_36 : Option Addr,∃ nr_36 : Nat,∃ cr_36 : Nat,∃ Kr_36 : Own,l = [(2,.pointer (some ⟨b_5,0,none⟩))] ∧ o = [[(b_5,.cells #[.slice ar_18 nr_18 cr_18,.slice ar_36 nr_36 cr_36] 25 (0,0))],Kr_26,Kr_36] ∧ H_35 = g ∧ Hle H_14 H_35 ∧ RowOf (New H H_35) R_Write w.heap.size 96 2 (.slice ar_36 nr_36 cr_36) t_27 Kr_36) ?_ ?_
   ·
    rintro _ _ _ ⟨H_35,ar_36,nr_36,cr_36,Kr_36,rfl,rfl,rfl,hleH_35,hr_36⟩
    refine Run.nnz_s [] 2 ZF rfl (ZJ (vs:=[.agg #[.slice ar_18 nr_18 cr_18,.slice ar_36 nr_36 cr_36]]) (K:=[_,_]) (rst:=[_]) (.inl rfl) rfl rfl (Zn 0 rfl rfl S25 rfl) (ZO 1 rfl (ZO 1 rfl ZC)) ?_)
    obtain rfl:=Option.some.inj hx
    exact ⟨ar_18,nr_18,cr_18,Kr_26,ar_36,nr_36,cr_36,Kr_36,rfl,rfl,(Pcs.weak (Nat.zero_le _) hr_26),(newP_ids hr_26 hlt),(ZT (Nat.zero_le _) hr_36),(Zh hr_36 hlt),trivial⟩
   ·
    have hxo_28:=hx; clear hx; have hx:=ht_29; clear ht_29
    refine JC.block (JC.seg0 (JC.forget 1 (Zc 2 rfl (Zc 2 rfl (Zf (fun n l o g => ∃ s_30 : List Write × Nat,∃ H_33 : Heaplet,∃ ar_34 : Option Addr,∃ nr_34 : Nat,∃ cr_34 : Nat,∃ Kr_34 : Own,l = [(2,.pointer (some ⟨b_5,0,none⟩)),(43,.slice aa_3 na_3 ca_3),(44,.int .i64 (p_1.Waits.length : Int)),(45,.int .i64 ((s_30.2 : Nat) : Int))] ∧ o = [[(b_5,.cells #[.slice ar_18 nr_18 cr_18,.slice ar_34 nr_34 cr_34] 25 (0,0))],Kr_26,Kr_34] ∧ H_33 = g ∧ run (dev_Twin_l3 p_1) n s_30 = some t_27 ∧ Hle H_14 H_33 ∧ RowOf (New H H_33) R_Write w.heap.size 96 2 (.slice ar_34 nr_34 cr_34) s_30.1 Kr_34) FUEL ?_ ⟨(([] : List Write),0),H_14,none,0,0,[],rfl,rfl,rfl,hx,(Hle.refl _),(ZR _ _ _ _ _)⟩ ⟨rfl,rfl,rfl,rfl,trivial⟩ ?_)))))
    ·
     rintro _ _ _ ⟨s_30,H_33,ar_34,nr_34,cr_34,Kr_34,rfl,rfl,rfl,hn_31,hleH_33,hr_34⟩
     exact Ze hn_31
    ·
     rintro n_32 _ _ _ ⟨s_30,H_33,ar_34,nr_34,cr_34,Kr_34,rfl,rfl,rfl,hn_31,hleH_33,hr_34⟩
     clear hx; obtain ⟨oo_36,hx,hd_35⟩:=Zd hn_31
     unfold dev_Twin_l3 at hx
     refine Run.cc [] 6 ZF rfl (ZM rfl (fun c_35 => ?_) (fun c_35 => ?_))
     ·
      replace hx:=ZK c_35 hx
      refine Run.cl_s [] 6 ZF rfl ?_
      obtain ⟨y_36,hN_37,hx⟩:=ZY hx
      obtain ⟨b_38,o_39,cs_40,hE_41,hR_42,hl_43,hc_44⟩:=IsSlice.elem (ha_3.mono R_Write.mono (hleH_14.trans hleH_33)) hN_37
      obtain ⟨v_45,rfl,hs_46⟩:=hR_42
      obtain ⟨av_45,cv_45,rfl⟩:=IsSlice.val hs_46
      refine ZA rfl rfl (Zu U23 S96 rfl rfl hE_41) (ZA rfl rfl (R.ldHE (cs:=[.int .i64 y_36.At,.slice av_45 y_36.Data.length cv_45]) (k:=0) (vs:=[.int .i64 y_36.At,.slice av_45 y_36.Data.length cv_45]) S96 rfl hc_44 rfl rfl) (JL.alloc Z96 rfl (fun b_47 hb_47 => Run.lcz_s [0] 3 ZF rfl (JC.draw (so:=[_,_]) 12 rfl Mixed ⟨⟨0,rfl⟩,⟨2,rfl⟩,trivial⟩ (JA.val ⟨by kernel_rfl,by kernel_rfl⟩ (ZE _) (i:=0) rfl ⟨by kernel_rfl,by kernel_rfl,rfl⟩ trivial (ZB (Hle.refl _) ⟨⟨0,rfl⟩,⟨2,rfl⟩,trivial⟩) (R.fa F25_1 rfl) rfl (JA.val ⟨by kernel_rfl,by kernel_rfl⟩ (ZE _) (i:=2) rfl ⟨by kernel_rfl,by kernel_rfl,rfl⟩ trivial (ZB (Hle.refl _) ⟨⟨0,rfl⟩,⟨2,rfl⟩,trivial⟩) (R.fa F96_0 rfl) rfl (JA.val ⟨by kernel_rfl,by kernel_rfl⟩ (ZE _) (i:=3) rfl ⟨by kernel_rfl,by kernel_rfl,rfl⟩ trivial (ZB (Hle.refl _) ⟨⟨0,rfl⟩,⟨2,rfl⟩,trivial⟩) (R.ldo 0 S3 rfl rfl rfl) rfl (JA.val ⟨by kernel_rfl,by kernel_rfl⟩ (ZE _) (i:=4) rfl ⟨by kernel_rfl,by kernel_rfl,rfl⟩ trivial (ZB (Hle.refl _) ⟨⟨0,rfl⟩,⟨2,rfl⟩,trivial⟩) (R.fa F96_1 rfl) rfl (JA.val ⟨by kernel_rfl,by kernel_rfl⟩ (ZE _) (i:=5) rfl ⟨by kernel_rfl,by kernel_rfl,rfl⟩ trivial (ZB (Hle.refl _) ⟨⟨0,rfl⟩,⟨2,rfl⟩,trivial⟩) (R.ldo 0 S26 rfl rfl rfl) rfl ?_)))))))))
      obtain ⟨x_48,hr_49,hx⟩:=ZD hx
      obtain ⟨q_54,hm_55,hl_56,hx⟩:=Zo hx
      refine JA.two (i:=1) (j:=6) (by kernel_rfl) ?_ ?_
      ·
       refine JO.step rfl trivial rfl (fun K hK => Run.lnz [1] 2 ZF rfl (hK _ _ _ (ZB (Hle.refl _) ⟨⟨0,rfl⟩,⟨2,rfl⟩,trivial⟩) (JA.one (i:=6) (by kernel_rfl) (JO.step rfl trivial rfl (fun K hK => ZI (vs:=[_]) (args:=[_]) (K:=[]) (rst:=[_,_,_,_]) E59 rfl rfl rfl ZC (bytes_Clone_ok y_36.Data _ hs_46 _ hr_49) rfl (fun u_50 Ku_50 Hu_50 hRu_50 hleu_50 hfu_50 => ?_))))))
       obtain ⟨ar_51,nr_51,cr_51,Kr_51,rfl,rfl,rfl,hr_51,hnewr_51,-⟩:=hRu_50
       replace hr_51:=(RowOf.base (ZP (H2:=New H H_33) RU8.const hr_51) (fun p hp => (hfu_50 p (ZS 0 rfl hp)).resolve_left (hnewr_51 p hp)))
       refine ZW (hK _ _ _ (ZB (Hle.refl _) ⟨⟨1,rfl⟩,⟨3,rfl⟩,trivial⟩) (JA.val ⟨by kernel_rfl,by kernel_rfl⟩ (ZE _) (i:=7) rfl ⟨by kernel_rfl,by kernel_rfl,rfl⟩ trivial (ZB (Hle.refl _) ⟨⟨1,rfl⟩,⟨3,rfl⟩,trivial⟩) (R.bldP (vs:=[(0,.int .i64 y_36.At),(1,.slice ar_51 nr_51 cr_51)]) (cs:=[.int .i64 y_36.At,.slice ar_51 nr_51 cr_51]) Z96 B96 rfl rfl rfl) rfl (JA.one (i:=8) (by kernel_rfl) (JO.step rfl trivial rfl (fun K hK => JL.pubN 0 RU8.mono rfl hr_51 (Nat.le_refl _) (fun H_52 hleH_52 hsH_52 => JL.forget 0 (JL.bslF (HF:=(New H H_52)) (R:=R_Write) (ls:=[Write.mk y_36.At x_48]) (vs:=[.agg #[.int .i64 y_36.At,.slice ar_51 nr_51 cr_51]]) U23 I96 rfl rfl (⟨_,_,rfl,rfl,⟨_,rfl,hsH_52⟩,rfl⟩) R_Write.one rfl rfl rfl (by simp [maxLen]) rfl (fun vr_53 Kr_53 hr_53 => ?_))))))))
       obtain ⟨ar_53,cr_53,rfl⟩:=RowOf.val hr_53
       refine ZW (hK _ _ _ (ZB hleH_52 ⟨⟨1,rfl⟩,⟨3,rfl⟩,trivial⟩) (JA.one (i:=9) (by kernel_rfl) (JO.step rfl trivial rfl (fun K hK => Zr (HF:=(New H H_52)) 4 U23 I96 rfl rfl (hr_34.mono R_Write.mono (New.mono hleH_52)) rfl (SrcF.row 0 U23 rfl hr_53) hm_55 hl_56 rfl (Nat.le_refl _) rfl (fun vr_57 Kr_57 hr_57 => ?_)))))
       obtain ⟨ar_57,cr_57,rfl⟩:=RowOf.val hr_57
       refine ZW (hK _ _ _ (ZB hleH_52 ⟨⟨1,rfl⟩,⟨3,rfl⟩,trivial⟩) (JA.val ⟨by kernel_rfl,by kernel_rfl⟩ (ZE _) (i:=10) rfl ⟨by kernel_rfl,by kernel_rfl,rfl⟩ trivial (ZB hleH_52 ⟨⟨1,rfl⟩,⟨3,rfl⟩,trivial⟩) (R.fa F25_1 rfl) rfl (JA.one (i:=11) (by kernel_rfl) (JO.step rfl trivial rfl (fun K hK => ?_)))))
       refine Run.lnz [2] 2 ZF rfl (hK _ _ _ (ZB hleH_52 ⟨⟨1,rfl⟩,⟨3,rfl⟩,trivial⟩) (Zg (by kernel_rfl) ?_))
       refine Run.nlz_bs [] 3 ZF rfl (ZA rfl rfl (Zt rfl rfl (of_decide_eq_true c_35) (IsSlice.lenI ha_3)) (Run.lnz [] 2 ZF rfl ?_))
       replace hx:=ZX hd_35 hx
       refine JN.forget 1 (JN.forget 0 (ZH 2 rfl (ZH 2 rfl (ZH 2 rfl ?_))))
       exact JN.cut ⟨(q_54,s_30.2 + 1),H_52,ar_57,q_54.length,cr_57,Kr_57,rfl,rfl,rfl,hx,((hleH_33.trans hleH_52)),hr_57⟩ ⟨rfl,rfl,rfl,rfl,trivial⟩ rfl rfl
      ·
       refine JO.step rfl trivial rfl (fun K hK => ZI (vs:=[_]) (args:=[_]) (K:=[]) (rst:=[_,_,_,_]) E59 rfl rfl rfl ZC (bytes_Clone_ok y_36.Data _ hs_46 _ hr_49) rfl (fun u_50 Ku_50 Hu_50 hRu_50 hleu_50 hfu_50 => ?_))
       obtain ⟨ar_51,nr_51,cr_51,Kr_51,rfl,rfl,rfl,hr_51,hnewr_51,-⟩:=hRu_50
       replace hr_51:=(RowOf.base (ZP (H2:=New H H_33) RU8.const hr_51) (fun p hp => (hfu_50 p (ZS 0 rfl hp)).resolve_left (hnewr_51 p hp)))
       refine ZW (hK _ _ _ (ZB (Hle.refl _) ⟨⟨1,rfl⟩,⟨3,rfl⟩,trivial⟩) (JA.val ⟨by kernel_rfl,by kernel_rfl⟩ (ZE _) (i:=7) rfl ⟨by kernel_rfl,by kernel_rfl,rfl⟩ trivial (ZB (Hle.refl _) ⟨⟨1,rfl⟩,⟨3,rfl⟩,trivial⟩) (R.bldP (vs:=[(0,.int .i64 y_36.At),(1,.slice ar_51 nr_51 cr_51)]) (cs:=[.int .i64 y_36.At,.slice ar_51 nr_51 cr_51]) Z96 B96 rfl rfl rfl) rfl (JA.two (i:=1) (j:=8) (by kernel_rfl) ?_ ?_)))
       ·
        refine JO.step rfl trivial rfl (fun K hK => Run.lnz [2] 2 ZF rfl (hK _ _ _ (ZB (Hle.refl _) ⟨⟨1,rfl⟩,⟨3,rfl⟩,trivial⟩) (JA.one (i:=8) (by kernel_rfl) (JO.step rfl trivial rfl (fun K hK => JL.pubN 0 RU8.mono rfl hr_51 (Nat.le_refl _) (fun H_52 hleH_52 hsH_52 => JL.forget 0 (JL.bslF (HF:=(New H H_52)) (R:=R_Write) (ls:=[Write.mk y_36.At x_48]) (vs:=[.agg #[.int .i64 y_36.At,.slice ar_51 nr_51 cr_51]]) U23 I96 rfl rfl (⟨_,_,rfl,rfl,⟨_,rfl,hsH_52⟩,rfl⟩) R_Write.one rfl rfl rfl (by simp [maxLen]) rfl (fun vr_53 Kr_53 hr_53 => ?_))))))))
        obtain ⟨ar_53,cr_53,rfl⟩:=RowOf.val hr_53
        refine ZW (hK _ _ _ (ZB hleH_52 ⟨⟨1,rfl⟩,⟨3,rfl⟩,trivial⟩) (JA.one (i:=9) (by kernel_rfl) (JO.step rfl trivial rfl (fun K hK => Zr (HF:=(New H H_52)) 4 U23 I96 rfl rfl (hr_34.mono R_Write.mono (New.mono hleH_52)) rfl (SrcF.row 0 U23 rfl hr_53) hm_55 hl_56 rfl (Nat.le_refl _) rfl (fun vr_57 Kr_57 hr_57 => ?_)))))
        obtain ⟨ar_57,cr_57,rfl⟩:=RowOf.val hr_57
        refine ZW (hK _ _ _ (ZB hleH_52 ⟨⟨1,rfl⟩,⟨3,rfl⟩,trivial⟩) (JA.val ⟨by kernel_rfl,by kernel_rfl⟩ (ZE _) (i:=10) rfl ⟨by kernel_rfl,by kernel_rfl,rfl⟩ trivial (ZB hleH_52 ⟨⟨1,rfl⟩,⟨3,rfl⟩,trivial⟩) (R.fa F25_1 rfl) rfl (JA.one (i:=11) (by kernel_rfl) (JO.step rfl trivial rfl (fun K hK => ?_)))))
        refine Run.lnz [2] 2 ZF rfl (hK _ _ _ (ZB hleH_52 ⟨⟨1,rfl⟩,⟨3,rfl⟩,trivial⟩) (Zg (by kernel_rfl) ?_))
        refine Run.nlz_bs [] 3 ZF rfl (ZA rfl rfl (Zt rfl rfl (of_decide_eq_true c_35) (IsSlice.lenI ha_3)) (Run.lnz [] 2 ZF rfl ?_))
        replace hx:=ZX hd_35 hx
        refine JN.forget 1 (JN.forget 0 (ZH 2 rfl (ZH 2 rfl (ZH 2 rfl ?_))))
        exact JN.cut ⟨(q_54,s_30.2 + 1),H_52,ar_57,q_54.length,cr_57,Kr_57,rfl,rfl,rfl,hx,((hleH_33.trans hleH_52)),hr_57⟩ ⟨rfl,rfl,rfl,rfl,trivial⟩ rfl rfl
       ·
        refine JO.step rfl trivial rfl (fun K hK => JL.pubN 0 RU8.mono rfl hr_51 (Nat.le_refl _) (fun H_52 hleH_52 hsH_52 => JL.forget 0 (JL.bslF (HF:=(New H H_52)) (R:=R_Write) (ls:=[Write.mk y_36.At x_48]) (vs:=[.agg #[.int .i64 y_36.At,.slice ar_51 nr_51 cr_51]]) U23 I96 rfl rfl (⟨_,_,rfl,rfl,⟨_,rfl,hsH_52⟩,rfl⟩) R_Write.one rfl rfl rfl (by simp [maxLen]) rfl (fun vr_53 Kr_53 hr_53 => ?_))))
        obtain ⟨ar_53,cr_53,rfl⟩:=RowOf.val hr_53
        refine ZW (hK _ _ _ (ZB hleH_52 ⟨⟨1,rfl⟩,⟨3,rfl⟩,trivial⟩) (JA.one (i:=1) (by kernel_rfl) (JO.step rfl trivial rfl (fun K hK => ?_))))
        refine Run.lnz [2] 2 ZF rfl (hK _ _ _ (ZB hleH_52 ⟨⟨1,rfl⟩,⟨3,rfl⟩,trivial⟩) (JA.one (i:=9) (by kernel_rfl) (JO.step rfl trivial rfl (fun K hK => Zr (HF:=(New H H_52)) 4 U23 I96 rfl rfl (hr_34.mono R_Write.mono (New.mono hleH_52)) rfl (SrcF.row 0 U23 rfl hr_53) hm_55 hl_56 rfl (Nat.le_refl _) rfl (fun vr_57 Kr_57 hr_57 => ?_)))))
        obtain ⟨ar_57,cr_57,rfl⟩:=RowOf.val hr_57
        refine ZW (hK _ _ _ (ZB hleH_52 ⟨⟨1,rfl⟩,⟨3,rfl⟩,trivial⟩) (JA.val ⟨by kernel_rfl,by kernel_rfl⟩ (ZE _) (i:=10) rfl ⟨by kernel_rfl,by kernel_rfl,rfl⟩ trivial (ZB hleH_52 ⟨⟨1,rfl⟩,⟨3,rfl⟩,trivial⟩) (R.fa F25_1 rfl) rfl (JA.one (i:=11) (by kernel_rfl) (JO.step rfl trivial rfl (fun K hK => ?_)))))
        refine Run.lnz [2] 2 ZF rfl (hK _ _ _ (ZB hleH_52 ⟨⟨1,rfl⟩,⟨3,rfl⟩,trivial⟩) (Zg (by kernel_rfl) ?_))
        refine Run.nlz_bs [] 3 ZF rfl (ZA rfl rfl (Zt rfl rfl (of_decide_eq_true c_35) (IsSlice.lenI ha_3)) (Run.lnz [] 2 ZF rfl ?_))
        replace hx:=ZX hd_35 hx
        refine JN.forget 1 (JN.forget 0 (ZH 2 rfl (ZH 2 rfl (ZH 2 rfl ?_))))
        exact JN.cut ⟨(q_54,s_30.2 + 1),H_52,ar_57,q_54.length,cr_57,Kr_57,rfl,rfl,rfl,hx,((hleH_33.trans hleH_52)),hr_57⟩ ⟨rfl,rfl,rfl,rfl,trivial⟩ rfl rfl
     ·
      replace hx:=ZL c_35 hx
      refine Run.cnz_k [] 2 ZF rfl ?_
      obtain rfl:=Za hd_35 hx
      refine Run.nnz_kb [] 2 ZF rfl (ZH 2 rfl (ZH 2 rfl (ZH 2 rfl ?_)))
      exact JN.cut ⟨H_33,ar_34,nr_34,cr_34,Kr_34,rfl,rfl,rfl,(hleH_33),hr_34⟩ ⟨rfl,trivial⟩ rfl rfl
  ·
   have hxo_20:=hx; clear hx; have hx:=ht_21; clear ht_21
   refine JC.block (Zc 2 rfl (Zc 2 rfl (Zf (fun n l o g => ∃ s_22 : List (List UInt8) × Nat,∃ Kr_25 : Own,l = [(1,.pointer (some ⟨b_4,0,none⟩)),(2,.pointer (some ⟨b_5,0,none⟩)),(27,.slice aa_2 na_2 ca_2),(28,.int .i64 (p_1.Blocks.length : Int)),(29,.int .i64 ((s_22.2 : Nat) : Int))] ∧ o = [[(b_4,.cells #[.slice aa_2 na_2 ca_2,.slice aa_3 na_3 ca_3] 25 (0,0))],[(b_5,.cells #[.slice ar_18 nr_18 cr_18,.slice none 0 0] 25 (0,0))],Kr_25] ∧ H_14 = g ∧ run (dev_Twin_l2 p_1) n s_22 = some t_19 ∧ Pcs w.heap.size 5 26 (.slice ar_18 nr_18 cr_18) s_22.1 Kr_25) FUEL ?_ ⟨(x_15,0),Kr_18,rfl,rfl,rfl,hx,hr_18⟩ ⟨rfl,rfl,rfl,rfl,rfl,trivial⟩ ?_)))
   ·
    rintro _ _ _ ⟨s_22,Kr_25,rfl,rfl,rfl,hn_23,hr_25⟩
    exact Ze hn_23
   ·
    rintro n_24 _ _ _ ⟨s_22,Kr_25,rfl,rfl,rfl,hn_23,hr_25⟩
    clear hx; obtain ⟨oo_27,hx,hd_26⟩:=Zd hn_23
    unfold dev_Twin_l2 at hx
    refine Run.cc [] 6 ZF rfl (ZM rfl (fun c_26 => ?_) (fun c_26 => ?_))
    ·
     replace hx:=ZK c_26 hx
     refine Run.cl_s [] 7 ZF rfl ?_
     obtain ⟨y_27,hN_28,hx⟩:=ZY hx
     obtain ⟨b_29,o_30,cs_31,hE_32,hR_33,hl_34,hc_35⟩:=IsSlice.elem (ha_2.mono (RSl.mono RU8.mono) hleH_14) hN_28
     obtain ⟨v_36,rfl,hs_37⟩:=hR_33
     obtain ⟨av_36,cv_36,rfl⟩:=IsSlice.val hs_37
     refine ZA rfl rfl (Zu U22 S26 rfl rfl hE_32) (ZA rfl rfl (R.ldH S26 rfl (hc_35 0 _ rfl)) (Run.llz_s [1] 8 ZF rfl ?_))
     obtain ⟨y_38,hN_39,hx⟩:=ZY hx
     obtain ⟨b_41,o_40,cur_42,pv_43,hE_44,hm_45,hc_46,hA_47⟩:=Pcs.at hr_25 hN_39
     refine ZA rfl rfl (Zu U22 S26 rfl rfl hE_44) (ZA rfl rfl (R.ldM 2 S26 rfl rfl hm_45 hc_46) (ZA rfl rfl (ZZ rfl) ?_))
     obtain ⟨hl_48,hx⟩:=chk_some hx
     obtain ⟨m_51,hm_49,hi_50,hx⟩:=setI_some hx
     refine JL.copyP 2 U26 S5 rfl hr_25 hN_39 hA_47 rfl rfl (Hle.refl _) hs_37 hl_48 rfl (fun Kr_52 hr_52 => ?_)
     rw [← hm_49] at hr_52
     refine Run.llz_bs [] 4 ZF rfl (ZA rfl rfl (Zt rfl rfl (of_decide_eq_true c_26) (IsSlice.lenI ha_2)) (Run.lnz [] 2 ZF rfl ?_))
     replace hx:=ZX hd_26 hx
     refine ZH 2 rfl (ZH 2 rfl (ZH 2 rfl ?_))
     exact JN.cut ⟨(m_51,s_22.2 + 1),Kr_52,rfl,rfl,rfl,hx,hr_52⟩ ⟨rfl,rfl,rfl,rfl,rfl,trivial⟩ rfl rfl
    ·
     replace hx:=ZL c_26 hx
     refine Run.cnz_k [] 2 ZF rfl ?_
     obtain rfl:=Za hd_26 hx
     refine Run.nnz_kb [] 2 ZF rfl (ZH 2 rfl (ZH 2 rfl (ZH 2 rfl ?_)))
     exact JN.cut ⟨Kr_25,rfl,rfl,rfl,hr_25⟩ ⟨rfl,rfl,trivial⟩ rfl rfl
 ·
  have hxo_7:=hx; clear hx; have hx:=ht_8; clear ht_8
  refine JC.block (JC.seg0 (Zc 1 rfl (Zc 2 rfl (Zf (fun n l o g => ∃ s_9 : List Int × Nat,∃ ar_12 : Option Addr,∃ nr_12 : Nat,∃ cr_12 : Nat,∃ Kr_12 : Own,l = [(1,.pointer (some ⟨b_4,0,none⟩)),(2,.pointer (some ⟨b_5,0,none⟩)),(3,.slice ar_12 nr_12 cr_12),(11,.slice aa_2 na_2 ca_2),(12,.int .i64 (p_1.Blocks.length : Int)),(13,.int .i64 ((s_9.2 : Nat) : Int))] ∧ o = [[(b_4,.cells #[.slice aa_2 na_2 ca_2,.slice aa_3 na_3 ca_3] 25 (0,0))],[(b_5,.cells #[.slice none 0 0,.slice none 0 0] 25 (0,0))],Kr_12] ∧ H = g ∧ run (dev_Twin_l1 p_1) n s_9 = some t_6 ∧ RowOf (New H H) RInt w.heap.size 3 1 (.slice ar_12 nr_12 cr_12) s_9.1 Kr_12) FUEL ?_ ⟨(([] : List Int),0),none,0,0,[],rfl,rfl,rfl,hx,(ZR _ _ _ _ _)⟩ ⟨rfl,rfl,rfl,rfl,rfl,rfl,trivial⟩ ?_))))
  ·
   rintro _ _ _ ⟨s_9,ar_12,nr_12,cr_12,Kr_12,rfl,rfl,rfl,hn_10,hr_12⟩
   exact Ze hn_10
  ·
   rintro n_11 _ _ _ ⟨s_9,ar_12,nr_12,cr_12,Kr_12,rfl,rfl,rfl,hn_10,hr_12⟩
   clear hx; obtain ⟨oo_14,hx,hd_13⟩:=Zd hn_10
   unfold dev_Twin_l1 at hx
   refine Run.cc [] 6 ZF rfl (ZM rfl (fun c_13 => ?_) (fun c_13 => ?_))
   ·
    replace hx:=ZK c_13 hx
    refine Run.cl_s [] 6 ZF rfl ?_
    obtain ⟨y_14,hN_15,hx⟩:=ZY hx
    obtain ⟨b_16,o_17,cs_18,hE_19,hR_20,hl_21,hc_22⟩:=IsSlice.elem ha_2 hN_15
    obtain ⟨v_23,rfl,hs_24⟩:=hR_20
    obtain ⟨av_23,cv_23,rfl⟩:=IsSlice.val hs_24
    refine ZA rfl rfl (Zu U22 S26 rfl rfl hE_19) (ZA rfl rfl (R.ldH S26 rfl (hc_22 0 _ rfl)) (Run.llz_s [] 6 ZF rfl (ZA rfl rfl (ZV U26 rfl (IsSlice.long hs_24)) (JL.bslF (HF:=(New H H)) (R:=RInt) (ls:=[(y_14.length : Int)]) (vs:=[.int .i64 (y_14.length : Int)]) U51 I3 rfl rfl (⟨_,_,rfl,rfl,rfl,rfl⟩) RInt.one rfl rfl rfl (by simp [maxLen]) rfl (fun vr_25 Kr_25 hr_25 => ?_)))))
    obtain ⟨ar_25,cr_25,rfl⟩:=RowOf.val hr_25
    obtain ⟨q_26,hm_27,hl_28,hx⟩:=Zo hx
    refine Zr (HF:=(New H H)) 3 U51 I3 rfl rfl hr_12 rfl (SrcF.row 0 U51 rfl hr_25) hm_27 hl_28 rfl (Nat.le_refl _) rfl (fun vr_29 Kr_29 hr_29 => ?_)
    obtain ⟨ar_29,cr_29,rfl⟩:=RowOf.val hr_29
    refine Run.llz_bs [] 5 ZF rfl (ZA rfl rfl (Zt rfl rfl (of_decide_eq_true c_13) (IsSlice.lenI ha_2)) (Run.lnz [] 2 ZF rfl ?_))
    replace hx:=ZX hd_13 hx
    refine JN.forget 0 (ZH 2 rfl (ZH 2 rfl (ZH 2 rfl ?_)))
    exact JN.cut ⟨(q_26,s_9.2 + 1),ar_29,q_26.length,cr_29,Kr_29,rfl,rfl,rfl,hx,hr_29⟩ ⟨rfl,rfl,rfl,rfl,rfl,rfl,trivial⟩ rfl rfl
   ·
    replace hx:=ZL c_13 hx
    refine Run.cnz_k [] 2 ZF rfl ?_
    obtain rfl:=Za hd_13 hx
    refine Run.nnz_kb [] 2 ZF rfl (ZH 2 rfl (ZH 2 rfl (ZH 2 rfl ?_)))
    exact JN.cut ⟨ar_12,nr_12,cr_12,Kr_12,rfl,rfl,rfl,hr_12⟩ ⟨rfl,rfl,rfl,trivial⟩ rfl rfl

set_option maxHeartbeats 8000000 in
theorem dev_left_ok (p_1 : Disk) (H : Heaplet) {aa_2 : Option Addr} {na_2 : Nat} {ca_2 : Nat} {aa_3 : Option Addr} {na_3 : Nat} {ca_3 : Nat} (ha_2 : IsSlice H (RSl RU8 1) 1 (.slice aa_2 na_2 ca_2) p_1.Blocks) (ha_3 : IsSlice H R_Write 2 (.slice aa_3 na_3 ca_3) p_1.Waits) (r : Disk) (hx : dev_left p_1 = some r) :
  Does Tryz.prog 101 #[.agg #[.slice aa_2 na_2 ca_2,.slice aa_3 na_3 ca_3],.func (.func 102) #[] #[]] [] H (fun u K' H' => ∃ ao0 : Option Addr,∃ n0 : Nat,∃ cap0 : Nat,∃ K0 : Own,∃ ao1 : Option Addr,∃ n1 : Nat,∃ cap1 : Nat,∃ K1 : Own,u = .agg #[.slice ao0 n0 cap0,.slice ao1 n1 cap1] ∧ K' = [K0,K1] ∧ Pcs 0 5 26 (.slice ao0 n0 cap0) r.Blocks K0 ∧ (∀ p ∈ K0,p.1 ∉ ids (List.flatten [])) ∧ RowOf (New H H') R_Write 0 96 2 (.slice ao1 n1 cap1) r.Waits K1 ∧ (∀ p ∈ K1,p.1 ∉ ids (List.flatten [])) ∧ True):=by
 refine Does.enterL (vs:=[.agg #[.slice aa_2 na_2 ca_2,.slice aa_3 na_3 ca_3],.func (.func 102) #[] #[]]) (l:=[(0,.agg #[.slice aa_2 na_2 ca_2,.slice aa_3 na_3 ca_3]),(1,.func (.func 102) #[] #[])]) Tryz.func101 rfl rfl ⟨rfl,rfl,trivial⟩ (fun w hlt => ?_)
 unfold dev_left at hx
 refine Run.cl [] 2 ZF rfl (Zk rfl rfl (fun b_4 hb_4 => JL.alloc Z25 rfl (fun b_5 hb_5 => Run.lc_s [] 3 ZF rfl ?_)))
 obtain ⟨t_6,ht_8,hx⟩:=ZD hx
 refine JC.cut (fun l o g => ∃ ar_21 : Option Addr,∃ nr_21 : Nat,∃ cr_21 : Nat,∃ Kr_21 : Own,l = [(1,.func (.func 102) #[] #[]),(2,.pointer (some ⟨b_4,0,none⟩)),(4,.pointer (some ⟨b_5,0,none⟩))] ∧ o = [[(b_4,.cells #[.slice ar_21 nr_21 cr_21,.slice aa_3 na_3 ca_3] 25 (0,0))],Kr_21,[(b_5,.cells #[.slice none 0 0,.slice none 0 0] 25 (0,0))]] ∧ H = g ∧ RowOf H (RSl RU8 1) w.heap.size 26 1 (.slice ar_21 nr_21 cr_21) t_6 Kr_21) ?_ ?_
 ·
  rintro _ _ _ ⟨ar_21,nr_21,cr_21,Kr_21,rfl,rfl,rfl,hr_21⟩
  refine Run.nl_s [0] 6 ZF rfl ?_
  obtain ⟨x_22,hr_23,hx⟩:=ZD hx
  refine ZI (vs:=[_,_]) (args:=[_,_]) (K:=[]) (rst:=[_,_,_]) E161 rfl rfl rfl ZC (dev_lasts_ok (Disk.mk t_6 p_1.Waits) _ ha_3 _ hr_23) rfl (fun u_24 Ku_24 Hu_24 hRu_24 hleu_24 hfu_24 => ?_)
  obtain ⟨ar_25,nr_25,cr_25,Kr_25,rfl,rfl,rfl,hr_25,hnewr_25,-⟩:=hRu_24
  replace hr_25:=(MapOf.base hr_25 (fun p hp => (hfu_24 p (ZS 0 rfl hp)).resolve_left (hnewr_25 p hp)))
  refine JL.rangeMapF 0 U215 rfl rfl hr_25 rfl (fun b_26 es_27 hK_28 hM_29 => ?_)
  subst hK_28
  refine Run.lcz_s [] 2 ZF rfl ?_
  obtain ⟨m_30,hm_31,hin_32,hx⟩:=layR_some hx
  refine JC.block (JC.loop (ι:=Array Nat × (List (List UInt8)) × Own) (fun _ => [(2,.pointer (some ⟨b_4,0,none⟩)),(4,.pointer (some ⟨b_5,0,none⟩)),(16,.pointer (some ⟨b_26,0,none⟩))]) (fun i => [[(b_26,.mapIter (some nr_25) (x_22).length i.1 (x_22).length)],[(nr_25,.map es_27 (x_22).length)],[(b_4,.cells #[.slice ar_21 nr_21 cr_21,.slice aa_3 na_3 ca_3] 25 (0,0))],i.2.2,[(b_5,.cells #[.slice none 0 0,.slice none 0 0] 25 (0,0))]]) (fun _ => H) (fun i => i.1.toList.Nodup ∧ (∀ q ∈ i.1.toList,q < (x_22).length) ∧ Laid (fun y : Write => y.Data) t_6 x_22 i.1.toList i.2.1 ∧ RowOf H (RSl RU8 1) w.heap.size 26 1 (.slice ar_21 nr_21 cr_21) i.2.1 i.2.2) (fun i => (x_22).length - i.1.size) (#[],t_6,Kr_21) ⟨by simp,by simp,Laid.start _ _ _,hr_21⟩ ⟨rfl,rfl,rfl,trivial⟩ rfl rfl ?_)
  rintro ⟨seen_33,B_34,K_35⟩ ⟨hn_36,hlt_37,hL_38,hr_39⟩
  dsimp only at hn_36 hlt_37 hL_38 hr_39 ⊢
  refine Run.cl [] 2 ZF rfl (JL.nextMap 0 1 rfl rfl rfl hM_29 (Nat.le_refl _) rfl (fun he_40 => ?_) (fun n_41 k_42 y_43 cs_44 hMn_45 hen_46 hns_47 hRy_48 => ?_))
  ·
   refine Run.lnz_sk [] 8 ZF rfl (JN.exitSame ?_)
   obtain rfl:=hm_31.trans (hL_38.full hM_29.nodup hin_32 he_40).symm
   refine JN.forget 1 (JN.forget 0 (Run.nl_s [0,0] 10 ZF rfl (JL.pub 1 (RSl.mono RU8.mono) rfl hr_39 (Nat.le_refl _) (fun H_49 hleH_49 hsH_49 => JL.forget 1 ?_))))
   obtain ⟨x_50,hr_51,hx⟩:=ZD hx
   refine ZI (vs:=[_]) (args:=[_]) (K:=[]) (rst:=[_,_]) E51 rfl rfl rfl ZC (dev_Twin_ok (Disk.mk m_30 ([] : List Write)) _ hsH_49 (IsSlice.nil _ _ _) _ hr_51) rfl (fun u_52 Ku_52 Hu_52 hRu_52 hleu_52 hfu_52 => ?_)
   obtain ⟨ar_53,nr_53,cr_53,Kr_53,ar_54,nr_54,cr_54,Kr_54,rfl,rfl,hr_53,hnewr_53,hr_54,hnewr_54,-⟩:=hRu_52
   replace hr_53:=(Pcs.base hr_53 (fun p hp => (hfu_52 p (ZS 0 rfl hp)).resolve_left (hnewr_53 p hp)))
   replace hr_54:=(RowOf.base (RowOf.mono R_Write.mono (New.call hleH_49) hr_54) (fun p hp => (hfu_52 p (ZS 1 rfl hp)).resolve_left (hnewr_54 p hp)))
   refine Run.lnz_s [3] 4 ZF rfl (ZJ (vs:=[.agg #[.slice ar_53 nr_53 cr_53,.slice ar_54 nr_54 cr_54]]) (K:=[_,_]) (rst:=[_,_]) (.inl rfl) rfl rfl (Zn 3 rfl rfl S25 rfl) (ZO 0 rfl (ZO 0 rfl ZC)) ?_)
   obtain rfl:=Option.some.inj hx
   exact ⟨ar_53,nr_53,cr_53,Kr_53,ar_54,nr_54,cr_54,Kr_54,rfl,rfl,(Pcs.weak (Nat.zero_le _) hr_53),(newP_ids hr_53 hlt),(ZT (Nat.zero_le _) hr_54),(Zh hr_54 hlt),trivial⟩
  ·
   have hs_49:=seen_more hn_36 hlt_37 (List.getElem?_eq_some_iff.1 hMn_45).1 hns_47
   refine Run.ll_s [] 10 ZF rfl ?_
   obtain ⟨v_50,rfl,hs_51⟩:=hRy_48
   obtain ⟨av_50,cv_50,rfl⟩:=IsSlice.val hs_51
   refine JL.entryMap 0 1 rfl rfl rfl hM_29 hen_46 rfl ?_
   have hp_53:=hin_32 _ (List.mem_of_getElem? hMn_45)
   rw [← hL_38.len] at hp_53
   clear hx
   have hx : (chk (0 ≤ k_42 ∧ k_42.toNat < B_34.length) <| setI B_34 k_42 y_43.Data fun m_60 =>  some m_60) = some (B_34.set k_42.toNat y_43.Data):=lay_step hp_53
   refine Run.llz [] 2 ZF rfl (JL.alloc Z96 rfl (fun b_55 hb_55 => Run.llz_s [0,3,0] 10 ZF rfl ?_))
   obtain ⟨hp_56,hx⟩:=chk_some hx
   obtain ⟨b_57,o_58,hE_59⟩:=RowOf.place hr_39 hp_56
   refine ZA rfl rfl (Zu U22 S26 rfl rfl hE_59) ?_
   obtain ⟨m_60,hm_61,hi_62,hx⟩:=setI_some hx
   refine JL.stE 4 (k:=k_42) (y:=y_43.Data) S26 rfl hr_39 rfl hE_59 rfl rfl (⟨_,rfl,hs_51⟩) RSl.one hm_61 (fun Kr_63 hr_63 hlr_63 => Run.lnz_b [] 2 ZF rfl ?_)
   obtain rfl:=Option.some.inj hx
   refine JN.forget 0 (ZH 4 rfl (ZH 4 rfl (ZH 4 rfl (ZH 4 rfl (ZH 4 rfl ?_)))))
   exact JN.again (i:=(seen_33,B_34,K_35)) (seen_33.push n_41,B_34.set k_42.toNat y_43.Data,Kr_63) ⟨by simp only [Array.toList_push]; exact List.nodup_append.2 ⟨hn_36,by simp,fun a ha b hb e => by simp at hb; subst hb; subst e; exact hns_47 ha⟩,by simp only [Array.toList_push]; intro q hq; rcases List.mem_append.1 hq with h | h; exact hlt_37 q h; simp at h; subst h; exact (List.getElem?_eq_some_iff.1 hMn_45).1,hL_38.step (f:=(fun y : Write => y.Data)) hM_29.nodup hin_32 hMn_45 _ (fun q => by simp),hr_63⟩ (by simp only [Array.size_push]; simp only [Array.length_toList] at hs_49; omega) ⟨rfl,rfl,rfl,trivial⟩ rfl rfl
 ·
  have hxo_7:=hx; clear hx; have hx:=ht_8; clear ht_8
  refine JC.draw (so:=[_]) 7 rfl Mixed ⟨⟨0,rfl⟩,trivial⟩ (JA.val ⟨by kernel_rfl,by kernel_rfl⟩ (ZE _) (i:=0) rfl ⟨by kernel_rfl,by kernel_rfl,rfl⟩ trivial (ZB (Hle.refl _) ⟨⟨0,rfl⟩,trivial⟩) (R.fa F25_0 rfl) rfl (JA.val ⟨by kernel_rfl,by kernel_rfl⟩ (ZE _) (i:=3) rfl ⟨by kernel_rfl,by kernel_rfl,rfl⟩ trivial (ZB (Hle.refl _) ⟨⟨0,rfl⟩,trivial⟩) (R.fa F25_1 rfl) rfl (JA.two (i:=1) (j:=4) (by kernel_rfl) ?_ ?_)))
  ·
   refine JO.step rfl trivial rfl (fun K hK => Run.lnz [1] 2 ZF rfl (hK _ _ _ (ZB (Hle.refl _) ⟨⟨0,rfl⟩,trivial⟩) (JA.two (i:=2) (j:=4) (by kernel_rfl) ?_ ?_)))
   ·
    refine JO.step rfl trivial rfl (fun K hK => ?_)
    obtain ⟨x_9,hr_10,hx⟩:=ZD hx
    refine ZI (vs:=[_]) (args:=[_]) (K:=[]) (rst:=[_,_]) E160 rfl rfl rfl ZC (slices_Clone_byte_L_ok p_1.Blocks _ ha_2 _ hr_10) rfl (fun u_11 Ku_11 Hu_11 hRu_11 hleu_11 hfu_11 => ?_)
    obtain ⟨ar_12,nr_12,cr_12,Kr_12,rfl,rfl,rfl,hr_12,hnewr_12,-⟩:=hRu_11
    replace hr_12:=(RowOf.base hr_12 (fun p hp => (hfu_11 p (ZS 0 rfl hp)).resolve_left (hnewr_12 p hp)))
    refine ZW (hK _ _ _ (ZB (Hle.refl _) ⟨⟨1,rfl⟩,trivial⟩) (JA.one (i:=4) (by kernel_rfl) (JO.step rfl trivial rfl (fun K hK => ?_))))
    refine Run.lnz [2] 2 ZF rfl (hK _ _ _ (ZB (Hle.refl _) ⟨⟨1,rfl⟩,trivial⟩) (JA.val ⟨by kernel_rfl,by kernel_rfl⟩ (ZE _) (i:=5) rfl ⟨by kernel_rfl,by kernel_rfl,rfl⟩ trivial (ZB (Hle.refl _) ⟨⟨1,rfl⟩,trivial⟩) (R.bldP (vs:=[(0,.slice ar_12 nr_12 cr_12),(1,.slice aa_3 na_3 ca_3)]) (cs:=[.slice ar_12 nr_12 cr_12,.slice aa_3 na_3 ca_3]) Z25 B25 rfl rfl rfl) rfl (JA.one (i:=6) (by kernel_rfl) (JO.step rfl trivial rfl (fun K hK => ?_)))))
    refine Run.lnz [2] 2 ZF rfl (hK _ _ _ (ZB (Hle.refl _) ⟨⟨1,rfl⟩,trivial⟩) (Zg (by kernel_rfl) ?_))
    obtain rfl:=Option.some.inj hx
    refine ZH 1 rfl (ZH 1 rfl (ZH 2 rfl ?_))
    exact JN.cut ⟨ar_12,nr_12,cr_12,Kr_12,rfl,rfl,rfl,hr_12⟩ ⟨rfl,rfl,rfl,trivial⟩ rfl rfl
   ·
    refine JO.step rfl trivial rfl (fun K hK => Run.lnz [1] 2 ZF rfl (hK _ _ _ (ZB (Hle.refl _) ⟨⟨0,rfl⟩,trivial⟩) (JA.one (i:=2) (by kernel_rfl) (JO.step rfl trivial rfl (fun K hK => ?_)))))
    obtain ⟨x_13,hr_14,hx⟩:=ZD hx
    refine ZI (vs:=[_]) (args:=[_]) (K:=[]) (rst:=[_,_]) E160 rfl rfl rfl ZC (slices_Clone_byte_L_ok p_1.Blocks _ ha_2 _ hr_14) rfl (fun u_15 Ku_15 Hu_15 hRu_15 hleu_15 hfu_15 => ?_)
    obtain ⟨ar_16,nr_16,cr_16,Kr_16,rfl,rfl,rfl,hr_16,hnewr_16,-⟩:=hRu_15
    replace hr_16:=(RowOf.base hr_16 (fun p hp => (hfu_15 p (ZS 0 rfl hp)).resolve_left (hnewr_16 p hp)))
    refine ZW (hK _ _ _ (ZB (Hle.refl _) ⟨⟨1,rfl⟩,trivial⟩) (JA.val ⟨by kernel_rfl,by kernel_rfl⟩ (ZE _) (i:=5) rfl ⟨by kernel_rfl,by kernel_rfl,rfl⟩ trivial (ZB (Hle.refl _) ⟨⟨1,rfl⟩,trivial⟩) (R.bldP (vs:=[(0,.slice ar_16 nr_16 cr_16),(1,.slice aa_3 na_3 ca_3)]) (cs:=[.slice ar_16 nr_16 cr_16,.slice aa_3 na_3 ca_3]) Z25 B25 rfl rfl rfl) rfl (JA.one (i:=6) (by kernel_rfl) (JO.step rfl trivial rfl (fun K hK => ?_)))))
    refine Run.lnz [2] 2 ZF rfl (hK _ _ _ (ZB (Hle.refl _) ⟨⟨1,rfl⟩,trivial⟩) (Zg (by kernel_rfl) ?_))
    obtain rfl:=Option.some.inj hx
    refine ZH 1 rfl (ZH 1 rfl (ZH 2 rfl ?_))
    exact JN.cut ⟨ar_16,nr_16,cr_16,Kr_16,rfl,rfl,rfl,hr_16⟩ ⟨rfl,rfl,rfl,trivial⟩ rfl rfl
  ·
   refine JO.step rfl trivial rfl (fun K hK => Run.lnz [1] 2 ZF rfl (hK _ _ _ (ZB (Hle.refl _) ⟨⟨0,rfl⟩,trivial⟩) (JA.one (i:=1) (by kernel_rfl) (JO.step rfl trivial rfl (fun K hK => ?_)))))
   refine Run.lnz [1] 2 ZF rfl (hK _ _ _ (ZB (Hle.refl _) ⟨⟨0,rfl⟩,trivial⟩) (JA.one (i:=2) (by kernel_rfl) (JO.step rfl trivial rfl (fun K hK => ?_))))
   obtain ⟨x_17,hr_18,hx⟩:=ZD hx
   refine ZI (vs:=[_]) (args:=[_]) (K:=[]) (rst:=[_,_]) E160 rfl rfl rfl ZC (slices_Clone_byte_L_ok p_1.Blocks _ ha_2 _ hr_18) rfl (fun u_19 Ku_19 Hu_19 hRu_19 hleu_19 hfu_19 => ?_)
   obtain ⟨ar_20,nr_20,cr_20,Kr_20,rfl,rfl,rfl,hr_20,hnewr_20,-⟩:=hRu_19
   replace hr_20:=(RowOf.base hr_20 (fun p hp => (hfu_19 p (ZS 0 rfl hp)).resolve_left (hnewr_20 p hp)))
   refine ZW (hK _ _ _ (ZB (Hle.refl _) ⟨⟨1,rfl⟩,trivial⟩) (JA.val ⟨by kernel_rfl,by kernel_rfl⟩ (ZE _) (i:=5) rfl ⟨by kernel_rfl,by kernel_rfl,rfl⟩ trivial (ZB (Hle.refl _) ⟨⟨1,rfl⟩,trivial⟩) (R.bldP (vs:=[(0,.slice ar_20 nr_20 cr_20),(1,.slice aa_3 na_3 ca_3)]) (cs:=[.slice ar_20 nr_20 cr_20,.slice aa_3 na_3 ca_3]) Z25 B25 rfl rfl rfl) rfl (JA.one (i:=6) (by kernel_rfl) (JO.step rfl trivial rfl (fun K hK => ?_)))))
   refine Run.lnz [2] 2 ZF rfl (hK _ _ _ (ZB (Hle.refl _) ⟨⟨1,rfl⟩,trivial⟩) (Zg (by kernel_rfl) ?_))
   obtain rfl:=Option.some.inj hx
   refine ZH 1 rfl (ZH 1 rfl (ZH 2 rfl ?_))
   exact JN.cut ⟨ar_20,nr_20,cr_20,Kr_20,rfl,rfl,rfl,hr_20⟩ ⟨rfl,rfl,rfl,trivial⟩ rfl rfl

set_option maxHeartbeats 8000000 in
theorem dev_Read_1_ok (p_2 : Disk) (H : Heaplet) {b_1 : Nat} {aa_3 : Option Addr} {na_3 : Nat} {ca_3 : Nat} {aa_4 : Option Addr} {na_4 : Nat} {ca_4 : Nat} (ha_3 : IsSlice H (RSl RU8 1) 1 (.slice aa_3 na_3 ca_3) p_2.Blocks) (ha_4 : IsSlice H R_Write 2 (.slice aa_4 na_4 ca_4) p_2.Waits) (r : Disk × Disk) (hx : dev_Read_1 p_2 = some r) :
  Does Tryz.prog 100 #[.pointer (some ⟨b_1,0,none⟩)] [[(b_1,.cells #[.slice aa_3 na_3 ca_3,.slice aa_4 na_4 ca_4] 25 (0,0))]] H (fun u K' H' => ∃ ao0 : Option Addr,∃ n0 : Nat,∃ cap0 : Nat,∃ ao1 : Option Addr,∃ n1 : Nat,∃ cap1 : Nat,∃ ao2 : Option Addr,∃ n2 : Nat,∃ cap2 : Nat,∃ K2 : Own,∃ ao3 : Option Addr,∃ n3 : Nat,∃ cap3 : Nat,∃ K3 : Own,u = .agg #[.slice ao2 n2 cap2,.slice ao3 n3 cap3] ∧ K' = [[(b_1,.cells #[.slice ao0 n0 cap0,.slice ao1 n1 cap1] 25 (0,0))],K2,K3] ∧ IsSlice H' (RSl RU8 1) 1 (.slice ao0 n0 cap0) r.2.Blocks ∧ IsSlice H' R_Write 2 (.slice ao1 n1 cap1) r.2.Waits ∧ Pcs 0 5 26 (.slice ao2 n2 cap2) r.1.Blocks K2 ∧ (∀ p ∈ K2,p.1 ∉ ids (List.flatten [[(b_1,.cells #[.slice aa_3 na_3 ca_3,.slice aa_4 na_4 ca_4] 25 (0,0))]])) ∧ RowOf (New H H') R_Write 0 96 2 (.slice ao3 n3 cap3) r.1.Waits K3 ∧ (∀ p ∈ K3,p.1 ∉ ids (List.flatten [[(b_1,.cells #[.slice aa_3 na_3 ca_3,.slice aa_4 na_4 ca_4] 25 (0,0))]])) ∧ True):=by
 refine Does.enterL (vs:=[.pointer (some ⟨b_1,0,none⟩)]) (l:=[(0,.pointer (some ⟨b_1,0,none⟩))]) Tryz.func100 rfl rfl ⟨rfl,trivial⟩ (fun w hlt => ?_)
 unfold dev_Read_1 at hx
 refine Run.cl [] 2 ZF rfl (JL.alloc Z25 rfl (fun b_5 hb_5 => Run.ll_s [1] 5 ZF rfl ?_))
 obtain ⟨x_6,hr_7,hx⟩:=ZD hx
 refine ZI (vs:=[_,_]) (args:=[_,_]) (K:=[]) (rst:=[_,_]) E101 rfl rfl rfl ZC (dev_left_ok p_2 _ ha_3 ha_4 _ hr_7) rfl (fun u_8 Ku_8 Hu_8 hRu_8 hleu_8 hfu_8 => ?_)
 obtain ⟨ar_9,nr_9,cr_9,Kr_9,ar_10,nr_10,cr_10,Kr_10,rfl,rfl,hr_9,hnewr_9,hr_10,hnewr_10,-⟩:=hRu_8
 replace hr_9:=(Pcs.base hr_9 (fun p hp => (hfu_8 p (ZS 0 rfl hp)).resolve_left (hnewr_9 p hp)))
 replace hr_10:=(RowOf.base (RowOf.mono R_Write.mono (New.call (Hle.refl _)) hr_10) (fun p hp => (hfu_8 p (ZS 1 rfl hp)).resolve_left (hnewr_10 p hp)))
 refine Run.lnz_s [2] 4 ZF rfl (ZJ (vs:=[.agg #[.slice ar_9 nr_9 cr_9,.slice ar_10 nr_10 cr_10]]) (K:=[_,_,_]) (rst:=[_]) (.inl rfl) rfl rfl (Zn 2 rfl rfl S25 rfl) (ZO 3 rfl (ZO 0 rfl (ZO 0 rfl ZC))) ?_)
 obtain rfl:=Option.some.inj hx
 exact ⟨aa_3,na_3,ca_3,aa_4,na_4,ca_4,ar_9,nr_9,cr_9,Kr_9,ar_10,nr_10,cr_10,Kr_10,rfl,rfl,(ha_3.mono (RSl.mono RU8.mono) hleu_8),(ha_4.mono R_Write.mono hleu_8),(Pcs.weak (Nat.zero_le _) hr_9),(newP_ids hr_9 hlt),(ZT (Nat.zero_le _) hr_10),(Zh hr_10 hlt),trivial⟩

set_option maxHeartbeats 8000000 in
theorem dev_guarded_v2_ok (p_1 : Disk) (p_4 : Bool) (p_6 : Disk) (H : Heaplet) {aa_2 : Option Addr} {na_2 : Nat} {ca_2 : Nat} {aa_3 : Option Addr} {na_3 : Nat} {ca_3 : Nat} {b_5 : Nat} {aa_7 : Option Addr} {na_7 : Nat} {ca_7 : Nat} {aa_8 : Option Addr} {na_8 : Nat} {ca_8 : Nat} (ha_2 : IsSlice H (RSl RU8 1) 1 (.slice aa_2 na_2 ca_2) p_1.Blocks) (ha_3 : IsSlice H R_Write 2 (.slice aa_3 na_3 ca_3) p_1.Waits) (ha_7 : IsSlice H (RSl RU8 1) 1 (.slice aa_7 na_7 ca_7) p_6.Blocks) (ha_8 : IsSlice H R_Write 2 (.slice aa_8 na_8 ca_8) p_6.Waits) (r : Disk × Int × Disk) (hx : dev_guarded_v2 p_1 p_4 p_6 = some r) :
  Does Tryz.prog 98 #[.agg #[.slice aa_2 na_2 ca_2,.slice aa_3 na_3 ca_3],.bool p_4,.func (.func 100) #[] #[.pointer (some ⟨b_5,0,none⟩)]] [[(b_5,.cells #[.slice aa_7 na_7 ca_7,.slice aa_8 na_8 ca_8] 25 (0,0))]] H (fun u K' H' => ∃ ao0 : Option Addr,∃ n0 : Nat,∃ cap0 : Nat,∃ ao1 : Option Addr,∃ n1 : Nat,∃ cap1 : Nat,∃ ao2 : Option Addr,∃ n2 : Nat,∃ cap2 : Nat,∃ ao3 : Option Addr,∃ n3 : Nat,∃ cap3 : Nat,∃ K3 : Own,u = .tuple #[.agg #[.slice ao2 n2 cap2,.slice ao3 n3 cap3],.int .i64 r.2.1] ∧ K' = [[(b_5,.cells #[.slice ao0 n0 cap0,.slice ao1 n1 cap1] 25 (0,0))],K3] ∧ IsSlice H' (RSl RU8 1) 1 (.slice ao0 n0 cap0) r.2.2.Blocks ∧ IsSlice H' R_Write 2 (.slice ao1 n1 cap1) r.2.2.Waits ∧ IsSlice (New H H') (RSl RU8 1) 1 (.slice ao2 n2 cap2) r.1.Blocks ∧ RowOf (New H H') R_Write 0 96 2 (.slice ao3 n3 cap3) r.1.Waits K3 ∧ (∀ p ∈ K3,p.1 ∉ ids (List.flatten [[(b_5,.cells #[.slice aa_7 na_7 ca_7,.slice aa_8 na_8 ca_8] 25 (0,0))]])) ∧ True):=by
 refine Does.enterL (vs:=[.agg #[.slice aa_2 na_2 ca_2,.slice aa_3 na_3 ca_3],.bool p_4,.func (.func 100) #[] #[.pointer (some ⟨b_5,0,none⟩)]]) (l:=[(0,.agg #[.slice aa_2 na_2 ca_2,.slice aa_3 na_3 ca_3]),(1,.bool p_4),(2,.func (.func 100) #[] #[.pointer (some ⟨b_5,0,none⟩)])]) Tryz.func98 rfl rfl ⟨rfl,rfl,rfl,trivial⟩ (fun w hlt => ?_)
 unfold dev_guarded_v2 at hx
 refine Run.cl [] 2 ZF rfl (Zk rfl rfl (fun b_9 hb_9 => JL.alloc Z25 rfl (fun b_10 hb_10 => Run.ll_s [1] 6 ZF rfl ?_)))
 obtain ⟨x_11,hr_12,hx⟩:=ZD hx
 refine ZI (vs:=[_]) (args:=[_]) (K:=[]) (rst:=[_,_,_]) E55 rfl rfl rfl ZC (dev_Check_ok p_1 _ ha_2 ha_3 _ hr_12) rfl (fun u_13 Ku_13 Hu_13 hRu_13 hleu_13 hfu_13 => ?_)
 obtain ⟨rfl,rfl,rfl,-⟩:=hRu_13
 refine Run.lc_s [] 12 ZF rfl (ZM rfl (fun c_14 => ?_) (fun c_14 => ?_))
 ·
  replace hx:=ZK c_14 hx
  refine Run.cnz_bk [0] 11 ZF rfl (Zj (ZJ (vs:=[.agg #[.slice none 0 0,.slice none 0 0],.int .i64 x_11]) (K:=[_,_]) (rst:=[_,_]) (.inl rfl) rfl rfl (Zn 1 rfl rfl S25 (ZG rfl rfl)) (ZO 3 rfl (ZO 0 rfl ZC)) ?_))
  obtain rfl:=Option.some.inj hx
  exact ⟨aa_7,na_7,ca_7,aa_8,na_8,ca_8,none,0,0,none,0,0,[],rfl,rfl,ha_7,ha_8,(IsSlice.nil _ _ _),(ZR _ _ _ _ _),(fun p hp => by cases hp),trivial⟩
 ·
  replace hx:=ZL c_14 hx
  refine Run.ccz [] 7 ZF rfl (ZM rfl (fun c_15 => ?_) (fun c_15 => ?_))
  ·
   replace hx:=ZK c_15 hx
   refine Run.cnz_bk [0] 10 ZF rfl (Zj (ZJ (vs:=[.agg #[.slice none 0 0,.slice none 0 0],.int .i64 2]) (K:=[_,_]) (rst:=[_,_]) (.inl rfl) rfl rfl (Zn 1 rfl rfl S25 (ZG rfl rfl)) (ZO 3 rfl (ZO 0 rfl ZC)) ?_))
   obtain rfl:=Option.some.inj hx
   exact ⟨aa_7,na_7,ca_7,aa_8,na_8,ca_8,none,0,0,none,0,0,[],rfl,rfl,ha_7,ha_8,(IsSlice.nil _ _ _),(ZR _ _ _ _ _),(fun p hp => by cases hp),trivial⟩
  ·
   replace hx:=ZL c_15 hx
   refine Run.cl_bs [] 6 ZF rfl ?_
   obtain ⟨x_16,hr_17,hx⟩:=ZD hx
   refine ZI (vs:=[]) (args:=[_]) (K:=[_]) (rst:=[_,_]) E100 rfl rfl rfl (ZO 2 rfl ZC) (dev_Read_1_ok p_6 _ ha_7 ha_8 _ hr_17) rfl (fun u_18 Ku_18 Hu_18 hRu_18 hleu_18 hfu_18 => ?_)
   obtain ⟨az_19,nz_19,cz_19,az_20,nz_20,cz_20,ar_21,nr_21,cr_21,Kr_21,ar_22,nr_22,cr_22,Kr_22,rfl,rfl,hz_19,hz_20,hr_21,hnewr_21,hr_22,hnewr_22,-⟩:=hRu_18
   replace hr_21:=(Pcs.base hr_21 (fun p hp => (hfu_18 p (ZS 1 rfl hp)).resolve_left (hnewr_21 p hp)))
   replace hr_22:=(RowOf.base (RowOf.mono R_Write.mono (New.call (Hle.refl _)) hr_22) (fun p hp => (hfu_18 p (ZS 2 rfl hp)).resolve_left (hnewr_22 p hp)))
   refine Run.lnz_s [3] 5 ZF rfl (JN.pubPcs 1  rfl hr_21 (Nat.le_refl _) (fun H_23 hleH_23 hsH_23 => JN.forget 1 (ZJ (vs:=[.agg #[.slice ar_21 nr_21 cr_21,.slice ar_22 nr_22 cr_22],.int .i64 0]) (K:=[_,_]) (rst:=[_,_]) (.inl rfl) rfl rfl (Zn 2 rfl rfl S25 (ZG rfl rfl)) (ZO 0 rfl (ZO 0 rfl ZC)) ?_)))
   obtain rfl:=Option.some.inj hx
   exact ⟨az_19,nz_19,cz_19,az_20,nz_20,cz_20,ar_21,nr_21,cr_21,ar_22,nr_22,cr_22,Kr_22,rfl,rfl,(hz_19.mono (RSl.mono RU8.mono) hleH_23),(hz_20.mono R_Write.mono hleH_23),hsH_23,(ZT (Nat.zero_le _) (hr_22.mono R_Write.mono (New.mono hleH_23))),(Zh (hr_22.mono R_Write.mono (New.mono hleH_23)) hlt),trivial⟩

set_option maxHeartbeats 8000000 in
theorem dev_Read_ok (p_1 : Disk) (p_4 : Int) (H : Heaplet) {aa_2 : Option Addr} {na_2 : Nat} {ca_2 : Nat} {aa_3 : Option Addr} {na_3 : Nat} {ca_3 : Nat} (ha_2 : IsSlice H (RSl RU8 1) 1 (.slice aa_2 na_2 ca_2) p_1.Blocks) (ha_3 : IsSlice H R_Write 2 (.slice aa_3 na_3 ca_3) p_1.Waits) (r : List UInt8 × Int) (hx : dev_Read p_1 p_4 = some r) :
  Does Tryz.prog 43 #[.agg #[.slice aa_2 na_2 ca_2,.slice aa_3 na_3 ca_3],.int .i64 p_4] [] H (fun u K' H' => ∃ ao0 : Option Addr,∃ n0 : Nat,∃ cap0 : Nat,u = .tuple #[.slice ao0 n0 cap0,.int .i64 r.2] ∧ K' = [] ∧ IsSlice (New H H') RU8 1 (.slice ao0 n0 cap0) r.1 ∧ True):=by
 refine Does.enterL (vs:=[.agg #[.slice aa_2 na_2 ca_2,.slice aa_3 na_3 ca_3],.int .i64 p_4]) (l:=[(0,.agg #[.slice aa_2 na_2 ca_2,.slice aa_3 na_3 ca_3]),(1,.int .i64 p_4)]) Tryz.func43 rfl rfl ⟨rfl,rfl,trivial⟩ (fun w hlt => ?_)
 unfold dev_Read at hx
 refine Run.cl [] 2 ZF rfl (Zk rfl rfl (fun b_5 hb_5 => Run.lc_s [] 5 ZF rfl ?_))
 obtain ⟨t_6,ht_8,hx⟩:=ZD hx
 refine JC.cut (fun l o g => ∃ H_34 : Heaplet,∃ b_35 : Nat,∃ az_36 : Option Addr,∃ nz_36 : Nat,∃ cz_36 : Nat,∃ ar_37 : Option Addr,∃ nr_37 : Nat,∃ cr_37 : Nat,∃ Kr_37 : Own,l = [(1,.int .i64 p_4),(6,.pointer (some ⟨b_35,0,none⟩)),(7,.int .i64 t_6.2.2)] ∧ o = [[(b_35,.cells #[.slice az_36 nz_36 cz_36,.slice ar_37 nr_37 cr_37] 25 (0,0))],Kr_37] ∧ H_34 = g ∧ Hle H H_34 ∧ w.heap.size ≤ b_35 ∧ IsSlice (New H H_34) (RSl RU8 1) 1 (.slice az_36 nz_36 cz_36) t_6.1 ∧ RowOf (New H H_34) R_Write w.heap.size 96 2 (.slice ar_37 nr_37 cr_37) t_6.2.1 Kr_37) ?_ ?_
 ·
  rintro _ _ _ ⟨H_34,b_35,az_36,nz_36,cz_36,ar_37,nr_37,cr_37,Kr_37,rfl,rfl,rfl,hleH_34,hb_35,hz_36,hr_37⟩
  refine Run.nc_s [] 8 ZF rfl (ZM rfl (fun c_38 => ?_) (fun c_38 => ?_))
  ·
   replace hx:=ZK c_38 hx
   refine Run.cnz_k [] 9 ZF rfl (ZJ (vs:=[.slice none 0 0,.int .i64 t_6.2.2]) (K:=[]) (rst:=[_,_]) (.inl rfl) rfl rfl (ZG rfl (ZG rfl rfl)) ZC ?_)
   obtain rfl:=Option.some.inj hx
   exact ⟨none,0,0,rfl,rfl,(IsSlice.nil _ _ _),trivial⟩
  ·
   replace hx:=ZL c_38 hx
   refine Run.cl_s [0] 7 ZF rfl ?_
   obtain ⟨y_39,hN_40,hx⟩:=ZY hx
   obtain ⟨b_41,o_42,cs_43,hE_44,hR_45,hl_46,hc_47⟩:=IsSlice.elem hz_36 hN_40
   obtain ⟨v_48,rfl,hs_49⟩:=hR_45
   obtain ⟨av_48,cv_48',rfl⟩:=IsSlice.val hs_49
   refine ZA rfl rfl (Zu U22 S26 rfl rfl hE_44) (ZA rfl rfl (R.ldH S26 rfl ((fun j u e => New.le _ _ _ _ _ (hc_47 j u e)) 0 _ rfl)) (Run.lnz_s [] 5 ZF rfl (ZJ (vs:=[.slice av_48 y_39.length cv_48',.int .i64 0]) (K:=[]) (rst:=[_,_]) (.inl rfl) rfl rfl (ZG rfl (ZG rfl rfl)) ZC ?_)))
   obtain rfl:=Option.some.inj hx
   exact ⟨av_48,y_39.length,cv_48',rfl,rfl,hs_49,trivial⟩
 ·
  have hxo_7:=hx; clear hx; have hx:=ht_8; clear ht_8
  refine JC.draw (so:=[]) 11 rfl Mixed trivial (JA.val ⟨by kernel_rfl,by kernel_rfl⟩ (ZE _) (i:=1) rfl ⟨by kernel_rfl,by kernel_rfl,rfl⟩ trivial (ZB (Hle.refl _) trivial) (ZZ rfl) rfl (JA.val ⟨by kernel_rfl,by kernel_rfl⟩ (ZE _) (i:=3) rfl ⟨by kernel_rfl,by kernel_rfl,rfl⟩ trivial (ZB (Hle.refl _) trivial) (R.func (vf:=[]) (vc:=[_]) rfl rfl) rfl (JAA.start [⟨8,6,25,.agg #[.slice none 0 0,.slice none 0 0]⟩] rfl ?_)))
  obtain ⟨x_9,hr_10,hx⟩:=ZD hx
  obtain ⟨x_12,hr_13,hx⟩:=ZD hx
  refine JAA.two (i:=0) (j:=2) ⟨⟨_,_,_,rfl,Z25,rfl⟩,trivial⟩ (Hle.refl _) trivial rfl (by kernel_rfl) ?_ ?_
  ·
   refine JOA.step rfl trivial rfl (fun tl_20 to_21 K hK => Run.lnz [0] 2 ZF rfl (hK (by repeat constructor) (by repeat constructor) (ZB (Hle.refl _) trivial) (JAA.one (i:=2) ⟨⟨_,_,_,rfl,Z25,rfl⟩,trivial⟩ (Hle.refl _) trivial rfl (by kernel_rfl) (JOA.step rfl trivial rfl (fun tl_22 to_23 K hK => ZI (vs:=[_]) (args:=[_]) (K:=[]) (rst:=_ :: to_23) E99 rfl rfl rfl ZC (dev_place_ok p_4 _ _ hr_10) rfl (fun u_11 Ku_11 Hu_11 hRu_11 hleu_11 hfu_11 => ?_))))))
   obtain ⟨rfl,rfl,rfl,-⟩:=hRu_11
   refine ZW (hK (by repeat constructor) (by repeat constructor) (ZB (Hle.refl _) trivial) (JAA.one (i:=4) ⟨⟨_,_,_,rfl,Z25,rfl⟩,trivial⟩ (Hle.refl _) trivial rfl (by kernel_rfl) (JOA.step rfl trivial rfl (fun tl_24 to_25 K hK => ZI (vs:=[_,_,_]) (args:=[_,_,_]) (K:=[_]) (rst:=to_25) E98 rfl rfl rfl (ZO 0 rfl ZC) (dev_guarded_v2_ok p_1 x_9 p_1 _ ha_2 ha_3 ha_2 ha_3 _ hr_13) rfl (fun u_14 Ku_14 Hu_14 hRu_14 hleu_14 hfu_14 => ?_)))))
   obtain ⟨az_15,nz_15,cz_15,az_16,nz_16,cz_16,az_17,nz_17,cz_17,ar_18,nr_18,cr_18,Kr_18,rfl,rfl,hz_15,hz_16,hz_17,hr_18,hnewr_18,-⟩:=hRu_14
   replace hr_18:=(RowOf.base (RowOf.mono R_Write.mono (New.call (Hle.refl _)) hr_18) (fun p hp => (hfu_14 p (ZS 1 rfl hp)).resolve_left (hnewr_18 p hp)))
   replace hz_17:=IsSlice.mono (RSl.mono RU8.mono) (New.call (Hle.refl _)) hz_17
   refine ZW (hK (by repeat constructor) (by repeat constructor) (ZB hleu_14 trivial) (JAA.val ⟨by kernel_rfl,by kernel_rfl⟩ (ZE _) (i:=5) rfl (by kernel_rfl) rfl trivial hleu_14 trivial (ZZ rfl) rfl (JAA.val ⟨by kernel_rfl,by kernel_rfl⟩ (ZE _) (i:=6) rfl (by kernel_rfl) rfl trivial hleu_14 trivial (R.extract rfl rfl) rfl (JAA.val ⟨by kernel_rfl,by kernel_rfl⟩ (ZE _) (i:=7) rfl (by kernel_rfl) rfl trivial hleu_14 trivial (R.extract rfl rfl) rfl (JAA.all ⟨⟨_,_,_,rfl,Z25,rfl⟩,trivial⟩ hleu_14 trivial rfl (by kernel_rfl) (fun b_26 hb_26 => JA.one (i:=9) (by kernel_rfl) (JO.step rfl trivial rfl (fun K hK => ?_))))))))
   refine Run.lnz [2] 2 ZF rfl (hK _ _ _ (ZB hleu_14 trivial) (JA.val ⟨by kernel_rfl,by kernel_rfl⟩ (ZE _) (i:=10) rfl ⟨by kernel_rfl,by kernel_rfl,rfl⟩ trivial (ZB hleu_14 trivial) (R.assign rfl) rfl (Zg (by kernel_rfl) ?_)))
   obtain rfl:=Option.some.inj hx
   refine JN.forget 0 (ZH 1 rfl ?_)
   exact JN.cut ⟨Hu_14,b_26,az_17,nz_17,cz_17,ar_18,nr_18,cr_18,Kr_18,rfl,rfl,rfl,(hleu_14),hb_26,hz_17,hr_18⟩ ⟨rfl,rfl,rfl,trivial⟩ rfl rfl
  ·
   refine JOA.step rfl trivial rfl (fun tl_27 to_28 K hK => ZI (vs:=[_]) (args:=[_]) (K:=[]) (rst:=_ :: to_28) E99 rfl rfl rfl ZC (dev_place_ok p_4 _ _ hr_10) rfl (fun u_11 Ku_11 Hu_11 hRu_11 hleu_11 hfu_11 => ?_))
   obtain ⟨rfl,rfl,rfl,-⟩:=hRu_11
   refine ZW (hK (by repeat constructor) (by repeat constructor) (ZB (Hle.refl _) trivial) (JAA.one (i:=0) ⟨⟨_,_,_,rfl,Z25,rfl⟩,trivial⟩ (Hle.refl _) trivial rfl (by kernel_rfl) (JOA.step rfl trivial rfl (fun tl_29 to_30 K hK => ?_))))
   refine Run.lnz [0] 2 ZF rfl (hK (by repeat constructor) (by repeat constructor) (ZB (Hle.refl _) trivial) (JAA.one (i:=4) ⟨⟨_,_,_,rfl,Z25,rfl⟩,trivial⟩ (Hle.refl _) trivial rfl (by kernel_rfl) (JOA.step rfl trivial rfl (fun tl_31 to_32 K hK => ZI (vs:=[_,_,_]) (args:=[_,_,_]) (K:=[_]) (rst:=to_32) E98 rfl rfl rfl (ZO 0 rfl ZC) (dev_guarded_v2_ok p_1 x_9 p_1 _ ha_2 ha_3 ha_2 ha_3 _ hr_13) rfl (fun u_14 Ku_14 Hu_14 hRu_14 hleu_14 hfu_14 => ?_)))))
   obtain ⟨az_15,nz_15,cz_15,az_16,nz_16,cz_16,az_17,nz_17,cz_17,ar_18,nr_18,cr_18,Kr_18,rfl,rfl,hz_15,hz_16,hz_17,hr_18,hnewr_18,-⟩:=hRu_14
   replace hr_18:=(RowOf.base (RowOf.mono R_Write.mono (New.call (Hle.refl _)) hr_18) (fun p hp => (hfu_14 p (ZS 1 rfl hp)).resolve_left (hnewr_18 p hp)))
   replace hz_17:=IsSlice.mono (RSl.mono RU8.mono) (New.call (Hle.refl _)) hz_17
   refine ZW (hK (by repeat constructor) (by repeat constructor) (ZB hleu_14 trivial) (JAA.val ⟨by kernel_rfl,by kernel_rfl⟩ (ZE _) (i:=5) rfl (by kernel_rfl) rfl trivial hleu_14 trivial (ZZ rfl) rfl (JAA.val ⟨by kernel_rfl,by kernel_rfl⟩ (ZE _) (i:=6) rfl (by kernel_rfl) rfl trivial hleu_14 trivial (R.extract rfl rfl) rfl (JAA.val ⟨by kernel_rfl,by kernel_rfl⟩ (ZE _) (i:=7) rfl (by kernel_rfl) rfl trivial hleu_14 trivial (R.extract rfl rfl) rfl (JAA.all ⟨⟨_,_,_,rfl,Z25,rfl⟩,trivial⟩ hleu_14 trivial rfl (by kernel_rfl) (fun b_33 hb_33 => JA.one (i:=9) (by kernel_rfl) (JO.step rfl trivial rfl (fun K hK => ?_))))))))
   refine Run.lnz [2] 2 ZF rfl (hK _ _ _ (ZB hleu_14 trivial) (JA.val ⟨by kernel_rfl,by kernel_rfl⟩ (ZE _) (i:=10) rfl ⟨by kernel_rfl,by kernel_rfl,rfl⟩ trivial (ZB hleu_14 trivial) (R.assign rfl) rfl (Zg (by kernel_rfl) ?_)))
   obtain rfl:=Option.some.inj hx
   refine JN.forget 0 (ZH 1 rfl ?_)
   exact JN.cut ⟨Hu_14,b_33,az_17,nz_17,cz_17,ar_18,nr_18,cr_18,Kr_18,rfl,rfl,rfl,(hleu_14),hb_33,hz_17,hr_18⟩ ⟨rfl,rfl,rfl,trivial⟩ rfl rfl

theorem slices_Clone_byte_ok (p_1 : List UInt8) (H : Heaplet) {ao : Option Addr} {n cap : Nat} (hs : IsSlice H RU8 1 (.slice ao n cap) p_1) (r : List UInt8) (hx : slices_Clone_byte p_1 = some r) :
  Does Tryz.prog 163 #[.slice ao n cap] [] H (fun u K' H' => ∃ ao0 : Option Addr,∃ n0 : Nat,∃ cap0 : Nat,∃ K0 : Own,u = .slice ao0 n0 cap0 ∧ K' = [K0] ∧ H = H' ∧ RowOf (New H H') RU8 0 5 1 (.slice ao0 n0 cap0) r K0 ∧ (∀ p ∈ K0,p.1 ∉ ids (List.flatten [])) ∧ True):=by
 rw [slices_Clone_byte.eq_1] at hx
 obtain ⟨q,hq,hl,hx⟩:=Zo hx
 obtain rfl:=Option.some.inj hx
 refine Does.enter (vs:=[.slice ao n cap]) (l:=[(0,.slice ao n cap)]) Tryz.func163 rfl rfl ⟨rfl,trivial⟩ (fun w => Run.cl [] 9 ZF rfl (ZA rfl rfl (R.eqlNil U26 rfl rfl) (Run.lcz_s [] 2 ZF rfl ?_)))
 cases ao with
 | none =>
  have hp:=hs.none_nil
  subst hp
  simp only [List.append_nil] at hq
  subst hq
  refine Run.cnz_k [] 8 ZF rfl (Zj (ZJ (vs:=[.slice none 0 0]) (K:=[_]) (rst:=[]) (.inl rfl) rfl rfl (ZG rfl rfl) (ZO 0 rfl ZC) ?_))
  exact ⟨none,0,0,[],rfl,rfl,rfl,ZR _ _ _ _ _,(fun p hp => by cases hp),trivial⟩
 | some a =>
  refine Run.cl_s [] 5 ZF rfl (JL.bslF (HF:=New H H) (R:=RU8) (ls:=[]) (vs:=[]) U26 I5 rfl rfl rfl RU8.one rfl rfl rfl (by simp [maxLen]) rfl (fun v1 K1 h1 => ?_))
  obtain ⟨ao1,cap1,rfl⟩:=RowOf.val h1
  refine ZA rfl rfl (ZZ rfl) (Zr (HF:=New H H) 0 U26 I5 rfl rfl h1 rfl (SrcF.sliceC RU8.const RU8.one U26 hs) hq hl rfl (Nat.le_refl _) rfl (fun v2 K2 h2 => ?_))
  obtain ⟨ao2,cap2,rfl⟩:=RowOf.val h2
  refine Run.lnz_s [] 4 ZF rfl (ZJ (vs:=[.slice ao2 _ cap2]) (K:=[_]) (rst:=[]) (.inl rfl) rfl rfl (ZG rfl rfl) (ZO 0 rfl ZC) ?_)
  exact ⟨_,_,_,_,rfl,rfl,rfl,ZT (Nat.zero_le _) h2,(fun p hp hm => by cases hm),trivial⟩

set_option maxHeartbeats 8000000 in
theorem slices_Clip_byte_ok (p_1 : List UInt8) (H : Heaplet) {aa_2 : Option Addr} {na_2 : Nat} {ca_2 : Nat} (ha_2 : IsSlice H RU8 1 (.slice aa_2 na_2 ca_2) p_1) (r : List UInt8) (hx : slices_Clip_byte p_1 = some r) :
  Does Tryz.prog 162 #[.slice aa_2 na_2 ca_2] [] H (fun u K' H' => ∃ ao0 : Option Addr,∃ n0 : Nat,u = .slice ao0 n0 n0 ∧ K' = [] ∧ H = H' ∧ IsSlice H RU8 1 (.slice ao0 n0 n0) r ∧ True):=by
 refine Does.enterL (vs:=[.slice aa_2 na_2 ca_2]) (l:=[(0,.slice aa_2 na_2 ca_2)]) Tryz.func162 rfl rfl ⟨rfl,trivial⟩ (fun w hlt => ?_)
 unfold slices_Clip_byte at hx
 refine Run.cl [] 9 ZF rfl (ZA rfl rfl (ZV U26 rfl (IsSlice.long ha_2)) (ZA rfl rfl (ZZ rfl) (ZA rfl rfl (ZV U26 rfl (IsSlice.long ha_2)) ?_)))
 obtain ⟨m_3,hm_5,hb_4,hx⟩:=slc_some hx
 obtain ⟨vv_6,cv_6,av_6,h1v_6,h2v_6,hsv_6⟩:=IsSlice.cutc ha_2 hm_5 hb_4
 refine ZA rfl rfl (R.slc (cap:=cv_6) (a:=0) (b:=(p_1.length : Int)) (c:=(p_1.length : Int)) (m:=p_1) (R:=RU8) U26 S5 rfl rfl ⟨_,rfl⟩ ⟨_,rfl⟩ ⟨hb_4.1,hb_4.2.1,Int.le_refl _⟩ h1v_6 (.inr (fun h => by cases h))) ?_
 subst h2v_6
 refine Run.lnz_s [] 4 ZF rfl (ZJ (vs:=[.slice av_6 m_3.length m_3.length]) (K:=[]) (rst:=[]) (.inl rfl) rfl rfl (ZG rfl rfl) ZC ?_)
 obtain rfl:=Option.some.inj hx
 exact ⟨av_6,m_3.length,rfl,rfl,rfl,hsv_6,trivial⟩

theorem slices_Chunk_byte_ok (p_1 : List UInt8) (p_2 : Int) (H : Heaplet) {ao : Option Addr} {n cap : Nat} (hs : IsSlice H RU8 1 (.slice ao n cap) p_1) (r : Unit) (hx : slices_Chunk_byte p_1 p_2 = some r) :
  Does Tryz.prog 144 #[.slice ao n cap,.int .i64 p_2] [] H (fun u K' H' => ∃ b2 b3 : Nat,u = .func (.func 200) #[] #[.pointer (some ⟨b2,0,none⟩),.pointer (some ⟨b3,0,none⟩)] ∧ K' = [] ∧ H' b2 0 = some (.slice ao n cap) ∧ H' b3 0 = some (.int .i64 p_2) ∧ (1 ≤ p_2 ∧ p_2 ≤ 1099511627776 ∧ p_1.length ≤ LIM) ∧ True):=by
 unfold slices_Chunk_byte at hx
 split at hx
 case isFalse => cases hx
 rename_i hp
 refine Does.enter (vs:=[.slice ao n cap,.int .i64 p_2]) (l:=[(0,.slice ao n cap),(1,.int .i64 p_2)]) Tryz.func144 rfl rfl ⟨rfl,rfl,trivial⟩ (fun w => Run.cl [] 2 ZF rfl (Zk rfl rfl (fun b2 hb2 => Zk rfl rfl (fun b3 hb3 => Run.lc_s [0] 10 ZF rfl (ZM rfl (fun c => ?_) (fun c => ?_))))))
 ·
  exact absurd (of_decide_eq_true c) (by omega)
 refine Run.cnz_s [] 9 ZF rfl (JN.pubBox 0 rfl hb3 (fun H1 hle1 hc1 => JN.forget 0 (JN.pubBox 0 rfl hb2 (fun H2 hle2 hc2 => JN.forget 0 (JN.out1 (.inl rfl) rfl rfl rfl ?_)))))
 exact ⟨_,_,rfl,rfl,hc2 0 _ rfl,hle2 _ _ _ (hc1 0 _ rfl),hp,trivial⟩

set_option maxHeartbeats 8000000 in
theorem slices_Chunk_byte_it (m : List UInt8) (N : Int) (hN : 1 ≤ N ∧ N ≤ 1099511627776 ∧ m.length ≤ LIM) (H : Heaplet) {v : Value} {b2 b3 : Nat} (hs : IsSlice H RU8 1 v m) (hb2 : H b2 0 = some v) (hb3 : H b3 0 = some (.int .i64 N)) :
  IterL Tryz.prog 200 #[.pointer (some ⟨b2,0,none⟩),.pointer (some ⟨b3,0,none⟩)] H (fun H' args (y : List UInt8) => ∃ ao : Option Addr,args = #[.slice ao y.length y.length] ∧ IsSlice H' RU8 1 (.slice ao y.length y.length) y) (chunks N.toNat m.length m):=by
 intro lr I X o hY hI
 obtain ⟨hN1,hN2,hml⟩:=hN
 unfold LIM at hml
 obtain ⟨ao,cap,rfl⟩:=hs.val
 show Does Tryz.prog 200 #[.func (.yield lr) #[] #[],.pointer (some ⟨b2,0,none⟩),.pointer (some ⟨b3,0,none⟩)] o H _
 refine Does.enter (vs:=[.func (.yield lr) #[] #[],.pointer (some ⟨b2,0,none⟩),.pointer (some ⟨b3,0,none⟩)]) (l:=[(0,.func (.yield lr) #[] #[]),(1,.pointer (some ⟨b2,0,none⟩)),(2,.pointer (some ⟨b3,0,none⟩))]) Tryz.func200 rfl rfl ⟨rfl,rfl,rfl,trivial⟩ (fun w => Run.cc [] 6 ZF rfl ?_)
 refine JC.loop (ι:=Nat × Nat × List (List UInt8) × List Own × Heaplet) (fun i => [(0,.func (.yield lr) #[] #[]),(1,.pointer (some ⟨b2,0,none⟩)),(2,.pointer (some ⟨b3,0,none⟩)),(4,.int .i64 ((i.1 : Nat) : Int))]) (fun i => i.2.2.2.1) (fun i => i.2.2.2.2)
  (fun i => i.1 ≤ 2199023255552 ∧ m.length ≤ i.1 + i.2.1 ∧ i.2.2.1 ++ chunks N.toNat i.2.1 (m.drop i.1) = chunks N.toNat m.length m ∧ I i.2.2.1 i.2.2.2.1 i.2.2.2.2 ∧ Hle H i.2.2.2.2) (fun i => m.length + 1 - i.1) (0,m.length,[],o,H) (⟨by omega,by simp,by simp,hI,Hle.refl _⟩) ⟨rfl,rfl,rfl,rfl,trivial⟩ rfl rfl ?_
 rintro ⟨i,f,pre,o2,H2⟩ hI0
 dsimp only at hI0 ⊢
 obtain ⟨hi2,hf,hpre,hI2,hle⟩:=hI0
 have hb2':=hle _ _ _ hb2
 have hb3':=hle _ _ _ hb3
 have hs2:=IsSlice.mono RU8.mono hle hs
 refine Run.cl [] 4 ZF rfl (ZA rfl rfl (R.ldH S26 rfl hb2') (ZA rfl rfl (ZV U26 rfl (IsSlice.long hs2)) (Run.lcz_s [] 3 ZF rfl (ZM rfl (fun c => ?_) (fun c => ?_)))))
 ·
  have hlt : i < m.length:=by have:=of_decide_eq_true c; omega
  have hne : m.drop i ≠ []:=fun h => by have:=List.drop_eq_nil_iff.1 h; omega
  obtain ⟨f',rfl⟩ : ∃ f',f = f' + 1:=⟨f - 1,by omega⟩
  rw [chunks_step hne,List.drop_drop] at hpre
  obtain ⟨e,he⟩ : ∃ e : Int,e = min N ((m.length : Int) - i):=⟨_,rfl⟩
  have hcut : (m.drop i).take N.toNat = cut m (i : Int) ((i : Int) + e):=by
   unfold cut
   rw [Int.toNat_natCast]
   by_cases h : N ≤ (m.length : Int) - i
   ·
    rw [show ((i : Int) + e).toNat - i = N.toNat by omega]
   ·
    rw [List.take_of_length_le (by rw [List.length_drop]; omega),List.take_of_length_le (by rw [List.length_drop]; omega)]
  refine Run.cc_s [] 5 ZF rfl ?_
  obtain ⟨v1,c1,h1,h2,h3,hs1⟩:=IsSlice.cutv (m':=cut m (i : Int) (m.length : Int)) hs2 rfl ⟨by omega,by omega,Int.le_refl _⟩
  have hl1 : ((cut m (i : Int) (m.length : Int)).length : Int) = (m.length : Int) - i:=cut_length (by omega) (by omega) (Int.le_refl _)
  refine JC.draw (so:=[]) 7 rfl Mixed trivial (JA.val ⟨by kernel_rfl,by kernel_rfl⟩ (ZE _) (i:=0) rfl ⟨by kernel_rfl,by kernel_rfl,rfl⟩ trivial (ZB (Hle.refl _) trivial) (R.ldH S3 rfl hb3') rfl (JA.val ⟨by kernel_rfl,by kernel_rfl⟩ (ZE _) (i:=1) rfl ⟨by kernel_rfl,by kernel_rfl,rfl⟩ trivial (ZB (Hle.refl _) trivial) (R.ldH S26 rfl hb2') rfl (JA.val ⟨by kernel_rfl,by kernel_rfl⟩ (ZE _) (i:=2) rfl ⟨by kernel_rfl,by kernel_rfl,rfl⟩ trivial (ZB (Hle.refl _) trivial) (ZZ rfl) rfl (JA.val ⟨by kernel_rfl,by kernel_rfl⟩ (ZE _) (i:=3) rfl ⟨by kernel_rfl,by kernel_rfl,rfl⟩ trivial (ZB (Hle.refl _) trivial) (R.slc (cap:=c1) (a:=(i : Int)) (b:=(m.length : Int)) (c:=(c1 : Int)) (m:=m) (R:=RU8) U26 S5 rfl ⟨_,rfl⟩ rfl (by obtain ⟨ao,n,e,_⟩:=h1; exact ⟨ao,n,e,rfl⟩) ⟨by omega,by omega,h2⟩ h3 (.inl rfl)) rfl (JA.val ⟨by kernel_rfl,by kernel_rfl⟩ (ZE _) (i:=4) rfl ⟨by kernel_rfl,by kernel_rfl,rfl⟩ trivial (ZB (Hle.refl _) trivial) (R.lenE U26 rfl ⟨_,IsSlice.long hs1,hl1⟩) rfl (JA.val ⟨by kernel_rfl,by kernel_rfl⟩ (ZE _) (i:=5) rfl ⟨by kernel_rfl,by kernel_rfl,rfl⟩ trivial (ZB (Hle.refl _) trivial) (R.min2 rfl rfl) rfl ?_))))))
  rw [← he]
  refine JA.val ⟨by kernel_rfl,by kernel_rfl⟩ (ZE _) (i:=6) rfl ⟨by kernel_rfl,by kernel_rfl,rfl⟩ trivial (ZB (Hle.refl _) trivial) (R.assign rfl) rfl (Zg (by kernel_rfl) (JN.next ?_))
  have hw : w64 ((i : Int) + e) = (i : Int) + e:=Zq (by omega) (by omega)
  obtain ⟨v2,c2,ao2,g1,g2,hs3⟩:=IsSlice.cutc (m':=(m.drop i).take N.toNat) hs2 hcut ⟨by omega,by omega,by omega⟩
  subst g2
  refine Run.cl [] 3 ZF rfl (ZA rfl rfl (R.ldH S26 rfl hb2') (Run.llz [] 4 ZF rfl ?_))
  rw [hw]
  refine Run.llz [] 3 ZF rfl ?_
  rw [hw]
  refine ZA rfl rfl (R.slc (cap:=c2) (a:=(i : Int)) (b:=(i : Int) + e) (c:=(i : Int) + e) (m:=m) (R:=RU8) U26 S5 rfl ⟨_,rfl⟩ ⟨_,rfl⟩ ⟨_,rfl⟩ ⟨by omega,by omega,Int.le_refl _⟩ g1 (.inr (fun h => by cases h))) (JL.yield (vs:=[_]) (mine:=[]) ((m.drop i).take N.toNat) hY rfl rfl hI2 (⟨⟨ao2,rfl,hs3⟩,_,by rw [← hpre]⟩) rfl rfl (fun o17 H17 hle17 hI17 => ?_) (fun o17 H17 hle17 hX17 => ?_))
  ·
   refine Run.llz_sbs [] 9 ZF rfl (ZA rfl rfl (R.ldH S3 rfl (hle17 _ _ _ hb3')) (Run.lnz [] 3 ZF rfl ?_))
   have hw2 : w64 ((i : Int) + N) = ((i + N.toNat : Nat) : Int):=by rw [Zq (by omega) (by omega)]; omega
   refine JN.again (i:=(i,f' + 1,pre,o2,H2)) (i + N.toNat,f',pre ++ [(m.drop i).take N.toNat],o17,H17) (by
    refine ⟨?_,?_,?_,hI17,hle.trans hle17⟩
    ·
     simp only; omega
    ·
     simp only; omega
    ·
     simp only [List.append_assoc,List.singleton_append]; exact hpre) (by simp only; omega) (by exact ⟨rfl,rfl,rfl,by show some _ = some _; rw [hw2],trivial⟩) rfl rfl
  ·
   refine Run.lnz_sbk [] 7 ZF rfl (Run.nnz_kb [] 2 ZF rfl (JN.out0 (.inl rfl) rfl rfl ?_))
   exact ⟨hle.trans hle17,.inr ⟨_,⟨chunks N.toNat f' (m.drop (i + N.toNat)),by rw [← hpre]; simp⟩,hX17⟩⟩
 ·
  have hge : m.length ≤ i:=by have:=of_decide_eq_false c; omega
  refine Run.cnz_kkb [] 4 ZF rfl (JN.out0 (.inr rfl) rfl rfl (⟨hle,.inl ⟨pre,?_,hI2⟩⟩))
  rw [← hpre,List.drop_eq_nil_of_le hge,chunks_nil,List.append_nil]

set_option maxHeartbeats 8000000 in
theorem code_sized_ok (p_1 : Int) (H : Heaplet) (r : Bool) (hx : code_sized p_1 = some r) :
  Does Tryz.prog 202 #[.int .i64 p_1] [] H (fun u K' H' => u = .bool r ∧ K' = [] ∧ H = H' ∧ True):=by
 refine Does.enterL (vs:=[.int .i64 p_1]) (l:=[(0,.int .i64 p_1)]) Tryz.func202 rfl rfl ⟨rfl,trivial⟩ (fun w hlt => ?_)
 unfold code_sized at hx
 refine Run.cc [] 6 ZF rfl ?_
 obtain ⟨t_2,ht_4,hx⟩:=ZD hx
 refine JC.cut (fun l o g => l = [(2,.bool t_2)] ∧ o = [] ∧ H = g) ?_ ?_
 ·
  rintro _ _ _ ⟨rfl,rfl,rfl⟩
  refine Run.nnz_s [] 2 ZF rfl (ZJ (vs:=[.bool t_2]) (K:=[]) (rst:=[]) (.inl rfl) rfl rfl (ZG rfl rfl) ZC ?_)
  obtain rfl:=Option.some.inj hx
  exact ⟨rfl,rfl,rfl,trivial⟩
 ·
  have hxo_3:=hx; clear hx; have hx:=ht_4; clear ht_4
  refine Run.clz [] 4 ZF rfl (ZQ (t:=5) rfl (fun c_5 => ?_) (fun c_5 => ?_))
  ·
   replace hx:=ZK c_5 hx
   refine Run.lnz [] 7 ZF rfl ?_
   obtain rfl:=Option.some.inj hx
   exact JN.cut ⟨rfl,rfl,rfl⟩ ⟨rfl,trivial⟩ rfl rfl
  ·
   replace hx:=ZL c_5 hx
   refine Run.lnz [] 5 ZF rfl ?_
   obtain rfl:=Option.some.inj hx
   exact JN.cut ⟨rfl,rfl,rfl⟩ ⟨rfl,trivial⟩ rfl rfl

theorem slices_Backward_byte_ok (p_1 : List UInt8) (H : Heaplet) {ao : Option Addr} {n cap : Nat} (hs : IsSlice H RU8 1 (.slice ao n cap) p_1) (r : Unit) (hx : slices_Backward_byte p_1 = some r) :
  Does Tryz.prog 203 #[.slice ao n cap] [] H (fun u K' H' => ∃ b : Nat,u = .func (.func 239) #[] #[.pointer (some ⟨b,0,none⟩)] ∧ K' = [] ∧ H' b 0 = some (.slice ao n cap) ∧ True):=by
 refine Does.enter (vs:=[.slice ao n cap]) (l:=[(0,.slice ao n cap)]) Tryz.func203 rfl rfl ⟨rfl,trivial⟩ (fun w => Run.cl [] 2 ZF rfl (Zk rfl rfl (fun b1 hb1 => JL.assign rfl rfl (Run.ll_s [] 4 ZF rfl (JL.func (vf:=#[]) (vc:=#[_]) rfl rfl rfl (JL.assign rfl rfl (Run.lnz_s [] 3 ZF rfl (JN.pubBox 0 rfl hb1 (fun H1 hle1 hc1 => JN.forget 0 ?_)))))))))
 have hc:=hc1 0 _ rfl
 refine JN.out1 (.inl rfl) rfl rfl rfl ?_
 exact ⟨_,rfl,rfl,hc,trivial⟩

theorem slices_Backward_byte_it (m : List UInt8) (H : Heaplet) {v : Value} {b : Nat} (hs : IsSlice H RU8 1 v m) (hb : H b 0 = some v) :
  IterL Tryz.prog 239 #[.pointer (some ⟨b,0,none⟩)] H (fun _ args (y : Nat × UInt8) => args = #[.int .i64 ((y.1 : Nat) : Int),.int .u8 (y.2.toNat : Int)]) (bwd m m.length):=by
 intro lr I X o hY hI
 have hlen:=hs.len_le
 obtain ⟨ao,cap,rfl⟩:=hs.val
 show Does Tryz.prog 239 #[.func (.yield lr) #[] #[],.pointer (some ⟨b,0,none⟩)] o H _
 refine Does.enter (vs:=[.func (.yield lr) #[] #[],.pointer (some ⟨b,0,none⟩)]) (l:=[(0,.func (.yield lr) #[] #[]),(1,.pointer (some ⟨b,0,none⟩))]) Tryz.func239 rfl rfl ⟨rfl,rfl,trivial⟩ (fun w => Run.cl [] 2 ZF rfl (JL.ldH S26 rfl hb rfl (JL.lenS U26 rfl hs rfl (JL.subI rfl rfl (wi64 (by omega) (by omega)) rfl (JL.assign rfl rfl ?_)))))
 refine Run.lc_s [] 3 ZF rfl (JC.loop (ι:=Nat × List (Nat × UInt8) × List Own × Heaplet) (fun i => [(0,.func (.yield lr) #[] #[]),(1,.pointer (some ⟨b,0,none⟩)),(3,.int .i64 ((i.1 : Int) - 1))]) (fun i => i.2.2.1) (fun i => i.2.2.2) (fun i => i.1 ≤ m.length ∧ i.2.1 ++ bwd m i.1 = bwd m m.length ∧ I i.2.1 i.2.2.1 i.2.2.2 ∧ Hle H i.2.2.2) (fun i => i.1) (m.length,[],o,H) (⟨Nat.le_refl _,rfl,hI,Hle.refl _⟩) ⟨rfl,rfl,rfl,trivial⟩ rfl rfl ?_)
 rintro ⟨k,pre,o2,H2⟩ hI0
 dsimp only at hI0 ⊢
 obtain ⟨hk,hpre,hI2,hle⟩:=hI0
 have hb2:=hle _ _ _ hb
 have hs2:=IsB.mono hle hs
 refine Run.cl [] 3 ZF rfl (JL.move rfl rfl (JL.geq rfl rfl rfl (Run.lcz_s [] 2 ZF rfl (JC.condP rfl (fun c8 => ?_) (fun c8 => ?_)))))
 ·
  refine Run.cl_s [] 6 ZF rfl (JL.move rfl rfl (JL.move rfl rfl (JL.ldH S26 rfl hb2 rfl (JL.move rfl rfl (JL.ixB (k:=k - 1) U26 S5 rfl hs2 rfl (by omega) (by omega) rfl (fun b15 o15 hc15 => JL.ldH S5 rfl hc15 rfl ?_))))))
  have e1 : ((k - 1 : Nat) : Int) = (k : Int) - 1:=by omega
  have e2 : m.getD (k - 1) 0 = m[k - 1]:=by rw [List.getD_eq_getElem?_getD,List.getElem?_eq_getElem (show k - 1 < m.length by omega),Option.getD_some]
  have e3 : bwd m k = (k - 1,m.getD (k - 1) 0) :: bwd m (k - 1):=by rw [show k = (k - 1) + 1 by omega]; rfl
  refine JL.yield (vs:=[_,_]) (mine:=[]) ((k - 1,m.getD (k - 1) 0)) hY rfl rfl hI2 (⟨by simp only [e1,e2],bwd m (k - 1),by rw [← hpre,e3]⟩) rfl rfl (fun o17 H17 hle17 hI17 => ?_) (fun o17 H17 hle17 hX17 => ?_)
  ·
   refine JL.not rfl rfl (Run.llz_sbs [] 7 ZF rfl (JL.move rfl rfl (JL.subI rfl rfl (wi64 (by omega) (by omega)) rfl (JL.assign rfl rfl (ZW (JN.again (i:=(k,pre,o2,H2)) (k - 1,pre ++ [(k - 1,m.getD (k - 1) 0)],o17,H17) (by exact ⟨by simp only; omega,by rw [← hpre,e3]; simp,hI17,hle.trans hle17⟩) (by simp only; omega) (by exact ⟨rfl,rfl,by show some _ = some _; simp only [e1],trivial⟩) rfl rfl))))))
  ·
   refine JL.not rfl rfl (Run.lnz_sbk [] 6 ZF rfl (Run.nnz_kb [] 2 ZF rfl (JN.out0 (.inl rfl) rfl rfl ?_)))
   exact ⟨hle.trans hle17,.inr ⟨_,⟨bwd m (k - 1),by rw [← hpre,e3]; simp⟩,hX17⟩⟩
 ·
  refine Run.cnz_kkb [] 4 ZF rfl (JN.out0 (.inr rfl) rfl rfl ?_)
  exact ⟨hle,.inl ⟨pre,by rw [← hpre,show k = 0 by omega]; simp [bwd],hI2⟩⟩

set_option maxHeartbeats 8000000 in
theorem code_Get_ok (p_1 : List UInt8) (p_3 : Int) (p_4 : Int) (H : Heaplet) {aa_2 : Option Addr} {na_2 : Nat} {ca_2 : Nat} (ha_2 : IsSlice H RU8 1 (.slice aa_2 na_2 ca_2) p_1) (r : Int × Int) (hx : code_Get p_1 p_3 p_4 = some r) :
  Does Tryz.prog 146 #[.slice aa_2 na_2 ca_2,.int .i64 p_3,.int .i64 p_4] [] H (fun u K' H' => u = .tuple #[.int .i64 r.1,.int .i64 r.2] ∧ K' = [] ∧ True):=by
 refine Does.enterML (vs:=[.slice aa_2 na_2 ca_2,.int .i64 p_3,.int .i64 p_4]) (l:=[(0,.slice aa_2 na_2 ca_2),(1,.int .i64 p_3),(2,.int .i64 p_4)]) Tryz.func146 rfl rfl ⟨rfl,rfl,rfl,trivial⟩ (fun w hlt => ?_)
 unfold code_Get at hx
 refine Run.cl [] 12 ZF rfl ?_
 obtain ⟨x_5,hr_6,hx⟩:=ZD hx
 refine ZI (vs:=[_]) (args:=[_]) (K:=[]) (rst:=[]) E202 rfl rfl rfl ZC (code_sized_ok p_4 _ _ hr_6) rfl (fun u_7 Ku_7 Hu_7 hRu_7 hleu_7 hfu_7 => ?_)
 obtain ⟨rfl,rfl,rfl,-⟩:=hRu_7
 refine Run.lcz_s [] 4 ZF rfl ?_
 obtain ⟨t_8,ht_10,hx⟩:=ZD hx
 refine JC.cut (fun l o g => l = [(0,.slice aa_2 na_2 ca_2),(1,.int .i64 p_3),(2,.int .i64 p_4),(11,.bool t_8)] ∧ o = [] ∧ H = g) ?_ ?_
 ·
  rintro _ _ _ ⟨rfl,rfl,rfl⟩
  refine JN.next (ZM rfl (fun c_13 => ?_) (fun c_13 => ?_))
  ·
   replace hx:=ZK c_13 hx
   refine Run.cnz_bk [] 9 ZF rfl (JN.outMP (vs:=[.int .i64 0,.int .i64 2]) (K:=[]) (rst:=[]) (own2:=[]) [] (.inl rfl) ⟨rfl,rfl,rfl,rfl⟩ rfl rfl ZC (ZG rfl (ZG rfl rfl)) ZC ?_)
   obtain rfl:=Option.some.inj hx
   exact ⟨rfl,rfl,trivial⟩
  ·
   replace hx:=ZL c_13 hx
   refine Run.cl [] 6 ZF rfl (ZA rfl rfl (ZV U26 rfl (IsSlice.long ha_2)) (Run.lcz_s [] 4 ZF rfl (ZM rfl (fun c_14 => ?_) (fun c_14 => ?_))))
   ·
    replace hx:=ZK c_14 hx
    refine Run.cnz_bk [] 9 ZF rfl (JN.outMP (vs:=[.int .i64 0,.int .i64 8]) (K:=[]) (rst:=[]) (own2:=[]) [] (.inl rfl) ⟨rfl,rfl,rfl,rfl⟩ rfl rfl ZC (ZG rfl (ZG rfl rfl)) ZC ?_)
    obtain rfl:=Option.some.inj hx
    exact ⟨rfl,rfl,trivial⟩
   ·
    replace hx:=ZL c_14 hx
    refine Run.cl_bs [] 5 ZF rfl (JL.alloc Z3 rfl (fun b_15 hb_15 => Run.ll_s [0] 11 ZF rfl ?_))
    obtain ⟨m_16,hm_18,hb_17,hx⟩:=slc_some hx
    obtain ⟨vv_19,cv_19,h1v_19,h2v_19,h3v_19,hsv_19⟩:=IsSlice.cutv ha_2 hm_18 hb_17
    refine ZA rfl rfl (R.slc (cap:=cv_19) (a:=p_3) (b:=w64 (p_3 + p_4)) (c:=(cv_19 : Int)) (m:=p_1) (R:=RU8) U26 S5 rfl ⟨_,rfl⟩ ⟨_,rfl⟩ (by obtain ⟨ao,n,e,_⟩:=h1v_19; exact ⟨ao,n,e,rfl⟩) ⟨hb_17.1,hb_17.2.1,h2v_19⟩ h3v_19 (.inl rfl)) ?_
    obtain ⟨av_19,cv_19',rfl⟩:=IsSlice.val hsv_19
    obtain ⟨x_20,hr_21,hx⟩:=ZD hx
    refine ZI (vs:=[_]) (args:=[_]) (K:=[]) (rst:=[_]) E203 rfl rfl rfl ZC (slices_Backward_byte_ok m_16 _ hsv_19 _ hr_21) rfl (fun u_22 Ku_22 Hu_22 hRu_22 hleu_22 hfu_22 => ?_)
    obtain ⟨bit_23,rfl,rfl,hit_23,-⟩:=hRu_22
    refine Run.lc_s [] 3 ZF rfl ?_
    obtain ⟨t_24,ht_26,hx⟩:=ZD hx
    refine JC.rangeL (RA:=fun _ args (y : Nat × UInt8) => args = #[.int .i64 ((y.1 : Nat) : Int),.int .u8 (y.2.toNat : Int)]) rfl code_Get_r1 0 t_24 ht_26 (fun s_27 o g => ∃ H_33 : Heaplet,o = [[(b_15,.cells #[.int .i64 s_27] 3 (0,0))]] ∧ H_33 = g ∧ Hle Hu_22 H_33) (fun e c o g => False) rfl E239 (slices_Backward_byte_it m_16 _ (hsv_19.mono RU8.mono hleu_22) hit_23) (fun _ _ _ h => by rw [h]; rfl) rfl ⟨Hu_22,rfl,rfl,(Hle.refl _)⟩ ?_ ?_ ?_
    ·
     rintro lr_29 y_28 s_27 args o g out_31 ⟨H_33,rfl,rfl,hleH_33⟩ hA hx2
     clear hx; have hx:=hx2; clear hx2; unfold code_Get_r1 at hx
     subst hA
     refine ⟨[(8,.pointer (some ⟨b_15,0,none⟩)),(10,.int .u8 (y_28.2.toNat : Int))],fun wb_30 hwb_30 => ?_,fun wb_30 hwb_30 => ?_⟩
     ·
      refine Run.cnz [] 3 ZF rfl ?_
      exact JN.assigned ⟨rfl,rfl,trivial⟩
     ·
      refine Run.cl [0] 5 ZF rfl (ZA rfl rfl (R.cv_u8_i64 (a:=y_28.2) U5 U3 rfl) (Run.lnz_b [0] 4 ZF rfl ?_))
      obtain rfl:=Option.some.inj hx
      exact JN.rN ⟨H_33,rfl,rfl,(hleH_33)⟩
    ·
     rintro D_32 s_27 o g hD_32 htt ⟨H_33,rfl,rfl,hleH_33⟩ hle2
     subst htt; simp only [Sum.elim_inl] at hx
     refine Run.nnz_bs [1] 10 ZF rfl (JN.outMP (vs:=[.int .i64 s_27,.int .i64 0]) (K:=[]) (rst:=[_]) (own2:=[_]) [D_32] (.inl rfl) ⟨rfl,rfl,rfl,rfl⟩ rfl rfl (ZO 0 rfl ZC) (ZG rfl (ZG rfl rfl)) ZC ?_)
     obtain rfl:=Option.some.inj hx
     exact ⟨rfl,rfl,trivial⟩
    ·
     rintro D c e o g hD htt hX; exact hX.elim
 ·
  have hxo_9:=hx; clear hx; have hx:=ht_10; clear ht_10
  refine ZM rfl (fun c_11 => ?_) (fun c_11 => ?_)
  ·
   replace hx:=ZK c_11 hx
   refine JC.skip ?_
   obtain rfl:=Option.some.inj hx
   exact JN.cut ⟨rfl,rfl,rfl⟩ ⟨rfl,rfl,rfl,rfl,trivial⟩ rfl rfl
  ·
   replace hx:=ZL c_11 hx
   refine Run.ccz [] 7 ZF rfl (ZM rfl (fun c_12 => ?_) (fun c_12 => ?_))
   ·
    replace hx:=ZK c_12 hx
    refine JC.skip ?_
    obtain rfl:=Option.some.inj hx
    exact JN.cut ⟨rfl,rfl,rfl⟩ ⟨rfl,rfl,rfl,rfl,trivial⟩ rfl rfl
   ·
    replace hx:=ZL c_12 hx
    refine Run.clz [] 3 ZF rfl (ZA rfl rfl (ZV U26 rfl (IsSlice.long ha_2)) (Run.lnz [] 3 ZF rfl ?_))
    obtain rfl:=Option.some.inj hx
    exact JN.cut ⟨rfl,rfl,rfl⟩ ⟨rfl,rfl,rfl,rfl,trivial⟩ rfl rfl

set_option maxHeartbeats 8000000 in
theorem mix_number_ok (p_1 : List UInt8) (H : Heaplet) {aa_2 : Option Addr} {na_2 : Nat} {ca_2 : Nat} (ha_2 : IsSlice H RU8 1 (.slice aa_2 na_2 ca_2) p_1) (r : UInt32) (hx : mix_number p_1 = some r) :
  Does Tryz.prog 164 #[.slice aa_2 na_2 ca_2] [] H (fun u K' H' => u = .int .u32 (r.toNat : Int) ∧ K' = [] ∧ True):=by
 refine Does.enterL (vs:=[.slice aa_2 na_2 ca_2]) (l:=[(0,.slice aa_2 na_2 ca_2)]) Tryz.func164 rfl rfl ⟨rfl,trivial⟩ (fun w hlt => ?_)
 unfold mix_number at hx
 refine Run.cl [] 8 ZF rfl ?_
 obtain ⟨x_3,hr_4,hx⟩:=ZD hx
 refine ZI (vs:=[_,_,_]) (args:=[_,_,_]) (K:=[]) (rst:=[]) E146 rfl rfl rfl ZC (code_Get_ok p_1 0 4 _ ha_2 _ hr_4) rfl (fun u_5 Ku_5 Hu_5 hRu_5 hleu_5 hfu_5 => ?_)
 obtain ⟨rfl,rfl,-⟩:=hRu_5
 refine Run.ll_s [] 10 ZF rfl (ZA rfl rfl (R.cv_i64_u32 U3 U27 rfl) (Run.lnz_s [] 4 ZF rfl (ZJ (vs:=[.int .u32 ((u32i x_3.1).toNat : Int)]) (K:=[]) (rst:=[]) (.inl rfl) rfl rfl (ZG rfl rfl) ZC ?_)))
 obtain rfl:=Option.some.inj hx
 exact ⟨rfl,rfl,trivial⟩
end Go.Proofs.YtebhagohhbmgoaaGreat
