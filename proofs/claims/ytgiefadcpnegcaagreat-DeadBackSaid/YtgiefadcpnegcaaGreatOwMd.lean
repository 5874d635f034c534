import Derived.Test.YtgiefadcpnegcaaGreatOwMa
import Derived.Test.YtgiefadcpnegcaaGreatOwMb
import Derived.Test.YtgiefadcpnegcaaGreatOwSo
/- plain functions: what the code computes. -/
set_option linter.unusedSimpArgs false
set_option linter.unusedVariables false
namespace Go.Ow
def dev_cut (p_1:List Int):Option (List (List UInt8)):=if(∀n∈p_1,0≤n)∧(p_1.map Int.toNat).sum≤LIM∧p_1.length≤LIM then some (p_1.map λn=>List.replicate n.toNat 0)else none
def dev_place (p_1:Int):Option Bool:=
 some (decide ((u64i p_1)<(256:UInt64)))
def dev_Check_l2 (p_1:Disk)(s_18:Bool×Nat):Option ((Bool×Nat) ⊕ Bool):=
 cond (decide (((s_18.2:Nat):Int)<(p_1.Waits.length:Int))) (idx p_1.Waits ((s_18.2:Nat):Int) λy_22=>cond s_18.1 (Option.bind (dev_place y_22.At) λx_35=>cond x_35 (some (.inl (decide ((y_22.Data.length:Int)=256),s_18.2+1))) (some (.inl (false,s_18.2+1)))) (some (.inl (false,s_18.2+1)))) (some (.inr s_18.1))
def dev_Check_l1 (p_1:Disk)(s_12:Bool×Nat):Option ((Bool×Nat) ⊕ Bool):=
 cond (decide (((s_12.2:Nat):Int)<(p_1.Blocks.length:Int))) (idx p_1.Blocks ((s_12.2:Nat):Int) λy_16=>cond s_12.1 (some (.inl (decide ((y_16.length:Int)=256),s_12.2+1))) (some (.inl (false,s_12.2+1)))) (some (.inr s_12.1))
def dev_Check (p_1:Disk):Option Int:=
 Option.bind (cond (decide ((p_1.Blocks.length:Int)=256)) (some (decide ((p_1.Waits.length:Int)≤4096))) (some false)) (λt_5=>Option.bind (loop (dev_Check_l1 p_1) (t_5,0)) (λt_9=>Option.bind (loop (dev_Check_l2 p_1) (t_9,0)) (λt_15=>cond t_15 (some 0) (some 8))))
def slices_Max_byte_l1 (p_1:List UInt8)(s_16:UInt8×Nat):Option ((UInt8×Nat) ⊕ UInt8):=
 cond (decide (((s_16.2:Nat):Int)<(p_1.length:Int))) (idx p_1 ((s_16.2:Nat):Int) λy_20=>some (.inl (maxB s_16.1 y_20,s_16.2+1))) (some (.inr s_16.1))
def slices_Max_byte (p_1:List UInt8):Option UInt8:=
 cond (decide ((p_1.length:Int)<1)) (none) (idx p_1 0 λy_4=>Option.bind (loop (slices_Max_byte_l1 p_1) (y_4,1)) (λt_13=>some t_13))
def unicode_utf8_RuneCount (p_0:List UInt8):Option Int:=none
def bytes_Index (p_0:List UInt8)(p_1:List UInt8):Option Int:=none
def bytes_Count_l1 (p_3:List UInt8)(s_22:List UInt8×Int):Option ((List UInt8×Int) ⊕ Int):=
 Option.bind (bytes_Index s_22.1 p_3) λx_26=>cond (decide (x_26=(-1))) (some (.inr s_22.2)) (slc s_22.1 (w64 (x_26+(p_3.length:Int))) (s_22.1.length:Int) λm_30=>some (.inl (m_30,w64 (s_22.2+1))))
def bytes_Count (p_1:List UInt8)(p_3:List UInt8):Option Int:=
 cond (decide ((p_3.length:Int)=0)) (Option.bind (unicode_utf8_RuneCount p_1) λx_6=>some (w64 (x_6+1))) (cond (decide ((p_3.length:Int)=1)) (idx p_3 0 λy_10=>some ((cntB p_1 y_10:Nat):Int)) (Option.bind (loop (bytes_Count_l1 p_3) (p_1,0)) (λt_19=>some t_19)))
def space_Check (p_1:List UInt8):Option Int:=
 cond (!decide ((p_1.length:Int)=256)) (some 8) (Option.bind (slices_Max_byte p_1) λx_4=>cond (decide ((2:UInt8)<x_4)) (some 8) (slc p_1 0 12 λm_8=>Option.bind (bytes_Count m_8 ([(1:UInt8)])) λx_16=>cond (!decide (x_16=12)) (some 8) (some 0)))
def store_Check (p_1:Store):Option Int:=
 Option.bind (dev_Check (Disk.mk p_1.Disk.Blocks p_1.Disk.Waits)) λx_6=>cond (!decide (x_6=0)) (some 8) (Option.bind (space_Check p_1.Space) λx_10=>cond (!decide (x_10=0)) (some 8) (cond (decide (p_1.Epoch<(1:UInt32))) (some 8) (cond (decide ((65535:UInt32)<p_1.Epoch)) (some 8) (cond (decide ((65535:UInt32)<p_1.Count)) (some 8) (some 0)))))
def store_asked_l1 (p_7:List (List UInt8))(s_19:Int×Nat):Option ((Int×Nat) ⊕ (Unit ⊕ Unit)):=
 cond (decide (((s_19.2:Nat):Int)<(p_7.length:Int))) (idx p_7 ((s_19.2:Nat):Int) λy_23=>cond (!decide ((y_23.length:Int)=s_19.1)) (some (.inr (.inr ()))) (some (.inl (256,s_19.2+1)))) (some (.inr (.inl ())))
def store_asked (p_1:Store)(p_5:UInt32)(p_6:Int)(p_7:List (List UInt8)):Option Int:=
 Option.bind (store_Check p_1) λx_10=>cond (!decide (x_10=0)) (some x_10) (cond (decide (p_5<(1:UInt32))) (some 2) (cond (decide ((16777215:UInt32)<p_5)) (some 2) (Option.bind (loop (store_asked_l1 p_7) (p_6,0)) (λt_16=>Sum.elim (λt_16a=>some 0) (λt_16b=>some 3) t_16))))
def code_sized (p_1:Int):Option Bool:=
 Option.bind (cond (decide (0<p_1)) (some (decide (p_1≤4))) (some false)) (λt_2=>some t_2)
def code_Put_l1 (p_2:Int)(s_13:Int×List UInt8):Option ((Int×List UInt8) ⊕ (List UInt8)):=
 cond (decide ((s_13.2.length:Int)<p_2)) (app s_13.2 ([u8i s_13.1]) λq_19=>some (.inl (w64 (s_13.1.tdiv 256),q_19))) (some (.inr s_13.2))
def code_Put (p_1:Int)(p_2:Int):Option (List UInt8×Int):=
 Option.bind (code_sized p_2) λx_3=>cond (!x_3) (some (([]:List UInt8),2)) (cond (decide (p_1<0)) (some (([]:List UInt8),2)) (chk (0≤(w64 (8*p_2)))<|cond (decide ((sli 1 (w64 (8*p_2)))≤p_1)) (some (([]:List UInt8),2)) (Option.bind (loop (code_Put_l1 p_2) (p_1,([]:List UInt8))) (λt_10=>some (t_10,0)))))
def slices_Grow_byte (p_1:Int):Option (List UInt8):=
 cond (decide (p_1<0)) (none) (Option.bind (cond (decide (0<(w64 (p_1-0)))) (mks (w64 (p_1-0)) (0:UInt8) λq_9=>slc q_9 0 0 λm_13=>some m_13) (some ([]:List UInt8))) (λt_3=>some t_3))
def slices_Clone_byte (p_1:List UInt8):Option (List UInt8):=app [] p_1 λq=>some q
def slices_Clip_byte (p_1:List UInt8):Option (List UInt8):=
 slc p_1 0 (p_1.length:Int) λm_3=>some m_3
def slices_Chunk_byte (p_1:List UInt8)(p_2:Int):Option Unit:=if 1≤p_2∧p_2≤1099511627776∧p_1.length≤LIM then some ()else none
def slices_Backward_byte (p_1:List UInt8):Option Unit:=some ()
def code_Get_r1 (y_28:Nat×UInt8)(s_27:Int):Option (Int ⊕ Unit):=
 some (.inl (w64 ((w64 (256*s_27))+(y_28.2.toNat:Int))))
def code_Get (p_1:List UInt8)(p_3:Int)(p_4:Int):Option (Int×Int):=
 Option.bind (code_sized p_4) λx_5=>Option.bind (cond (!x_5) (some true) (cond (decide (p_3<0)) (some true) (some (decide ((p_1.length:Int)<p_3))))) (λt_8=>cond t_8 (some (0,2)) (cond (decide ((p_1.length:Int)<(w64 (p_3+p_4)))) (some (0,8)) (slc p_1 p_3 (w64 (p_3+p_4)) λm_16=>Option.bind (slices_Backward_byte m_16) λx_20=>Option.bind (forL code_Get_r1 (bwd m_16 m_16.length) 0) (λt_24=>Sum.elim (λs_27=>some (s_27,0)) (λ_=>none) t_24))))
def mix_number (p_1:List UInt8):Option UInt32:=
 Option.bind (code_Get p_1 0 4) λx_3=>some (u32i x_3.1)
def math_bits_RotateLeft32 (p_1:UInt32)(p_2:Int):Option UInt32:=
 some ((sl32 p_1 ((((u64i p_2)&&&(31:UInt64)).toNat:Int)).toNat) |||(sr32 p_1 ((((32:UInt64)-((u64i p_2)&&&(31:UInt64))).toNat:Int)).toNat))
def mix_words_turned_1 (p_1:Int)(p_2:Int)(p_4:A4 UInt32):Option (A4 UInt32):=
 Option.bind (math_bits_RotateLeft32 (p_4.e3^^^(p_4.e0+p_4.e1)) p_1) λx_5=>Option.bind (math_bits_RotateLeft32 (p_4.e1^^^(p_4.e2+x_5)) p_2) λx_8=>some (A4.mk (p_4.e0+p_4.e1) x_8 (p_4.e2+x_5) x_5)
def mix_words_turned (p_1:A4 UInt32):Option (A4 UInt32):=
 Option.bind (mix_words_turned_1 15 11 p_1) λx_4=>Option.bind (mix_words_turned_1 9 6 x_4) λx_7=>some x_7
def mix_words_often_l1 (p_2:Int)(s_8:UInt32×UInt32×UInt32×UInt32×Int):Option ((UInt32×UInt32×UInt32×UInt32×Int) ⊕ (UInt32×UInt32×UInt32×UInt32)):=
 cond (decide (s_8.2.2.2.2<p_2)) (Option.bind (mix_words_turned (A4.mk s_8.1 s_8.2.1 s_8.2.2.1 s_8.2.2.2.1)) λx_12=>some (.inl (x_12.e0,x_12.e1,x_12.e2,x_12.e3,w64 (s_8.2.2.2.2+1)))) (some (.inr (s_8.1,s_8.2.1,s_8.2.2.1,s_8.2.2.2.1)))
def mix_words_often (p_1:A4 UInt32)(p_2:Int):Option (A4 UInt32):=
 Option.bind (loop (mix_words_often_l1 p_2) (p_1.e0,p_1.e1,p_1.e2,p_1.e3,0)) (λt_5=>some (A4.mk t_5.1 t_5.2.1 t_5.2.2.1 t_5.2.2.2))
def mix_four_r2 (y_36:List UInt8)(s_35:UInt32×UInt32×UInt32×UInt32):Option ((UInt32×UInt32×UInt32×UInt32) ⊕ Unit):=
 Option.bind (slc y_36 0 4 λm_45=>Option.bind (mix_number m_45) λx_49=>some (s_35.1^^^x_49)) (λt_42=>slc y_36 4 (y_36.length:Int) λm_56=>Option.bind (mix_number m_56) λx_60=>Option.bind (mix_words_often (A4.mk t_42 s_35.2.1 (s_35.2.2.1^^^x_60) s_35.2.2.2) 4) λx_63=>some (.inl (x_63.e0,x_63.e1,x_63.e2,x_63.e3)))
def mix_four_l1 (s_22:List UInt8):Option ((List UInt8) ⊕ (List UInt8)):=
 cond (!decide (((s_22.length:Int).tmod 8)=0)) (app s_22 ([(0:UInt8)]) λq_28=>some (.inl q_28)) (some (.inr s_22))
def mix_four (p_1:List UInt8):Option (A4 UInt32):=
 Option.bind (slices_Clone_byte p_1) λx_5=>Option.bind (slices_Clip_byte x_5) λx_10=>app x_10 ([(1:UInt8)]) λq_15=>Option.bind (loop mix_four_l1 q_15) (λt_19=>Option.bind (slices_Chunk_byte t_19 8) λx_28=>Option.bind (forL mix_four_r2 (chunks (8:Int).toNat t_19.length t_19) ((1:UInt32),(2:UInt32),(3:UInt32),(4:UInt32))) (λt_32=>Sum.elim (λs_35=>Option.bind (mix_words_often (A4.mk s_35.1 (s_35.2.1^^^(u32i (p_1.length:Int))) s_35.2.2.1 s_35.2.2.2) 8) λx_42=>some x_42) (λ_=>none) t_32))
def mix_Sum (p_1:List UInt8):Option UInt32:=
 Option.bind (mix_four p_1) λx_3=>some x_3.e0
def space_free (p_1:List UInt8):Option (Int×List UInt8):=
 some ((-1),p_1)
def space_free_1_l1 (p_4:List UInt8)(s_9:Int):Option (Int ⊕ (Int ⊕ (Int×Int))):=
 cond (decide (s_9<(p_4.length:Int))) (idx p_4 s_9 λy_13=>cond (decide (y_13=(0:UInt8))) (some (.inr (.inr (s_9,s_9)))) (some (.inl (w64 (s_9+1))))) (some (.inr (.inl s_9)))
def space_free_1 (p_2:Int)(p_4:List UInt8):Option (Int×Int×List UInt8):=
 Option.bind (loop (space_free_1_l1 p_4) (w64 (p_2+1))) (λt_6=>Sum.elim (λt_6a=>some ((-1),t_6a,p_4)) (λt_6b=>some (t_6b.2,t_6b.1,p_4)) t_6)
def bytes_Clone (p_1:List UInt8):Option (List UInt8):=app [] p_1 λq=>some q
def space_Take (p_1:List UInt8):Option (List UInt8×Int×Int):=
 Option.bind (space_Check p_1) λx_3=>cond (!decide (x_3=0)) (some (([]:List UInt8),0,x_3)) (Option.bind (space_free p_1) λx_7=>Option.bind (space_free_1 x_7.1 x_7.2) λx_13=>cond (decide (x_13.1<0)) (some (([]:List UInt8),0,9)) (Option.bind (bytes_Clone p_1) λx_18=>chk (0≤x_13.1∧x_13.1.toNat<x_18.length)<|setI x_18 x_13.1 (1:UInt8) λm_26=>some (m_26,x_13.1,0)))
def dev_Write_1 (p_2:Disk):Option (Disk×Disk):=
 some (p_2,p_2)
def dev_guarded (p_1:Disk)(p_4:Bool)(p_6:Disk):Option (Disk×Int×Disk):=
 Option.bind (dev_Check p_1) λx_11=>cond (!decide (x_11=0)) (some (Disk.mk ([]:List (List UInt8)) ([]:List Write),x_11,p_6)) (cond (!p_4) (some (Disk.mk ([]:List (List UInt8)) ([]:List Write),2,p_6)) (Option.bind (dev_Write_1 p_6) λx_16=>some (x_16.1,0,x_16.2)))
def slices_Clip_Write (p_1:List Write):Option (List Write):=
 slc p_1 0 (p_1.length:Int) λm_3=>some m_3
def dev_Twin_l3 (p_1:Disk)(s_30:List Write×Nat):Option ((List Write×Nat) ⊕ (List Write)):=
 cond (decide (((s_30.2:Nat):Int)<(p_1.Waits.length:Int))) (idx p_1.Waits ((s_30.2:Nat):Int) λy_36=>Option.bind (bytes_Clone y_36.Data) λx_48=>app s_30.1 ([Write.mk y_36.At x_48]) λq_54=>some (.inl (q_54,s_30.2+1))) (some (.inr s_30.1))
def dev_Twin_l2 (p_1:Disk)(s_22:List (List UInt8)×Nat):Option ((List (List UInt8)×Nat) ⊕ (List (List UInt8))):=
 cond (decide (((s_22.2:Nat):Int)<(p_1.Blocks.length:Int))) (idx p_1.Blocks ((s_22.2:Nat):Int) λy_27=>idx s_22.1 ((s_22.2:Nat):Int) λy_38=>chk (y_27.length=y_38.length)<|setI s_22.1 ((s_22.2:Nat):Int) y_27 λm_51=>some (.inl (m_51,s_22.2+1))) (some (.inr s_22.1))
def dev_Twin_l1 (p_1:Disk)(s_9:List Int×Nat):Option ((List Int×Nat) ⊕ (List Int)):=
 cond (decide (((s_9.2:Nat):Int)<(p_1.Blocks.length:Int))) (idx p_1.Blocks ((s_9.2:Nat):Int) λy_14=>app s_9.1 ([(y_14.length:Int)]) λq_26=>some (.inl (q_26,s_9.2+1))) (some (.inr s_9.1))
def dev_Twin (p_1:Disk):Option Disk:=
 Option.bind (loop (dev_Twin_l1 p_1) (([]:List Int),0)) (λt_6=>Option.bind (dev_cut t_6) λx_15=>Option.bind (loop (dev_Twin_l2 p_1) (x_15,0)) (λt_19=>Option.bind (loop (dev_Twin_l3 p_1) (([]:List Write),0)) (λt_27=>some (Disk.mk t_19 t_27))))
def dev_Write (p_1:Disk)(p_4:Int)(p_5:List UInt8):Option (Disk×Int):=
 Option.bind (Option.bind (dev_place p_4) λx_12=>Option.bind (dev_guarded p_1 x_12 p_1) λx_15=>some (x_15.2.2.Blocks,x_15.2.2.Waits,x_15.2.1)) (λt_9=>cond (!decide (t_9.2.2=0)) (some (Disk.mk ([]:List (List UInt8)) ([]:List Write),t_9.2.2)) (cond (!decide ((p_5.length:Int)=256)) (some (Disk.mk ([]:List (List UInt8)) ([]:List Write),3)) (cond (decide ((t_9.2.1.length:Int)=4096)) (some (Disk.mk ([]:List (List UInt8)) ([]:List Write),9)) (Option.bind (Option.bind (slices_Clip_Write t_9.2.1) λx_31=>app x_31 ([Write.mk p_4 p_5]) λq_36=>Option.bind (dev_Twin (Disk.mk t_9.1 q_36)) λx_41=>some (x_41.Blocks,x_41.Waits)) (λt_28=>some (Disk.mk t_28.1 t_28.2,0))))))
def store_put (p_1:Store)(p_5:Ptr)(p_6:List UInt8):Option (Store×Ptr×Int):=
 Option.bind (space_Take p_1.Space) λx_12=>cond (!decide (x_12.2.2=0)) (some (Store.mk (Disk.mk ([]:List (List UInt8)) ([]:List Write)) ([]:List UInt8) (0:UInt32) (0:UInt32),Ptr.mk 0 (0:UInt32) (0:UInt32) (0:UInt32) (0:UInt32),x_12.2.2)) (Option.bind (dev_Write (Disk.mk p_1.Disk.Blocks p_1.Disk.Waits) x_12.2.1 p_6) λx_17=>cond (!decide (x_17.2=0)) (some (Store.mk (Disk.mk ([]:List (List UInt8)) ([]:List Write)) ([]:List UInt8) (0:UInt32) (0:UInt32),Ptr.mk 0 (0:UInt32) (0:UInt32) (0:UInt32) (0:UInt32),x_17.2)) (Option.bind (mix_Sum p_6) λx_23=>some (Store.mk (Disk.mk x_17.1.Blocks x_17.1.Waits) x_12.1 p_1.Epoch p_1.Count,Ptr.mk x_12.2.1 p_5.Birth p_5.Iv p_5.Tag x_23,0)))
def ptr_Check (p_1:Ptr):Option Int:=
 cond (decide (p_1.At=0)&&(decide (p_1.Birth=(0:UInt32))&&(decide (p_1.Iv=(0:UInt32))&&(decide (p_1.Tag=(0:UInt32))&&(decide (p_1.Sum=(0:UInt32))&&true))))) (some 0) (cond (decide (p_1.At<12)) (some 8) (cond (decide (256≤p_1.At)) (some 8) (cond (decide (p_1.Birth<(1:UInt32))) (some 8) (cond (decide ((16777215:UInt32)<p_1.Birth)) (some 8) (some 0)))))
def slices_Clone_byte_L (p_1:List (List UInt8)):Option (List (List UInt8)):=app [] p_1 λq=>some q
def dev_all (p_1:Int):Option Bool:=
 some true
def dev_lasts_l1 (p_1:Disk)(s_9:(List (Int×Write))×Nat):Option (((List (Int×Write))×Nat) ⊕ (List (Int×Write))):=
 cond (decide (((s_9.2:Nat):Int)<(p_1.Waits.length:Int))) (idx p_1.Waits ((s_9.2:Nat):Int) λy_14=>Option.bind (dev_all ((s_9.2:Nat):Int)) λx_26=>cond x_26 (some (.inl ((putM s_9.1 y_14.At y_14),s_9.2+1))) (some (.inl (s_9.1,s_9.2+1)))) (some (.inr s_9.1))
def dev_lasts (p_1:Disk):Option (List (Int×Write)):=
 Option.bind (loop (dev_lasts_l1 p_1) (([]:List (Int×Write)),0)) (λt_6=>some t_6)
def dev_left (p_1:Disk):Option Disk:=
 Option.bind (Option.bind (slices_Clone_byte_L p_1.Blocks) λx_9=>some x_9) (λt_6=>Option.bind (dev_lasts (Disk.mk t_6 p_1.Waits)) λx_22=>layR (λy:Write=>y.Data) t_6 x_22 λm_30=>Option.bind (dev_Twin (Disk.mk m_30 ([]:List Write))) λx_50=>some x_50)
def dev_Read_1 (p_2:Disk):Option (Disk×Disk):=
 Option.bind (dev_left p_2) λx_6=>some (x_6,p_2)
def dev_guarded_v2 (p_1:Disk)(p_4:Bool)(p_6:Disk):Option (Disk×Int×Disk):=
 Option.bind (dev_Check p_1) λx_11=>cond (!decide (x_11=0)) (some (Disk.mk ([]:List (List UInt8)) ([]:List Write),x_11,p_6)) (cond (!p_4) (some (Disk.mk ([]:List (List UInt8)) ([]:List Write),2,p_6)) (Option.bind (dev_Read_1 p_6) λx_16=>some (x_16.1,0,x_16.2)))
def dev_Read (p_1:Disk)(p_4:Int):Option (List UInt8×Int):=
 Option.bind (Option.bind (dev_place p_4) λx_9=>Option.bind (dev_guarded_v2 p_1 x_9 p_1) λx_12=>some (x_12.1.Blocks,x_12.1.Waits,x_12.2.1)) (λt_6=>cond (!decide (t_6.2.2=0)) (some (([]:List UInt8),t_6.2.2)) (idx t_6.1 p_4 λy_25=>some (y_25,0)))
def store_Look (p_1:Store)(p_5:Ptr):Option (List UInt8×Int):=
 Option.bind (store_Check p_1) λx_8=>cond (!decide (x_8=0)) (some (([]:List UInt8),8)) (Option.bind (ptr_Check p_5) λx_12=>cond (!decide (x_12=0)) (some (([]:List UInt8),8)) (cond (decide (p_5.At=0)&&(decide (p_5.Birth=(0:UInt32))&&(decide (p_5.Iv=(0:UInt32))&&(decide (p_5.Tag=(0:UInt32))&&(decide (p_5.Sum=(0:UInt32))&&true))))) (some (([]:List UInt8),6)) (Option.bind (dev_Read (Disk.mk p_1.Disk.Blocks p_1.Disk.Waits) p_5.At) λx_17=>Option.bind (cond (decide (x_17.2=0)) (Option.bind (mix_Sum x_17.1) λx_25=>cond (!decide (x_25=p_5.Sum)) (some (([]:List UInt8),130)) (some (x_17.1,x_17.2))) (some (x_17.1,x_17.2))) (λt_21=>some (t_21.1,t_21.2)))))
def ref09_Great_l2 (p_1:Disk)(s_22:Int×Nat):Option ((Int×Nat) ⊕ Int):=
 cond (decide (((s_22.2:Nat):Int)<(p_1.Waits.length:Int))) (cond (decide (s_22.1<2000000)) (idx p_1.Waits ((s_22.2:Nat):Int) λy_27=>some (.inl (w64 (s_22.1+(y_27.Data.length:Int)),s_22.2+1))) (some (.inr s_22.1))) (some (.inr s_22.1))
def ref09_Great_l1 (p_1:Disk)(s_16:Int×Nat):Option ((Int×Nat) ⊕ Int):=
 cond (decide (((s_16.2:Nat):Int)<(p_1.Blocks.length:Int))) (cond (decide (s_16.1<2000000)) (idx p_1.Blocks ((s_16.2:Nat):Int) λy_21=>some (.inl (w64 (s_16.1+(y_21.length:Int)),s_16.2+1))) (some (.inr s_16.1))) (some (.inr s_16.1))
def ref09_Great (p_1:Disk):Option Bool:=
 Option.bind (cond (decide (500<(p_1.Blocks.length:Int))) (some (.inr ())) (cond (decide (500<(p_1.Waits.length:Int))) (cond (decide ((p_1.Waits.length:Int)<4096)) (some (.inr ())) (cond (decide (4106<(p_1.Waits.length:Int))) (some (.inr ())) (some (.inl ())))) (cond (decide (4106<(p_1.Waits.length:Int))) (some (.inr ())) (some (.inl ()))))) (λt_5=>Sum.elim (λt_5a=>Option.bind (loop (ref09_Great_l1 p_1) (0,0)) (λt_13=>Option.bind (loop (ref09_Great_l2 p_1) (t_13,0)) (λt_19=>some (decide (2000000≤t_19))))) (λt_5b=>some true) t_5)
def ref13_Great (p_1:Store):Option Bool:=
 Option.bind (Option.bind (ref09_Great (Disk.mk p_1.Disk.Blocks p_1.Disk.Waits)) λx_9=>cond x_9 (some true) (some (decide (10000<(p_1.Space.length:Int))))) (λt_6=>some t_6)
def store_Raw (p_1:Store)(p_5:UInt32)(p_6:UInt32)(p_7:UInt32)(p_8:List UInt8):Option (Store×Ptr×Int):=
 Option.bind (store_asked p_1 p_5 256 ([p_8])) λx_17=>cond (!decide (x_17=0)) (some (Store.mk (Disk.mk ([]:List (List UInt8)) ([]:List Write)) ([]:List UInt8) (0:UInt32) (0:UInt32),Ptr.mk 0 (0:UInt32) (0:UInt32) (0:UInt32) (0:UInt32),x_17)) (Option.bind (store_put p_1 (Ptr.mk 0 p_5 p_6 p_7 (0:UInt32)) p_8) λx_20=>some (x_20.1,x_20.2.1,x_20.2.2))
def store_Lay (p_1:Store)(p_5:UInt32)(p_6:List UInt8):Option (Store×Ptr×Int):=
 Option.bind (store_Raw p_1 p_5 (0:UInt32) (0:UInt32) p_6) λx_11=>some (x_11.1,x_11.2.1,x_11.2.2)
end Go.Ow
namespace Go.Ow
theorem run_go{σ τ:Type}{body:σ→Option (σ ⊕ τ)}{n:Nat}{s s':σ}(h:body s=some (.inl s')):run body (n+1) s=run body n s':=by
 show Option.bind (body s) _=_
 rw[h];rfl
end Go.Ow
namespace Go.Ow
end Go.Ow
namespace Go.Ow
def ptr_sizes:Option (A5 Int):=
 some (A5.mk 1 3 4 4 4)
def ptr_Write_l1 (p_1:Ptr)(x_8:A5 Int)(s_14:List UInt8×Nat):Option ((List UInt8×Nat) ⊕ (List UInt8)):=
 cond (decide (((s_14.2:Nat):Int)<5)) (idx x_8.l ((s_14.2:Nat):Int) λy_19=>idx (A5.mk p_1.At (p_1.Birth.toNat:Int) (p_1.Iv.toNat:Int) (p_1.Tag.toNat:Int) (p_1.Sum.toNat:Int)).l ((s_14.2:Nat):Int) λy_21=>Option.bind (code_Put y_21 y_19) λx_23=>app s_14.1 x_23.1 λq_27=>some (.inl (q_27,s_14.2+1))) (some (.inr s_14.1))
def ptr_Write (p_1:Ptr):Option (List UInt8×Int):=
 Option.bind (ptr_Check p_1) λx_3=>cond (!decide (x_3=0)) (some (([]:List UInt8),x_3)) (Option.bind (ptr_sizes) λx_8=>Option.bind (loop (ptr_Write_l1 p_1 x_8) (([]:List UInt8),0)) (λt_11=>some (t_11,0)))
def ptr_Row_l1 (p_1:List Ptr)(s_8:List UInt8×Nat):Option ((List UInt8×Nat) ⊕ ((List UInt8) ⊕ Int)):=
 cond (decide (((s_8.2:Nat):Int)<(p_1.length:Int))) (idx p_1 ((s_8.2:Nat):Int) λy_13=>Option.bind (ptr_Write y_13) λx_23=>cond (!decide (x_23.2=0)) (some (.inr (.inr x_23.2))) (appN 256 s_8.1 x_23.1 λq_28=>some (.inl (q_28,s_8.2+1)))) (some (.inr (.inl s_8.1)))
def ptr_Row (p_1:List Ptr):Option (List UInt8×Int):=
 cond (decide (16<(p_1.length:Int))) (some (([]:List UInt8),4)) (Option.bind (loop (ptr_Row_l1 p_1) (([]:List UInt8),0)) (λt_5=>Sum.elim (λt_5a=>extO 256 t_5a 256 λm_13=>some (m_13,0)) (λt_5b=>some (([]:List UInt8),t_5b)) t_5))
def ptr_Read_l1 (p_1:List UInt8)(x_6:A5 Int)(s_12:Int×Int×Int×Int×Int×Int×Nat):Option ((Int×Int×Int×Int×Int×Int×Nat) ⊕ (Int×Int×Int×Int×Int)):=
 cond (decide (((s_12.2.2.2.2.2.2:Nat):Int)<5)) (idx x_6.l ((s_12.2.2.2.2.2.2:Nat):Int) λy_17=>Option.bind (code_Get p_1 s_12.2.2.2.2.2.1 y_17) λx_19=>chk (0≤((s_12.2.2.2.2.2.2:Nat):Int)∧((s_12.2.2.2.2.2.2:Nat):Int).toNat<5)<|A5.setI (A5.mk s_12.1 s_12.2.1 s_12.2.2.1 s_12.2.2.2.1 s_12.2.2.2.2.1) ((s_12.2.2.2.2.2.2:Nat):Int) x_19.1 λm_23=>some (.inl (m_23.e0,m_23.e1,m_23.e2,m_23.e3,m_23.e4,w64 (s_12.2.2.2.2.2.1+y_17),s_12.2.2.2.2.2.2+1))) (some (.inr (s_12.1,s_12.2.1,s_12.2.2.1,s_12.2.2.2.1,s_12.2.2.2.2.1)))
def ptr_Read (p_1:List UInt8):Option (Ptr×Int):=
 cond (!decide ((p_1.length:Int)=16)) (some (Ptr.mk 0 (0:UInt32) (0:UInt32) (0:UInt32) (0:UInt32),3)) (Option.bind (ptr_sizes) λx_6=>Option.bind (loop (ptr_Read_l1 p_1 x_6) (0,0,0,0,0,0,0)) (λt_9=>Option.bind (ptr_Check (Ptr.mk t_9.1 (u32i t_9.2.1) (u32i t_9.2.2.1) (u32i t_9.2.2.2.1) (u32i t_9.2.2.2.2))) λx_17=>cond (!decide (x_17=0)) (some (Ptr.mk 0 (0:UInt32) (0:UInt32) (0:UInt32) (0:UInt32),x_17)) (some (Ptr.mk t_9.1 (u32i t_9.2.1) (u32i t_9.2.2.1) (u32i t_9.2.2.2.1) (u32i t_9.2.2.2.2),0))))
def ptr_Rows_r1 (y_14:List UInt8)(s_13:List Ptr):Option ((List Ptr) ⊕ Int):=
 Option.bind (ptr_Read y_14) λx_21=>cond (!decide (x_21.2=0)) (some (.inr x_21.2)) (app s_13 ([x_21.1]) λq_27=>some (.inl q_27))
def ptr_Rows (p_1:List UInt8):Option (List Ptr×Int):=
 cond (!decide ((p_1.length:Int)=256)) (some (([]:List Ptr),3)) (Option.bind (slices_Chunk_byte p_1 16) λx_6=>Option.bind (forL ptr_Rows_r1 (chunks (16:Int).toNat p_1.length p_1) ([]:List Ptr)) (λt_10=>Sum.elim (λs_13=>some (s_13,0)) (λt_10e0=>some (([]:List Ptr),t_10e0)) t_10))
def law16_at (p_1:Int)(p_2:UInt32):Option Ptr:=
 some (Ptr.mk p_1 p_2 (0:UInt32) (0:UInt32) (0:UInt32))
def cmp_isNaN_int (p_1:Int):Option Bool:=
 some (!decide (p_1=p_1))
def cmp_Compare_int (p_1:Int)(p_2:Int):Option Int:=
 Option.bind (cmp_isNaN_int p_1) λx_3=>Option.bind (cmp_isNaN_int p_2) λx_6=>cond x_3 (cond x_6 (some 0) (some (-1))) (cond x_6 (some 1) (cond (decide (p_1<p_2)) (some (-1)) (cond (decide (p_2<p_1)) (some 1) (some 0))))
def dead_order (p_1:Ptr)(p_2:Ptr):Option Int:=
 Option.bind (cmp_Compare_int p_1.At p_2.At) λx_5=>some x_5
def dead_Check_l1 (p_1:List Ptr)(s_7:Nat):Option (Nat ⊕ (Unit ⊕ Unit)):=
 cond (decide (((s_7:Nat):Int)<(p_1.length:Int))) (idx p_1 ((s_7:Nat):Int) λy_11=>cond (decide (y_11.At=0)&&(decide (y_11.Birth=(0:UInt32))&&(decide (y_11.Iv=(0:UInt32))&&(decide (y_11.Tag=(0:UInt32))&&(decide (y_11.Sum=(0:UInt32))&&true))))) (some (.inr (.inr ()))) (Option.bind (ptr_Check y_11) λx_22=>cond (!decide (x_22=0)) (some (.inr (.inr ()))) (cond (decide (0<((s_7:Nat):Int))) (idx p_1 (w64 (((s_7:Nat):Int)-1)) λy_27=>Option.bind (dead_order y_27 y_11) λx_36=>cond (decide (0≤x_36)) (some (.inr (.inr ()))) (some (.inl (s_7+1)))) (some (.inl (s_7+1)))))) (some (.inr (.inl ())))
def dead_Check (p_1:List Ptr):Option Int:=
 cond (decide (240<(p_1.length:Int))) (some 8) (Option.bind (loop (dead_Check_l1 p_1) 0) (λt_4=>Sum.elim (λt_4a=>some 0) (λt_4b=>some 8) t_4))
def slices_Grow_Ptr (p_1:Int):Option (List Ptr):=
 cond (decide (p_1<0)) (none) (Option.bind (cond (decide (0<(w64 (p_1-0)))) (mks (w64 (p_1-0)) (Ptr.mk 0 (0:UInt32) (0:UInt32) (0:UInt32) (0:UInt32)) λq_9=>slc q_9 0 0 λm_13=>some m_13) (some ([]:List Ptr))) (λt_3=>some t_3))
def slices_Concat_Ptr_l2 (p_1:List (List Ptr))(s_16:List Ptr×Nat):Option ((List Ptr×Nat) ⊕ (List Ptr)):=
 cond (decide (((s_16.2:Nat):Int)<(p_1.length:Int))) (idx p_1 ((s_16.2:Nat):Int) λy_21=>app s_16.1 y_21 λq_32=>some (.inl (q_32,s_16.2+1))) (some (.inr s_16.1))
def slices_Concat_Ptr_l1 (p_1:List (List Ptr))(s_6:Int×Nat):Option ((Int×Nat) ⊕ Int):=
 cond (decide (((s_6.2:Nat):Int)<(p_1.length:Int))) (idx p_1 ((s_6.2:Nat):Int) λy_10=>cond (decide ((w64 (s_6.1+(y_10.length:Int)))<0)) (none) (some (.inl (w64 (s_6.1+(y_10.length:Int)),s_6.2+1)))) (some (.inr s_6.1))
def slices_Concat_Ptr (p_1:List (List Ptr)):Option (List Ptr):=
 Option.bind (loop (slices_Concat_Ptr_l1 p_1) (0,0)) (λt_3=>Option.bind (slices_Grow_Ptr t_3) λx_9=>Option.bind (loop (slices_Concat_Ptr_l2 p_1) (x_9,0)) (λt_13=>some t_13))
def slices_SortFunc_Ptr_dead_order (p_1:List Ptr):Option (List Ptr):=if p_1.length<4611686018427387904 then some (sortL (λx y=>(dead_order x y).getD 0) p_1)else none
def slices_Clone_Ptr (p_1:List Ptr):Option (List Ptr):=app [] p_1 λq=>some q
def dead_Join_1 (p_1:Ptr)(p_2:Ptr):Option Bool:=
 some (decide (p_1.At=p_2.At))
def slices_CompactFunc_Ptr_l1 (p_1:List Ptr)(s_7:Nat)(s_42:List Ptr×Int×Int):Option ((List Ptr×Int×Int) ⊕ (List Ptr×Int)):=
 cond (decide (s_42.2.2<((p_1.length:Int)-((s_7:Nat):Int)))) (chk (0≤s_42.2.2∧s_42.2.2<(p_1.length:Int)-((s_7:Nat):Int))<|idx s_42.1 (((s_7:Nat):Int)+s_42.2.2) λy_48=>chk (0≤w64 (s_42.2.2-1)∧w64 (s_42.2.2-1)<(p_1.length:Int)-((s_7:Nat):Int))<|idx s_42.1 (((s_7:Nat):Int)+(w64 (s_42.2.2-1))) λy_60=>Option.bind (dead_Join_1 y_48 y_60) λx_71=>cond (!x_71) (chk (0≤s_42.2.2∧s_42.2.2<(p_1.length:Int)-((s_7:Nat):Int))<|idx s_42.1 (((s_7:Nat):Int)+s_42.2.2) λy_76=>chk (0≤s_42.2.1∧s_42.2.1.toNat<s_42.1.length)<|setI s_42.1 s_42.2.1 y_76 λm_91=>some (.inl (m_91,w64 (s_42.2.1+1),w64 (s_42.2.2+1)))) (some (.inl (s_42.1,s_42.2.1,w64 (s_42.2.2+1))))) (some (.inr (s_42.1,s_42.2.1)))
def slices_CompactFunc_Ptr_l2 (p_1:List Ptr)(s_7:Nat):Option (Nat ⊕ (Unit ⊕ (List Ptr))):=
 cond (decide (((s_7:Nat):Int)<(p_1.length:Int))) (idx p_1 ((s_7:Nat):Int) λy_11=>idx p_1 (w64 (((s_7:Nat):Int)-1)) λy_22=>Option.bind (dead_Join_1 y_11 y_22) λx_33=>cond x_33 (chk (0≤((s_7:Nat):Int)∧((s_7:Nat):Int)≤(p_1.length:Int)∧(p_1.length:Int)≤p_1.length)<|Option.bind (loop (slices_CompactFunc_Ptr_l1 p_1 s_7) (p_1,((s_7:Nat):Int),1)) (λt_39=>chk (0≤t_39.2∧t_39.2≤(t_39.1.length:Int)∧(t_39.1.length:Int)≤t_39.1.length)<|clrO t_39.1 t_39.2 (t_39.1.length:Int) (Ptr.mk 0 (0:UInt32) (0:UInt32) (0:UInt32) (0:UInt32)) λm_49=>slc m_49 0 t_39.2 λm_54=>some (.inr (.inr m_54)))) (some (.inl (s_7+1)))) (some (.inr (.inl ())))
def slices_CompactFunc_Ptr (p_1:List Ptr):Option (List Ptr):=
 cond (decide ((p_1.length:Int)<2)) (some p_1) (Option.bind (loop (slices_CompactFunc_Ptr_l2 p_1) 1) (λt_4=>Sum.elim (λt_4a=>some p_1) (λt_4b=>some t_4b) t_4))
def dead_Join (p_1:List Ptr)(p_3:List Ptr):Option (List Ptr×Int):=
 Option.bind (dead_Check p_1) λx_5=>cond (!decide (x_5=0)) (some (([]:List Ptr),8)) (Option.bind (dead_Check p_3) λx_9=>cond (!decide (x_9=0)) (some (([]:List Ptr),8)) (Option.bind (slices_Concat_Ptr ([p_1,p_3])) λx_17=>Option.bind (slices_SortFunc_Ptr_dead_order x_17) λx_22=>Option.bind (slices_Clone_Ptr x_22) λx_29=>Option.bind (slices_CompactFunc_Ptr x_29) λx_34=>cond (decide ((x_34.length:Int)<(x_22.length:Int))) (some (([]:List Ptr),2)) (cond (decide (240<(x_22.length:Int))) (some (([]:List Ptr),9)) (some (x_22,0)))))
def dead_Add (p_1:List Ptr)(p_3:Ptr):Option (List Ptr×Int):=
 Option.bind (dead_Check ([p_3])) λx_9=>cond (!decide (x_9=0)) (some (([]:List Ptr),8)) (Option.bind (dead_Join p_1 ([p_3])) λx_16=>some (x_16.1,x_16.2))
def store_Twin (p_1:Store):Option Store:=
 Option.bind (Option.bind (dev_Twin (Disk.mk p_1.Disk.Blocks p_1.Disk.Waits)) λx_10=>Option.bind (bytes_Clone p_1.Space) λx_15=>some (x_10.Blocks,x_10.Waits,x_15)) (λt_7=>some (Store.mk (Disk.mk t_7.1 t_7.2.1) t_7.2.2 p_1.Epoch p_1.Count))
def slices_Chunk_Ptr (p_1:List Ptr)(p_2:Int):Option Unit:=if 1≤p_2∧p_2≤1099511627776∧p_1.length≤LIM then some ()else none
def dead_Lay_1 (p_1:List Ptr)(p_4:Store)(p_9:UInt32)(p_11:Ptr)(p_13:Int)(p_15:List Int):Option (Store×UInt32×Ptr×Int×List Int):=
 Option.bind (ptr_Row p_1) λx_17=>Option.bind (store_Lay p_4 p_9 x_17.1) λx_22=>cond (decide (x_22.2.2=0)) (app p_15 ([x_22.2.1.At]) λq_30=>some (x_22.1,p_9,x_22.2.1,x_22.2.2,q_30)) (some (x_22.1,p_9,x_22.2.1,x_22.2.2,p_15))
def law16_alive:Option Bool:=
 Option.bind (law16_at 20 (1:UInt32)) λx_1=>Option.bind (law16_at 30 (1:UInt32)) λx_4=>Option.bind (law16_at 25 (1:UInt32)) λx_8=>Option.bind (dead_Add ([x_1,x_4]) x_8) λx_14=>Option.bind (cond (decide (x_14.2=0)) (cond (decide ((x_14.1.length:Int)=3)) (idx x_14.1 0 λy_24=>cond (decide (y_24.At=20)) (idx x_14.1 1 λy_36=>cond (decide (y_36.At=25)) (idx x_14.1 2 λy_48=>some (decide (y_48.At=30))) (some false)) (some false)) (some false)) (some false)) (λt_19=>some t_19)
end Go.Ow
namespace Go.Ow
def ref09_Same_l2 (p_1:Disk)(p_4:Disk)(s_20:Int×Nat):Option ((Int×Nat) ⊕ Int):=
 cond (decide (((s_20.2:Nat):Int)<(p_1.Waits.length:Int))) (idx p_1.Waits ((s_20.2:Nat):Int) λy_24=>idx p_4.Waits ((s_20.2:Nat):Int) λy_36=>cond (!decide (y_24.At=y_36.At)) (some (.inl (w64 (s_20.1+1),s_20.2+1))) (cond (!decide (y_24.Data=y_36.Data)) (some (.inl (w64 (s_20.1+1),s_20.2+1))) (some (.inl (s_20.1,s_20.2+1))))) (some (.inr s_20.1))
def ref09_Same_l1 (p_1:Disk)(p_4:Disk)(s_14:Int×Nat):Option ((Int×Nat) ⊕ Int):=
 cond (decide (((s_14.2:Nat):Int)<(p_1.Blocks.length:Int))) (idx p_1.Blocks ((s_14.2:Nat):Int) λy_18=>idx p_4.Blocks ((s_14.2:Nat):Int) λy_29=>cond (!decide (y_18=y_29)) (some (.inl (w64 (s_14.1+1),s_14.2+1))) (some (.inl (s_14.1,s_14.2+1)))) (some (.inr s_14.1))
def ref09_Same (p_1:Disk)(p_4:Disk):Option Bool:=
 cond (!decide ((p_1.Blocks.length:Int)=(p_4.Blocks.length:Int))) (some false) (cond (!decide ((p_1.Waits.length:Int)=(p_4.Waits.length:Int))) (some false) (Option.bind (loop (ref09_Same_l1 p_1 p_4) (0,0)) (λt_11=>Option.bind (loop (ref09_Same_l2 p_1 p_4) (t_11,0)) (λt_17=>some (decide (t_17=0))))))
end Go.Ow
namespace Go.Ow
end Go.Ow
namespace Go.Ow
end Go.Ow
namespace Go.Ow
end Go.Ow
namespace Go.Ow
def dead_Lay_v2_r1 (y_42:List Ptr)(s_41:Store×Ptr×List Int×Int×UInt32×List Ptr):Option ((Store×Ptr×List Int×Int×UInt32×List Ptr) ⊕ Int):=
 Option.bind (dead_Lay_1 y_42 s_41.1 s_41.2.2.2.2.1 s_41.2.1 s_41.2.2.2.1 s_41.2.2.1) λx_58=>cond (!decide (x_58.2.2.2.1=0)) (some (.inr x_58.2.2.2.1)) (app s_41.2.2.2.2.2 ([x_58.2.2.1]) λq_67=>some (.inl (x_58.1,x_58.2.2.1,x_58.2.2.2.2,x_58.2.2.2.1,x_58.2.1,q_67)))
def dead_Lay_v2 (p_1:Store)(p_5:UInt32)(p_6:List Ptr):Option (Store×Ptr×List Int×Int):=
 Option.bind (store_Check p_1) λx_14=>cond (!decide (x_14=0)) (some (Store.mk (Disk.mk ([]:List (List UInt8)) ([]:List Write)) ([]:List UInt8) (0:UInt32) (0:UInt32),Ptr.mk 0 (0:UInt32) (0:UInt32) (0:UInt32) (0:UInt32),([]:List Int),8)) (Option.bind (dead_Check p_6) λx_18=>cond (!decide (x_18=0)) (some (Store.mk (Disk.mk ([]:List (List UInt8)) ([]:List Write)) ([]:List UInt8) (0:UInt32) (0:UInt32),Ptr.mk 0 (0:UInt32) (0:UInt32) (0:UInt32) (0:UInt32),([]:List Int),8)) (cond (decide (p_5<(1:UInt32))) (some (Store.mk (Disk.mk ([]:List (List UInt8)) ([]:List Write)) ([]:List UInt8) (0:UInt32) (0:UInt32),Ptr.mk 0 (0:UInt32) (0:UInt32) (0:UInt32) (0:UInt32),([]:List Int),2)) (cond (decide ((16777215:UInt32)<p_5)) (some (Store.mk (Disk.mk ([]:List (List UInt8)) ([]:List Write)) ([]:List UInt8) (0:UInt32) (0:UInt32),Ptr.mk 0 (0:UInt32) (0:UInt32) (0:UInt32) (0:UInt32),([]:List Int),2)) (cond (decide ((p_6.length:Int)=0)) (Option.bind (store_Twin p_1) λx_25=>some (x_25,Ptr.mk 0 (0:UInt32) (0:UInt32) (0:UInt32) (0:UInt32),([]:List Int),0)) (Option.bind (slices_Chunk_Ptr p_6 16) λx_34=>Option.bind (forL dead_Lay_v2_r1 (chunks (16:Int).toNat p_6.length p_6) (p_1,Ptr.mk 0 (0:UInt32) (0:UInt32) (0:UInt32) (0:UInt32),([]:List Int),0,p_5,([]:List Ptr))) (λt_38=>Sum.elim (λs_41=>Option.bind (dead_Lay_1 s_41.2.2.2.2.2 s_41.1 s_41.2.2.2.2.1 s_41.2.1 s_41.2.2.2.1 s_41.2.2.1) λx_60=>cond (!decide (x_60.2.2.2.1=0)) (some (Store.mk (Disk.mk ([]:List (List UInt8)) ([]:List Write)) ([]:List UInt8) (0:UInt32) (0:UInt32),Ptr.mk 0 (0:UInt32) (0:UInt32) (0:UInt32) (0:UInt32),([]:List Int),x_60.2.2.2.1)) (some (x_60.1,x_60.2.2.1,x_60.2.2.2.2,0))) (λt_38e0=>some (Store.mk (Disk.mk ([]:List (List UInt8)) ([]:List Write)) ([]:List UInt8) (0:UInt32) (0:UInt32),Ptr.mk 0 (0:UInt32) (0:UInt32) (0:UInt32) (0:UInt32),([]:List Int),t_38e0)) t_38))))))
def slices_Index_Ptr_l1 (p_1:List Ptr)(p_3:Ptr)(s_8:Nat):Option (Nat ⊕ (Unit ⊕ Int)):=
 cond (decide (((s_8:Nat):Int)<(p_1.length:Int))) (idx p_1 ((s_8:Nat):Int) λy_12=>cond (decide (p_3.At=y_12.At)&&(decide (p_3.Birth=y_12.Birth)&&(decide (p_3.Iv=y_12.Iv)&&(decide (p_3.Tag=y_12.Tag)&&(decide (p_3.Sum=y_12.Sum)&&true))))) (some (.inr (.inr ((s_8:Nat):Int)))) (some (.inl (s_8+1)))) (some (.inr (.inl ())))
def slices_Index_Ptr (p_1:List Ptr)(p_3:Ptr):Option Int:=
 Option.bind (loop (slices_Index_Ptr_l1 p_1 p_3) 0) (λt_5=>Sum.elim (λt_5a=>some (-1)) (λt_5b=>some t_5b) t_5)
def dead_read_1 (p_1:Ptr):Option Bool:=
 some (!(decide (p_1.At=0)&&(decide (p_1.Birth=(0:UInt32))&&(decide (p_1.Iv=(0:UInt32))&&(decide (p_1.Tag=(0:UInt32))&&(decide (p_1.Sum=(0:UInt32))&&true))))))
def slices_IndexFunc_Ptr_v2_l1 (p_1:List Ptr)(s_6:Nat):Option (Nat ⊕ (Unit ⊕ Int)):=
 cond (decide (((s_6:Nat):Int)<(p_1.length:Int))) (idx p_1 ((s_6:Nat):Int) λy_10=>Option.bind (dead_read_1 y_10) λx_19=>cond x_19 (some (.inr (.inr ((s_6:Nat):Int)))) (some (.inl (s_6+1)))) (some (.inr (.inl ())))
def slices_IndexFunc_Ptr_v2 (p_1:List Ptr):Option Int:=
 Option.bind (loop (slices_IndexFunc_Ptr_v2_l1 p_1) 0) (λt_3=>Sum.elim (λt_3a=>some (-1)) (λt_3b=>some t_3b) t_3)
def slices_ContainsFunc_Ptr_v2 (p_1:List Ptr):Option Bool:=
 Option.bind (slices_IndexFunc_Ptr_v2 p_1) λx_3=>some (decide (0≤x_3))
def dead_read (p_1:Store)(p_5:Ptr):Option ((List Ptr) ⊕ Int):=
 Option.bind (store_Look p_1 p_5) λx_8=>cond (!decide (x_8.2=0)) (some (.inr x_8.2)) (Option.bind (ptr_Rows x_8.1) λx_14=>cond (!decide (x_14.2=0)) (some (.inr 8)) (Option.bind (slices_Index_Ptr x_14.1 (Ptr.mk 0 (0:UInt32) (0:UInt32) (0:UInt32) (0:UInt32))) λx_23=>cond (decide (x_23<0)) (some (.inl x_14.1)) (cond (decide (x_23=0)) (cond true (some (.inr 8)) (none)) (slc x_14.1 x_23 (x_14.1.length:Int) λm_31=>Option.bind (slices_ContainsFunc_Ptr_v2 m_31) λx_35=>cond x_35 (some (.inr 8)) (slc x_14.1 0 x_23 λm_40=>some (.inl m_40))))))
def dead_Load_l1 (p_1:Store)(x_20:List Ptr)(s_30:List Ptr×List Int×Nat):Option ((List Ptr×List Int×Nat) ⊕ ((List Ptr×List Int) ⊕ (Int×List Ptr×List Int))):=
 cond (decide (((s_30.2.2:Nat):Int)<(x_20.length:Int))) (idx x_20 ((s_30.2.2:Nat):Int) λy_37=>Option.bind (dead_read p_1 y_37) λx_52=>pnk x_52 (λe_51=>some (.inr (.inr (e_51,s_30.1,s_30.2.1)))) λx_47=>Option.bind (cond (decide ((x_47.length:Int)<16)) (cond (decide (((s_30.2.2:Nat):Int)<(w64 ((x_20.length:Int)-1)))) (some (.inr ())) (some (.inl ()))) (cond false (none) (some (.inl ())))) (λt_54=>Sum.elim (λt_54a=>app s_30.1 x_47 λq_63=>app s_30.2.1 ([y_37.At]) λq_68=>some (.inl (q_63,q_68,s_30.2.2+1))) (λt_54b=>some (.inr (.inr (8,s_30.1,s_30.2.1)))) t_54)) (some (.inr (.inl (s_30.1,s_30.2.1))))
def dead_Load (p_1:Store)(p_5:Ptr):Option (List Ptr×List Int×Int):=
 Option.bind (store_Check p_1) λx_11=>cond (!decide (x_11=0)) (some (([]:List Ptr),([]:List Int),8)) (Option.bind (ptr_Check p_5) λx_15=>cond (!decide (x_15=0)) (some (([]:List Ptr),([]:List Int),8)) (cond (decide (p_5.At=0)&&(decide (p_5.Birth=(0:UInt32))&&(decide (p_5.Iv=(0:UInt32))&&(decide (p_5.Tag=(0:UInt32))&&(decide (p_5.Sum=(0:UInt32))&&true))))) (some (([]:List Ptr),([]:List Int),0)) (Option.bind (dead_read p_1 p_5) λx_25=>pnk x_25 (λe_24=>some (([]:List Ptr),([]:List Int),e_24)) λx_20=>Option.bind (loop (dead_Load_l1 p_1 x_20) (([]:List Ptr),([]:List Int),0)) (λt_27=>Sum.elim (λt_27a=>Option.bind (dead_Check t_27a.1) λx_45=>cond (!decide (x_45=0)) (some (([]:List Ptr),([]:List Int),8)) (app t_27a.2 ([p_5.At]) λq_50=>some (t_27a.1,q_50,0))) (λt_27b=>some (([]:List Ptr),([]:List Int),t_27b.1)) t_27))))
end Go.Ow
namespace Go.Ow
def dead_Lay_v3_r1 (y_42:List Ptr)(s_41:Store×Ptr×List Int×Int×UInt32×List Ptr):Option ((Store×Ptr×List Int×Int×UInt32×List Ptr) ⊕ Int):=
 Option.bind (dead_Lay_1 y_42 s_41.1 s_41.2.2.2.2.1 s_41.2.1 s_41.2.2.2.1 s_41.2.2.1) λx_58=>cond (!decide (x_58.2.2.2.1=0)) (some (.inr x_58.2.2.2.1)) (app s_41.2.2.2.2.2 ([x_58.2.2.1]) λq_67=>some (.inl (x_58.1,x_58.2.2.1,x_58.2.2.2.2,x_58.2.2.2.1,x_58.2.1,q_67)))
def dead_Lay_v3 (p_1:Store)(p_5:UInt32)(p_6:List Ptr):Option (Store×Ptr×List Int×Int):=
 Option.bind (store_Check p_1) λx_14=>cond (!decide (x_14=0)) (some (Store.mk (Disk.mk ([]:List (List UInt8)) ([]:List Write)) ([]:List UInt8) (0:UInt32) (0:UInt32),Ptr.mk 0 (0:UInt32) (0:UInt32) (0:UInt32) (0:UInt32),([]:List Int),8)) (Option.bind (dead_Check p_6) λx_18=>cond (!decide (x_18=0)) (some (Store.mk (Disk.mk ([]:List (List UInt8)) ([]:List Write)) ([]:List UInt8) (0:UInt32) (0:UInt32),Ptr.mk 0 (0:UInt32) (0:UInt32) (0:UInt32) (0:UInt32),([]:List Int),8)) (cond (decide (p_5<(1:UInt32))) (some (Store.mk (Disk.mk ([]:List (List UInt8)) ([]:List Write)) ([]:List UInt8) (0:UInt32) (0:UInt32),Ptr.mk 0 (0:UInt32) (0:UInt32) (0:UInt32) (0:UInt32),([]:List Int),2)) (cond (decide ((16777215:UInt32)<p_5)) (some (Store.mk (Disk.mk ([]:List (List UInt8)) ([]:List Write)) ([]:List UInt8) (0:UInt32) (0:UInt32),Ptr.mk 0 (0:UInt32) (0:UInt32) (0:UInt32) (0:UInt32),([]:List Int),2)) (cond (decide ((p_6.length:Int)=0)) (Option.bind (store_Twin p_1) λx_25=>some (x_25,Ptr.mk 0 (0:UInt32) (0:UInt32) (0:UInt32) (0:UInt32),([]:List Int),0)) (Option.bind (slices_Chunk_Ptr p_6 16) λx_34=>Option.bind (forL dead_Lay_v3_r1 (chunks (16:Int).toNat p_6.length p_6) (p_1,Ptr.mk 0 (0:UInt32) (0:UInt32) (0:UInt32) (0:UInt32),([]:List Int),0,p_5,([]:List Ptr))) (λt_38=>Sum.elim (λs_41=>Option.bind (dead_Lay_1 s_41.2.2.2.2.2 s_41.1 s_41.2.2.2.2.1 s_41.2.1 s_41.2.2.2.1 s_41.2.2.1) λx_60=>cond (!decide (x_60.2.2.2.1=0)) (some (Store.mk (Disk.mk ([]:List (List UInt8)) ([]:List Write)) ([]:List UInt8) (0:UInt32) (0:UInt32),Ptr.mk 0 (0:UInt32) (0:UInt32) (0:UInt32) (0:UInt32),([]:List Int),x_60.2.2.2.1)) (some (x_60.1,x_60.2.2.1,x_60.2.2.2.2,0))) (λt_38e0=>some (Store.mk (Disk.mk ([]:List (List UInt8)) ([]:List Write)) ([]:List UInt8) (0:UInt32) (0:UInt32),Ptr.mk 0 (0:UInt32) (0:UInt32) (0:UInt32) (0:UInt32),([]:List Int),t_38e0)) t_38))))))
def law16_same_l1 (p_1:List Ptr)(p_3:List Ptr)(s_8:Nat):Option (Nat ⊕ (Unit ⊕ Unit)):=
 cond (decide (((s_8:Nat):Int)<(p_1.length:Int))) (cond (decide (((s_8:Nat):Int)<(p_3.length:Int))) (idx p_1 ((s_8:Nat):Int) λy_13=>idx p_3 ((s_8:Nat):Int) λy_22=>cond (!(decide (y_13.At=y_22.At)&&(decide (y_13.Birth=y_22.Birth)&&(decide (y_13.Iv=y_22.Iv)&&(decide (y_13.Tag=y_22.Tag)&&(decide (y_13.Sum=y_22.Sum)&&true)))))) (some (.inr (.inr ()))) (some (.inl (s_8+1)))) (some (.inr (.inl ())))) (some (.inr (.inl ())))
def law16_same (p_1:List Ptr)(p_3:List Ptr):Option Bool:=
 Option.bind (loop (law16_same_l1 p_1 p_3) 0) (λt_5=>Sum.elim (λt_5a=>some (decide ((p_1.length:Int)=(p_3.length:Int)))) (λt_5b=>some false) t_5)
def law16_rows (p_1:Int):Option Int:=
 cond (decide (p_1=0)) (some 0) (some (w64 ((w64 ((w64 (p_1+15)).tdiv 16))+1)))
def law16_DeadBack_l1 (p_1:Store)(x_17:Store×Ptr×List Int×Int)(x_35:List Ptr×List Int×Int)(s_54:Nat):Option (Nat ⊕ (Unit ⊕ Unit)):=
 cond (decide (((s_54:Nat):Int)<(x_17.2.2.1.length:Int))) (idx x_17.2.2.1 ((s_54:Nat):Int) λy_58=>idx x_35.2.1 ((s_54:Nat):Int) λy_69=>cond (!decide (y_58=y_69)) (some (.inr (.inr ()))) (idx x_17.2.2.1 ((s_54:Nat):Int) λy_81=>cond (decide (y_81<12)) (some (.inr (.inr ()))) (idx x_17.2.2.1 ((s_54:Nat):Int) λy_93=>cond (decide (255<y_93)) (some (.inr (.inr ()))) (idx x_17.2.2.1 ((s_54:Nat):Int) λy_105=>idx p_1.Space y_105 λy_116=>cond (!decide (y_116=(0:UInt8))) (some (.inr (.inr ()))) (idx x_17.2.2.1 ((s_54:Nat):Int) λy_126=>idx x_17.1.Space y_126 λy_137=>cond (!decide (y_137=(1:UInt8))) (some (.inr (.inr ()))) (some (.inl (s_54+1)))))))) (some (.inr (.inl ())))
def law16_DeadBack (p_1:Store)(p_5:UInt32)(p_6:List Ptr):Option Bool:=
 Option.bind (law16_alive) λx_9=>Option.bind (ref13_Great p_1) λx_12=>cond x_12 (some x_9) (cond (decide (1000<(p_6.length:Int))) (some x_9) (Option.bind (dead_Lay_v3 p_1 p_5 p_6) λx_17=>cond (!decide (x_17.2.2.2=0)) (Option.bind (cond x_9 (cond (decide ((x_17.1.Space.length:Int)=0)) (some (decide ((x_17.2.2.1.length:Int)=0))) (some false)) (some false)) (λt_27=>some t_27)) (Option.bind (dead_Load x_17.1 x_17.2.1) λx_35=>cond (!decide (x_35.2.2=0)) (some false) (Option.bind (law16_same p_6 x_35.1) λx_43=>cond (!x_43) (some false) (cond (!decide ((x_17.2.2.1.length:Int)=(x_35.2.1.length:Int))) (some false) (Option.bind (law16_rows (p_6.length:Int)) λx_47=>cond (!decide ((x_17.2.2.1.length:Int)=x_47)) (some false) (Option.bind (loop (law16_DeadBack_l1 p_1 x_17 x_35) 0) (λt_51=>Sum.elim (λt_51a=>Option.bind (cond x_9 (cond (decide ((x_17.2.2.1.length:Int)=0)) (some true) (idx x_17.2.2.1 (w64 ((x_17.2.2.1.length:Int)-1)) λy_62=>cond (decide (y_62=x_17.2.1.At)) (some (decide (x_17.2.1.Birth=p_5))) (some false))) (some false)) (λt_57=>some t_57)) (λt_51b=>some false) t_51))))))))
end Go.Ow
namespace Go.Ow
open Go.Sort Go.Proofs
def cmpI (a b:Int):Int:=if a<b then -1 else if b<a then 1 else 0
theorem cmp_Compare_int_eq (a b:Int):cmp_Compare_int a b=some (cmpI a b):=by
 unfold cmp_Compare_int cmp_isNaN_int cmpI
 by_cases h1:a<b
 · simp[h1]
 · by_cases h2:b<a<;>simp[h1,h2]
theorem dead_order_eq (x y:Ptr):dead_order x y=some (cmpI x.At y.At):=by
 unfold dead_order;rw[cmp_Compare_int_eq];rfl
theorem dead_order_tot (x y:Ptr):∃r,dead_order x y=some r:=⟨_,dead_order_eq x y⟩
theorem dead_order_lt (x y:Ptr):ltOf (λx y=>(dead_order x y).getD 0) x y=decide (x.At<y.At):=by
 unfold ltOf
 simp only[dead_order_eq,Option.getD_some,cmpI]
 by_cases h1:x.At<y.At
 · simp[h1]
 · by_cases h2:y.At<x.At<;>simp[h1,h2]
theorem dead_order_swo:SWO (ltOf λx y=>(dead_order x y).getD 0) where
 irrefl x:=by rw[dead_order_lt];simp
 trans x y z h1 h2:=by rw[dead_order_lt]at*;simp at*;omega
 ntrans x y z h1 h2:=by rw[dead_order_lt]at*;simp at*;omega
end Go.Ow
namespace Go.Ow
variable{α σ ρ τ:Type}
def goesOn (st:ρ→σ):ρ ⊕ τ→Option (σ ⊕ τ)
 | .inl r=>some (.inl (st r))
 | .inr t=>some (.inr t)
def ends (fin:ρ→τ):ρ ⊕ τ→Option τ
 | .inl r=>some (fin r)
 | .inr t=>some t
theorem loop_each (l:List α)(st:Nat→ρ→σ){body:σ→Option (σ ⊕ τ)}(f:α→ρ→Option (ρ ⊕ τ))(fin:ρ→τ)(I:Nat→ρ→Prop)
    (step:∀i (h:i<l.length) r,I i r→body (st i r)=Option.bind (f l[i] r) (goesOn (st (i+1))))(inv:∀i (h:i<l.length) r r',I i r→f l[i] r=some (.inl r')→I (i+1) r')
    (stop:∀r,I l.length r→body (st l.length r)=some (.inr (fin r)))(hl:l.length<FUEL){r0:ρ}(h0:I 0 r0):
    loop body (st 0 r0)=Option.bind (forL f l r0) (ends fin):=by
  have key:∀(k i:Nat) (r:ρ) (n:Nat),i+k=l.length→k<n→I i r→run body n (st i r)=Option.bind (forL f (l.drop i) r) (ends fin):=by
    intro k
    induction k with
    | zero=>
      intro i r n hi hn hI
      obtain rfl:i=l.length:=by omega
      obtain⟨n,rfl⟩:∃m,n=m+1:=⟨n-1,by omega⟩
      show Option.bind (body (st l.length r)) _=_
      rw[stop r hI,List.drop_length];rfl
    | succ k ih=>
      intro i r n hi hn hI
      have hlt:i<l.length:=by omega
      obtain⟨n,rfl⟩:∃m,n=m+1:=⟨n-1,by omega⟩
      show Option.bind (body (st i r)) _=_
      rw[step i hlt r hI,List.drop_eq_getElem_cons hlt]
      show _=Option.bind (Option.bind (f l[i] r) _) _
      cases hf:f l[i] r with
      |none=>rfl
      | some o=>
        cases o with
        |inl r'=>exact ih (i+1) r' n (by omega) (by omega) (inv i hlt r r' hI hf)
        |inr t=>rfl
  have:=key l.length 0 r0 FUEL (by omega) hl h0
  simpa[loop]using this
theorem loop_each' (l:List α)(st:Nat→ρ→σ){body:σ→Option (σ ⊕ τ)}(f:α→ρ→Option (ρ ⊕ τ))(fin:ρ→τ)
 (step:∀i (h:i<l.length) r,body (st i r)=Option.bind (f l[i] r) (goesOn (st (i+1))))(stop:∀r,body (st l.length r)=some (.inr (fin r)))(hl:l.length<FUEL)(r0:ρ):
 loop body (st 0 r0)=Option.bind (forL f l r0) (ends fin):=
 loop_each l st f fin (λ_ _=>True) (λi h r _=>step i h r) (λ_ _ _ _ _ _=>trivial) (λr _=>stop r) hl trivial
theorem forL_map (g:ρ→α→ρ):∀(l:List α) (r:ρ),forL (λy r=>some (.inl (g r y):ρ ⊕ τ)) l r=some (.inl (l.foldl g r))
 |[],r=>rfl
 |y::l,r=>by rw[forL_cons (s':=g r y) rfl,forL_map g l];rfl
theorem lt_fuel{n m:Nat}(h:n≤m)(hm:Nat.blt m FUEL=true):n<FUEL:=Nat.lt_of_le_of_lt h (by simpa using hm)
theorem cI{n m:Nat}{β:Type}{a b:β}:(bif decide ((n:Int)<(m:Int))then a else b)=if n<m then a else b:=by
 by_cases h:n<m
 · rw[if_pos h,decide_eq_true (by omega)];rfl
 · rw[if_neg h,decide_eq_false (by omega)];rfl
end Go.Ow
namespace Go.Ow
def okW (w:Write):Bool:=decide (0≤w.At∧w.At<256)&&decide (w.Data.length=256)
def OKD (d:Disk):Prop:=d.Blocks.length=256∧d.Waits.length≤4096∧(∀b∈d.Blocks,b.length=256)∧∀w∈d.Waits,okW w=true
instance (d:Disk):Decidable (OKD d):=by unfold OKD;infer_instance
structure Sized (d:Disk):Prop where
  blocks:d.Blocks.length≤9223372036854775807
  waits:d.Waits.length≤9223372036854775807
  at':∀w∈d.Waits,InI64 w.At
theorem dev_place_eq{n:Int}(h:InI64 n):dev_place n=some (decide (0≤n∧n<256)):=by
 unfold dev_place u64i
 congr 1
 apply decide_eq_decide.2
 rw[UInt64.lt_iff_toNat_lt,UInt64.toNat_ofNat']
 obtain⟨h1,h2⟩:=h
 show _%18446744073709551616<(256:UInt64).toNat↔_
 rw[show(256:UInt64).toNat=256 from rfl]
 omega
theorem small_lt{n:Nat}(h:n≤9223372036854775807):n<FUEL:=Nat.lt_of_le_of_lt h (by decide)
theorem check_l1 (d:Disk)(ok:Bool)(h:d.Blocks.length≤9223372036854775807):loop (dev_Check_l1 d) (ok,0)=some (ok&&d.Blocks.all λb=>decide (b.length=256)):=by
 rw[loop_each' d.Blocks (λi (r:Bool)=>(r,i)) (λb r=>some (.inl (r&&decide (b.length=256)))) (λr=>r) (λi hi r=> ?_) (λr=> ?_) (small_lt h) ok,forL_map]
 · show some _=some _
   congr 1
   generalize d.Blocks=l
   induction l generalizing ok with
   |nil=>simp
   |cons b l ih=>simp only[List.foldl_cons,ih,List.all_cons,Bool.and_assoc]
 · unfold dev_Check_l1
   rw[cI,if_pos hi,Zg _ hi]
   cases r
   · rfl
   · simp only[cond_true,Option.bind_some,goesOn,Bool.true_and]
     rw[show decide ((d.Blocks[i].length:Int)=256)=decide (d.Blocks[i].length=256)from decide_eq_decide.2 (by omega)]
 · unfold dev_Check_l1
   rw[cI,if_neg (by omega)]
theorem check_l2 (d:Disk)(ok:Bool)(h:Sized d):loop (dev_Check_l2 d) (ok,0)=some (ok&&d.Waits.all okW):=by
 rw[loop_each' d.Waits (λi (r:Bool)=>(r,i)) (λw r=>some (.inl (r&&(okW w)))) (λr=>r) (λi hi r=> ?_) (λr=> ?_) (small_lt h.waits) ok,forL_map]
 · show some _=some _
   congr 1
   generalize d.Waits=l
   induction l generalizing ok with
   |nil=>simp
   |cons b l ih=>simp only[List.foldl_cons,ih,List.all_cons,Bool.and_assoc]
 · unfold dev_Check_l2
   rw[cI,if_pos hi,Zg _ hi]
   cases r
   · rfl
   · simp only[cond_true,Option.bind_some,goesOn,Bool.true_and]
     rw[dev_place_eq (h.at' _ (List.getElem_mem hi))]
     unfold okW
     by_cases c:0≤d.Waits[i].At∧d.Waits[i].At<256
     · rw[decide_eq_true c]
       simp only[Option.bind_some,cond_true,Bool.true_and]
       rw[show decide ((d.Waits[i].Data.length:Int)=256)=decide (d.Waits[i].Data.length=256)from decide_eq_decide.2 (by omega)]
     · rw[decide_eq_false c]
       rfl
 · unfold dev_Check_l2
   rw[cI,if_neg (by omega)]
theorem dev_Check_eq{d:Disk}(h:Sized d):dev_Check d=some (if OKD d then 0 else 8):=by
 unfold dev_Check
 rw [show(bif decide ((d.Blocks.length:Int)=256)then some (decide ((d.Waits.length:Int)≤4096))else some false)=some (decide (d.Blocks.length=256)&&decide (d.Waits.length≤4096))from by
  by_cases c:d.Blocks.length=256
  · rw[decide_eq_true (show(d.Blocks.length:Int)=256 by omega),decide_eq_true c]
    simp only[cond_true,Bool.true_and]
    congr 1
    simp only[decide_eq_decide];omega
  · rw[decide_eq_false (show¬(d.Blocks.length:Int)=256 by omega),decide_eq_false c];rfl]
 simp only[Option.bind_some]
 rw[check_l1 d _ h.blocks]
 simp only[Option.bind_some]
 rw[check_l2 d _ h]
 simp only[Option.bind_some]
 by_cases c:OKD d
 · rw[if_pos c]
   obtain⟨c1,c2,c3,c4⟩:=c
   rw[show(decide (d.Blocks.length=256)&&decide (d.Waits.length≤4096)&&(d.Blocks.all λb=>decide (b.length=256))&&d.Waits.all okW)=true from by
    simp only[Bool.and_eq_true,decide_eq_true_eq,List.all_eq_true];exact⟨⟨⟨c1,c2⟩,c3⟩,c4⟩]
   rfl
 · rw[if_neg c]
   rw[show(decide (d.Blocks.length=256)&&decide (d.Waits.length≤4096)&&(d.Blocks.all λb=>decide (b.length=256))&&d.Waits.all okW)=false from by
    rw[Bool.eq_false_iff];intro e
    simp only[Bool.and_eq_true,decide_eq_true_eq,List.all_eq_true]at e
    exact c ⟨e.1.1.1,e.1.1.2,e.1.2,e.2⟩]
   rfl
structure Mid (d:Disk):Prop where
  blocks:d.Blocks.length≤1000
  waits:d.Waits.length≤5000
  eb:∀b∈d.Blocks,b.length≤1000
  ew:∀w∈d.Waits,w.Data.length≤1000
theorem OKD.mid{d:Disk}(h:OKD d):Mid d:=⟨by rw[h.1];omega,by have:=h.2.1;omega,λb hb=>by rw[h.2.2.1 b hb];omega,λw hw=>by
 have:=h.2.2.2 w hw
 simp only[okW,Bool.and_eq_true,decide_eq_true_eq]at this
 omega⟩
theorem OKD.sized{d:Disk}(h:OKD d):Sized d:=⟨by rw[h.1];omega,by have:=h.2.1;omega,λw hw=>by
 have:=h.2.2.2 w hw
 simp only[okW,Bool.and_eq_true,decide_eq_true_eq]at this
 exact⟨by omega,by omega⟩⟩
theorem sum_le_mul{l:List Nat}{k:Nat}(h:∀x∈l,x≤k):l.sum≤l.length*k:=by
  induction l with
  |nil=>simp
  | cons x l ih=>
    have:=h x (by simp);have:=ih (λy hy=>h y (by simp[hy]))
    simp only[List.sum_cons,List.length_cons,Nat.add_mul,Nat.one_mul];omega
theorem twin_l1 (d:Disk)(h:d.Blocks.length≤1000):loop (dev_Twin_l1 d) (([]:List Int),0)=some (d.Blocks.map λb=>(b.length:Int)):=by
 rw[loop_each d.Blocks (λi (r:List Int)=>(r,i)) (λb r=>some (.inl (r++ [(b.length:Int)]))) (λr=>r) (λi r=>r.length=i) (λi hi r hr=> ?_) (λi hi r r' hr e=> ?_) (λr _=> ?_) (small_lt (by omega)) rfl,forL_map]
 · show some _=some _
   congr 1
   suffices H:∀(l:List (List UInt8)) (a:List Int),l.foldl (λr b=>r++ [(b.length:Int)]) a=a++l.map λb=>(b.length:Int) by simpa using H d.Blocks []
   intro l
   induction l with
   |nil=>simp
   |cons b l ih=>intro a;simp[ih]
 · unfold dev_Twin_l1
   rw[cI,if_pos hi,Zg _ hi,app_eq (by simp only[List.length_cons,List.length_nil,LIM];omega)]
   rfl
 · simp only[Option.some.injEq,Sum.inl.injEq]at e;subst e;simp[hr]
 · unfold dev_Twin_l1
   rw[cI,if_neg (by omega)]
theorem dev_cut_eq (bs:List (List UInt8))(h:bs.length≤1000)(hb:∀b∈bs,b.length≤1000):dev_cut (bs.map λb=>(b.length:Int))=some (bs.map λb=>List.replicate b.length 0):=by
 unfold dev_cut
 have e1:(bs.map λb=>(b.length:Int)).map Int.toNat=bs.map List.length:=by rw[List.map_map];rfl
 have e2:=sum_le_mul (l:=bs.map List.length) (k:=1000) (λx hx=>by obtain⟨b,h1,rfl⟩:=List.mem_map.1 hx;exact hb b h1)
 rw[List.length_map]at e2
 rw[if_pos ⟨λn hn=>by obtain⟨b,_,rfl⟩:=List.mem_map.1 hn;omega,by rw[e1];simp only[LIM];omega,by simp only[List.length_map,LIM];omega⟩,List.map_map]
 rfl
theorem twin_l2 (d:Disk)(h:d.Blocks.length≤1000):loop (dev_Twin_l2 d) (d.Blocks.map (λb=>List.replicate b.length (0:UInt8)),0)=some d.Blocks:=by
 obtain⟨t,h1,h2⟩:=loop_rule (body:=dev_Twin_l2 d) (λs=>s.2≤d.Blocks.length∧s.1=d.Blocks.take s.2++(d.Blocks.drop s.2).map (λb=>List.replicate b.length (0:UInt8))) (λs=>d.Blocks.length-s.2) (λt=>t=d.Blocks) (by
  rintro⟨r,i⟩ ⟨hi,hr⟩
  simp only at hi hr
  subst hr
  unfold dev_Twin_l2
  dsimp only
  rw[cI]
  rcases Nat.lt_or_ge i d.Blocks.length with hlt|hge
  · left
    have hl:(d.Blocks.take i++(d.Blocks.drop i).map (λb=>List.replicate b.length (0:UInt8))).length=d.Blocks.length:=by simp;omega
    have hg:(d.Blocks.take i++(d.Blocks.drop i).map (λb=>List.replicate b.length (0:UInt8)))[i]'(by omega)=List.replicate d.Blocks[i].length 0:=by
     rw[List.getElem_append_right (by simp;omega)]
     simp[Nat.min_eq_left (Nat.le_of_lt hlt)]
    rw[if_pos hlt,Zg _ hlt,Zg _ (by omega),chk_eq (by rw[hg];simp),setI_eq (by omega) (by simpa using(by omega:i<(d.Blocks.take i++(d.Blocks.drop i).map (λb=>List.replicate b.length (0:UInt8))).length))]
    refine⟨_,rfl,⟨hlt,?_⟩,by simp only;omega⟩
    simp only[Int.toNat_natCast]
    rw[List.set_append_right _ _ (by simp only[List.length_take];omega),List.drop_eq_getElem_cons hlt]
    simp only[List.map_cons,List.length_take,Nat.min_eq_left (Nat.le_of_lt hlt),Nat.sub_self,List.set_cons_zero]
    rw[List.take_add_one,List.getElem?_eq_getElem hlt]
    simp only[Option.toList_some,List.append_assoc,List.singleton_append]
  · right
    rw[if_neg (by omega)]
    refine⟨_,rfl,?_⟩
    rw[List.take_of_length_le hge,List.drop_of_length_le hge];simp) (s:=(d.Blocks.map (λb=>List.replicate b.length (0:UInt8)),0)) ⟨Nat.zero_le _,by simp⟩ (small_lt (by simp only;omega))
 rw[h1,h2]
theorem bytes_Clone_eq{l:List UInt8}(h:l.length≤1000):bytes_Clone l=some l:=by
 unfold bytes_Clone;rw[app_eq (by simp only[List.length_nil,LIM];omega)];rfl
theorem twin_l3 (d:Disk)(h:d.Waits.length≤5000)(hw:∀w∈d.Waits,w.Data.length≤1000):loop (dev_Twin_l3 d) (([]:List Write),0)=some d.Waits:=by
 rw[loop_each d.Waits (λi (r:List Write)=>(r,i)) (λb r=>some (.inl (r++ [b]))) (λr=>r) (λi r=>r.length=i) (λi hi r hr=> ?_) (λi hi r r' hr e=> ?_) (λr _=> ?_) (small_lt (by omega)) rfl,forL_map]
 · show some _=some _
   congr 1
   suffices H:∀(l:List Write) (a:List Write),l.foldl (λr b=>r++ [b]) a=a++l by simpa using H d.Waits []
   intro l
   induction l with
   |nil=>simp
   |cons b l ih=>intro a;simp[ih]
 · unfold dev_Twin_l3
   rw[cI,if_pos hi,Zg _ hi,bytes_Clone_eq (hw _ (List.getElem_mem hi))]
   simp only[Option.bind_some]
   rw[app_eq (by simp only[List.length_cons,List.length_nil,LIM];omega)]
   rfl
 · simp only[Option.some.injEq,Sum.inl.injEq]at e;subst e;simp[hr]
 · unfold dev_Twin_l3
   rw[cI,if_neg (by omega)]
theorem dev_Twin_eq{d:Disk}(h:Mid d):dev_Twin d=some d:=by
 unfold dev_Twin
 rw[twin_l1 d h.blocks]
 simp only[Option.bind_some]
 rw[dev_cut_eq _ h.blocks h.eb]
 simp only[Option.bind_some]
 rw[twin_l2 d h.blocks]
 simp only[Option.bind_some]
 rw[twin_l3 d h.waits h.ew]
 rfl
end Go.Ow
namespace Go.Ow
def noD:Disk:=⟨[],[]⟩
theorem inI64_of{n:Int}(h:0≤n∧n<256):InI64 n:=⟨by omega,by omega⟩
theorem slices_Clip_Write_eq (l:List Write):slices_Clip_Write l=some l:=by
 unfold slices_Clip_Write
 rw[slc_eq (by omega) (by omega) (by omega)]
 simp[cut]
theorem guarded_eq{d:Disk}(h:Sized d)(is:Bool)(e:Disk):dev_guarded d is e=some (if OKD d then(if is=true then(e,0,e)else(noD,2,e))else(noD,8,e)):=by
 unfold dev_guarded
 rw[dev_Check_eq h]
 simp only[Option.bind_some]
 by_cases c:OKD d
 · rw[if_pos c,if_pos c]
   cases is<;>rfl
 · rw[if_neg c,if_neg c];rfl
def writeD (d:Disk)(at':Int)(b:List UInt8):Disk×Int:=
 if OKD d then(if 0≤at'∧at'<256 then(if b.length=256 then(if d.Waits.length=4096 then(noD,9)else(⟨d.Blocks,d.Waits++ [⟨at',b⟩]⟩,0))else(noD,3))else(noD,2))else(noD,8)
theorem dev_Write_eq{d:Disk}(h:Sized d){at':Int}(ha:InI64 at')(b:List UInt8):dev_Write d at' b=some (writeD d at' b):=by
 unfold dev_Write writeD
 rw[dev_place_eq ha]
 simp only[Option.bind_some]
 rw[guarded_eq h]
 simp only[Option.bind_some]
 by_cases c:OKD d
 · rw [if_pos c,if_pos c]
   by_cases c1:0≤at'∧at'<256
   · rw [decide_eq_true c1,if_pos rfl,if_pos c1]
     by_cases c2:b.length=256
     · rw [if_pos c2]
       dsimp only
       rw[show decide ((b.length:Int)=256)=true from decide_eq_true (by omega)]
       by_cases c3:d.Waits.length=4096
       · rw[if_pos c3]
         rw[show decide ((d.Waits.length:Int)=4096)=true from decide_eq_true (by omega)]
         rfl
       · rw[if_neg c3]
         rw[show decide ((d.Waits.length:Int)=4096)=false from decide_eq_false (by omega),slices_Clip_Write_eq]
         have hm:=c.mid
         have hw:=c.2.1
         simp only[decide_true,Bool.not_true,cond_false,Option.bind_some]
         rw[app_eq (by simp only[List.length_cons,List.length_nil,LIM];omega),dev_Twin_eq (d:=Disk.mk d.Blocks (d.Waits++ [Write.mk at' b])) ⟨hm.blocks,by simp only[List.length_append,List.length_cons,List.length_nil];omega,hm.eb,λw hw'=>by
          rcases List.mem_append.1 hw' with h'|h'
          · exact hm.ew w h'
          · simp at h';subst h';simp only;omega⟩]
         rfl
     · rw[if_neg c2]
       dsimp only
       rw[show decide ((b.length:Int)=256)=false from decide_eq_false (by omega)]
       rfl
   · rw[decide_eq_false c1,if_neg (by simp),if_neg c1]
     rfl
 · rw[if_neg c,if_neg c];rfl
theorem OKD.write{d:Disk}(h:OKD d){at':Int}{b:List UInt8}(ha:0≤at'∧at'<256)(hb:b.length=256)(hw:d.Waits.length≠4096):OKD ⟨d.Blocks,d.Waits++ [⟨at',b⟩]⟩:=by
 obtain⟨h1,h2,h3,h4⟩:=h
 refine⟨h1,by simp only[List.length_append,List.length_cons,List.length_nil];omega,h3,λw hw'=> ?_⟩
 rcases List.mem_append.1 hw' with h'|h'
 · exact h4 w h'
 · simp at h';subst h';simp[okW,ha,hb]
def layW (B:List (List UInt8))(ws:List Write):List (List UInt8):=ws.foldl (λB w=>B.set w.At.toNat w.Data) B
def KeysOk (M:List (Int×Write)):Prop:=(M.map (·.1)).Nodup∧∀p∈M,0≤p.1
theorem mem_putM{M:List (Int×Write)}{k:Int}{y:Write}{p:Int×Write}(h:p∈putM M k y):p∈M∨p=(k,y):=by
  induction M with
  |nil=>simp[putM]at h;exact .inr h
  | cons q r ih=>
    simp only[putM]at h
    split at h
    · rcases List.mem_cons.1 h with h'|h'
      · exact .inr h'
      · exact .inl (by simp[h'])
    · rcases List.mem_cons.1 h with h'|h'
      · exact .inl (by simp[h'])
      · exact(ih h').imp (λz=>by simp[z]) id
theorem keys_putM{M:List (Int×Write)}{k:Int}{y:Write}(h:(M.map (·.1)).Nodup):((putM M k y).map (·.1)).Nodup:=by
  induction M with
  |nil=>simp[putM]
  | cons q r ih=>
    simp only[List.map_cons,List.nodup_cons]at h
    simp only[putM]
    split
    · rename_i e
      simp only[List.map_cons,List.nodup_cons];rw[←e];exact h
    · rename_i e
      simp only[List.map_cons,List.nodup_cons]
      refine⟨λhm=> ?_,ih h.2⟩
      obtain⟨p,hp,hpe⟩:=List.mem_map.1 hm
      rcases mem_putM hp with h'|h'
      · exact h.1 (List.mem_map.2 ⟨p,h',hpe⟩)
      · subst h';exact e hpe.symm
theorem KeysOk.put{M:List (Int×Write)}{k:Int}{y:Write}(h:KeysOk M)(hk:0≤k):KeysOk (putM M k y):=
 ⟨keys_putM h.1,λp hp=>(mem_putM hp).elim (h.2 p) (λe=>by subst e;exact hk)⟩
theorem layM_set{M:List (Int×Write)}{L:List (List UInt8)}{j:Nat}{v:List UInt8}(h:∀p∈M,p.1.toNat≠j):
    layM (λy:Write=>y.Data) (L.set j v) M=(layM (λy:Write=>y.Data) L M).set j v:=by
  unfold layM
  induction M generalizing L with
  |nil=>rfl
  | cons p r ih=>
    simp only[List.foldl_cons]
    rw[List.set_comm _ _ (λe=>h p (by simp) e.symm),ih (λq hq=>h q (by simp[hq]))]
theorem layM_put{M:List (Int×Write)}{L:List (List UInt8)}{k:Int}{y:Write}(h:KeysOk M)(hk:0≤k):
    layM (λy:Write=>y.Data) L (putM M k y)=(layM (λy:Write=>y.Data) L M).set k.toNat y.Data:=by
  induction M generalizing L with
  |nil=>rfl
  | cons p r ih=>
    obtain⟨h1,h2⟩:=h
    simp only[List.map_cons,List.nodup_cons]at h1
    simp only[putM]
    split
    · rename_i e
      have hr:∀q∈r,q.1.toNat≠k.toNat:=λq hq e'=>h1.1 (List.mem_map.2 ⟨q,hq,by have:=h2 q (by simp[hq]);omega⟩)
      show layM _ (L.set k.toNat y.Data) r=(layM _ (L.set p.1.toNat p.2.Data) r).set k.toNat y.Data
      rw[←layM_set hr,e,List.set_set]
    · exact ih ⟨h1.2,λq hq=>h2 q (by simp[hq])⟩
def lastM (ws:List Write):List (Int×Write):=ws.foldl (λM w=>putM M w.At w) []
theorem lastM_snoc (ws:List Write)(w:Write):lastM (ws++ [w])=putM (lastM ws) w.At w:=by simp[lastM]
theorem lastM_spec (ws:List Write)(L:List (List UInt8))(h:∀w∈ws,0≤w.At):KeysOk (lastM ws)∧layM (λy:Write=>y.Data) L (lastM ws)=layW L ws∧∀p∈lastM ws,∃w∈ws,p.1=w.At:=by
  suffices H:∀(n:Nat) (ws:List Write),ws.length=n→(∀w∈ws,0≤w.At)→KeysOk (lastM ws)∧layM (λy:Write=>y.Data) L (lastM ws)=layW L ws∧∀p∈lastM ws,∃w∈ws,p.1=w.At from H _ ws rfl h
  intro n
  induction n with
  |zero=>intro ws hn _;obtain rfl:=List.length_eq_zero_iff.1 hn;exact⟨⟨by simp[lastM],by simp[lastM]⟩,rfl,by simp[lastM]⟩
  | succ n ih=>
    intro ws hn h
    obtain⟨ws',w,rfl⟩:∃a b,ws=a++ [b]:=⟨ws.dropLast,ws.getLast (by intro e;subst e;simp at hn),(List.dropLast_concat_getLast _).symm⟩
    obtain⟨h1,h2,h3⟩:=ih ws' (by simpa using hn) (λw hw=>h w (by simp[hw]))
    have hw:=h w (by simp)
    rw[lastM_snoc]
    refine⟨h1.put hw,?_,λp hp=> ?_⟩
    · rw[layM_put h1 hw,h2];simp[layW]
    · rcases mem_putM hp with h'|h'
      · obtain⟨w',a,b⟩:=h3 p h';exact⟨w',by simp[a],b⟩
      · subst h';exact⟨w,by simp,rfl⟩
theorem layW_length (B:List (List UInt8))(ws:List Write):(layW B ws).length=B.length:=by
 unfold layW
 induction ws generalizing B with
 |nil=>rfl
 |cons w ws ih=>simp only[List.foldl_cons,ih,List.length_set]
theorem layW_all{B:List (List UInt8)}{ws:List Write}(h:∀b∈B,b.length=256)(hw:∀w∈ws,w.Data.length=256):∀b∈layW B ws,b.length=256:=by
  unfold layW
  induction ws generalizing B with
  |nil=>exact h
  | cons w ws ih=>
    simp only[List.foldl_cons]
    refine ih (λb hb=> ?_) (λw' hw'=>hw w' (by simp[hw']))
    rcases List.mem_or_eq_of_mem_set hb with h'|h'
    · exact h b h'
    · rw[h'];exact hw w (by simp)
theorem okW_at{w:Write}(h:okW w=true):0≤w.At∧w.At<256:=by
 simp only[okW,Bool.and_eq_true,decide_eq_true_eq]at h;exact h.1
theorem okW_data{w:Write}(h:okW w=true):w.Data.length=256:=by
 simp only[okW,Bool.and_eq_true,decide_eq_true_eq]at h;exact h.2
theorem clone45{l:List (List UInt8)}(h:l.length≤1000):slices_Clone_byte_L l=some l:=by
 unfold slices_Clone_byte_L;rw[app_eq (by simp only[List.length_nil,LIM];omega)];rfl
theorem lasts_loop (d:Disk)(h:d.Waits.length≤5000):dev_lasts d=some (lastM d.Waits):=by
 unfold dev_lasts
 rw[loop_each' d.Waits (λi (r:List (Int×Write))=>(r,i)) (λw r=>some (.inl (putM r w.At w))) (λr=>r) (λi hi r=> ?_) (λr=> ?_) (small_lt (by omega)) [],forL_map]
 · rfl
 · unfold dev_lasts_l1
   rw[cI,if_pos hi,Zg _ hi]
   rfl
 · unfold dev_lasts_l1
   rw[cI,if_neg (by omega)]
def seenB (d:Disk):List (List UInt8):=layW d.Blocks d.Waits
theorem okd_lay{d:Disk}(h:OKD d)(ws:List Write)(hw:∀w∈ws,w∈d.Waits):OKD ⟨layW d.Blocks ws,[]⟩:=
 ⟨by simp only[layW_length];exact h.1,by simp,layW_all h.2.2.1 (λw hw'=>okW_data (h.2.2.2 w (hw w hw'))),by simp⟩
theorem lay_range{d:Disk}(h:OKD d){ws:List Write}(hw:∀w∈ws,w∈d.Waits):∀p∈lastM ws,0≤p.1∧p.1.toNat<d.Blocks.length:=λp hp=>by
 obtain⟨w,h1,h2⟩:=(lastM_spec ws [] (λw hw'=>(okW_at (h.2.2.2 w (hw w hw'))).1)).2.2 p hp
 have:=okW_at (h.2.2.2 w (hw w h1))
 rw[h2,h.1];omega
theorem dev_left_eq{d:Disk}(h:OKD d):dev_left d=some ⟨seenB d,[]⟩:=by
 unfold dev_left
 rw[clone45 h.mid.blocks]
 simp only[Option.bind_some]
 rw[lasts_loop _ h.mid.waits]
 simp only[Option.bind_some]
 unfold layR
 rw[if_pos (lay_range h (λw hw=>hw)),(lastM_spec d.Waits d.Blocks (λw hw=>(okW_at (h.2.2.2 w hw)).1)).2.1]
 dsimp only
 rw[dev_Twin_eq (okd_lay h d.Waits (λw hw=>hw)).mid]
 rfl
theorem guarded2_eq{d:Disk}(h:Sized d)(is:Bool):dev_guarded_v2 d is d=some (if OKD d then(if is=true then(⟨seenB d,[]⟩,0,d)else(noD,2,d))else(noD,8,d)):=by
 unfold dev_guarded_v2
 rw[dev_Check_eq h]
 simp only[Option.bind_some]
 by_cases c:OKD d
 · rw[if_pos c,if_pos c]
   cases is
   · rfl
   · unfold dev_Read_1;rw[dev_left_eq c];rfl
 · rw[if_neg c,if_neg c];rfl
theorem seenB_length{d:Disk}(h:OKD d):(seenB d).length=256:=by unfold seenB;rw[layW_length];exact h.1
theorem dev_Read_eq{d:Disk}(h:OKD d){i:Nat}(hi:i<256):dev_Read d (i:Int)=some ((seenB d)[i]'(by rw[seenB_length h];exact hi),0):=by
 unfold dev_Read
 rw[dev_place_eq (inI64_of (by omega))]
 simp only[Option.bind_some]
 rw[guarded2_eq h.sized,if_pos h,decide_eq_true (show 0≤(i:Int)∧(i:Int)<256 by omega),if_pos rfl]
 simp only[Option.bind_some,decide_true,Bool.not_true,cond_false]
 rw[Zg _ (by rw[seenB_length h];exact hi)]
end Go.Ow
namespace Go.Ow
def leB (n:Nat):Nat→List UInt8
 |0=> []
 |k+1=>UInt8.ofNat n::leB (n/256) k
theorem leB_length (n k:Nat):(leB n k).length=k:=by
 induction k generalizing n with
 |zero=>rfl
 |succ k ih=>simp[leB,ih]
def numB:List UInt8→Nat
 |[]=>0
 |b::r=>b.toNat+256*numB r
theorem numB_leB{n k:Nat}(h:n<256^k):numB (leB n k)=n:=by
  induction k generalizing n with
  |zero=>simp at h;subst h;rfl
  | succ k ih=>
    simp only[leB,numB]
    rw[ih (by rw[Nat.pow_succ]at h;omega),UInt8.toNat_ofNat']
    omega
theorem u8i_nat (n:Nat):u8i (n:Int)=UInt8.ofNat n:=by
 unfold u8i
 apply UInt8.toNat_inj.1
 rw[UInt8.toNat_ofNat',UInt8.toNat_ofNat']
 omega
theorem sized_eq (k:Int):code_sized k=some (decide (0<k∧k≤4)):=by
 unfold code_sized
 by_cases h:0<k
 · rw[decide_eq_true h]
   simp only[cond_true,Option.bind_some]
   congr 1;simp only[decide_eq_decide];omega
 · rw[decide_eq_false h]
   simp only[cond_false,Option.bind_some]
   congr 1;rw[decide_eq_false (λe=>h e.1)]
theorem put_loop{n k:Nat}(hk:k≤4)(hn:n<4294967296):loop (code_Put_l1 (k:Int)) ((n:Int),([]:List UInt8))=some (leB n k):=by
 obtain⟨t,h1,h2⟩:=loop_rule (body:=code_Put_l1 (k:Int)) (λs=>∃m:Nat,s.1=(m:Int)∧m<4294967296∧s.2.length≤k∧s.2++leB m (k-s.2.length)=leB n k) (λs=>k-s.2.length) (λt=>t=leB n k) (by
  rintro⟨a,b⟩ ⟨m,h1,h0,h2,h3⟩
  simp only at h1 h2 h3
  subst h1
  unfold code_Put_l1
  dsimp only
  rw[cI]
  rcases Nat.lt_or_ge b.length k with c|c
  · left
    rw[if_pos c,app_eq (by simp only[List.length_cons,List.length_nil,LIM];omega)]
    refine⟨_,rfl,⟨m/256,?_,by omega,by simp;omega,?_⟩,by simp;omega⟩
    · simp only
      rw[Int.tdiv_eq_ediv_of_nonneg (by omega),Zj (by omega) (by omega)];omega
    · simp only
      rw[←h3,show k-b.length=(k-(b++ [u8i (m:Int)]).length)+1 by simp;omega]
      simp only[leB,u8i_nat,List.append_assoc,List.singleton_append]
  · right
    rw[if_neg (by omega)]
    refine⟨_,rfl,?_⟩
    rw[show k-b.length=0 by omega]at h3
    simpa[leB]using h3) (s:=((n:Int),([]:List UInt8))) ⟨n,rfl,hn,by simp,by simp⟩ (Nat.lt_of_le_of_lt (Nat.sub_le _ _) (small_lt (by omega)))
 rw[h1,h2]
theorem pow256{k:Nat}(h1:1≤k)(h4:k≤4):sli 1 (w64 (8*(k:Int)))=((256^k:Nat):Int)∧256^k≤4294967296:=by
 have:k=1∨k=2∨k=3∨k=4:=by omega
 rcases this with rfl|rfl|rfl|rfl<;>decide
theorem code_Put_eq{n k:Nat}(h1:1≤k)(h4:k≤4)(hn:n<256^k):code_Put (n:Int) (k:Int)=some (leB n k,0):=by
 unfold code_Put
 rw[sized_eq]
 simp only[Option.bind_some]
 obtain⟨h5,h6⟩:=pow256 h1 h4
 rw[decide_eq_true (show 0<(k:Int)∧(k:Int)≤4 by omega),decide_eq_false (show¬(n:Int)<0 by omega),chk_eq (by rw[Zj (by omega) (by omega)];omega),h5,
  decide_eq_false (show¬((256^k:Nat):Int)≤(n:Int) by omega)]
 simp only[Bool.not_true,cond_false]
 rw[put_loop h4 (by omega)]
 rfl
theorem numB_snoc (p:List UInt8)(c:UInt8):numB (p++ [c])=numB p+256^p.length*c.toNat:=by
 induction p with
 |nil=>simp[numB]
 |cons b p ih=>simp only[List.cons_append,numB,ih,List.length_cons,Nat.pow_succ];rw[Nat.mul_add,←Nat.mul_assoc,Nat.mul_comm 256 (256^p.length)];omega
theorem bwd_length' (m:List UInt8)(k:Nat):(bwd m k).length=k:=by induction k with|zero=>rfl|succ k ih=>simp[bwd,ih]
theorem bwd_fold (m:List UInt8):∀(k a:Nat),k≤m.length→(bwd m k).foldl (λn y=>256*n+y.2.toNat) a=numB (m.take k)+256^k*a:=by
  intro k
  induction k with
  |zero=>intro a _;simp[bwd,numB]
  | succ k ih=>
    intro a hk
    simp only[bwd,List.foldl_cons]
    rw[ih _ (by omega),List.take_succ_eq_append_getElem (by omega),numB_snoc,List.length_take,Nat.min_eq_left (by omega),List.getD_eq_getElem?_getD,List.getElem?_eq_getElem (by omega),Option.getD_some,Nat.pow_succ,Nat.mul_add,←Nat.mul_assoc]
    omega
theorem get_loop:∀(l:List (Nat×UInt8)) (a j:Nat),a<256^j→j+l.length≤4→forL code_Get_r1 l (a:Int)=some (.inl ((l.foldl (λn y=>256*n+y.2.toNat) a:Nat):Int))
  |[],a,j,_,_=>rfl
  | y ::l,a,j,ha,hj=>by
    have hy:=y.2.toNat_lt
    have hp:(256:Nat)^(j+1)≤256^4:=Nat.pow_le_pow_right (by omega) (by simp at hj;omega)
    have h2:256*a+y.2.toNat<256^(j+1):=by rw[Nat.pow_succ];omega
    rw[forL_cons (s':=((256*a+y.2.toNat:Nat):Int)) (by
      have e4:(256:Nat)^4=4294967296:=by decide
      rw[e4]at hp
      generalize (256:Nat)^(j+1)=N at hp h2
      show some (Sum.inl (w64 ((w64 (256*(a:Int)))+(y.2.toNat:Int))))=_
      rw[Zj (n:=256*(a:Int)) (by omega) (by omega),Zj (by omega) (by omega)]
      rw[show(256*(a:Int)+(y.2.toNat:Int))=((256*a+y.2.toNat:Nat):Int) by omega]),get_loop l _ (j+1) h2 (by simp at hj;omega)]
    rfl
theorem cut_len{l:List UInt8}{a b:Nat}(h1:a≤b)(h2:b≤l.length):(cut l (a:Int) (b:Int)).length=b-a:=by
 unfold cut;simp only[List.length_take,List.length_drop];omega
theorem get_core{b:List UInt8}{at' k:Nat}(h4:k≤4)(hl:at'+k≤b.length):
 (slc b (at':Int) ((at'+k:Nat):Int) λm_16=>Option.bind (slices_Backward_byte m_16) λx_20=>Option.bind (forL code_Get_r1 (bwd m_16 m_16.length) 0) (λt_24=>Sum.elim (λs_27=>some (s_27,(0:Int))) (λ_=>none) t_24))=some ((numB ((b.drop at').take k):Int),0):=by
 rw[slc_eq (by omega) (by omega) (by omega)]
 have hm:(cut b (at':Int) ((at'+k:Nat):Int)).length=k:=by rw[cut_len (by omega) (by omega)];omega
 have he:cut b (at':Int) ((at'+k:Nat):Int)=(b.drop at').take k:=by unfold cut;rw[Int.toNat_natCast,Int.toNat_natCast,Nat.add_sub_cancel_left]
 rw[he]at hm⊢
 have:=get_loop (bwd ((b.drop at').take k) ((b.drop at').take k).length) 0 0 (by decide) (by rw[bwd_length',hm];omega)
 unfold slices_Backward_byte
 rw[Option.bind_some]
 rw[show((0:Nat):Int)=0 from rfl]at this
 rw[this,bwd_fold _ _ _ (Nat.le_refl _),List.take_length,Nat.mul_zero,Nat.add_zero]
 rfl
theorem get_cond{b:List UInt8}{a q k:Int}{K:Option (Int×Int)}(hk:0<k∧k≤4)(h0:0≤a)(h1:a≤b.length)(h2:q≤b.length):
 (Option.bind (code_sized k) λx_5=>Option.bind (cond (!x_5) (some true) (cond (decide (a<0)) (some true) (some (decide ((b.length:Int)<a))))) (λt_8=>cond t_8 (some (0,2)) (cond (decide ((b.length:Int)<q)) (some (0,8)) K)))=K:=by
 rw[sized_eq,Option.bind_some,decide_eq_true hk,decide_eq_false (show¬a<0 by omega),decide_eq_false (show¬(b.length:Int)<a by omega),decide_eq_false (show¬(b.length:Int)<q by omega)]
 rfl
theorem code_Get_eq{b:List UInt8}{at' k:Nat}(h1:1≤k)(h4:k≤4)(hl:at'+k≤b.length)(hb:b.length≤1000000):code_Get b (at':Int) (k:Int)=some ((numB ((b.drop at').take k):Int),0):=by
 unfold code_Get
 have hw:w64 ((at':Int)+(k:Int))=((at'+k:Nat):Int):=by rw[Zj (by omega) (by omega)];omega
 rw[hw]
 exact(get_cond ⟨by omega,by omega⟩ (by omega) (by omega) (by omega)).trans (get_core h4 hl)
theorem rot_tot (a:UInt32)(n:Int):∃r,math_bits_RotateLeft32 a n=some r:=⟨_,rfl⟩
theorem turned1_tot (a b:Int)(x:A4 UInt32):∃r,mix_words_turned_1 a b x=some r:=by
 unfold mix_words_turned_1
 obtain⟨r,h⟩:=rot_tot (x.e3^^^(x.e0+x.e1)) a
 rw[h]
 simp only[Option.bind_some]
 obtain⟨r',h'⟩:=rot_tot (x.e1^^^(x.e2+r)) b
 rw[h']
 exact⟨_,rfl⟩
theorem turned_tot (x:A4 UInt32):∃r,mix_words_turned x=some r:=by
 unfold mix_words_turned
 obtain⟨r,h⟩:=turned1_tot 15 11 x
 rw[h]
 simp only[Option.bind_some]
 obtain⟨r',h'⟩:=turned1_tot 9 6 r
 rw[h']
 exact⟨_,rfl⟩
theorem often_tot (x:A4 UInt32)(n:Int)(hn:n≤100):∃r,mix_words_often x n=some r:=by
 unfold mix_words_often
 obtain⟨t,h1,-⟩:=loop_rule (body:=mix_words_often_l1 n) (λs=>0≤s.2.2.2.2∧s.2.2.2.2≤100) (λs=>100-s.2.2.2.2.toNat) (λ_=>True) (by
  rintro⟨a,b,c,d,i⟩ ⟨hi,hi'⟩
  simp only at hi hi'
  unfold mix_words_often_l1
  dsimp only
  by_cases h:i<n
  · left
    rw[decide_eq_true h]
    obtain⟨r,hr⟩:=turned_tot (A4.mk a b c d)
    simp only[cond_true]
    rw[hr]
    refine⟨_,rfl,?_,?_⟩
    · simp only;rw[Zj (by omega) (by omega)];omega
    · simp only;rw[Zj (by omega) (by omega)];omega
  · right
    rw[decide_eq_false h]
    exact⟨_,rfl,trivial⟩) (s:=(x.e0,x.e1,x.e2,x.e3,0)) ⟨by simp,by simp⟩ (Nat.lt_of_le_of_lt (Nat.sub_le _ _) (small_lt (by omega)))
 rw[h1]
 exact⟨_,rfl⟩
theorem number_tot{b:List UInt8}(h:b.length=4):∃r,mix_number b=some r:=by
 unfold mix_number
 rw[show(0:Int)=((0:Nat):Int)from rfl,show(4:Int)=((4:Nat):Int)from rfl,code_Get_eq (by omega) (by omega) (by omega) (by omega)]
 exact⟨_,rfl⟩
theorem forL_tot{α σ τ:Type}{body:α→σ→Option (σ ⊕ τ)}:∀{l:List α} {s:σ},(∀y∈l,∀s,∃s',body y s=some (.inl s'))→∃s',forL body l s=some (.inl s')
  |[],s,_=>⟨s,rfl⟩
  | y::l,s,h=>by
    obtain⟨s',h1⟩:=h y (by simp) s
    rw[forL_cons h1]
    exact forL_tot (λy hy=>h y (by simp[hy]))
theorem chunks_len{n:Nat}(hn:0<n):∀(f:Nat) (l:List UInt8),l.length≤f→l.length%n=0→∀y∈chunks n f l,y.length=n
  |0,l,h,_,y,hy=>by simp[chunks]at hy
  | f + 1,l,h,hm,y,hy=>by
    by_cases c:l= []
    · subst c;simp[chunks]at hy
    · rw[chunks_step c]at hy
      have hpos:=List.length_pos_iff.2 c
      have hge:n≤l.length:=by
        rcases Nat.lt_or_ge l.length n with h'|h'
        · rw[Nat.mod_eq_of_lt h']at hm;omega
        · exact h'
      rcases List.mem_cons.1 hy with rfl|hy
      · simp only[List.length_take];omega
      · refine chunks_len hn f _ (by simp only[List.length_drop];omega) ?_ y hy
        rw[List.length_drop,←Nat.mod_eq_sub_mod hge];exact hm
def pad8 (n:Nat):Nat:=(8-n%8)%8
theorem pad8_step{n:Nat}(h:n%8≠0):pad8 (n+1)+1=pad8 n:=by
 unfold pad8
 have:n%8=1∨n%8=2∨n%8=3∨n%8=4∨n%8=5∨n%8=6∨n%8=7:=by omega
 rcases this with h|h|h|h|h|h|h<;>rw[Nat.add_mod,h]
theorem pad8_le (n:Nat):pad8 n≤8:=by unfold pad8;omega
theorem four_l1{l:List UInt8}(h:l.length≤100000):∃t,loop mix_four_l1 l=some t∧t.length%8=0∧t.length≤100016:=by
 obtain⟨t,h1,h2⟩:=loop_rule (body:=mix_four_l1) (λs=>s.length+pad8 s.length≤100008) (λs=>pad8 s.length) (λt=>t.length%8=0∧t.length≤100016) (by
  intro s hs
  unfold mix_four_l1
  rw[Int.tmod_eq_emod_of_nonneg (by omega)]
  by_cases c:s.length%8=0
  · right
    rw[decide_eq_true (show(s.length:Int)%8=0 by omega)]
    exact⟨_,rfl,c,by omega⟩
  · left
    have:=pad8_step c
    rw[decide_eq_false (show¬(s.length:Int)%8=0 by omega)]
    simp only[Bool.not_false,cond_true]
    rw[app_eq (by simp only[List.length_cons,List.length_nil,LIM];omega)]
    exact⟨_,rfl,by simp only[List.length_append,List.length_cons,List.length_nil,Nat.zero_add];omega,by simp only[List.length_append,List.length_cons,List.length_nil,Nat.zero_add];omega⟩) (s:=l) (by have:=pad8_le l.length;omega) (Nat.lt_of_le_of_lt (pad8_le _) (small_lt (by omega)))
 exact⟨t,h1,h2⟩
theorem mix_Sum_tot{b:List UInt8}(h:b.length≤10000):∃r,mix_Sum b=some r:=by
 unfold mix_Sum mix_four slices_Clone_byte slices_Clip_byte
 rw[app_eq (by simp only[List.length_nil,LIM];omega)]
 simp only[Option.bind_some,List.nil_append]
 rw[slc_eq (by omega) (by omega) (by omega)]
 simp only[Option.bind_some]
 have hc:cut b 0 (b.length:Int)=b:=by simp[cut]
 rw[hc,app_eq (by simp only[List.length_cons,List.length_nil,LIM];omega)]
 obtain⟨t,h1,h2,h3⟩:=four_l1 (l:=b++ [1]) (by simp;omega)
 rw[h1]
 simp only[Option.bind_some]
 unfold slices_Chunk_byte
 rw[if_pos ⟨by omega,by omega,by simp only[LIM];omega⟩]
 simp only[Option.bind_some]
 obtain⟨s,hs⟩:=forL_tot (body:=mix_four_r2) (l:=chunks (8:Int).toNat t.length t) (s:=((1:UInt32),(2:UInt32),(3:UInt32),(4:UInt32))) (λy hy s=>by
  have hy8:y.length=8:=chunks_len (n:=8) (by omega) t.length t (Nat.le_refl _) h2 y hy
  unfold mix_four_r2
  rw[slc_eq (by omega) (by omega) (by omega)]
  obtain⟨n1,e1⟩:=number_tot (b:=cut y 0 4) (by rw[show(0:Int)=((0:Nat):Int)from rfl,show(4:Int)=((4:Nat):Int)from rfl,cut_len (by omega) (by omega)])
  rw[e1]
  simp only[Option.bind_some]
  rw[slc_eq (by omega) (by omega) (by omega)]
  obtain⟨n2,e2⟩:=number_tot (b:=cut y 4 (y.length:Int)) (by rw[show(4:Int)=((4:Nat):Int)from rfl,cut_len (by omega) (by omega)];omega)
  rw[e2]
  simp only[Option.bind_some]
  obtain⟨w,e3⟩:=often_tot (A4.mk (s.1^^^n1) s.2.1 (s.2.2.1^^^n2) s.2.2.2) 4 (by omega)
  rw[e3]
  exact⟨_,rfl⟩)
 rw[hs]
 simp only[Option.bind_some,Sum.elim_inl]
 obtain⟨w,e3⟩:=often_tot (A4.mk s.1 (s.2.1^^^(u32i (b.length:Int))) s.2.2.1 s.2.2.2) 8 (by omega)
 rw[e3]
 exact⟨_,rfl⟩
def sumOf (b:List UInt8):UInt32:=(mix_Sum b).getD 0
theorem mix_Sum_eq{b:List UInt8}(h:b.length≤10000):mix_Sum b=some (sumOf b):=by
 obtain⟨r,hr⟩:=mix_Sum_tot h
 unfold sumOf;rw[hr];rfl
end Go.Ow
namespace Go.Ow
theorem run_st{σ τ:Type}{body:σ→Option (σ ⊕ τ)}{n:Nat}{s s':σ}(h:body s=some (.inl s')):run body (n+1) s=run body n s':=by
 show Option.bind (body s) _=_;rw[h];rfl
theorem run_en{σ τ:Type}{body:σ→Option (σ ⊕ τ)}{n:Nat}{s:σ}{t:τ}(h:body s=some (.inr t)):run body (n+1) s=some t:=by
 show Option.bind (body s) _=_;rw[h];rfl
theorem six_fuel:6≤FUEL:=by decide
theorem run5{σ τ:Type}{body:σ→Option (σ ⊕ τ)}{s0 s1 s2 s3 s4 s5:σ}{t:τ}(h0:body s0=some (.inl s1))(h1:body s1=some (.inl s2))(h2:body s2=some (.inl s3))(h3:body s3=some (.inl s4))(h4:body s4=some (.inl s5))(h5:body s5=some (.inr t)):
 loop body s0=some t:=loop_of six_fuel (by rw[run_st h0,run_st h1,run_st h2,run_st h3,run_st h4,run_en h5])
def isNone (p:Ptr):Prop:=p.At=0∧p.Birth=0∧p.Iv=0∧p.Tag=0∧p.Sum=0
instance (p:Ptr):Decidable (isNone p):=by unfold isNone;infer_instance
def okR (p:Ptr):Prop:=12≤p.At∧p.At<256∧(1:UInt32)≤p.Birth∧p.Birth≤16777215
instance (p:Ptr):Decidable (okR p):=by unfold okR;infer_instance
theorem none_dec (p:Ptr):(decide (p.At=0)&&(decide (p.Birth=(0:UInt32))&&(decide (p.Iv=(0:UInt32))&&(decide (p.Tag=(0:UInt32))&&(decide (p.Sum=(0:UInt32))&&true)))))=decide (isNone p):=by
 rw[Bool.eq_iff_iff]
 simp only[Bool.and_eq_true,decide_eq_true_eq,and_true]
 exact Iff.rfl
theorem ptr_Check_eq' (p:Ptr):ptr_Check p=some (if isNone p∨okR p then 0 else 8):=by
 unfold ptr_Check
 rw[none_dec]
 by_cases h0:isNone p
 · rw[decide_eq_true h0,if_pos (.inl h0)];rfl
 rw[decide_eq_false h0]
 by_cases h:okR p
 · rw[if_pos (.inr h)]
   obtain⟨h1,h2,h3,h4⟩:=h
   rw[decide_eq_false (show¬p.At<12 by omega),decide_eq_false (show¬256≤p.At by omega),decide_eq_false (show¬p.Birth<1 from UInt32.not_lt.2 h3),decide_eq_false (show¬(16777215:UInt32)<p.Birth from UInt32.not_lt.2 h4)]
   rfl
 · rw[if_neg (λe=>e.elim h0 h)]
   by_cases h1:p.At<12
   · rw[decide_eq_true h1];rfl
   by_cases h2:256≤p.At
   · rw[decide_eq_false h1,decide_eq_true h2];rfl
   by_cases h3:p.Birth<1
   · rw[decide_eq_false h1,decide_eq_false h2,decide_eq_true h3];rfl
   by_cases h4:(16777215:UInt32)<p.Birth
   · rw[decide_eq_false h1,decide_eq_false h2,decide_eq_false h3,decide_eq_true h4];rfl
   exact absurd ⟨by omega,by omega,UInt32.not_lt.1 h3,UInt32.not_lt.1 h4⟩ h
end Go.Ow
namespace Go.Ow
end Go.Ow
namespace Go.Ow
def okS (s:List UInt8):Prop:=s.length=256∧(∀b∈s,b≤2)∧∀b∈s.take 12,b=1
instance (s:List UInt8):Decidable (okS s):=by unfold okS;infer_instance
theorem maxB_le{a b c:UInt8}:maxB a b≤c↔a≤c∧b≤c:=by
 unfold maxB
 simp only[UInt8.le_iff_toNat_le,UInt8.lt_iff_toNat_lt]
 split<;>omega
theorem max_loop (s:List UInt8)(h:s.length≤1000)(a:UInt8):loop (slices_Max_byte_l1 s) (a,1)=some ((s.drop 1).foldl maxB a):=by
 have:=loop_each' (s.drop 1) (λi r=>(r,i+1)) (body:=slices_Max_byte_l1 s) (τ:=UInt8) (λy r=>some (.inl (maxB r y))) (λr=>r)
  (λi hi r=>by
   have hi':i+1<s.length:=by rw[List.length_drop]at hi;omega
   unfold slices_Max_byte_l1
   rw[cI,if_pos hi',Zg _ hi']
   simp only[List.getElem_drop,Nat.add_comm 1 i]
   rfl)
  (λr=>by
   unfold slices_Max_byte_l1
   rw[cI,if_neg (by rw[List.length_drop];omega)])
  (Nat.lt_of_le_of_lt (by rw[List.length_drop];omega) (show 1000<FUEL by decide)) a
 rw[this,forL_map];rfl
theorem foldl_max (l:List UInt8)(a c:UInt8):l.foldl maxB a≤c↔a≤c∧∀b∈l,b≤c:=by
 induction l generalizing a with
 |nil=>simp
 |cons b l ih=>rw[List.foldl_cons,ih,maxB_le];simp[and_assoc]
theorem max_eq{s:List UInt8}(h:s.length≤1000)(h0:0<s.length):∃m,slices_Max_byte s=some m∧∀c,m≤c↔∀b∈s,b≤c:=by
 refine⟨(s.drop 1).foldl maxB s[0],?_,λc=> ?_⟩
 · unfold slices_Max_byte
   rw[decide_eq_false (by omega),cond_false,show(0:Int)=((0:Nat):Int)from rfl,Zg _ h0,max_loop s h,Option.bind_some]
 · rw[foldl_max]
   cases s with
   |nil=>simp at h0
   |cons a l=>simp
theorem cnt_all (l:List UInt8)(k:Nat):l.foldl (λn x=>if x==(1:UInt8)then n+1 else n) k≤k+l.length∧(l.foldl (λn x=>if x==(1:UInt8)then n+1 else n) k=k+l.length↔∀b∈l,b=1):=by
  induction l generalizing k with
  |nil=>simp
  | cons b l ih=>
    rw[List.foldl_cons]
    by_cases c:b=1
    · subst c
      have:=ih (k+1)
      simp only[beq_self_eq_true,if_true,List.length_cons,List.forall_mem_cons,true_and]
      exact⟨by omega,by rw[←this.2];omega⟩
    · have:=ih k
      rw[if_neg (by simpa using c)]
      simp only[List.length_cons,List.forall_mem_cons]
      exact⟨by omega,⟨λe=>by omega,λe=>absurd e.1 c⟩⟩
theorem space_Check_eq (s:List UInt8):space_Check s=some (if okS s then 0 else 8):=by
 unfold space_Check
 by_cases hl:s.length=256
 · rw [show(!decide ((s.length:Int)=256))=false by rw[decide_eq_true (by omega)];rfl,cond_false]
   obtain⟨m,hm,hmc⟩:=max_eq (s:=s) (by omega) (by omega)
   rw[hm,Option.bind_some]
   by_cases hb:∀b∈s,b≤2
   · have:=(hmc 2).2 hb
     rw[decide_eq_false (by rw[UInt8.lt_iff_toNat_lt];rw[UInt8.le_iff_toNat_le]at this;omega),cond_false,slc_eq (by omega) (by omega) (by omega)]
     have hc:cut s 0 12=s.take 12:=by simp[cut]
     rw[hc]
     unfold bytes_Count
     rw[decide_eq_false (by simp),cond_false,decide_eq_true (by simp),cond_true,show(0:Int)=((0:Nat):Int)from rfl,Zg _ (by simp),Option.bind_some]
     have hk:=cnt_all (s.take 12) 0
     have hlt:(s.take 12).length=12:=by rw[List.length_take];omega
     rw[hlt]at hk
     obtain⟨q,hq⟩:∃q,q=cntB (s.take 12) ([(1:UInt8)][0]):=⟨_,rfl⟩
     rw[←hq]
     have hq':q=(s.take 12).foldl (λn x=>if x==(1:UInt8)then n+1 else n) 0:=hq
     by_cases h1:∀b∈s.take 12,b=1
     · have e:=hk.2.2 h1
       rw[if_pos ⟨hl,hb,h1⟩,decide_eq_true (by omega)];rfl
     · have e:¬q=12:=λe=>h1 (hk.2.1 (by omega))
       rw[if_neg (λh=>h1 h.2.2),decide_eq_false (by omega)];rfl
   · have:¬m≤2:=λh=>hb ((hmc 2).1 h)
     rw[decide_eq_true (by rw[UInt8.lt_iff_toNat_lt];rw[UInt8.le_iff_toNat_le]at this;omega),cond_true,if_neg (λh=>hb h.2.1)]
 · rw[show(!decide ((s.length:Int)=256))=true by rw[decide_eq_false (by omega)];rfl,cond_true,if_neg (λh=>hl h.1)]
def freeFrom (s:List UInt8)(i:Nat):Option Nat:=(List.range' i (s.length-i)).find? λj=>s.getD j 1==0
theorem freeFrom_step{s:List UInt8}{i:Nat}(h:i<s.length):freeFrom s i=if s[i]=0 then some i else freeFrom s (i+1):=by
 unfold freeFrom
 rw[show s.length-i=(s.length-(i+1))+1 by omega,List.range'_succ,List.find?_cons]
 have e:s.getD i 1=s[i]:=by rw[List.getD_eq_getElem?_getD,List.getElem?_eq_getElem h];rfl
 rw[e]
 by_cases c:s[i]=0
 · rw[if_pos c,c];rfl
 · rw[if_neg c,beq_eq_false_iff_ne.2 c]
theorem freeFrom_end{s:List UInt8}{i:Nat}(h:s.length≤i):freeFrom s i=none:=by
 unfold freeFrom;rw[show s.length-i=0 by omega];rfl
theorem freeFrom_some{s:List UInt8}{i j:Nat}(h:freeFrom s i=some j):i≤j∧j<s.length∧s[j]? =some 0:=by
 unfold freeFrom at h
 have h1:=List.mem_of_find?_eq_some h
 have h2:=List.find?_some h
 rw[List.mem_range'_1]at h1
 have hj:j<s.length:=by omega
 refine⟨h1.1,hj,?_⟩
 rw[List.getD_eq_getElem?_getD,List.getElem?_eq_getElem hj]at h2
 rw[List.getElem?_eq_getElem hj]
 simpa using h2
theorem free_loop (s:List UInt8)(hs:s.length≤1000):∀(k i n:Nat),i+k=s.length→k<n→
    run (space_free_1_l1 s) n (i:Int)=some (match freeFrom s i with|some j=>.inr ((j:Int),(j:Int))|none=>.inl (s.length:Int))
  | 0,i,n,hi,hn=>by
    obtain⟨n,rfl⟩:∃m,n=m+1:=⟨n-1,by omega⟩
    obtain rfl:i=s.length:=by omega
    rw[freeFrom_end (Nat.le_refl _)]
    show Option.bind (space_free_1_l1 s _) _=_
    unfold space_free_1_l1
    rw[decide_eq_false (by omega),cond_false];rfl
  | k +1,i,n,hi,hn=>by
    obtain⟨n,rfl⟩:∃m,n=m+1:=⟨n-1,by omega⟩
    have hlt:i<s.length:=by omega
    rw[freeFrom_step hlt]
    show Option.bind (space_free_1_l1 s _) _=_
    unfold space_free_1_l1
    rw[decide_eq_true (by omega),cond_true,Zg _ hlt]
    by_cases c:s[i]=0
    · rw[decide_eq_true c,cond_true,if_pos c];rfl
    · rw[decide_eq_false c,cond_false,if_neg c]
      show run (space_free_1_l1 s) n (w64 ((i:Int)+1))=_
      rw[Zj (by omega) (by omega),show(i:Int)+1=((i+1:Nat):Int) by omega]
      exact free_loop s hs k (i+1) n (by omega) (by omega)
theorem space_free_1_eq{s:List UInt8}(hs:s.length≤1000){i:Nat}(hi:i≤s.length):
 space_free_1 ((i:Int)-1) s=some (match freeFrom s i with|some j=>((j:Int),(j:Int),s)|none=>(-1,(s.length:Int),s)):=by
 unfold space_free_1
 rw[show((i:Int)-1)+1=(i:Int) by omega,Zj (by omega) (by omega)]
 have:=free_loop s hs (s.length-i) i FUEL (by omega) (Nat.lt_of_le_of_lt (by omega) (show 1000<FUEL by decide))
 rw[show loop (space_free_1_l1 s) (i:Int)=_ from this,Option.bind_some]
 cases freeFrom s i<;>rfl
def takeS (s:List UInt8):List UInt8×Int×Int:=if okS s then(match freeFrom s 0 with|some j=>(s.set j 1,(j:Int),0)|none=>([],0,9))else([],0,8)
theorem bClone{l:List UInt8}(h:l.length≤1000000):bytes_Clone l=some l:=by
 unfold bytes_Clone;rw[app_eq (Nat.le_trans (by simpa using h) (by decide))];rfl
theorem space_Take_eq (s:List UInt8):space_Take s=some (takeS s):=by
  unfold space_Take takeS
  rw[space_Check_eq,Option.bind_some]
  by_cases ok:okS s
  · rw[if_pos ok,if_pos ok]
    have hl:=ok.1
    rw[show(!decide ((0:Int)=0))=false from rfl,cond_false]
    unfold space_free
    rw[Option.bind_some]
    have:=space_free_1_eq (s:=s) (by omega) (i:=0) (by omega)
    rw[show((-1:Int),s).1=((0:Nat):Int)-1 from rfl,show((-1:Int),s).2=s from rfl,this,Option.bind_some]
    cases hf:freeFrom s 0 with
    |none=>rfl
    | some j=>
      obtain⟨-,hj,-⟩:=freeFrom_some hf
      simp only[]
      rw[decide_eq_false (by omega),cond_false,bClone (by omega),Option.bind_some,chk_eq ⟨by omega,by simpa using hj⟩,setI_eq (by omega) (by simpa using hj),Int.toNat_natCast]
  · rw[if_neg ok,if_neg ok];rfl
end Go.Ow
namespace Go.Ow
theorem lim_le{n:Nat}(h:n≤1000000):n≤LIM:=Nat.le_trans h (by decide)
theorem grow_eq{n:Nat}(h:n≤1000000):slices_Grow_byte (n:Int)=some []:=by
 unfold slices_Grow_byte
 rw[decide_eq_false (by omega),cond_false,show(n:Int)-0=(n:Int) by omega,Zj (by omega) (by omega)]
 by_cases c:0<(n:Int)
 · rw[decide_eq_true c,cond_true,mks_eq (lim_le h),slc_eq (by omega) (by omega) (by omega)]
   simp[cut]
 · rw[decide_eq_false c,cond_false];rfl
end Go.Ow
namespace Go.Ow
def noS:Store:=⟨⟨[],[]⟩,[],0,0⟩
def noP:Ptr:=⟨0,0,0,0,0⟩
def OKSt (s:Store):Prop:=OKD s.Disk∧okS s.Space∧(1:UInt32)≤s.Epoch∧s.Epoch≤65535∧s.Count≤65535
instance (s:Store):Decidable (OKSt s):=by unfold OKSt;infer_instance
theorem ndec{e:Int}(h:e≠0):(!decide (e=0))=true:=by rw[decide_eq_false h];rfl
theorem zdec:(!decide ((0:Int)=0))=false:=rfl
theorem d32lt (a b:UInt32):decide (a<b)= !decide (b≤a):=by
 rw[←decide_not];apply decide_eq_decide.2;rw[UInt32.lt_iff_toNat_lt,UInt32.le_iff_toNat_le];omega
theorem store_Check_eq{s:Store}(h:Sized s.Disk):store_Check s=some (if OKSt s then 0 else 8):=by
 unfold store_Check
 rw[dev_Check_eq h,Option.bind_some]
 by_cases c1:OKD s.Disk
 · rw [if_pos c1,zdec,cond_false,space_Check_eq,Option.bind_some]
   by_cases c2:okS s.Space
   · rw [if_pos c2,zdec,cond_false,d32lt,d32lt,d32lt]
     by_cases c3:(1:UInt32)≤s.Epoch
     · by_cases c4:s.Epoch≤65535
       · by_cases c5:s.Count≤65535
         · rw[if_pos ⟨c1,c2,c3,c4,c5⟩,decide_eq_true c3,decide_eq_true c4,decide_eq_true c5];rfl
         · rw[if_neg (λh=>c5 h.2.2.2.2),decide_eq_true c3,decide_eq_true c4,decide_eq_false c5];rfl
       · rw[if_neg (λh=>c4 h.2.2.2.1),decide_eq_true c3,decide_eq_false c4];rfl
     · rw[if_neg (λh=>c3 h.2.2.1),decide_eq_false c3];rfl
   · rw[if_neg c2,ndec (by omega),cond_true,if_neg (λh=>c2 h.2.1)]
 · rw[if_neg c1,ndec (by omega),cond_true,if_neg (λh=>c1 h.1)]
def birthOk (b:UInt32):Prop:=(1:UInt32)≤b∧b≤16777215
instance (b:UInt32):Decidable (birthOk b):=by unfold birthOk;infer_instance
theorem asked_loop1 (n:Int)(a:List UInt8):loop (store_asked_l1 [a]) (n,0)=some (if(a.length:Int)=n then .inl ()else .inr ()):=by
 refine loop_of (n:=3) (by decide) ?_
 by_cases c:(a.length:Int)=n
 · rw[if_pos c,run_st (s':=((256:Int),1)) (by unfold store_asked_l1;simp[idx,c])]
   exact run_en (by unfold store_asked_l1;rfl)
 · rw[if_neg c]
   exact run_en (by unfold store_asked_l1;simp[idx,c])
def askErr (s:Store)(birth:UInt32)(ok:Prop) [Decidable ok]:Int:=if OKSt s then(if birthOk birth then(if ok then 0 else 3)else 2)else 8
theorem asked_core{s:Store}(h:Sized s.Disk)(birth:UInt32)(n:Int)(l:List (List UInt8))(ok:Prop) [Decidable ok](hl:loop (store_asked_l1 l) (n,0)=some (if ok then .inl ()else .inr ())):
 store_asked s birth n l=some (askErr s birth ok):=by
 unfold store_asked askErr
 rw[store_Check_eq h,Option.bind_some]
 by_cases c1:OKSt s
 · rw[if_pos c1,if_pos c1,zdec,cond_false,d32lt,d32lt,hl]
   by_cases c2:birthOk birth
   · rw[if_pos c2,decide_eq_true c2.1,decide_eq_true c2.2]
     by_cases c3:ok
     · rw[if_pos c3,if_pos c3];rfl
     · rw[if_neg c3,if_neg c3];rfl
   · rw[if_neg c2]
     by_cases c3:(1:UInt32)≤birth
     · rw[decide_eq_true c3,decide_eq_false (λc4=>c2 ⟨c3,c4⟩)];rfl
     · rw[decide_eq_false c3];rfl
 · rw[if_neg c1,if_neg c1,ndec (by omega)];rfl
structure PutAt (s:Store) (p:Ptr) (b:List UInt8) (t:Store) (q:Ptr) (j:Nat):Prop where
  ok:OKSt s
  len:b.length=256
  free:freeFrom s.Space 0=some j
  room:s.Disk.Waits.length≠4096
  out:t=⟨⟨s.Disk.Blocks,s.Disk.Waits++ [⟨(j:Int),b⟩]⟩,s.Space.set j 1,s.Epoch,s.Count⟩
  ptr:q=⟨(j:Int),p.Birth,p.Iv,p.Tag,sumOf b⟩
theorem free_high{s:List UInt8}(h:okS s){j:Nat}(hj:s[j]? =some 0):12≤j∧j<256:=by
 have hlt:j<s.length:=(List.getElem?_eq_some_iff.1 hj).1
 rw[h.1]at hlt
 refine⟨?_,hlt⟩
 apply Nat.le_of_not_lt
 intro hc
 have:(s.take 12)[j]? =some 0:=by rw[List.getElem?_take,if_pos hc];exact hj
 have:=h.2.2 0 (List.mem_of_getElem? this)
 cases this
theorem okS_set{s:List UInt8}(h:okS s){j:Nat}(hj:12≤j){v:UInt8}(hv:v≤2):okS (s.set j v):=by
 refine⟨by rw[List.length_set];exact h.1,λb hb=> ?_,λb hb=> ?_⟩
 · rcases List.mem_or_eq_of_mem_set hb with hb|hb
   · exact h.2.1 b hb
   · subst hb;exact hv
 · rw[List.take_set_of_le hj]at hb;exact h.2.2 b hb
theorem PutAt.place{s:Store}{p:Ptr}{b:List UInt8}{t:Store}{q:Ptr}{j:Nat}(h:PutAt s p b t q j):12≤j∧j<256:=free_high h.ok.2.1 (freeFrom_some h.free).2.2
theorem PutAt.okt{s:Store}{p:Ptr}{b:List UInt8}{t:Store}{q:Ptr}{j:Nat}(h:PutAt s p b t q j):OKSt t:=by
 have hp:=h.place
 rw[h.out]
 exact⟨h.ok.1.write (at':=(j:Int)) ⟨by omega,by omega⟩ h.len h.room,okS_set h.ok.2.1 hp.1 (by decide),h.ok.2.2⟩
theorem PutAt.seen{s:Store}{p:Ptr}{b:List UInt8}{t:Store}{q:Ptr}{j:Nat}(h:PutAt s p b t q j):seenB t.Disk=(seenB s.Disk).set j b:=by
 rw[h.out]
 simp only[seenB,layW,List.foldl_append,List.foldl_cons,List.foldl_nil,Int.toNat_natCast]
theorem writeD_ok{d:Disk}(h:OKD d){j:Nat}(hj:j<256){b:List UInt8}(hb:b.length=256):writeD d (j:Int) b=if d.Waits.length=4096 then(noD,9)else(⟨d.Blocks,d.Waits++ [⟨(j:Int),b⟩]⟩,0):=by
 unfold writeD
 rw[if_pos h,if_pos ⟨by omega,by omega⟩]
 by_cases c:d.Waits.length=4096
 · simp[hb,c]
 · simp[hb,c]
theorem put_cases{s:Store}(h:OKSt s)(p:Ptr){b:List UInt8}(hb:b.length=256):
    (store_put s p b=some (noS,noP,9)∧(freeFrom s.Space 0=none∨s.Disk.Waits.length=4096))∨(∃t q j,store_put s p b=some (t,q,0)∧PutAt s p b t q j):=by
  unfold store_put
  rw[space_Take_eq,Option.bind_some]
  unfold takeS
  rw[if_pos h.2.1]
  cases hf:freeFrom s.Space 0 with
  |none=>exact .inl ⟨rfl,.inl rfl⟩
  | some j=>
    have hp:=free_high h.2.1 (freeFrom_some hf).2.2
    dsimp only
    rw[zdec,cond_false,dev_Write_eq h.1.sized (inI64_of ⟨by omega,by omega⟩),Option.bind_some]
    rw[writeD_ok h.1 hp.2 hb]
    by_cases c:s.Disk.Waits.length=4096
    · rw[if_pos c];exact .inl ⟨rfl,.inr c⟩
    · rw[if_neg c]
      dsimp only
      rw[zdec,cond_false,mix_Sum_eq (by omega),Option.bind_some]
      exact .inr ⟨_,_,j,rfl,h,hb,hf,c,rfl,rfl⟩
theorem raw_cases{s:Store}(h:Sized s.Disk)(birth iv tag:UInt32)(b:List UInt8):
 (∃e,store_Raw s birth iv tag b=some (noS,noP,e)∧e≠0∧(OKSt s→birthOk birth→b.length=256→freeFrom s.Space 0=none∨s.Disk.Waits.length=4096))∨(∃t q j,store_Raw s birth iv tag b=some (t,q,0)∧birthOk birth∧PutAt s ⟨0,birth,iv,tag,0⟩ b t q j):=by
 unfold store_Raw
 rw[asked_core h birth 256 [b] (b.length=256) (by rw[asked_loop1];congr 1;by_cases c:b.length=256<;>simp[c]<;>omega),Option.bind_some]
 unfold askErr
 by_cases c1:OKSt s
 · rw [if_pos c1]
   by_cases c2:birthOk birth
   · rw[if_pos c2]
     by_cases c3:b.length=256
     · rw[if_pos c3,zdec,cond_false]
       rcases put_cases c1 ⟨0,birth,iv,tag,0⟩ c3 with⟨h1,h2⟩|⟨t,q,j,h1,h2⟩
       · rw[h1];exact .inl ⟨9,rfl,by omega,λ_ _ _=>h2⟩
       · rw[h1];exact .inr ⟨t,q,j,rfl,c2,h2⟩
     · rw[if_neg c3];exact .inl ⟨3,rfl,by omega,λ_ _ h=>absurd h c3⟩
   · rw[if_neg c2];exact .inl ⟨2,rfl,by omega,λ_ h=>absurd h c2⟩
 · rw[if_neg c1];exact .inl ⟨8,rfl,by omega,λh=>absurd h c1⟩
theorem lay_raw (s:Store)(birth:UInt32)(b:List UInt8):store_Lay s birth b=store_Raw s birth 0 0 b:=by
 unfold store_Lay
 cases store_Raw s birth 0 0 b with
 |none=>rfl
 |some r=>rfl
def more (s:Store):Store:=⟨s.Disk,s.Space,s.Epoch,s.Count+1⟩
theorem raw_err{s:Store}(h:Sized s.Disk)(birth iv tag:UInt32)(b:List UInt8)(hne:askErr s birth (b.length=256)≠0):store_Raw s birth iv tag b=some (noS,noP,askErr s birth (b.length=256)):=by
 unfold store_Raw
 rw[asked_core h birth 256 [b] (b.length=256) (by rw[asked_loop1];congr 1;by_cases c:b.length=256<;>simp[c]<;>omega),Option.bind_some,ndec hne];rfl
def lookS (s:Store)(p:Ptr):List UInt8×Int:=
 if OKSt s∧(isNone p∨okR p)then(if isNone p then([],6)else(if sumOf ((seenB s.Disk).getD p.At.toNat [])=p.Sum then((seenB s.Disk).getD p.At.toNat [],0)else([],130)))else([],8)
theorem seen_mem{d:Disk}(h:OKD d){i:Nat}(hi:i<256):((seenB d).getD i []).length=256:=by
 have hl:=seenB_length h
 rw[List.getD_eq_getElem?_getD,List.getElem?_eq_getElem (by omega),Option.getD_some]
 exact layW_all h.2.2.1 (λw hw=>okW_data (h.2.2.2 w hw)) _ (List.getElem_mem _)
theorem none_dec' (p:Ptr):(decide (p.At=0)&&(decide (p.Birth=(0:UInt32))&&(decide (p.Iv=(0:UInt32))&&(decide (p.Tag=(0:UInt32))&&(decide (p.Sum=(0:UInt32))&&true)))))=decide (isNone p):=none_dec p
theorem store_Look_eq{s:Store}(h:Sized s.Disk)(p:Ptr):store_Look s p=some (lookS s p):=by
 unfold store_Look lookS
 rw[store_Check_eq h,Option.bind_some]
 by_cases c1:OKSt s
 · rw [if_pos c1,zdec,cond_false,ptr_Check_eq',Option.bind_some]
   by_cases c2:isNone p∨okR p
   · rw[if_pos c2,zdec,cond_false,none_dec',if_pos ⟨c1,c2⟩]
     by_cases c3:isNone p
     · rw[if_pos c3,decide_eq_true c3];rfl
     · rw[if_neg c3,decide_eq_false c3,cond_false]
       have hr:=c2.resolve_left c3
       obtain⟨i,hi⟩:=Int.eq_ofNat_of_zero_le (show 0≤p.At by have:=hr.1;omega)
       have hi2:i<256:=by have:=hr.2.1;omega
       have hl:=seenB_length c1.1
       rw[show(Disk.mk s.Disk.Blocks s.Disk.Waits)=s.Disk from rfl,hi,dev_Read_eq c1.1 hi2,Option.bind_some]
       dsimp only
       have hm:=seen_mem c1.1 hi2
       have e:(seenB s.Disk).getD i []=(seenB s.Disk)[i]'(by omega):=by rw[List.getD_eq_getElem?_getD,List.getElem?_eq_getElem (by omega),Option.getD_some]
       rw[Int.toNat_natCast,e]
       rw[e]at hm
       rw[show decide ((0:Int)=0)=true from rfl,cond_true,mix_Sum_eq (by omega),Option.bind_some]
       by_cases c4:sumOf ((seenB s.Disk)[i]'(by omega))=p.Sum
       · rw[if_pos c4,decide_eq_true c4];rfl
       · rw[if_neg c4,decide_eq_false c4];rfl
   · rw[if_neg c2,ndec (by omega),if_neg (λh=>c2 h.2)];rfl
 · rw[if_neg c1,ndec (by omega),if_neg (λh=>c1 h.1)];rfl
theorem lookS_ok{s:Store}{p:Ptr}(h:(lookS s p).2=0):OKSt s∧¬isNone p∧okR p∧(lookS s p).1=(seenB s.Disk).getD p.At.toNat []∧sumOf ((seenB s.Disk).getD p.At.toNat [])=p.Sum:=by
 unfold lookS at h⊢
 by_cases c1:OKSt s∧(isNone p∨okR p)
 · rw[if_pos c1]at h⊢
   by_cases c2:isNone p
   · rw[if_pos c2]at h;simp at h
   · rw[if_neg c2]at h⊢
     by_cases c3:sumOf ((seenB s.Disk).getD p.At.toNat [])=p.Sum
     · rw[if_pos c3];exact⟨c1.1,c2,c1.2.resolve_left c2,rfl,c3⟩
     · rw[if_neg c3]at h;simp at h
 · rw[if_neg c1]at h;simp at h
theorem lookS_is{s:Store}{p:Ptr}{b:List UInt8}(h1:OKSt s)(h2:¬isNone p)(h3:okR p)(h4:(seenB s.Disk).getD p.At.toNat []=b)(h5:sumOf b=p.Sum):lookS s p=(b,0):=by
 unfold lookS;rw[if_pos ⟨h1,.inr h3⟩,if_neg h2,h4,if_pos h5]
end Go.Ow
namespace Go.Ow
theorem forL_tot'{α σ τ:Type}{f:α→σ→Option (σ ⊕ τ)}:∀{l:List α} {s:σ},(∀y s,∃o,f y s=some o)→∃o,forL f l s=some o
  |[],s,_=>⟨_,rfl⟩
  | y::l,s,h=>by
    obtain⟨o,h1⟩:=h y s
    cases o with
    |inl s'=>rw[forL_cons h1];exact forL_tot' h
    |inr e=>rw[forL_stop h1];exact⟨_,rfl⟩
def greatF (n:Nat)(r:Int):Option (Int ⊕ Int):=if r<2000000 then some (.inl (w64 (r+(n:Int))))else some (.inr r)
theorem great_tot{d:Disk}(h:Sized d):∃g,ref09_Great d=some g:=by
  have L1:∀r0,∃t,loop (ref09_Great_l1 d) (r0,0)=some t:=λr0=>by
    rw[loop_each' d.Blocks (λi (r:Int)=>(r,i)) (λb r=>greatF b.length r) (λr=>r) (λi hi r=> ?_) (λr=> ?_) (small_lt h.blocks) r0]
    · obtain⟨o,ho⟩:=forL_tot' (f:=fun(b:List UInt8) (r:Int)=>greatF b.length r) (l:=d.Blocks) (s:=r0) (λy s=>by unfold greatF;split<;>exact⟨_,rfl⟩)
      rw[ho];cases o<;>exact⟨_,rfl⟩
    · unfold ref09_Great_l1 greatF
      rw[cI,if_pos hi]
      by_cases c:r<2000000
      · rw[decide_eq_true c,if_pos c,cond_true,Zg _ hi];rfl
      · rw[decide_eq_false c,if_neg c];rfl
    · unfold ref09_Great_l1
      rw[cI,if_neg (by omega)]
  have L2:∀r0,∃t,loop (ref09_Great_l2 d) (r0,0)=some t:=λr0=>by
    rw[loop_each' d.Waits (λi (r:Int)=>(r,i)) (λb r=>greatF b.Data.length r) (λr=>r) (λi hi r=> ?_) (λr=> ?_) (small_lt h.waits) r0]
    · obtain⟨o,ho⟩:=forL_tot' (f:=fun(b:Write) (r:Int)=>greatF b.Data.length r) (l:=d.Waits) (s:=r0) (λy s=>by unfold greatF;split<;>exact⟨_,rfl⟩)
      rw[ho];cases o<;>exact⟨_,rfl⟩
    · unfold ref09_Great_l2 greatF
      rw[cI,if_pos hi]
      by_cases c:r<2000000
      · rw[decide_eq_true c,if_pos c,cond_true,Zg _ hi];rfl
      · rw[decide_eq_false c,if_neg c];rfl
    · unfold ref09_Great_l2
      rw[cI,if_neg (by omega)]
  unfold ref09_Great
  have key:∃t,(cond (decide (500<(d.Blocks.length:Int))) (some (.inr ())) (cond (decide (500<(d.Waits.length:Int))) (cond (decide ((d.Waits.length:Int)<4096)) (some (.inr ())) (cond (decide (4106<(d.Waits.length:Int))) (some (.inr ())) (some (.inl ())))) (cond (decide (4106<(d.Waits.length:Int))) (some (.inr ())) (some (.inl ())))))=some (t:Unit ⊕ Unit):=by
    generalize decide (500<(d.Blocks.length:Int))=b1
    generalize decide (500<(d.Waits.length:Int))=b2
    generalize decide ((d.Waits.length:Int)<4096)=b3
    generalize decide (4106<(d.Waits.length:Int))=b4
    cases b1<;>cases b2<;>cases b3<;>cases b4<;>exact⟨_,rfl⟩
  obtain⟨t,ht⟩:=key
  rw[ht,Option.bind_some]
  cases t with
  | inl _=>
    obtain⟨t1,h1⟩:=L1 0
    obtain⟨t2,h2⟩:=L2 t1
    simp only[Sum.elim_inl]
    rw[h1,Option.bind_some,h2,Option.bind_some]
    exact⟨_,rfl⟩
  |inr _=>exact⟨_,rfl⟩
theorem great13_tot{s:Store}(h:Sized s.Disk):∃g,ref13_Great s=some g:=by
 obtain⟨g,hg⟩:=great_tot h
 unfold ref13_Great
 rw[show ref09_Great (Disk.mk s.Disk.Blocks s.Disk.Waits)=some g from hg,Option.bind_some]
 cases g<;>exact⟨_,rfl⟩
theorem PutAt.okR{s:Store}{p:Ptr}{b:List UInt8}{t:Store}{q:Ptr}{j:Nat}(h:PutAt s p b t q j)(hb:birthOk p.Birth):okR q∧¬isNone q:=by
 have hp:=h.place
 rw[h.ptr]
 exact⟨⟨by show(12:Int)≤(j:Int);omega,by show(j:Int)<256;omega,hb.1,hb.2⟩,λhn=>by have:(j:Int)=0:=hn.1;omega⟩
theorem getD_set{B:List (List UInt8)}{j:Nat}(hj:j<B.length)(b:List UInt8)(i:Nat):(B.set j b).getD i []=if i=j then b else B.getD i []:=by
 rw[List.getD_eq_getElem?_getD,List.getElem?_set]
 by_cases c:i=j
 · subst c;rw[if_pos rfl,if_pos hj,if_pos rfl];rfl
 · rw[if_neg (λe=>c e.symm),if_neg c,List.getD_eq_getElem?_getD]
theorem PutAt.at{s:Store}{p:Ptr}{b:List UInt8}{t:Store}{q:Ptr}{j:Nat}(h:PutAt s p b t q j)(i:Nat):(seenB t.Disk).getD i []=if i=j then b else(seenB s.Disk).getD i []:=by
 have hp:=h.place
 rw[h.seen,getD_set (by rw[seenB_length h.ok.1];omega)]
theorem PutAt.look{s:Store}{p:Ptr}{b:List UInt8}{t:Store}{q:Ptr}{j:Nat}(h:PutAt s p b t q j)(hb:birthOk p.Birth):lookS t q=(b,0):=by
 obtain⟨h1,h2⟩:=h.okR hb
 refine lookS_is h.okt h2 h1 ?_ (by rw[h.ptr])
 rw[h.at,show q.At.toNat=j by rw[h.ptr];rfl,if_pos rfl]
theorem PutAt.other{s:Store}{p:Ptr}{b:List UInt8}{t:Store}{q:Ptr}{j:Nat}(h:PutAt s p b t q j){x:Ptr}(hx:(lookS s x).2=0)(hj:x.At.toNat≠j):lookS t x=lookS s x:=by
 obtain⟨k1,k2,k3,k4,k5⟩:=lookS_ok hx
 rw[lookS_is h.okt k2 k3 (b:=(seenB s.Disk).getD x.At.toNat []) (by rw[h.at,if_neg hj]) k5,lookS_is k1 k2 k3 rfl k5]
end Go.Ow
namespace Go.Ow
theorem noP_none:isNone noP:=⟨rfl,rfl,rfl,rfl,rfl⟩
end Go.Ow
namespace Go.Ow
def turned (B:List (List UInt8))(j i:Nat)(by':UInt8):List (List UInt8):=B.set j ((B.getD j []).set i (((B.getD j []).getD i 0)^^^by'))
end Go.Ow
namespace Go.Ow
theorem nbeq{α:Type} [DecidableEq α]{a b:α}(h:a=b):(!decide (a=b))=false:=by rw[decide_eq_true h];rfl
theorem nbne{α:Type} [DecidableEq α]{a b:α}(h:¬a=b):(!decide (a=b))=true:=by rw[decide_eq_false h];rfl
theorem idx_get{α β:Type}{l:List α}{i:Nat}{y:α}(k:α→Option β)(h:l[i]? =some y):idx l (i:Int) k=k y:=idx_eq ⟨Int.natCast_nonneg i,by simpa using h⟩
end Go.Ow
