/- plain functions: what the code computes. -/
import Derived.Test.YtdelcjkjkhcaoaaOwPT
import Derived.Test.YtdelcjkjkhcaoaaOwPU
import Derived.Test.YtdelcjkjkhcaoaaOwPA
import Derived.Test.YtdelcjkjkhcaoaaOwPB
namespace Go.Ow
set_option linter.unusedVariables false
set_option linter.unusedSimpArgs false

def math_bits_Mul64 (p_1 : UInt64) (p_2 : UInt64) : Option (UInt64 × UInt64) :=
  some ((((sr64 p_1 (((32 : UInt64).toNat : Int)).toNat) * (sr64 p_2 (((32 : UInt64).toNat : Int)).toNat)) + (sr64 (((sr64 p_1 (((32 : UInt64).toNat : Int)).toNat) * (p_2 &&& (4294967295 : UInt64))) + (sr64 ((p_1 &&& (4294967295 : UInt64)) * (p_2 &&& (4294967295 : UInt64))) (((32 : UInt64).toNat : Int)).toNat)) (((32 : UInt64).toNat : Int)).toNat)) + (sr64 (((((sr64 p_1 (((32 : UInt64).toNat : Int)).toNat) * (p_2 &&& (4294967295 : UInt64))) + (sr64 ((p_1 &&& (4294967295 : UInt64)) * (p_2 &&& (4294967295 : UInt64))) (((32 : UInt64).toNat : Int)).toNat)) &&& (4294967295 : UInt64)) + ((p_1 &&& (4294967295 : UInt64)) * (sr64 p_2 (((32 : UInt64).toNat : Int)).toNat))) (((32 : UInt64).toNat : Int)).toNat), p_1 * p_2)

def math_bits_Mul (p_1 : UInt64) (p_2 : UInt64) : Option (UInt64 × UInt64) :=
  Option.bind (math_bits_Mul64 p_1 p_2) fun x_3 => some (x_3.1, x_3.2)

def slices_Repeat_int_l1 (s_21 : List Int × Int) : Option ((List Int × Int) ⊕ (List Int)) :=
  cond (decide (s_21.2 < (s_21.1.length : Int))) (chk (0 ≤ s_21.2 ∧ s_21.2 ≤ (s_21.1.length : Int) ∧ (s_21.1.length : Int) ≤ s_21.1.length) <| chk (0 ≤ (0 : Int) ∧ (0 : Int) ≤ s_21.2 ∧ s_21.2 ≤ s_21.1.length) <| cpyO s_21.1 s_21.2 (s_21.1.length : Int) (cut s_21.1 (0 : Int) s_21.2) fun m_30 => some (.inl (m_30, w64 (s_21.2 + (min ((cut s_21.1 (0 : Int) s_21.2).length : Int) ((s_21.1.length : Int) - s_21.2)))))) (some (.inr s_21.1))

def slices_Repeat_int (p_1 : List Int) (p_3 : Int) : Option (List Int) :=
  cond (decide (p_3 < 0)) (none) (Option.bind (math_bits_Mul (u64i (p_1.length : Int)) (u64i p_3)) fun x_5 => cond (decide ((0 : UInt64) < x_5.1)) (none) (cond (decide ((9223372036854775807 : UInt64) < x_5.2)) (none) (mks (w64 (x_5.2.toNat : Int)) 0 fun x_12 => cpyO x_12 0 (x_12.length : Int) p_1 fun m_14 => Option.bind (loop slices_Repeat_int_l1 (m_14, min (p_1.length : Int) ((x_12.length : Int) - 0))) (fun t_18 => some t_18))))

def dev_cut (p_1 : List Int) : Option (List (List UInt8)) := if (∀ n ∈ p_1, 0 ≤ n) ∧ (p_1.map Int.toNat).sum ≤ LIM ∧ p_1.length ≤ LIM then some (p_1.map fun n => List.replicate n.toNat 0) else none

def dev_New : Option Disk :=
  Option.bind (slices_Repeat_int ([256]) 256) fun x_6 => Option.bind (dev_cut x_6) fun x_12 => some (Disk.mk x_12 ([] : List Write))

def bytes_Repeat_l1 (x_7 : UInt64 × UInt64) (t_14 : Int) (s_39 : List UInt8 × Int) : Option ((List UInt8 × Int) ⊕ (List UInt8)) :=
  cond (decide (s_39.2 < (w64 (x_7.2.toNat : Int)))) (chk (0 ≤ s_39.2 ∧ s_39.2 ≤ (s_39.1.length : Int) ∧ (s_39.1.length : Int) ≤ s_39.1.length) <| chk (0 ≤ (0 : Int) ∧ (0 : Int) ≤ min s_39.2 t_14 ∧ min s_39.2 t_14 ≤ s_39.1.length) <| cpyO s_39.1 s_39.2 (s_39.1.length : Int) (cut s_39.1 (0 : Int) (min s_39.2 t_14)) fun m_48 => some (.inl (m_48, w64 (s_39.2 + (min ((cut s_39.1 (0 : Int) (min s_39.2 t_14)).length : Int) ((s_39.1.length : Int) - s_39.2)))))) (some (.inr s_39.1))

def bytes_Repeat (p_1 : List UInt8) (p_3 : Int) : Option (List UInt8) :=
  cond (decide (p_3 = 0)) (some ([] : List UInt8)) (cond (decide (p_3 < 0)) (none) (Option.bind (math_bits_Mul (u64i (p_1.length : Int)) (u64i p_3)) fun x_7 => cond (decide ((0 : UInt64) < x_7.1)) (none) (cond (decide ((9223372036854775807 : UInt64) < x_7.2)) (none) (cond (decide ((p_1.length : Int) = 0)) (some ([] : List UInt8)) (Option.bind (cond (decide (8192 < (w64 (x_7.2.toNat : Int)))) (chk ((p_1.length : Int) ≠ 0) <| cond (decide ((w64 ((w64 ((8192 : Int).tdiv (p_1.length : Int))) * (p_1.length : Int))) = 0)) (some (p_1.length : Int)) (some (w64 ((w64 ((8192 : Int).tdiv (p_1.length : Int))) * (p_1.length : Int))))) (some (w64 (x_7.2.toNat : Int)))) (fun t_14 => mks (w64 (x_7.2.toNat : Int)) (0 : UInt8) fun nz_20 => slc nz_20 0 (w64 (x_7.2.toNat : Int)) fun m_29 => cpyO m_29 0 (m_29.length : Int) p_1 fun m_32 => Option.bind (loop (bytes_Repeat_l1 x_7 t_14) (m_32, min (p_1.length : Int) ((m_29.length : Int) - 0))) (fun t_36 => some t_36)))))))

def space_New : Option (List UInt8) :=
  Option.bind (bytes_Repeat ([(1 : UInt8)]) 12) fun x_5 => mks 244 (0 : UInt8) fun z_12 => app x_5 z_12 fun q_13 => some q_13

def store_New : Option Store :=
  Option.bind (dev_New) fun x_2 => Option.bind (space_New) fun x_7 => some (Store.mk (Disk.mk x_2.Blocks x_2.Waits) x_7 (1 : UInt32) (0 : UInt32))

def dev_place (p_1 : Int) : Option Bool :=
  some (decide ((u64i p_1) < (256 : UInt64)))

def dev_Check_l2 (p_1 : Disk) (s_18 : Bool × Nat) : Option ((Bool × Nat) ⊕ Bool) :=
  cond (decide (((s_18.2 : Nat) : Int) < (p_1.Waits.length : Int))) (idx p_1.Waits ((s_18.2 : Nat) : Int) fun y_22 => cond s_18.1 (Option.bind (dev_place y_22.At) fun x_35 => cond x_35 (some (.inl (decide ((y_22.Data.length : Int) = 256), s_18.2 + 1))) (some (.inl (false, s_18.2 + 1)))) (some (.inl (false, s_18.2 + 1)))) (some (.inr s_18.1))

def dev_Check_l1 (p_1 : Disk) (s_12 : Bool × Nat) : Option ((Bool × Nat) ⊕ Bool) :=
  cond (decide (((s_12.2 : Nat) : Int) < (p_1.Blocks.length : Int))) (idx p_1.Blocks ((s_12.2 : Nat) : Int) fun y_16 => cond s_12.1 (some (.inl (decide ((y_16.length : Int) = 256), s_12.2 + 1))) (some (.inl (false, s_12.2 + 1)))) (some (.inr s_12.1))

def dev_Check (p_1 : Disk) : Option Int :=
  Option.bind (cond (decide ((p_1.Blocks.length : Int) = 256)) (some (decide ((p_1.Waits.length : Int) ≤ 4096))) (some false)) (fun t_5 => Option.bind (loop (dev_Check_l1 p_1) (t_5, 0)) (fun t_9 => Option.bind (loop (dev_Check_l2 p_1) (t_9, 0)) (fun t_15 => cond t_15 (some 0) (some 8))))

def slices_Max_byte_l1 (p_1 : List UInt8) (s_16 : UInt8 × Nat) : Option ((UInt8 × Nat) ⊕ UInt8) :=
  cond (decide (((s_16.2 : Nat) : Int) < (p_1.length : Int))) (idx p_1 ((s_16.2 : Nat) : Int) fun y_20 => some (.inl (maxB s_16.1 y_20, s_16.2 + 1))) (some (.inr s_16.1))

def slices_Max_byte (p_1 : List UInt8) : Option UInt8 :=
  cond (decide ((p_1.length : Int) < 1)) (none) (idx p_1 0 fun y_4 => Option.bind (loop (slices_Max_byte_l1 p_1) (y_4, 1)) (fun t_13 => some t_13))

def unicode_utf8_RuneCount (p_0 : List UInt8) : Option Int := none

def bytes_Index (p_0 : List UInt8) (p_1 : List UInt8) : Option Int := none

def bytes_Count_l1 (p_3 : List UInt8) (s_22 : List UInt8 × Int) : Option ((List UInt8 × Int) ⊕ Int) :=
  Option.bind (bytes_Index s_22.1 p_3) fun x_26 => cond (decide (x_26 = (-1))) (some (.inr s_22.2)) (slc s_22.1 (w64 (x_26 + (p_3.length : Int))) (s_22.1.length : Int) fun m_30 => some (.inl (m_30, w64 (s_22.2 + 1))))

def bytes_Count (p_1 : List UInt8) (p_3 : List UInt8) : Option Int :=
  cond (decide ((p_3.length : Int) = 0)) (Option.bind (unicode_utf8_RuneCount p_1) fun x_6 => some (w64 (x_6 + 1))) (cond (decide ((p_3.length : Int) = 1)) (idx p_3 0 fun y_10 => some ((cntB p_1 y_10 : Nat) : Int)) (Option.bind (loop (bytes_Count_l1 p_3) (p_1, 0)) (fun t_19 => some t_19)))

def space_Check (p_1 : List UInt8) : Option Int :=
  cond (!decide ((p_1.length : Int) = 256)) (some 8) (Option.bind (slices_Max_byte p_1) fun x_4 => cond (decide ((2 : UInt8) < x_4)) (some 8) (slc p_1 0 12 fun m_8 => Option.bind (bytes_Count m_8 ([(1 : UInt8)])) fun x_16 => cond (!decide (x_16 = 12)) (some 8) (some 0)))

def store_Check (p_1 : Store) : Option Int :=
  Option.bind (dev_Check (Disk.mk p_1.Disk.Blocks p_1.Disk.Waits)) fun x_6 => cond (!decide (x_6 = 0)) (some 8) (Option.bind (space_Check p_1.Space) fun x_10 => cond (!decide (x_10 = 0)) (some 8) (cond (decide (p_1.Epoch < (1 : UInt32))) (some 8) (cond (decide ((65535 : UInt32) < p_1.Epoch)) (some 8) (cond (decide ((65535 : UInt32) < p_1.Count)) (some 8) (some 0)))))

def store_asked_l1 (p_7 : List (List UInt8)) (s_19 : Int × Nat) : Option ((Int × Nat) ⊕ (Unit ⊕ Unit)) :=
  cond (decide (((s_19.2 : Nat) : Int) < (p_7.length : Int))) (idx p_7 ((s_19.2 : Nat) : Int) fun y_23 => cond (!decide ((y_23.length : Int) = s_19.1)) (some (.inr (.inr ()))) (some (.inl (256, s_19.2 + 1)))) (some (.inr (.inl ())))

def store_asked (p_1 : Store) (p_5 : UInt32) (p_6 : Int) (p_7 : List (List UInt8)) : Option Int :=
  Option.bind (store_Check p_1) fun x_10 => cond (!decide (x_10 = 0)) (some x_10) (cond (decide (p_5 < (1 : UInt32))) (some 2) (cond (decide ((16777215 : UInt32) < p_5)) (some 2) (Option.bind (loop (store_asked_l1 p_7) (p_6, 0)) (fun t_16 => Sum.elim (fun t_16a => some 0) (fun t_16b => some 3) t_16))))

def code_sized (p_1 : Int) : Option Bool :=
  Option.bind (cond (decide (0 < p_1)) (some (decide (p_1 ≤ 4))) (some false)) (fun t_2 => some t_2)

def code_Put_l1 (p_2 : Int) (s_13 : Int × List UInt8) : Option ((Int × List UInt8) ⊕ (List UInt8)) :=
  cond (decide ((s_13.2.length : Int) < p_2)) (app s_13.2 ([u8i s_13.1]) fun q_19 => some (.inl (w64 (s_13.1.tdiv 256), q_19))) (some (.inr s_13.2))

def code_Put (p_1 : Int) (p_2 : Int) : Option (List UInt8 × Int) :=
  Option.bind (code_sized p_2) fun x_3 => cond (!x_3) (some (([] : List UInt8), 2)) (cond (decide (p_1 < 0)) (some (([] : List UInt8), 2)) (chk (0 ≤ (w64 (8 * p_2))) <| cond (decide ((sli 1 (w64 (8 * p_2))) ≤ p_1)) (some (([] : List UInt8), 2)) (Option.bind (loop (code_Put_l1 p_2) (p_1, ([] : List UInt8))) (fun t_10 => some (t_10, 0)))))

def cipher_pieces (p_1 : List UInt8) (p_3 : UInt32) : Option (List UInt8 × List UInt8) :=
  Option.bind (code_Put (p_3.toNat : Int) 4) fun x_5 => some (p_1, x_5.1)

def slices_Grow_byte (p_1 : Int) : Option (List UInt8) :=
  cond (decide (p_1 < 0)) (none) (Option.bind (cond (decide (0 < (w64 (p_1 - 0)))) (mks (w64 (p_1 - 0)) (0 : UInt8) fun q_9 => slc q_9 0 0 fun m_13 => some m_13) (some ([] : List UInt8))) (fun t_3 => some t_3))

def slices_Concat_byte_l2 (p_1 : List (List UInt8)) (s_16 : List UInt8 × Nat) : Option ((List UInt8 × Nat) ⊕ (List UInt8)) :=
  cond (decide (((s_16.2 : Nat) : Int) < (p_1.length : Int))) (idx p_1 ((s_16.2 : Nat) : Int) fun y_21 => app s_16.1 y_21 fun q_32 => some (.inl (q_32, s_16.2 + 1))) (some (.inr s_16.1))

def slices_Concat_byte_l1 (p_1 : List (List UInt8)) (s_6 : Int × Nat) : Option ((Int × Nat) ⊕ Int) :=
  cond (decide (((s_6.2 : Nat) : Int) < (p_1.length : Int))) (idx p_1 ((s_6.2 : Nat) : Int) fun y_10 => cond (decide ((w64 (s_6.1 + (y_10.length : Int))) < 0)) (none) (some (.inl (w64 (s_6.1 + (y_10.length : Int)), s_6.2 + 1)))) (some (.inr s_6.1))

def slices_Concat_byte (p_1 : List (List UInt8)) : Option (List UInt8) :=
  Option.bind (loop (slices_Concat_byte_l1 p_1) (0, 0)) (fun t_3 => Option.bind (slices_Grow_byte t_3) fun x_9 => Option.bind (loop (slices_Concat_byte_l2 p_1) (x_9, 0)) (fun t_13 => some t_13))

def slices_Clone_byte (p_1 : List UInt8) : Option (List UInt8) := app [] p_1 fun q => some q

def slices_Clip_byte (p_1 : List UInt8) : Option (List UInt8) :=
  slc p_1 0 (p_1.length : Int) fun m_3 => some m_3

def slices_Chunk_byte (p_1 : List UInt8) (p_2 : Int) : Option Unit := if 1 ≤ p_2 ∧ p_2 ≤ 1099511627776 ∧ p_1.length ≤ LIM then some () else none

def slices_Backward_byte (p_1 : List UInt8) : Option Unit := some ()

def code_Get_r1 (y_28 : Nat × UInt8) (s_27 : Int) : Option (Int ⊕ Unit) :=
  some (.inl (w64 ((w64 (256 * s_27)) + (y_28.2.toNat : Int))))

def code_Get (p_1 : List UInt8) (p_3 : Int) (p_4 : Int) : Option (Int × Int) :=
  Option.bind (code_sized p_4) fun x_5 => Option.bind (cond (!x_5) (some true) (cond (decide (p_3 < 0)) (some true) (some (decide ((p_1.length : Int) < p_3))))) (fun t_8 => cond t_8 (some (0, 2)) (cond (decide ((p_1.length : Int) < (w64 (p_3 + p_4)))) (some (0, 8)) (slc p_1 p_3 (w64 (p_3 + p_4)) fun m_16 => Option.bind (slices_Backward_byte m_16) fun x_20 => Option.bind (forL code_Get_r1 (bwd m_16 m_16.length) 0) (fun t_24 => Sum.elim (fun s_27 => some (s_27, 0)) (fun _ => none) t_24))))

def mix_number (p_1 : List UInt8) : Option UInt32 :=
  Option.bind (code_Get p_1 0 4) fun x_3 => some (u32i x_3.1)

def math_bits_RotateLeft32 (p_1 : UInt32) (p_2 : Int) : Option UInt32 :=
  some ((sl32 p_1 ((((u64i p_2) &&& (31 : UInt64)).toNat : Int)).toNat) ||| (sr32 p_1 ((((32 : UInt64) - ((u64i p_2) &&& (31 : UInt64))).toNat : Int)).toNat))

def mix_words_turned_1 (p_1 : Int) (p_2 : Int) (p_4 : A4 UInt32) : Option (A4 UInt32) :=
  Option.bind (math_bits_RotateLeft32 (p_4.e3 ^^^ (p_4.e0 + p_4.e1)) p_1) fun x_5 => Option.bind (math_bits_RotateLeft32 (p_4.e1 ^^^ (p_4.e2 + x_5)) p_2) fun x_8 => some (A4.mk (p_4.e0 + p_4.e1) x_8 (p_4.e2 + x_5) x_5)

def mix_words_turned (p_1 : A4 UInt32) : Option (A4 UInt32) :=
  Option.bind (mix_words_turned_1 15 11 p_1) fun x_4 => Option.bind (mix_words_turned_1 9 6 x_4) fun x_7 => some x_7

def mix_words_often_l1 (p_2 : Int) (s_8 : UInt32 × UInt32 × UInt32 × UInt32 × Int) : Option ((UInt32 × UInt32 × UInt32 × UInt32 × Int) ⊕ (UInt32 × UInt32 × UInt32 × UInt32)) :=
  cond (decide (s_8.2.2.2.2 < p_2)) (Option.bind (mix_words_turned (A4.mk s_8.1 s_8.2.1 s_8.2.2.1 s_8.2.2.2.1)) fun x_12 => some (.inl (x_12.e0, x_12.e1, x_12.e2, x_12.e3, w64 (s_8.2.2.2.2 + 1)))) (some (.inr (s_8.1, s_8.2.1, s_8.2.2.1, s_8.2.2.2.1)))

def mix_words_often (p_1 : A4 UInt32) (p_2 : Int) : Option (A4 UInt32) :=
  Option.bind (loop (mix_words_often_l1 p_2) (p_1.e0, p_1.e1, p_1.e2, p_1.e3, 0)) (fun t_5 => some (A4.mk t_5.1 t_5.2.1 t_5.2.2.1 t_5.2.2.2))

def mix_four_r2 (y_36 : List UInt8) (s_35 : UInt32 × UInt32 × UInt32 × UInt32) : Option ((UInt32 × UInt32 × UInt32 × UInt32) ⊕ Unit) :=
  Option.bind (slc y_36 0 4 fun m_45 => Option.bind (mix_number m_45) fun x_49 => some (s_35.1 ^^^ x_49)) (fun t_42 => slc y_36 4 (y_36.length : Int) fun m_56 => Option.bind (mix_number m_56) fun x_60 => Option.bind (mix_words_often (A4.mk t_42 s_35.2.1 (s_35.2.2.1 ^^^ x_60) s_35.2.2.2) 4) fun x_63 => some (.inl (x_63.e0, x_63.e1, x_63.e2, x_63.e3)))

def mix_four_l1 (s_22 : List UInt8) : Option ((List UInt8) ⊕ (List UInt8)) :=
  cond (!decide (((s_22.length : Int).tmod 8) = 0)) (app s_22 ([(0 : UInt8)]) fun q_28 => some (.inl q_28)) (some (.inr s_22))

def mix_four (p_1 : List UInt8) : Option (A4 UInt32) :=
  Option.bind (slices_Clone_byte p_1) fun x_5 => Option.bind (slices_Clip_byte x_5) fun x_10 => app x_10 ([(1 : UInt8)]) fun q_15 => Option.bind (loop mix_four_l1 q_15) (fun t_19 => Option.bind (slices_Chunk_byte t_19 8) fun x_28 => Option.bind (forL mix_four_r2 (chunks (8 : Int).toNat t_19.length t_19) ((1 : UInt32), (2 : UInt32), (3 : UInt32), (4 : UInt32))) (fun t_32 => Sum.elim (fun s_35 => Option.bind (mix_words_often (A4.mk s_35.1 (s_35.2.1 ^^^ (u32i (p_1.length : Int))) s_35.2.2.1 s_35.2.2.2) 8) fun x_42 => some x_42) (fun _ => none) t_32))

def mix_Key_l1 (x_3 : A4 UInt32) (s_9 : List UInt8 × Nat) : Option ((List UInt8 × Nat) ⊕ (List UInt8)) :=
  cond (decide (((s_9.2 : Nat) : Int) < 4)) (idx x_3.l ((s_9.2 : Nat) : Int) fun y_14 => Option.bind (code_Put (y_14.toNat : Int) 4) fun x_16 => app s_9.1 x_16.1 fun q_20 => some (.inl (q_20, s_9.2 + 1))) (some (.inr s_9.1))

def mix_Key (p_1 : List UInt8) : Option (List UInt8) :=
  Option.bind (mix_four p_1) fun x_3 => Option.bind (loop (mix_Key_l1 x_3) (([] : List UInt8), 0)) (fun t_6 => some t_6)

def cipher_pieces_1_l1 {σ τ : Type} (p_1 : (List UInt8) → σ → Option (σ ⊕ τ)) (p_4 : List UInt8) (p_7 : List UInt8) (s_12 : σ × Int) : Option ((σ × Int) ⊕ τ) :=
  Option.bind (code_Put s_12.2 4) fun x_18 => Option.bind (slices_Concat_byte ([p_4, p_7, x_18.1])) fun x_27 => Option.bind (mix_Key x_27) fun x_35 => Option.bind (p_1 x_35 s_12.1) fun out_41 => Sum.elim (fun s_43 => some (.inl (s_43, w64 (s_12.2 + 1)))) (fun t_44 => some (.inr t_44)) out_41

def cipher_pieces_1 {σ τ : Type} (p_1 : (List UInt8) → σ → Option (σ ⊕ τ)) (p_2 : σ) (p_4 : List UInt8) (p_7 : List UInt8) : Option (σ ⊕ τ) :=
  Option.bind (loop (cipher_pieces_1_l1 p_1 p_4 p_7) (p_2, 0)) (fun t_9 => some (.inr (t_9)))

def cipher_Stream_r1 (p_4 : Int) (y_25 : List UInt8) (s_24 : List UInt8) : Option ((List UInt8) ⊕ (List UInt8)) :=
  cond (decide (p_4 ≤ (s_24.length : Int))) (some (.inr s_24)) (app s_24 y_25 fun q_37 => some (.inl q_37))

def cipher_Stream (p_1 : List UInt8) (p_3 : UInt32) (p_4 : Int) : Option (List UInt8 × Int) :=
  cond (!decide ((p_1.length : Int) = 16)) (some (([] : List UInt8), 2)) (cond (decide (p_4 < 0)) (some (([] : List UInt8), 2)) (cond (decide (4096 < p_4)) (some (([] : List UInt8), 2)) (Option.bind (cipher_pieces p_1 p_3) fun x_10 => Option.bind (Option.bind (cipher_pieces_1 (cipher_Stream_r1 p_4) ([] : List UInt8) x_10.1 x_10.2) (fun t_21 => Sum.elim (fun s_24 => some s_24) (fun t_21e0 => some t_21e0) t_21)) (fun t_17 => slc t_17 0 p_4 fun m_45 => Option.bind (slices_Clone_byte m_45) fun x_49 => some (x_49, 0)))))

def cipher_Turn_l1 (p_4 : List UInt8) (s_15 : List UInt8 × Nat) : Option ((List UInt8 × Nat) ⊕ (List UInt8)) :=
  cond (decide (((s_15.2 : Nat) : Int) < (p_4.length : Int))) (idx p_4 ((s_15.2 : Nat) : Int) fun y_20 => idx s_15.1 ((s_15.2 : Nat) : Int) fun y_29 => chk (0 ≤ ((s_15.2 : Nat) : Int) ∧ ((s_15.2 : Nat) : Int).toNat < s_15.1.length) <| setI s_15.1 ((s_15.2 : Nat) : Int) (y_29 ^^^ y_20) fun m_44 => some (.inl (m_44, s_15.2 + 1))) (some (.inr s_15.1))

def cipher_Turn (p_1 : List UInt8) (p_3 : UInt32) (p_4 : List UInt8) : Option (List UInt8 × Int) :=
  cond (!decide ((p_1.length : Int) = 16)) (some (([] : List UInt8), 2)) (cond (decide (4096 < (p_4.length : Int))) (some (([] : List UInt8), 3)) (Option.bind (cipher_Stream p_1 p_3 (p_4.length : Int)) fun x_8 => Option.bind (loop (cipher_Turn_l1 p_4) (x_8.1, 0)) (fun t_12 => some (t_12, x_8.2))))

def seal_turned (p_1 : List UInt8) (p_3 : UInt32) (p_4 : List UInt8) : Option (List UInt8 × Int) :=
  Option.bind (cond (decide ((p_1.length : Int) = 16)) (cond (decide (256 < (p_4.length : Int))) (some (.inr ())) (some (.inl ()))) (some (.inl ()))) (fun t_6 => Sum.elim (fun t_6a => Option.bind (cipher_Turn p_1 p_3 p_4) fun x_11 => some (x_11.1, x_11.2)) (fun t_6b => some (([] : List UInt8), 3)) t_6)

def mac_inner (p_1 : List (List UInt8)) : Option (List UInt8) :=
  Option.bind (slices_Concat_byte p_1) fun x_3 => Option.bind (mix_Key x_3) fun x_10 => some x_10

def mix_Sum (p_1 : List UInt8) : Option UInt32 :=
  Option.bind (mix_four p_1) fun x_3 => some x_3.e0

def mac_Tag (p_1 : List UInt8) (p_3 : List UInt8) : Option (UInt32 × Int) :=
  cond (!decide ((p_1.length : Int) = 16)) (some ((0 : UInt32), 2)) (Option.bind (mac_inner ([p_1, [(1 : UInt8)], p_3])) fun x_13 => Option.bind (slices_Concat_byte ([p_1, [(2 : UInt8)], x_13])) fun x_24 => Option.bind (mix_Sum x_24) fun x_32 => some (x_32, 0))

def seal_tagged (p_1 : List UInt8) (p_3 : UInt32) (p_4 : List UInt8) : Option (UInt32 × Int) :=
  Option.bind (code_Put (p_3.toNat : Int) 4) fun x_6 => cond (!decide (x_6.2 = 0)) (some ((0 : UInt32), x_6.2)) (Option.bind (slices_Concat_byte ([x_6.1, p_4])) fun x_16 => Option.bind (mac_Tag p_1 x_16) fun x_24 => some (x_24.1, x_24.2))

def seal_Seal (p_1 : List UInt8) (p_3 : UInt32) (p_4 : List UInt8) : Option (List UInt8 × UInt32 × Int) :=
  Option.bind (seal_turned p_1 p_3 p_4) fun x_6 => cond (!decide (x_6.2 = 0)) (some (([] : List UInt8), (0 : UInt32), x_6.2)) (Option.bind (seal_tagged p_1 p_3 x_6.1) fun x_14 => some (x_6.1, x_14.1, x_14.2))

def space_free (p_1 : List UInt8) : Option (Int × List UInt8) :=
  some ((-1), p_1)

def space_free_1_l1 (p_4 : List UInt8) (s_9 : Int) : Option (Int ⊕ (Int ⊕ (Int × Int))) :=
  cond (decide (s_9 < (p_4.length : Int))) (idx p_4 s_9 fun y_13 => cond (decide (y_13 = (0 : UInt8))) (some (.inr (.inr (s_9, s_9)))) (some (.inl (w64 (s_9 + 1))))) (some (.inr (.inl s_9)))

def space_free_1 (p_2 : Int) (p_4 : List UInt8) : Option (Int × Int × List UInt8) :=
  Option.bind (loop (space_free_1_l1 p_4) (w64 (p_2 + 1))) (fun t_6 => Sum.elim (fun t_6a => some ((-1), t_6a, p_4)) (fun t_6b => some (t_6b.2, t_6b.1, p_4)) t_6)

def bytes_Clone (p_1 : List UInt8) : Option (List UInt8) := app [] p_1 fun q => some q

def space_Take (p_1 : List UInt8) : Option (List UInt8 × Int × Int) :=
  Option.bind (space_Check p_1) fun x_3 => cond (!decide (x_3 = 0)) (some (([] : List UInt8), 0, x_3)) (Option.bind (space_free p_1) fun x_7 => Option.bind (space_free_1 x_7.1 x_7.2) fun x_13 => cond (decide (x_13.1 < 0)) (some (([] : List UInt8), 0, 9)) (Option.bind (bytes_Clone p_1) fun x_18 => chk (0 ≤ x_13.1 ∧ x_13.1.toNat < x_18.length) <| setI x_18 x_13.1 (1 : UInt8) fun m_26 => some (m_26, x_13.1, 0)))

def dev_Write_1 (p_2 : Disk) : Option (Disk × Disk) :=
  some (p_2, p_2)

def dev_guarded (p_1 : Disk) (p_4 : Bool) (p_6 : Disk) : Option (Disk × Int × Disk) :=
  Option.bind (dev_Check p_1) fun x_11 => cond (!decide (x_11 = 0)) (some (Disk.mk ([] : List (List UInt8)) ([] : List Write), x_11, p_6)) (cond (!p_4) (some (Disk.mk ([] : List (List UInt8)) ([] : List Write), 2, p_6)) (Option.bind (dev_Write_1 p_6) fun x_16 => some (x_16.1, 0, x_16.2)))

def slices_Clip_Write (p_1 : List Write) : Option (List Write) :=
  slc p_1 0 (p_1.length : Int) fun m_3 => some m_3

def dev_Twin_l3 (p_1 : Disk) (s_30 : List Write × Nat) : Option ((List Write × Nat) ⊕ (List Write)) :=
  cond (decide (((s_30.2 : Nat) : Int) < (p_1.Waits.length : Int))) (idx p_1.Waits ((s_30.2 : Nat) : Int) fun y_36 => Option.bind (bytes_Clone y_36.Data) fun x_48 => app s_30.1 ([Write.mk y_36.At x_48]) fun q_54 => some (.inl (q_54, s_30.2 + 1))) (some (.inr s_30.1))

def dev_Twin_l2 (p_1 : Disk) (s_22 : List (List UInt8) × Nat) : Option ((List (List UInt8) × Nat) ⊕ (List (List UInt8))) :=
  cond (decide (((s_22.2 : Nat) : Int) < (p_1.Blocks.length : Int))) (idx p_1.Blocks ((s_22.2 : Nat) : Int) fun y_27 => idx s_22.1 ((s_22.2 : Nat) : Int) fun y_38 => chk (y_27.length = y_38.length) <| setI s_22.1 ((s_22.2 : Nat) : Int) y_27 fun m_51 => some (.inl (m_51, s_22.2 + 1))) (some (.inr s_22.1))

def dev_Twin_l1 (p_1 : Disk) (s_9 : List Int × Nat) : Option ((List Int × Nat) ⊕ (List Int)) :=
  cond (decide (((s_9.2 : Nat) : Int) < (p_1.Blocks.length : Int))) (idx p_1.Blocks ((s_9.2 : Nat) : Int) fun y_14 => app s_9.1 ([(y_14.length : Int)]) fun q_26 => some (.inl (q_26, s_9.2 + 1))) (some (.inr s_9.1))

def dev_Twin (p_1 : Disk) : Option Disk :=
  Option.bind (loop (dev_Twin_l1 p_1) (([] : List Int), 0)) (fun t_6 => Option.bind (dev_cut t_6) fun x_15 => Option.bind (loop (dev_Twin_l2 p_1) (x_15, 0)) (fun t_19 => Option.bind (loop (dev_Twin_l3 p_1) (([] : List Write), 0)) (fun t_27 => some (Disk.mk t_19 t_27))))

def dev_Write (p_1 : Disk) (p_4 : Int) (p_5 : List UInt8) : Option (Disk × Int) :=
  Option.bind (Option.bind (dev_place p_4) fun x_12 => Option.bind (dev_guarded p_1 x_12 p_1) fun x_15 => some (x_15.2.2.Blocks, x_15.2.2.Waits, x_15.2.1)) (fun t_9 => cond (!decide (t_9.2.2 = 0)) (some (Disk.mk ([] : List (List UInt8)) ([] : List Write), t_9.2.2)) (cond (!decide ((p_5.length : Int) = 256)) (some (Disk.mk ([] : List (List UInt8)) ([] : List Write), 3)) (cond (decide ((t_9.2.1.length : Int) = 4096)) (some (Disk.mk ([] : List (List UInt8)) ([] : List Write), 9)) (Option.bind (Option.bind (slices_Clip_Write t_9.2.1) fun x_31 => app x_31 ([Write.mk p_4 p_5]) fun q_36 => Option.bind (dev_Twin (Disk.mk t_9.1 q_36)) fun x_41 => some (x_41.Blocks, x_41.Waits)) (fun t_28 => some (Disk.mk t_28.1 t_28.2, 0))))))

def store_put (p_1 : Store) (p_5 : Ptr) (p_6 : List UInt8) : Option (Store × Ptr × Int) :=
  Option.bind (space_Take p_1.Space) fun x_12 => cond (!decide (x_12.2.2 = 0)) (some (Store.mk (Disk.mk ([] : List (List UInt8)) ([] : List Write)) ([] : List UInt8) (0 : UInt32) (0 : UInt32), Ptr.mk 0 (0 : UInt32) (0 : UInt32) (0 : UInt32) (0 : UInt32), x_12.2.2)) (Option.bind (dev_Write (Disk.mk p_1.Disk.Blocks p_1.Disk.Waits) x_12.2.1 p_6) fun x_17 => cond (!decide (x_17.2 = 0)) (some (Store.mk (Disk.mk ([] : List (List UInt8)) ([] : List Write)) ([] : List UInt8) (0 : UInt32) (0 : UInt32), Ptr.mk 0 (0 : UInt32) (0 : UInt32) (0 : UInt32) (0 : UInt32), x_17.2)) (Option.bind (mix_Sum p_6) fun x_23 => some (Store.mk (Disk.mk x_17.1.Blocks x_17.1.Waits) x_12.1 p_1.Epoch p_1.Count, Ptr.mk x_12.2.1 p_5.Birth p_5.Iv p_5.Tag x_23, 0)))

def store_Seal (p_1 : Store) (p_5 : UInt32) (p_6 : List UInt8) (p_8 : List UInt8) : Option (Store × Ptr × Int) :=
  Option.bind (store_asked p_1 p_5 16 ([p_6, p_8])) fun x_17 => cond (!decide (x_17 = 0)) (some (Store.mk (Disk.mk ([] : List (List UInt8)) ([] : List Write)) ([] : List UInt8) (0 : UInt32) (0 : UInt32), Ptr.mk 0 (0 : UInt32) (0 : UInt32) (0 : UInt32) (0 : UInt32), x_17)) (cond (decide (p_1.Count = (65535 : UInt32))) (some (Store.mk (Disk.mk ([] : List (List UInt8)) ([] : List Write)) ([] : List UInt8) (0 : UInt32) (0 : UInt32), Ptr.mk 0 (0 : UInt32) (0 : UInt32) (0 : UInt32) (0 : UInt32), 132)) (Option.bind (seal_Seal p_6 ((sl32 p_1.Epoch (((16 : UInt64).toNat : Int)).toNat) ||| (p_1.Count + (1 : UInt32))) p_8) fun x_21 => cond (!decide (x_21.2.2 = 0)) (some (Store.mk (Disk.mk ([] : List (List UInt8)) ([] : List Write)) ([] : List UInt8) (0 : UInt32) (0 : UInt32), Ptr.mk 0 (0 : UInt32) (0 : UInt32) (0 : UInt32) (0 : UInt32), x_21.2.2)) (Option.bind (store_put (Store.mk (Disk.mk p_1.Disk.Blocks p_1.Disk.Waits) p_1.Space p_1.Epoch (p_1.Count + (1 : UInt32))) (Ptr.mk 0 p_5 ((sl32 p_1.Epoch (((16 : UInt64).toNat : Int)).toNat) ||| (p_1.Count + (1 : UInt32))) x_21.2.1 (0 : UInt32)) x_21.1) fun x_27 => some (x_27.1, x_27.2.1, x_27.2.2))))

def ptr_Check (p_1 : Ptr) : Option Int :=
  cond (decide (p_1.At = 0) && (decide (p_1.Birth = (0 : UInt32)) && (decide (p_1.Iv = (0 : UInt32)) && (decide (p_1.Tag = (0 : UInt32)) && (decide (p_1.Sum = (0 : UInt32)) && true))))) (some 0) (cond (decide (p_1.At < 12)) (some 8) (cond (decide (256 ≤ p_1.At)) (some 8) (cond (decide (p_1.Birth < (1 : UInt32))) (some 8) (cond (decide ((16777215 : UInt32) < p_1.Birth)) (some 8) (some 0)))))

def slices_Clone_byte_L (p_1 : List (List UInt8)) : Option (List (List UInt8)) := app [] p_1 fun q => some q

def dev_all (p_1 : Int) : Option Bool :=
  some true

def dev_lasts_l1 (p_1 : Disk) (s_9 : (List (Int × Write)) × Nat) : Option (((List (Int × Write)) × Nat) ⊕ (List (Int × Write))) :=
  cond (decide (((s_9.2 : Nat) : Int) < (p_1.Waits.length : Int))) (idx p_1.Waits ((s_9.2 : Nat) : Int) fun y_14 => Option.bind (dev_all ((s_9.2 : Nat) : Int)) fun x_26 => cond x_26 (some (.inl ((putM s_9.1 y_14.At y_14), s_9.2 + 1))) (some (.inl (s_9.1, s_9.2 + 1)))) (some (.inr s_9.1))

def dev_lasts (p_1 : Disk) : Option (List (Int × Write)) :=
  Option.bind (loop (dev_lasts_l1 p_1) (([] : List (Int × Write)), 0)) (fun t_6 => some t_6)

def dev_left (p_1 : Disk) : Option Disk :=
  Option.bind (Option.bind (slices_Clone_byte_L p_1.Blocks) fun x_9 => some x_9) (fun t_6 => Option.bind (dev_lasts (Disk.mk t_6 p_1.Waits)) fun x_22 => layR (fun y : Write => y.Data) t_6 x_22 fun m_30 => Option.bind (dev_Twin (Disk.mk m_30 ([] : List Write))) fun x_50 => some x_50)

def dev_Read_1 (p_2 : Disk) : Option (Disk × Disk) :=
  Option.bind (dev_left p_2) fun x_6 => some (x_6, p_2)

def dev_guarded_v2 (p_1 : Disk) (p_4 : Bool) (p_6 : Disk) : Option (Disk × Int × Disk) :=
  Option.bind (dev_Check p_1) fun x_11 => cond (!decide (x_11 = 0)) (some (Disk.mk ([] : List (List UInt8)) ([] : List Write), x_11, p_6)) (cond (!p_4) (some (Disk.mk ([] : List (List UInt8)) ([] : List Write), 2, p_6)) (Option.bind (dev_Read_1 p_6) fun x_16 => some (x_16.1, 0, x_16.2)))

def dev_Read (p_1 : Disk) (p_4 : Int) : Option (List UInt8 × Int) :=
  Option.bind (Option.bind (dev_place p_4) fun x_9 => Option.bind (dev_guarded_v2 p_1 x_9 p_1) fun x_12 => some (x_12.1.Blocks, x_12.1.Waits, x_12.2.1)) (fun t_6 => cond (!decide (t_6.2.2 = 0)) (some (([] : List UInt8), t_6.2.2)) (idx t_6.1 p_4 fun y_25 => some (y_25, 0)))

def store_Look (p_1 : Store) (p_5 : Ptr) : Option (List UInt8 × Int) :=
  Option.bind (store_Check p_1) fun x_8 => cond (!decide (x_8 = 0)) (some (([] : List UInt8), 8)) (Option.bind (ptr_Check p_5) fun x_12 => cond (!decide (x_12 = 0)) (some (([] : List UInt8), 8)) (cond (decide (p_5.At = 0) && (decide (p_5.Birth = (0 : UInt32)) && (decide (p_5.Iv = (0 : UInt32)) && (decide (p_5.Tag = (0 : UInt32)) && (decide (p_5.Sum = (0 : UInt32)) && true))))) (some (([] : List UInt8), 6)) (Option.bind (dev_Read (Disk.mk p_1.Disk.Blocks p_1.Disk.Waits) p_5.At) fun x_17 => Option.bind (cond (decide (x_17.2 = 0)) (Option.bind (mix_Sum x_17.1) fun x_25 => cond (!decide (x_25 = p_5.Sum)) (some (([] : List UInt8), 130)) (some (x_17.1, x_17.2))) (some (x_17.1, x_17.2))) (fun t_21 => some (t_21.1, t_21.2)))))

def seal_Open (p_1 : List UInt8) (p_3 : UInt32) (p_4 : List UInt8) (p_6 : UInt32) : Option (List UInt8 × Int) :=
  Option.bind (seal_turned p_1 p_3 p_4) fun x_7 => cond (!decide (x_7.2 = 0)) (some (([] : List UInt8), x_7.2)) (Option.bind (seal_tagged p_1 p_3 p_4) fun x_12 => cond (!decide (x_12.2 = 0)) (some (([] : List UInt8), 131)) (cond (!decide (x_12.1 = p_6)) (some (([] : List UInt8), 131)) (some (x_7.1, 0))))

def store_Open (p_1 : Store) (p_5 : Ptr) (p_6 : List UInt8) : Option (List UInt8 × Int) :=
  Option.bind (store_Look p_1 p_5) fun x_10 => cond (!decide (x_10.2 = 0)) (some (([] : List UInt8), x_10.2)) (cond (!decide ((p_6.length : Int) = 16)) (some (([] : List UInt8), 3)) (Option.bind (seal_Open p_6 p_5.Iv x_10.1 p_5.Tag) fun x_16 => cond (!decide (x_16.2 = 0)) (some (([] : List UInt8), 131)) (some (x_16.1, 0))))

def law13_alive : Option Bool :=
  Option.bind (mks 256 (0 : UInt8) fun x_6 => mks 16 (0 : UInt8) fun x_10 => some (x_6, x_10)) (fun t_1 => Option.bind (store_New) fun x_14 => Option.bind (store_Seal x_14 (1 : UInt32) t_1.2 t_1.1) fun x_24 => Option.bind (store_Open x_24.1 x_24.2.1 t_1.2) fun x_35 => Option.bind (cond (decide (x_24.2.2 = 0)) (cond (decide (x_24.2.1.At = 12)) (cond (decide (x_24.2.1.Iv = (65537 : UInt32))) (cond (decide (x_24.1.Count = (1 : UInt32))) (cond (decide (x_35.2 = 0)) (some (decide (x_35.1 = t_1.1))) (some false)) (some false)) (some false)) (some false)) (some false)) (fun t_40 => some t_40))

def ref09_Great_l2 (p_1 : Disk) (s_22 : Int × Nat) : Option ((Int × Nat) ⊕ Int) :=
  cond (decide (((s_22.2 : Nat) : Int) < (p_1.Waits.length : Int))) (cond (decide (s_22.1 < 2000000)) (idx p_1.Waits ((s_22.2 : Nat) : Int) fun y_27 => some (.inl (w64 (s_22.1 + (y_27.Data.length : Int)), s_22.2 + 1))) (some (.inr s_22.1))) (some (.inr s_22.1))

def ref09_Great_l1 (p_1 : Disk) (s_16 : Int × Nat) : Option ((Int × Nat) ⊕ Int) :=
  cond (decide (((s_16.2 : Nat) : Int) < (p_1.Blocks.length : Int))) (cond (decide (s_16.1 < 2000000)) (idx p_1.Blocks ((s_16.2 : Nat) : Int) fun y_21 => some (.inl (w64 (s_16.1 + (y_21.length : Int)), s_16.2 + 1))) (some (.inr s_16.1))) (some (.inr s_16.1))

def ref09_Great (p_1 : Disk) : Option Bool :=
  Option.bind (cond (decide (500 < (p_1.Blocks.length : Int))) (some (.inr ())) (cond (decide (500 < (p_1.Waits.length : Int))) (cond (decide ((p_1.Waits.length : Int) < 4096)) (some (.inr ())) (cond (decide (4106 < (p_1.Waits.length : Int))) (some (.inr ())) (some (.inl ())))) (cond (decide (4106 < (p_1.Waits.length : Int))) (some (.inr ())) (some (.inl ()))))) (fun t_5 => Sum.elim (fun t_5a => Option.bind (loop (ref09_Great_l1 p_1) (0, 0)) (fun t_13 => Option.bind (loop (ref09_Great_l2 p_1) (t_13, 0)) (fun t_19 => some (decide (2000000 ≤ t_19))))) (fun t_5b => some true) t_5)

def ref13_Great (p_1 : Store) : Option Bool :=
  Option.bind (Option.bind (ref09_Great (Disk.mk p_1.Disk.Blocks p_1.Disk.Waits)) fun x_9 => cond x_9 (some true) (some (decide (10000 < (p_1.Space.length : Int))))) (fun t_6 => some t_6)

def store_Raw (p_1 : Store) (p_5 : UInt32) (p_6 : UInt32) (p_7 : UInt32) (p_8 : List UInt8) : Option (Store × Ptr × Int) :=
  Option.bind (store_asked p_1 p_5 256 ([p_8])) fun x_17 => cond (!decide (x_17 = 0)) (some (Store.mk (Disk.mk ([] : List (List UInt8)) ([] : List Write)) ([] : List UInt8) (0 : UInt32) (0 : UInt32), Ptr.mk 0 (0 : UInt32) (0 : UInt32) (0 : UInt32) (0 : UInt32), x_17)) (Option.bind (store_put p_1 (Ptr.mk 0 p_5 p_6 p_7 (0 : UInt32)) p_8) fun x_20 => some (x_20.1, x_20.2.1, x_20.2.2))

def store_Lay (p_1 : Store) (p_5 : UInt32) (p_6 : List UInt8) : Option (Store × Ptr × Int) :=
  Option.bind (store_Raw p_1 p_5 (0 : UInt32) (0 : UInt32) p_6) fun x_11 => some (x_11.1, x_11.2.1, x_11.2.2)

def space_Free_l1 (s_20 : List Int × Int × List UInt8 × Int) : Option ((List Int × Int × List UInt8 × Int) ⊕ (List Int)) :=
  cond (decide (0 ≤ s_20.2.2.2)) (app s_20.1 ([s_20.2.2.2]) fun q_27 => Option.bind (space_free_1 s_20.2.1 s_20.2.2.1) fun x_31 => some (.inl (q_27, x_31.2.1, x_31.2.2, x_31.1))) (some (.inr s_20.1))

def space_Free (p_1 : List UInt8) : Option (List Int × Int) :=
  Option.bind (space_Check p_1) fun x_3 => cond (!decide (x_3 = 0)) (some (([] : List Int), x_3)) (Option.bind (space_free p_1) fun x_7 => Option.bind (space_free_1 x_7.1 x_7.2) fun x_13 => Option.bind (loop space_Free_l1 (([] : List Int), x_13.2.1, x_13.2.2, x_13.1)) (fun t_17 => some (t_17, 0)))

def law13_StoreRoom (p_1 : Store) (p_5 : UInt32) (p_6 : List UInt8) (p_8 : List UInt8) : Option Bool :=
  Option.bind (law13_alive) fun x_11 => cond (!x_11) (some false) (Option.bind (ref13_Great p_1) fun x_15 => cond x_15 (some x_11) (cond (decide (10000 < (p_6.length : Int))) (some x_11) (cond (decide (10000 < (p_8.length : Int))) (some x_11) (Option.bind (store_Check p_1) fun x_21 => cond (!decide (x_21 = 0)) (some x_11) (Option.bind (space_Free p_1.Space) fun x_25 => Option.bind (store_Lay p_1 p_5 p_6) fun x_29 => Option.bind (cond (decide (0 < (x_25.1.length : Int))) (cond (decide ((p_1.Disk.Waits.length : Int) < 4096)) (cond (decide ((1 : UInt32) ≤ p_5)) (cond (decide (p_5 < (16777216 : UInt32))) (some (decide ((p_6.length : Int) = 256))) (some false)) (some false)) (some false)) (some false)) (fun t_37 => cond (!decide (x_25.2 = 0)) (some false) (cond (!((decide (x_29.2.2 = 0)) == t_37)) (some false) (cond (!decide (x_29.2.2 = 0)) (Option.bind (cond x_11 (cond (decide ((x_29.1.Space.length : Int) = 0)) (some (decide (x_29.2.1.At = 0) && (decide (x_29.2.1.Birth = (0 : UInt32)) && (decide (x_29.2.1.Iv = (0 : UInt32)) && (decide (x_29.2.1.Tag = (0 : UInt32)) && (decide (x_29.2.1.Sum = (0 : UInt32)) && true)))))) (some false)) (some false)) (fun t_47 => some t_47)) (Option.bind (store_Lay x_29.1 p_5 p_8) fun x_54 => cond (!decide (x_54.2.2 = 0)) (Option.bind (cond x_11 (idx x_25.1 0 fun y_67 => some (decide (x_29.2.1.At = y_67))) (some false)) (fun t_63 => some t_63)) (Option.bind (store_Look x_54.1 x_29.2.1) fun x_80 => Option.bind (store_Look x_54.1 x_54.2.1) fun x_84 => Option.bind (cond x_11 (idx x_25.1 0 fun y_92 => cond (decide (x_29.2.1.At = y_92)) (idx x_25.1 1 fun y_104 => cond (decide (x_54.2.1.At = y_104)) (cond (decide (x_80.2 = 0)) (cond (decide (x_84.2 = 0)) (cond (decide (x_80.1 = p_6)) (cond (decide (x_84.1 = p_8)) (cond (decide (x_29.2.1.Sum = x_54.2.1.Sum)) (some true) (some (!decide (p_6 = p_8)))) (some false)) (some false)) (some false)) (some false)) (some false)) (some false)) (some false)) (fun t_88 => some t_88)))))))))))
end Go.Ow
