/- plain functions: what the code computes. -/
import Derived.Test.YtabnbobdjckdmaaOwPT
import Derived.Test.YtabnbobdjckdmaaOwPU
import Derived.Test.YtabnbobdjckdmaaOwPA
import Derived.Test.YtabnbobdjckdmaaOwPB
import Derived.Test.YtabnbobdjckdmaaOwSp
namespace Go.Ow
set_option linter.unusedVariables false
set_option linter.unusedSimpArgs false

def math_bits_Mul64 (p_1 : UInt64) (p_2 : UInt64) : Option (UInt64 × UInt64) :=
  some ((((sr64 p_1 (((32 : UInt64).toNat : Int)).toNat) * (sr64 p_2 (((32 : UInt64).toNat : Int)).toNat)) + (sr64 (((sr64 p_1 (((32 : UInt64).toNat : Int)).toNat) * (p_2 &&& (4294967295 : UInt64))) + (sr64 ((p_1 &&& (4294967295 : UInt64)) * (p_2 &&& (4294967295 : UInt64))) (((32 : UInt64).toNat : Int)).toNat)) (((32 : UInt64).toNat : Int)).toNat)) + (sr64 (((((sr64 p_1 (((32 : UInt64).toNat : Int)).toNat) * (p_2 &&& (4294967295 : UInt64))) + (sr64 ((p_1 &&& (4294967295 : UInt64)) * (p_2 &&& (4294967295 : UInt64))) (((32 : UInt64).toNat : Int)).toNat)) &&& (4294967295 : UInt64)) + ((p_1 &&& (4294967295 : UInt64)) * (sr64 p_2 (((32 : UInt64).toNat : Int)).toNat))) (((32 : UInt64).toNat : Int)).toNat), p_1 * p_2)

def math_bits_Mul (p_1 : UInt64) (p_2 : UInt64) : Option (UInt64 × UInt64) :=
  Option.bind (math_bits_Mul64 p_1 p_2) fun x_3 => some (x_3.1, x_3.2)

def slices_Repeat_int_l1 (s_21 : List Int × Int) : Option ((List Int × Int) ⊕ (List Int)) :=
  cond (decide (s_21.2 < (s_21.1.length : Int))) (chk (0 ≤ s_21.2 ∧ s_21.2 ≤ (s_21.1.length : Int) ∧ (s_21.1.length : Int) ≤ s_21.1.length) <| chk (0 ≤ (0 : Int) ∧ (0 : Int) ≤ s_21.2 ∧ s_21.2 ≤ s_21.1.length) <| cpyO s_21.1 s_21.2 (s_21.1.length : Int) (cut s_21.1 (0 : Int) s_21.2) fun m_30 => some (.inl (m_30, w64 (s_21.2 + (min ((cut s_21.1 (0 : Int) s_21.2).length : Int) ((s_21.1.length : Int) - s_21.2)))))) (some (.inr s_21.1))

def slices_Repeat_int (p_1 : List Int) (p_3 : Int) : Option (List Int) :=
  cond (decide (p_3 < 0)) (none) (Option.bind (math_bits_Mul (u64i (p_1.length : Int)) (u64i p_3)) fun x_5 => cond (decide ((0 : UInt64) < x_5.1)) (none) (cond (decide ((9223372036854775807 : UInt64) < x_5.2)) (none) (mks (w64 (x_5.2.toNat : Int)) 0 fun x_12 => cpyO x_12 0 (x_12.length : Int) p_1 fun m_14 => Option.bind (loop slices_Repeat_int_l1 (m_14, min (p_1.length : Int) ((x_12.length : Int) - 0))) (fun t_18 => some t_18))))

def dev_cut (p_1 : List Int) : Option (List (List UInt8)) := if (∀ n ∈ p_1, 0 ≤ n) ∧ (p_1.map Int.toNat).sum ≤ LIM ∧ p_1.length ≤ LIM then some (p_1.map fun n => List.replicate n.toNat 0) else none

def dev_New : Option Disk :=
  Option.bind (slices_Repeat_int ([256]) 256) fun x_6 => Option.bind (dev_cut x_6) fun x_12 => some (Disk.mk x_12 ([] : List Write))

def law11_one (p_1 : UInt32) : Option Label :=
  some (Label.mk p_1 (1 : UInt32) (Ptr.mk 20 (1 : UInt32) (0 : UInt32) (0 : UInt32) (0 : UInt32)))

def dev_place (p_1 : Int) : Option Bool :=
  some (decide ((u64i p_1) < (256 : UInt64)))

def dev_Check_l2 (p_1 : Disk) (s_18 : Bool × Nat) : Option ((Bool × Nat) ⊕ Bool) :=
  cond (decide (((s_18.2 : Nat) : Int) < (p_1.Waits.length : Int))) (idx p_1.Waits ((s_18.2 : Nat) : Int) fun y_22 => cond s_18.1 (Option.bind (dev_place y_22.At) fun x_35 => cond x_35 (some (.inl (decide ((y_22.Data.length : Int) = 256), s_18.2 + 1))) (some (.inl (false, s_18.2 + 1)))) (some (.inl (false, s_18.2 + 1)))) (some (.inr s_18.1))

def dev_Check_l1 (p_1 : Disk) (s_12 : Bool × Nat) : Option ((Bool × Nat) ⊕ Bool) :=
  cond (decide (((s_12.2 : Nat) : Int) < (p_1.Blocks.length : Int))) (idx p_1.Blocks ((s_12.2 : Nat) : Int) fun y_16 => cond s_12.1 (some (.inl (decide ((y_16.length : Int) = 256), s_12.2 + 1))) (some (.inl (false, s_12.2 + 1)))) (some (.inr s_12.1))

def dev_Check (p_1 : Disk) : Option Int :=
  Option.bind (cond (decide ((p_1.Blocks.length : Int) = 256)) (some (decide ((p_1.Waits.length : Int) ≤ 4096))) (some false)) (fun t_5 => Option.bind (loop (dev_Check_l1 p_1) (t_5, 0)) (fun t_9 => Option.bind (loop (dev_Check_l2 p_1) (t_9, 0)) (fun t_15 => cond t_15 (some 0) (some 8))))

def ptr_Check (p_1 : Ptr) : Option Int :=
  cond (decide (p_1.At = 0) && (decide (p_1.Birth = (0 : UInt32)) && (decide (p_1.Iv = (0 : UInt32)) && (decide (p_1.Tag = (0 : UInt32)) && (decide (p_1.Sum = (0 : UInt32)) && true))))) (some 0) (cond (decide (p_1.At < 12)) (some 8) (cond (decide (256 ≤ p_1.At)) (some 8) (cond (decide (p_1.Birth < (1 : UInt32))) (some 8) (cond (decide ((16777215 : UInt32) < p_1.Birth)) (some 8) (some 0)))))

def label_may (p_1 : Label) : Option Bool :=
  Option.bind (cond (decide ((1 : UInt32) ≤ p_1.Gen)) (cond (decide (p_1.Gen ≤ (16777215 : UInt32))) (cond (decide ((1 : UInt32) ≤ p_1.Epoch)) (cond (decide (p_1.Epoch ≤ (65535 : UInt32))) (cond (!(decide (p_1.Root.At = 0) && (decide (p_1.Root.Birth = (0 : UInt32)) && (decide (p_1.Root.Iv = (0 : UInt32)) && (decide (p_1.Root.Tag = (0 : UInt32)) && (decide (p_1.Root.Sum = (0 : UInt32)) && true)))))) (Option.bind (ptr_Check (Ptr.mk p_1.Root.At p_1.Root.Birth p_1.Root.Iv p_1.Root.Tag p_1.Root.Sum)) fun x_11 => some (decide (x_11 = 0))) (some false)) (some false)) (some false)) (some false)) (some false)) (fun t_3 => some t_3)

def label_Slot (p_1 : UInt32) : Option Int :=
  some ((p_1 % (4 : UInt32)).toNat : Int)

def code_sized (p_1 : Int) : Option Bool :=
  Option.bind (cond (decide (0 < p_1)) (some (decide (p_1 ≤ 4))) (some false)) (fun t_2 => some t_2)

def code_Put_l1 (p_2 : Int) (s_13 : Int × List UInt8) : Option ((Int × List UInt8) ⊕ (List UInt8)) :=
  cond (decide ((s_13.2.length : Int) < p_2)) (app s_13.2 ([u8i s_13.1]) fun q_19 => some (.inl (w64 (s_13.1.tdiv 256), q_19))) (some (.inr s_13.2))

def code_Put (p_1 : Int) (p_2 : Int) : Option (List UInt8 × Int) :=
  Option.bind (code_sized p_2) fun x_3 => cond (!x_3) (some (([] : List UInt8), 2)) (cond (decide (p_1 < 0)) (some (([] : List UInt8), 2)) (chk (0 ≤ (w64 (8 * p_2))) <| cond (decide ((sli 1 (w64 (8 * p_2))) ≤ p_1)) (some (([] : List UInt8), 2)) (Option.bind (loop (code_Put_l1 p_2) (p_1, ([] : List UInt8))) (fun t_10 => some (t_10, 0)))))

def ptr_sizes : Option (A5 Int) :=
  some (A5.mk 1 3 4 4 4)

def ptr_Write_l1 (p_1 : Ptr) (x_8 : A5 Int) (s_14 : List UInt8 × Nat) : Option ((List UInt8 × Nat) ⊕ (List UInt8)) :=
  cond (decide (((s_14.2 : Nat) : Int) < 5)) (idx x_8.l ((s_14.2 : Nat) : Int) fun y_19 => idx (A5.mk p_1.At (p_1.Birth.toNat : Int) (p_1.Iv.toNat : Int) (p_1.Tag.toNat : Int) (p_1.Sum.toNat : Int)).l ((s_14.2 : Nat) : Int) fun y_21 => Option.bind (code_Put y_21 y_19) fun x_23 => app s_14.1 x_23.1 fun q_27 => some (.inl (q_27, s_14.2 + 1))) (some (.inr s_14.1))

def ptr_Write (p_1 : Ptr) : Option (List UInt8 × Int) :=
  Option.bind (ptr_Check p_1) fun x_3 => cond (!decide (x_3 = 0)) (some (([] : List UInt8), x_3)) (Option.bind (ptr_sizes) fun x_8 => Option.bind (loop (ptr_Write_l1 p_1 x_8) (([] : List UInt8), 0)) (fun t_11 => some (t_11, 0)))

def slices_Clone_byte (p_1 : List UInt8) : Option (List UInt8) := app [] p_1 fun q => some q

def slices_Clip_byte (p_1 : List UInt8) : Option (List UInt8) :=
  slc p_1 0 (p_1.length : Int) fun m_3 => some m_3

def slices_Chunk_byte (p_1 : List UInt8) (p_2 : Int) : Option Unit := if 1 ≤ p_2 ∧ p_2 ≤ 1099511627776 ∧ p_1.length ≤ LIM then some () else none

def slices_Backward_byte (p_1 : List UInt8) : Option Unit := some ()

def code_Get_r1 (y_28 : Nat × UInt8) (s_27 : Int) : Option (Int ⊕ Unit) :=
  some (.inl (w64 ((w64 (256 * s_27)) + (y_28.2.toNat : Int))))

def code_Get (p_1 : List UInt8) (p_3 : Int) (p_4 : Int) : Option (Int × Int) :=
  Option.bind (code_sized p_4) fun x_5 => Option.bind (cond (!x_5) (some true) (cond (decide (p_3 < 0)) (some true) (some (decide ((p_1.length : Int) < p_3))))) (fun t_8 => cond t_8 (some (0, 2)) (cond (decide ((p_1.length : Int) < (w64 (p_3 + p_4)))) (some (0, 8)) (slc p_1 p_3 (w64 (p_3 + p_4)) fun m_16 => Option.bind (slices_Backward_byte m_16) fun x_20 => Option.bind (forL code_Get_r1 (bwd m_16 m_16.length) 0) (fun t_24 => Sum.elim (fun s_27 => some (s_27, 0)) (fun _ => none) t_24))))

def mix_number (p_1 : List UInt8) : Option UInt32 :=
  Option.bind (code_Get p_1 0 4) fun x_3 => some (u32i x_3.1)

def math_bits_RotateLeft32 (p_1 : UInt32) (p_2 : Int) : Option UInt32 :=
  some ((sl32 p_1 ((((u64i p_2) &&& (31 : UInt64)).toNat : Int)).toNat) ||| (sr32 p_1 ((((32 : UInt64) - ((u64i p_2) &&& (31 : UInt64))).toNat : Int)).toNat))

def mix_words_turned_1 (p_1 : Int) (p_2 : Int) (p_4 : A4 UInt32) : Option (A4 UInt32) :=
  Option.bind (math_bits_RotateLeft32 (p_4.e3 ^^^ (p_4.e0 + p_4.e1)) p_1) fun x_5 => Option.bind (math_bits_RotateLeft32 (p_4.e1 ^^^ (p_4.e2 + x_5)) p_2) fun x_8 => some (A4.mk (p_4.e0 + p_4.e1) x_8 (p_4.e2 + x_5) x_5)

def mix_words_turned (p_1 : A4 UInt32) : Option (A4 UInt32) :=
  Option.bind (mix_words_turned_1 15 11 p_1) fun x_4 => Option.bind (mix_words_turned_1 9 6 x_4) fun x_7 => some x_7

def mix_words_often_l1 (p_2 : Int) (s_8 : UInt32 × UInt32 × UInt32 × UInt32 × Int) : Option ((UInt32 × UInt32 × UInt32 × UInt32 × Int) ⊕ (UInt32 × UInt32 × UInt32 × UInt32)) :=
  cond (decide (s_8.2.2.2.2 < p_2)) (Option.bind (mix_words_turned (A4.mk s_8.1 s_8.2.1 s_8.2.2.1 s_8.2.2.2.1)) fun x_12 => some (.inl (x_12.e0, x_12.e1, x_12.e2, x_12.e3, w64 (s_8.2.2.2.2 + 1)))) (some (.inr (s_8.1, s_8.2.1, s_8.2.2.1, s_8.2.2.2.1)))

def mix_words_often (p_1 : A4 UInt32) (p_2 : Int) : Option (A4 UInt32) :=
  Option.bind (loop (mix_words_often_l1 p_2) (p_1.e0, p_1.e1, p_1.e2, p_1.e3, 0)) (fun t_5 => some (A4.mk t_5.1 t_5.2.1 t_5.2.2.1 t_5.2.2.2))

def mix_four_r2 (y_36 : List UInt8) (s_35 : UInt32 × UInt32 × UInt32 × UInt32) : Option ((UInt32 × UInt32 × UInt32 × UInt32) ⊕ Unit) :=
  Option.bind (slc y_36 0 4 fun m_45 => Option.bind (mix_number m_45) fun x_49 => some (s_35.1 ^^^ x_49)) (fun t_42 => slc y_36 4 (y_36.length : Int) fun m_56 => Option.bind (mix_number m_56) fun x_60 => Option.bind (mix_words_often (A4.mk t_42 s_35.2.1 (s_35.2.2.1 ^^^ x_60) s_35.2.2.2) 4) fun x_63 => some (.inl (x_63.e0, x_63.e1, x_63.e2, x_63.e3)))

def mix_four_l1 (s_22 : List UInt8) : Option ((List UInt8) ⊕ (List UInt8)) :=
  cond (!decide (((s_22.length : Int).tmod 8) = 0)) (app s_22 ([(0 : UInt8)]) fun q_28 => some (.inl q_28)) (some (.inr s_22))

def mix_four (p_1 : List UInt8) : Option (A4 UInt32) :=
  Option.bind (slices_Clone_byte p_1) fun x_5 => Option.bind (slices_Clip_byte x_5) fun x_10 => app x_10 ([(1 : UInt8)]) fun q_15 => Option.bind (loop mix_four_l1 q_15) (fun t_19 => Option.bind (slices_Chunk_byte t_19 8) fun x_28 => Option.bind (forL mix_four_r2 (chunks (8 : Int).toNat t_19.length t_19) ((1 : UInt32), (2 : UInt32), (3 : UInt32), (4 : UInt32))) (fun t_32 => Sum.elim (fun s_35 => Option.bind (mix_words_often (A4.mk s_35.1 (s_35.2.1 ^^^ (u32i (p_1.length : Int))) s_35.2.2.1 s_35.2.2.2) 8) fun x_42 => some x_42) (fun _ => none) t_32))

def mix_Sum (p_1 : List UInt8) : Option UInt32 :=
  Option.bind (mix_four p_1) fun x_3 => some x_3.e0

def label_block (p_1 : Label) : Option (List UInt8) :=
  Option.bind (code_Put (p_1.Gen.toNat : Int) 4) fun x_3 => Option.bind (code_Put (p_1.Epoch.toNat : Int) 4) fun x_7 => Option.bind (ptr_Write (Ptr.mk p_1.Root.At p_1.Root.Birth p_1.Root.Iv p_1.Root.Tag p_1.Root.Sum)) fun x_11 => app ([(67 : UInt8)]) x_3.1 fun q_16 => app q_16 x_7.1 fun q_20 => app q_20 x_11.1 fun q_24 => Option.bind (mix_Sum q_24) fun x_31 => Option.bind (code_Put (x_31.toNat : Int) 4) fun x_33 => app q_24 x_33.1 fun q_37 => mks 227 (0 : UInt8) fun z_43 => app q_37 z_43 fun q_44 => some q_44

def dev_Write_1 (p_2 : Disk) : Option (Disk × Disk) :=
  some (p_2, p_2)

def dev_guarded (p_1 : Disk) (p_4 : Bool) (p_6 : Disk) : Option (Disk × Int × Disk) :=
  Option.bind (dev_Check p_1) fun x_11 => cond (!decide (x_11 = 0)) (some (Disk.mk ([] : List (List UInt8)) ([] : List Write), x_11, p_6)) (cond (!p_4) (some (Disk.mk ([] : List (List UInt8)) ([] : List Write), 2, p_6)) (Option.bind (dev_Write_1 p_6) fun x_16 => some (x_16.1, 0, x_16.2)))

def slices_Clip_Write (p_1 : List Write) : Option (List Write) :=
  slc p_1 0 (p_1.length : Int) fun m_3 => some m_3

def bytes_Clone (p_1 : List UInt8) : Option (List UInt8) := app [] p_1 fun q => some q

def dev_Twin_l3 (p_1 : Disk) (s_30 : List Write × Nat) : Option ((List Write × Nat) ⊕ (List Write)) :=
  cond (decide (((s_30.2 : Nat) : Int) < (p_1.Waits.length : Int))) (idx p_1.Waits ((s_30.2 : Nat) : Int) fun y_36 => Option.bind (bytes_Clone y_36.Data) fun x_48 => app s_30.1 ([Write.mk y_36.At x_48]) fun q_54 => some (.inl (q_54, s_30.2 + 1))) (some (.inr s_30.1))

def dev_Twin_l2 (p_1 : Disk) (s_22 : List (List UInt8) × Nat) : Option ((List (List UInt8) × Nat) ⊕ (List (List UInt8))) :=
  cond (decide (((s_22.2 : Nat) : Int) < (p_1.Blocks.length : Int))) (idx p_1.Blocks ((s_22.2 : Nat) : Int) fun y_27 => idx s_22.1 ((s_22.2 : Nat) : Int) fun y_38 => chk (y_27.length = y_38.length) <| setI s_22.1 ((s_22.2 : Nat) : Int) y_27 fun m_51 => some (.inl (m_51, s_22.2 + 1))) (some (.inr s_22.1))

def dev_Twin_l1 (p_1 : Disk) (s_9 : List Int × Nat) : Option ((List Int × Nat) ⊕ (List Int)) :=
  cond (decide (((s_9.2 : Nat) : Int) < (p_1.Blocks.length : Int))) (idx p_1.Blocks ((s_9.2 : Nat) : Int) fun y_14 => app s_9.1 ([(y_14.length : Int)]) fun q_26 => some (.inl (q_26, s_9.2 + 1))) (some (.inr s_9.1))

def dev_Twin (p_1 : Disk) : Option Disk :=
  Option.bind (loop (dev_Twin_l1 p_1) (([] : List Int), 0)) (fun t_6 => Option.bind (dev_cut t_6) fun x_15 => Option.bind (loop (dev_Twin_l2 p_1) (x_15, 0)) (fun t_19 => Option.bind (loop (dev_Twin_l3 p_1) (([] : List Write), 0)) (fun t_27 => some (Disk.mk t_19 t_27))))

def dev_Write (p_1 : Disk) (p_4 : Int) (p_5 : List UInt8) : Option (Disk × Int) :=
  Option.bind (Option.bind (dev_place p_4) fun x_12 => Option.bind (dev_guarded p_1 x_12 p_1) fun x_15 => some (x_15.2.2.Blocks, x_15.2.2.Waits, x_15.2.1)) (fun t_9 => cond (!decide (t_9.2.2 = 0)) (some (Disk.mk ([] : List (List UInt8)) ([] : List Write), t_9.2.2)) (cond (!decide ((p_5.length : Int) = 256)) (some (Disk.mk ([] : List (List UInt8)) ([] : List Write), 3)) (cond (decide ((t_9.2.1.length : Int) = 4096)) (some (Disk.mk ([] : List (List UInt8)) ([] : List Write), 9)) (Option.bind (Option.bind (slices_Clip_Write t_9.2.1) fun x_31 => app x_31 ([Write.mk p_4 p_5]) fun q_36 => Option.bind (dev_Twin (Disk.mk t_9.1 q_36)) fun x_41 => some (x_41.Blocks, x_41.Waits)) (fun t_28 => some (Disk.mk t_28.1 t_28.2, 0))))))

def label_Put (p_1 : Disk) (p_4 : Label) : Option (Disk × Int) :=
  Option.bind (dev_Check p_1) fun x_8 => cond (!decide (x_8 = 0)) (some (Disk.mk ([] : List (List UInt8)) ([] : List Write), x_8)) (Option.bind (label_may p_4) fun x_12 => cond (!x_12) (some (Disk.mk ([] : List (List UInt8)) ([] : List Write), 8)) (Option.bind (label_Slot p_4.Gen) fun x_16 => Option.bind (label_block p_4) fun x_19 => Option.bind (dev_Write p_1 x_16 x_19) fun x_24 => some (x_24.1, x_24.2)))

def slices_Clone_byte_45 (p_1 : List (List UInt8)) : Option (List (List UInt8)) := app [] p_1 fun q => some q

def dev_all (p_1 : Int) : Option Bool :=
  some true

def dev_lasts_l1 (p_1 : Disk) (s_9 : (List (Int × Write)) × Nat) : Option (((List (Int × Write)) × Nat) ⊕ (List (Int × Write))) :=
  cond (decide (((s_9.2 : Nat) : Int) < (p_1.Waits.length : Int))) (idx p_1.Waits ((s_9.2 : Nat) : Int) fun y_14 => Option.bind (dev_all ((s_9.2 : Nat) : Int)) fun x_26 => cond x_26 (some (.inl ((putM s_9.1 y_14.At y_14), s_9.2 + 1))) (some (.inl (s_9.1, s_9.2 + 1)))) (some (.inr s_9.1))

def dev_lasts (p_1 : Disk) : Option (List (Int × Write)) :=
  Option.bind (loop (dev_lasts_l1 p_1) (([] : List (Int × Write)), 0)) (fun t_6 => some t_6)

def dev_left (p_1 : Disk) : Option Disk :=
  Option.bind (Option.bind (slices_Clone_byte_45 p_1.Blocks) fun x_9 => some x_9) (fun t_6 => Option.bind (dev_lasts (Disk.mk t_6 p_1.Waits)) fun x_22 => layR (fun y : Write => y.Data) t_6 x_22 fun m_30 => Option.bind (dev_Twin (Disk.mk m_30 ([] : List Write))) fun x_50 => some x_50)

def dev_Read_1 (p_2 : Disk) : Option (Disk × Disk) :=
  Option.bind (dev_left p_2) fun x_6 => some (x_6, p_2)

def dev_guarded_v2 (p_1 : Disk) (p_4 : Bool) (p_6 : Disk) : Option (Disk × Int × Disk) :=
  Option.bind (dev_Check p_1) fun x_11 => cond (!decide (x_11 = 0)) (some (Disk.mk ([] : List (List UInt8)) ([] : List Write), x_11, p_6)) (cond (!p_4) (some (Disk.mk ([] : List (List UInt8)) ([] : List Write), 2, p_6)) (Option.bind (dev_Read_1 p_6) fun x_16 => some (x_16.1, 0, x_16.2)))

def dev_Read (p_1 : Disk) (p_4 : Int) : Option (List UInt8 × Int) :=
  Option.bind (Option.bind (dev_place p_4) fun x_9 => Option.bind (dev_guarded_v2 p_1 x_9 p_1) fun x_12 => some (x_12.1.Blocks, x_12.1.Waits, x_12.2.1)) (fun t_6 => cond (!decide (t_6.2.2 = 0)) (some (([] : List UInt8), t_6.2.2)) (idx t_6.1 p_4 fun y_25 => some (y_25, 0)))

def ptr_Read_l1 (p_1 : List UInt8) (x_6 : A5 Int) (s_12 : Int × Int × Int × Int × Int × Int × Nat) : Option ((Int × Int × Int × Int × Int × Int × Nat) ⊕ (Int × Int × Int × Int × Int)) :=
  cond (decide (((s_12.2.2.2.2.2.2 : Nat) : Int) < 5)) (idx x_6.l ((s_12.2.2.2.2.2.2 : Nat) : Int) fun y_17 => Option.bind (code_Get p_1 s_12.2.2.2.2.2.1 y_17) fun x_19 => chk (0 ≤ ((s_12.2.2.2.2.2.2 : Nat) : Int) ∧ ((s_12.2.2.2.2.2.2 : Nat) : Int).toNat < 5) <| A5.setI (A5.mk s_12.1 s_12.2.1 s_12.2.2.1 s_12.2.2.2.1 s_12.2.2.2.2.1) ((s_12.2.2.2.2.2.2 : Nat) : Int) x_19.1 fun m_23 => some (.inl (m_23.e0, m_23.e1, m_23.e2, m_23.e3, m_23.e4, w64 (s_12.2.2.2.2.2.1 + y_17), s_12.2.2.2.2.2.2 + 1))) (some (.inr (s_12.1, s_12.2.1, s_12.2.2.1, s_12.2.2.2.1, s_12.2.2.2.2.1)))

def ptr_Read (p_1 : List UInt8) : Option (Ptr × Int) :=
  cond (!decide ((p_1.length : Int) = 16)) (some (Ptr.mk 0 (0 : UInt32) (0 : UInt32) (0 : UInt32) (0 : UInt32), 3)) (Option.bind (ptr_sizes) fun x_6 => Option.bind (loop (ptr_Read_l1 p_1 x_6) (0, 0, 0, 0, 0, 0, 0)) (fun t_9 => Option.bind (ptr_Check (Ptr.mk t_9.1 (u32i t_9.2.1) (u32i t_9.2.2.1) (u32i t_9.2.2.2.1) (u32i t_9.2.2.2.2))) fun x_17 => cond (!decide (x_17 = 0)) (some (Ptr.mk 0 (0 : UInt32) (0 : UInt32) (0 : UInt32) (0 : UInt32), x_17)) (some (Ptr.mk t_9.1 (u32i t_9.2.1) (u32i t_9.2.2.1) (u32i t_9.2.2.2.1) (u32i t_9.2.2.2.2), 0))))

def bytes_Equal (p_1 : List UInt8) (p_3 : List UInt8) : Option Bool :=
  some (decide (p_1 = p_3))

def label_read (p_1 : List UInt8) : Option (Label × Bool) :=
  Option.bind (code_Get p_1 1 4) fun x_4 => Option.bind (code_Get p_1 5 4) fun x_7 => slc p_1 9 25 fun m_10 => Option.bind (ptr_Read m_10) fun x_14 => Option.bind (cond (decide (x_14.2 = 0)) (Option.bind (label_may (Label.mk (u32i x_4.1) (u32i x_7.1) (Ptr.mk x_14.1.At x_14.1.Birth x_14.1.Iv x_14.1.Tag x_14.1.Sum))) fun x_22 => cond x_22 (Option.bind (label_block (Label.mk (u32i x_4.1) (u32i x_7.1) (Ptr.mk x_14.1.At x_14.1.Birth x_14.1.Iv x_14.1.Tag x_14.1.Sum))) fun x_26 => Option.bind (bytes_Equal x_26 p_1) fun x_33 => some x_33) (some false)) (some false)) (fun t_18 => some (Label.mk (u32i x_4.1) (u32i x_7.1) (Ptr.mk x_14.1.At x_14.1.Birth x_14.1.Iv x_14.1.Tag x_14.1.Sum), t_18))

def cmp_isNaN_uint32 (p_1 : UInt32) : Option Bool :=
  some (!decide (p_1 = p_1))

def cmp_Compare_uint32 (p_1 : UInt32) (p_2 : UInt32) : Option Int :=
  Option.bind (cmp_isNaN_uint32 p_1) fun x_3 => Option.bind (cmp_isNaN_uint32 p_2) fun x_6 => cond x_3 (cond x_6 (some 0) (some (-1))) (cond x_6 (some 1) (cond (decide (p_1 < p_2)) (some (-1)) (cond (decide (p_2 < p_1)) (some 1) (some 0))))

def label_Find_1 (p_1 : Label) (p_2 : Label) : Option Int :=
  Option.bind (cmp_Compare_uint32 p_2.Gen p_1.Gen) fun x_5 => some x_5

def slices_SortFunc_Label_label_Find_1 (p_1 : List Label) : Option (List Label) := if p_1.length < 4611686018427387904 then some (sortL (fun x y => (label_Find_1 x y).getD 0) p_1) else none

def label_Find_l1 (p_1 : Disk) (s_12 : List Label × Nat) : Option ((List Label × Nat) ⊕ (List Label)) :=
  cond (decide (((s_12.2 : Nat) : Int) < 4)) (Option.bind (dev_Read p_1 ((s_12.2 : Nat) : Int)) fun x_18 => Option.bind (label_read x_18.1) fun x_22 => cond x_22.2 (Option.bind (label_Slot x_22.1.Gen) fun x_27 => cond (decide (x_27 = ((s_12.2 : Nat) : Int))) (app s_12.1 ([x_22.1]) fun q_32 => some (.inl (q_32, s_12.2 + 1))) (some (.inl (s_12.1, s_12.2 + 1)))) (some (.inl (s_12.1, s_12.2 + 1)))) (some (.inr s_12.1))

def label_Find (p_1 : Disk) : Option (List Label × Int) :=
  Option.bind (dev_Check p_1) fun x_5 => cond (!decide (x_5 = 0)) (some (([] : List Label), x_5)) (Option.bind (loop (label_Find_l1 p_1) (([] : List Label), 0)) (fun t_9 => Option.bind (slices_SortFunc_Label_label_Find_1 t_9) fun x_19 => some (x_19, 0)))

def law11_alive : Option Bool :=
  Option.bind (dev_New) fun x_1 => Option.bind (law11_one (5 : UInt32)) fun x_6 => Option.bind (label_Put x_1 x_6) fun x_10 => Option.bind (label_Find x_10.1) fun x_19 => Option.bind (cond (decide (x_10.2 = 0)) (cond (decide (x_19.2 = 0)) (cond (decide ((x_19.1.length : Int) = 1)) (idx x_19.1 0 fun y_30 => Option.bind (law11_one (5 : UInt32)) fun x_41 => some (decide (y_30.Gen = x_41.Gen) && (decide (y_30.Epoch = x_41.Epoch) && ((decide (y_30.Root.At = x_41.Root.At) && (decide (y_30.Root.Birth = x_41.Root.Birth) && (decide (y_30.Root.Iv = x_41.Root.Iv) && (decide (y_30.Root.Tag = x_41.Root.Tag) && (decide (y_30.Root.Sum = x_41.Root.Sum) && true))))) && true)))) (some false)) (some false)) (some false)) (fun t_24 => some t_24)

def ref09_Great_l2 (p_1 : Disk) (s_22 : Int × Nat) : Option ((Int × Nat) ⊕ Int) :=
  cond (decide (((s_22.2 : Nat) : Int) < (p_1.Waits.length : Int))) (cond (decide (s_22.1 < 2000000)) (idx p_1.Waits ((s_22.2 : Nat) : Int) fun y_27 => some (.inl (w64 (s_22.1 + (y_27.Data.length : Int)), s_22.2 + 1))) (some (.inr s_22.1))) (some (.inr s_22.1))

def ref09_Great_l1 (p_1 : Disk) (s_16 : Int × Nat) : Option ((Int × Nat) ⊕ Int) :=
  cond (decide (((s_16.2 : Nat) : Int) < (p_1.Blocks.length : Int))) (cond (decide (s_16.1 < 2000000)) (idx p_1.Blocks ((s_16.2 : Nat) : Int) fun y_21 => some (.inl (w64 (s_16.1 + (y_21.length : Int)), s_16.2 + 1))) (some (.inr s_16.1))) (some (.inr s_16.1))

def ref09_Great (p_1 : Disk) : Option Bool :=
  Option.bind (cond (decide (500 < (p_1.Blocks.length : Int))) (some (.inr ())) (cond (decide (500 < (p_1.Waits.length : Int))) (cond (decide ((p_1.Waits.length : Int) < 4096)) (some (.inr ())) (cond (decide (4106 < (p_1.Waits.length : Int))) (some (.inr ())) (some (.inl ())))) (cond (decide (4106 < (p_1.Waits.length : Int))) (some (.inr ())) (some (.inl ()))))) (fun t_5 => Sum.elim (fun t_5a => Option.bind (loop (ref09_Great_l1 p_1) (0, 0)) (fun t_13 => Option.bind (loop (ref09_Great_l2 p_1) (t_13, 0)) (fun t_19 => some (decide (2000000 ≤ t_19))))) (fun t_5b => some true) t_5)

def law11_LabelStands_l4 (p_4 : Label) (x_55 : List Label × Int) (s_71 : Bool × Nat) : Option ((Bool × Nat) ⊕ Bool) :=
  cond (decide (((s_71.2 : Nat) : Int) < (x_55.1.length : Int))) (cond s_71.1 (some (.inl (true, s_71.2 + 1))) (idx x_55.1 ((s_71.2 : Nat) : Int) fun y_76 => some (.inl (decide (y_76.Gen = p_4.Gen) && (decide (y_76.Epoch = p_4.Epoch) && ((decide (y_76.Root.At = p_4.Root.At) && (decide (y_76.Root.Birth = p_4.Root.Birth) && (decide (y_76.Root.Iv = p_4.Root.Iv) && (decide (y_76.Root.Tag = p_4.Root.Tag) && (decide (y_76.Root.Sum = p_4.Root.Sum) && true))))) && true)), s_71.2 + 1)))) (some (.inr s_71.1))

def law11_LabelStands_l2 (x_11 : List Label × Int) (x_55 : List Label × Int) (s_65 : Bool × Int × Nat) (s_105 : Bool × Nat) : Option ((Bool × Nat) ⊕ Bool) :=
  cond (decide (((s_105.2 : Nat) : Int) < (x_55.1.length : Int))) (cond s_105.1 (some (.inl (true, s_105.2 + 1))) (idx x_55.1 ((s_105.2 : Nat) : Int) fun y_110 => idx x_11.1 ((s_65.2.2 : Nat) : Int) fun y_121 => some (.inl (decide (y_110.Gen = y_121.Gen) && (decide (y_110.Epoch = y_121.Epoch) && ((decide (y_110.Root.At = y_121.Root.At) && (decide (y_110.Root.Birth = y_121.Root.Birth) && (decide (y_110.Root.Iv = y_121.Root.Iv) && (decide (y_110.Root.Tag = y_121.Root.Tag) && (decide (y_110.Root.Sum = y_121.Root.Sum) && true))))) && true)), s_105.2 + 1)))) (some (.inr s_105.1))

def law11_LabelStands_l3 (p_4 : Label) (x_11 : List Label × Int) (x_55 : List Label × Int) (s_65 : Bool × Int × Nat) : Option ((Bool × Int × Nat) ⊕ ((Bool × Int) ⊕ Unit)) :=
  cond (decide (((s_65.2.2 : Nat) : Int) < (x_11.1.length : Int))) (idx x_11.1 ((s_65.2.2 : Nat) : Int) fun y_69 => Option.bind (cond (decide (p_4.Gen ≤ y_69.Gen)) (some false) (some s_65.1)) (fun t_80 => idx x_11.1 ((s_65.2.2 : Nat) : Int) fun y_84 => Option.bind (label_Slot y_84.Gen) fun x_95 => Option.bind (label_Slot p_4.Gen) fun x_98 => cond (decide (x_95 = x_98)) (some (.inl (t_80, s_65.2.1, s_65.2.2 + 1))) (Option.bind (loop (law11_LabelStands_l2 x_11 x_55 s_65) (false, 0)) (fun t_102 => cond (!t_102) (some (.inr (.inr ()))) (some (.inl (t_80, w64 (s_65.2.1 + 1), s_65.2.2 + 1))))))) (some (.inr (.inl (s_65.1, s_65.2.1))))

def law11_LabelStands_l1 (x_11 : List Label × Int) (s_33 : Nat) : Option (Nat ⊕ (Unit ⊕ Unit)) :=
  cond (decide (((s_33 : Nat) : Int) < (x_11.1.length : Int))) (idx x_11.1 ((s_33 : Nat) : Int) fun y_37 => cond (decide (y_37.Gen < (1 : UInt32))) (some (.inr (.inr ()))) (idx x_11.1 ((s_33 : Nat) : Int) fun y_49 => cond (decide (y_49.Epoch < (1 : UInt32))) (some (.inr (.inr ()))) (idx x_11.1 ((s_33 : Nat) : Int) fun y_61 => Option.bind (ptr_Check (Ptr.mk y_61.Root.At y_61.Root.Birth y_61.Root.Iv y_61.Root.Tag y_61.Root.Sum)) fun x_72 => cond (!decide (x_72 = 0)) (some (.inr (.inr ()))) (cond (decide (0 < ((s_33 : Nat) : Int))) (idx x_11.1 (w64 (((s_33 : Nat) : Int) - 1)) fun y_77 => idx x_11.1 ((s_33 : Nat) : Int) fun y_88 => cond (decide (y_77.Gen ≤ y_88.Gen)) (some (.inr (.inr ()))) (some (.inl (s_33 + 1)))) (some (.inl (s_33 + 1))))))) (some (.inr (.inl ())))

def law11_LabelStands (p_1 : Disk) (p_4 : Label) : Option Bool :=
  Option.bind (law11_alive) fun x_7 => cond (!x_7) (some false) (Option.bind (label_Find p_1) fun x_11 => Option.bind (ref09_Great p_1) fun x_15 => cond x_15 (Option.bind (cond x_7 (cond (decide (x_11.2 = 0)) (some true) (some (decide ((x_11.1.length : Int) = 0)))) (some false)) (fun t_19 => some t_19)) (cond (!decide (x_11.2 = 0)) (Option.bind (cond x_7 (cond (decide (x_11.2 = 0)) (some true) (some (decide ((x_11.1.length : Int) = 0)))) (some false)) (fun t_25 => some t_25)) (Option.bind (loop (law11_LabelStands_l1 x_11) 0) (fun t_30 => Sum.elim (fun t_30a => Option.bind (label_Put p_1 p_4) fun x_36 => cond (!decide (x_36.2 = 0)) (Option.bind (cond x_7 (some (decide ((x_11.1.length : Int) ≤ 4))) (some false)) (fun t_43 => some t_43)) (cond (decide (4 < (x_11.1.length : Int))) (Option.bind (cond x_7 (some (decide ((x_11.1.length : Int) ≤ 4))) (some false)) (fun t_48 => some t_48)) (Option.bind (label_Find x_36.1) fun x_55 => cond (!decide (x_55.2 = 0)) (some false) (cond (decide ((x_55.1.length : Int) = 0)) (some false) (Option.bind (loop (law11_LabelStands_l3 p_4 x_11 x_55) (true, 0, 0)) (fun t_62 => Sum.elim (fun t_62a => Option.bind (loop (law11_LabelStands_l4 p_4 x_55) (false, 0)) (fun t_68 => Option.bind (cond x_7 (cond t_68 (cond (decide ((x_55.1.length : Int) = (w64 (t_62a.2 + 1)))) (cond (!t_62a.1) (some true) (idx x_55.1 0 fun y_81 => some (decide (y_81.Gen = p_4.Gen) && (decide (y_81.Epoch = p_4.Epoch) && ((decide (y_81.Root.At = p_4.Root.At) && (decide (y_81.Root.Birth = p_4.Root.Birth) && (decide (y_81.Root.Iv = p_4.Root.Iv) && (decide (y_81.Root.Tag = p_4.Root.Tag) && (decide (y_81.Root.Sum = p_4.Root.Sum) && true))))) && true))))) (some false)) (some false)) (some false)) (fun t_74 => some t_74))) (fun t_62b => some false) t_62)))))) (fun t_30b => some false) t_30))))

def law11_same_l1 (p_1 : List Label) (p_3 : List Label) (s_8 : Nat) : Option (Nat ⊕ (Unit ⊕ Unit)) :=
  cond (decide (((s_8 : Nat) : Int) < (p_1.length : Int))) (cond (decide (((s_8 : Nat) : Int) < (p_3.length : Int))) (idx p_1 ((s_8 : Nat) : Int) fun y_13 => idx p_3 ((s_8 : Nat) : Int) fun y_22 => cond (!(decide (y_13.Gen = y_22.Gen) && (decide (y_13.Epoch = y_22.Epoch) && ((decide (y_13.Root.At = y_22.Root.At) && (decide (y_13.Root.Birth = y_22.Root.Birth) && (decide (y_13.Root.Iv = y_22.Root.Iv) && (decide (y_13.Root.Tag = y_22.Root.Tag) && (decide (y_13.Root.Sum = y_22.Root.Sum) && true))))) && true)))) (some (.inr (.inr ()))) (some (.inl (s_8 + 1)))) (some (.inr (.inl ())))) (some (.inr (.inl ())))

def law11_same (p_1 : List Label) (p_3 : List Label) : Option Bool :=
  Option.bind (loop (law11_same_l1 p_1 p_3) 0) (fun t_5 => Sum.elim (fun t_5a => some (decide ((p_1.length : Int) = (p_3.length : Int)))) (fun t_5b => some false) t_5)

def law11_LabelApart (p_1 : Disk) (p_4 : Label) (p_5 : Label) (p_6 : Int) (p_7 : List UInt8) : Option Bool :=
  Option.bind (law11_alive) fun x_12 => cond (!x_12) (some false) (Option.bind (ref09_Great p_1) fun x_16 => cond x_16 (some x_12) (cond (decide (10000 < (p_7.length : Int))) (some x_12) (Option.bind (label_Put p_1 p_4) fun x_21 => Option.bind (label_Put x_21.1 p_5) fun x_28 => Option.bind (label_Put p_1 p_5) fun x_33 => Option.bind (label_Put x_33.1 p_4) fun x_40 => cond (!decide (x_21.2 = 0)) (some x_12) (cond (!decide (x_28.2 = 0)) (some x_12) (cond (!decide (x_33.2 = 0)) (some x_12) (cond (!decide (x_40.2 = 0)) (some x_12) (Option.bind (label_Find x_28.1) fun x_52 => Option.bind (label_Find x_40.1) fun x_60 => cond (!decide (x_52.2 = 0)) (some false) (cond (!decide (x_60.2 = 0)) (some false) (Option.bind (Option.bind (label_Slot p_4.Gen) fun x_70 => Option.bind (label_Slot p_5.Gen) fun x_73 => cond (!decide (x_70 = x_73)) (Option.bind (law11_same x_52.1 x_60.1) fun x_80 => cond (!x_80) (some (.inr ())) (some (.inl ()))) (some (.inl ()))) (fun t_67 => Sum.elim (fun t_67a => Option.bind (label_Put x_28.1 p_5) fun x_84 => Option.bind (label_Find x_84.1) fun x_93 => Option.bind (cond (decide (x_84.2 = 0)) (cond (!decide (x_93.2 = 0)) (some (.inr ())) (Option.bind (law11_same x_93.1 x_52.1) fun x_106 => cond (!x_106) (some (.inr ())) (some (.inl ())))) (some (.inl ()))) (fun t_98 => Sum.elim (fun t_98a => Option.bind (dev_Write x_28.1 p_6 p_7) fun x_109 => cond (!decide (x_109.2 = 0)) (some x_12) (cond (decide (p_6 < 4)) (some x_12) (Option.bind (label_Find x_109.1) fun x_120 => Option.bind (cond x_12 (cond (decide (x_120.2 = 0)) (Option.bind (law11_same x_120.1 x_52.1) fun x_133 => some x_133) (some false)) (some false)) (fun t_125 => some t_125)))) (fun t_98b => some false) t_98)) (fun t_67b => some false) t_67))))))))))

def dev_Crash_1_1 (p_1 : Int) (p_3 : List Bool) : Option (Bool × List Bool) :=
  idx p_3 p_1 fun y_5 => some (y_5, p_3)

def dev_lasts_v2_l1 (p_1 : Disk) (s_12 : List Bool × (List (Int × Write)) × Nat) : Option ((List Bool × (List (Int × Write)) × Nat) ⊕ (List Bool × (List (Int × Write)))) :=
  cond (decide (((s_12.2.2 : Nat) : Int) < (p_1.Waits.length : Int))) (idx p_1.Waits ((s_12.2.2 : Nat) : Int) fun y_18 => Option.bind (dev_Crash_1_1 ((s_12.2.2 : Nat) : Int) s_12.1) fun x_30 => cond x_30.1 (some (.inl (x_30.2, (putM s_12.2.1 y_18.At y_18), s_12.2.2 + 1))) (some (.inl (x_30.2, s_12.2.1, s_12.2.2 + 1)))) (some (.inr (s_12.1, s_12.2.1)))

def dev_lasts_v2 (p_1 : Disk) (p_5 : List Bool) : Option ((List (Int × Write)) × List Bool) :=
  Option.bind (loop (dev_lasts_v2_l1 p_1) (p_5, ([] : List (Int × Write)), 0)) (fun t_9 => some (t_9.2, t_9.1))

def dev_left_v2 (p_1 : Disk) (p_5 : List Bool) : Option (Disk × List Bool) :=
  Option.bind (Option.bind (slices_Clone_byte_45 p_1.Blocks) fun x_12 => some x_12) (fun t_9 => Option.bind (dev_lasts_v2 (Disk.mk t_9 p_1.Waits) p_5) fun x_25 => layR (fun y : Write => y.Data) t_9 x_25.1 fun m_34 => Option.bind (dev_Twin (Disk.mk m_34 ([] : List Write))) fun x_54 => some (x_54, x_25.2))

def dev_Crash_1 (p_2 : Disk) (p_6 : List Bool) : Option (Disk × Disk × List Bool) :=
  Option.bind (dev_left_v2 p_2 p_6) fun x_9 => some (x_9.1, p_2, x_9.2)

def dev_guarded_v3 (p_1 : Disk) (p_4 : Bool) (p_6 : Disk) (p_10 : List Bool) : Option (Disk × Int × Disk × List Bool) :=
  Option.bind (dev_Check p_1) fun x_14 => cond (!decide (x_14 = 0)) (some (Disk.mk ([] : List (List UInt8)) ([] : List Write), x_14, p_6, p_10)) (cond (!p_4) (some (Disk.mk ([] : List (List UInt8)) ([] : List Write), 2, p_6, p_10)) (Option.bind (dev_Crash_1 p_6 p_10) fun x_19 => some (x_19.1, 0, x_19.2.1, x_19.2.2)))

def dev_Crash (p_1 : Disk) (p_4 : List Bool) : Option (Disk × Int) :=
  Option.bind (dev_guarded_v3 p_1 (decide ((p_4.length : Int) = (p_1.Waits.length : Int))) p_1 p_4) fun x_9 => some (x_9.1, x_9.2.1)

def law11_LabelLost (p_1 : Disk) (p_4 : Label) (p_5 : Bool) : Option Bool :=
  Option.bind (law11_alive) fun x_8 => cond (!x_8) (some false) (Option.bind (ref09_Great p_1) fun x_12 => cond x_12 (some x_8) (cond (decide (0 < (p_1.Waits.length : Int))) (some x_8) (Option.bind (label_Put p_1 p_4) fun x_17 => cond (!decide (x_17.2 = 0)) (some x_8) (Option.bind (dev_Crash x_17.1 ([p_5])) fun x_27 => Option.bind (label_Find p_1) fun x_33 => Option.bind (label_Find x_17.1) fun x_37 => Option.bind (label_Find x_27.1) fun x_44 => cond (!decide (x_27.2 = 0)) (some false) (cond (!decide (x_33.2 = 0)) (some false) (cond (!decide (x_37.2 = 0)) (some false) (cond (!decide (x_44.2 = 0)) (some false) (Option.bind (cond x_8 (cond p_5 (Option.bind (law11_same x_44.1 x_37.1) fun x_61 => cond x_61 (some true) (cond (!p_5) (Option.bind (law11_same x_44.1 x_33.1) fun x_68 => some x_68) (some false))) (cond (!p_5) (Option.bind (law11_same x_44.1 x_33.1) fun x_74 => some x_74) (some false))) (some false)) (fun t_53 => some t_53)))))))))
end Go.Ow
