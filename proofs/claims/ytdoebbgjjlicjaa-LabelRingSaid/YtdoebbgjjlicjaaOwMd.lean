import Derived.Test.YtdoebbgjjlicjaaOwMb
import Derived.Test.YtdoebbgjjlicjaaOwMa
import Derived.Test.YtdoebbgjjlicjaaOwMc
import Derived.Test.YtdoebbgjjlicjaaOwSo
/- plain functions: what the code computes. -/
namespace Go.Ow
set_option linter.unusedVariables false
set_option linter.unusedSimpArgs false

def dev_cut (p_1 : List Int) : Option (List (List UInt8)) := if (∀ n ∈ p_1, 0 ≤ n) ∧ (p_1.map Int.toNat).sum ≤ LIM ∧ p_1.length ≤ LIM then some (p_1.map fun n => List.replicate n.toNat 0) else none

def dev_place (p_1 : Int) : Option Bool :=
  some (decide ((u64i p_1) < (256 : UInt64)))

def dev_Check_l2 (p_1 : Disk) (s_18 : Bool × Nat) : Option ((Bool × Nat) ⊕ Bool) :=
  cond (decide (((s_18.2 : Nat) : Int) < (p_1.Waits.length : Int))) (idx p_1.Waits ((s_18.2 : Nat) : Int) fun y_22 => cond s_18.1 (Option.bind (dev_place y_22.At) fun x_35 => cond x_35 (some (.inl (decide ((y_22.Data.length : Int) = 256), s_18.2 + 1))) (some (.inl (false, s_18.2 + 1)))) (some (.inl (false, s_18.2 + 1)))) (some (.inr s_18.1))

def dev_Check_l1 (p_1 : Disk) (s_12 : Bool × Nat) : Option ((Bool × Nat) ⊕ Bool) :=
  cond (decide (((s_12.2 : Nat) : Int) < (p_1.Blocks.length : Int))) (idx p_1.Blocks ((s_12.2 : Nat) : Int) fun y_16 => cond s_12.1 (some (.inl (decide ((y_16.length : Int) = 256), s_12.2 + 1))) (some (.inl (false, s_12.2 + 1)))) (some (.inr s_12.1))

def dev_Check (p_1 : Disk) : Option Int :=
  Option.bind (cond (decide ((p_1.Blocks.length : Int) = 256)) (some (decide ((p_1.Waits.length : Int) ≤ 4096))) (some false)) (fun t_5 => Option.bind (loop (dev_Check_l1 p_1) (t_5, 0)) (fun t_9 => Option.bind (loop (dev_Check_l2 p_1) (t_9, 0)) (fun t_15 => cond t_15 (some 0) (some 8))))

def code_sized (p_1 : Int) : Option Bool :=
  Option.bind (cond (decide (0 < p_1)) (some (decide (p_1 ≤ 4))) (some false)) (fun t_2 => some t_2)

def code_Put_l1 (p_2 : Int) (s_13 : Int × List UInt8) : Option ((Int × List UInt8) ⊕ (List UInt8)) :=
  cond (decide ((s_13.2.length : Int) < p_2)) (app s_13.2 ([u8i s_13.1]) fun q_19 => some (.inl (w64 (s_13.1.tdiv 256), q_19))) (some (.inr s_13.2))

def code_Put (p_1 : Int) (p_2 : Int) : Option (List UInt8 × Int) :=
  Option.bind (code_sized p_2) fun x_3 => cond (!x_3) (some (([] : List UInt8), 2)) (cond (decide (p_1 < 0)) (some (([] : List UInt8), 2)) (chk (0 ≤ (w64 (8 * p_2))) <| cond (decide ((sli 1 (w64 (8 * p_2))) ≤ p_1)) (some (([] : List UInt8), 2)) (Option.bind (loop (code_Put_l1 p_2) (p_1, ([] : List UInt8))) (fun t_10 => some (t_10, 0)))))

def slices_Clone_byte (p_1 : List UInt8) : Option (List UInt8) := app [] p_1 fun q => some q

def slices_Clip_byte (p_1 : List UInt8) : Option (List UInt8) :=
  slc p_1 0 (p_1.length : Int) fun m_3 => some m_3

def slices_Chunk_byte (p_1 : List UInt8) (p_2 : Int) : Option Unit := if 1 ≤ p_2 ∧ p_2 ≤ 1099511627776 ∧ p_1.length ≤ LIM then some () else none

def slices_Backward_byte (p_1 : List UInt8) : Option Unit := some ()

def code_Get_r1 (y_28 : Nat × UInt8) (s_27 : Int) : Option (Int ⊕ Unit) :=
  some (.inl (w64 ((w64 (256 * s_27)) + (y_28.2.toNat : Int))))

def code_Get (p_1 : List UInt8) (p_3 : Int) (p_4 : Int) : Option (Int × Int) :=
  Option.bind (code_sized p_4) fun x_5 => Option.bind (cond (!x_5) (some true) (cond (decide (p_3 < 0)) (some true) (some (decide ((p_1.length : Int) < p_3))))) (fun t_8 => cond t_8 (some (0, 2)) (cond (decide ((p_1.length : Int) < (w64 (p_3 + p_4)))) (some (0, 8)) (slc p_1 p_3 (w64 (p_3 + p_4)) fun m_16 => Option.bind (slices_Backward_byte m_16) fun x_20 => Option.bind (forL code_Get_r1 (bwd m_16 m_16.length) 0) (fun t_24 => Sum.elim (fun s_27 => some (s_27, 0)) (fun _ => none) t_24))))

def mix_number (p_1 : List UInt8) : Option UInt32 :=
  Option.bind (code_Get p_1 0 4) fun x_3 => some (u32i x_3.1)

def math_bits_RotateLeft32 (p_1 : UInt32) (p_2 : Int) : Option UInt32 :=
  some ((sl32 p_1 ((((u64i p_2) &&& (31 : UInt64)).toNat : Int)).toNat) ||| (sr32 p_1 ((((32 : UInt64) - ((u64i p_2) &&& (31 : UInt64))).toNat : Int)).toNat))

def mix_words_turned_1 (p_1 : Int) (p_2 : Int) (p_4 : A4 UInt32) : Option (A4 UInt32) :=
  Option.bind (math_bits_RotateLeft32 (p_4.e3 ^^^ (p_4.e0 + p_4.e1)) p_1) fun x_5 => Option.bind (math_bits_RotateLeft32 (p_4.e1 ^^^ (p_4.e2 + x_5)) p_2) fun x_8 => some (A4.mk (p_4.e0 + p_4.e1) x_8 (p_4.e2 + x_5) x_5)

def mix_words_turned (p_1 : A4 UInt32) : Option (A4 UInt32) :=
  Option.bind (mix_words_turned_1 15 11 p_1) fun x_4 => Option.bind (mix_words_turned_1 9 6 x_4) fun x_7 => some x_7

def mix_words_often_l1 (p_2 : Int) (s_8 : UInt32 × UInt32 × UInt32 × UInt32 × Int) : Option ((UInt32 × UInt32 × UInt32 × UInt32 × Int) ⊕ (UInt32 × UInt32 × UInt32 × UInt32)) :=
  cond (decide (s_8.2.2.2.2 < p_2)) (Option.bind (mix_words_turned (A4.mk s_8.1 s_8.2.1 s_8.2.2.1 s_8.2.2.2.1)) fun x_12 => some (.inl (x_12.e0, x_12.e1, x_12.e2, x_12.e3, w64 (s_8.2.2.2.2 + 1)))) (some (.inr (s_8.1, s_8.2.1, s_8.2.2.1, s_8.2.2.2.1)))

def mix_words_often (p_1 : A4 UInt32) (p_2 : Int) : Option (A4 UInt32) :=
  Option.bind (loop (mix_words_often_l1 p_2) (p_1.e0, p_1.e1, p_1.e2, p_1.e3, 0)) (fun t_5 => some (A4.mk t_5.1 t_5.2.1 t_5.2.2.1 t_5.2.2.2))

def mix_four_r2 (y_36 : List UInt8) (s_35 : UInt32 × UInt32 × UInt32 × UInt32) : Option ((UInt32 × UInt32 × UInt32 × UInt32) ⊕ Unit) :=
  Option.bind (slc y_36 0 4 fun m_45 => Option.bind (mix_number m_45) fun x_49 => some (s_35.1 ^^^ x_49)) (fun t_42 => slc y_36 4 (y_36.length : Int) fun m_56 => Option.bind (mix_number m_56) fun x_60 => Option.bind (mix_words_often (A4.mk t_42 s_35.2.1 (s_35.2.2.1 ^^^ x_60) s_35.2.2.2) 4) fun x_63 => some (.inl (x_63.e0, x_63.e1, x_63.e2, x_63.e3)))

def mix_four_l1 (s_22 : List UInt8) : Option ((List UInt8) ⊕ (List UInt8)) :=
  cond (!decide (((s_22.length : Int).tmod 8) = 0)) (app s_22 ([(0 : UInt8)]) fun q_28 => some (.inl q_28)) (some (.inr s_22))

def mix_four (p_1 : List UInt8) : Option (A4 UInt32) :=
  Option.bind (slices_Clone_byte p_1) fun x_5 => Option.bind (slices_Clip_byte x_5) fun x_10 => app x_10 ([(1 : UInt8)]) fun q_15 => Option.bind (loop mix_four_l1 q_15) (fun t_19 => Option.bind (slices_Chunk_byte t_19 8) fun x_28 => Option.bind (forL mix_four_r2 (chunks (8 : Int).toNat t_19.length t_19) ((1 : UInt32), (2 : UInt32), (3 : UInt32), (4 : UInt32))) (fun t_32 => Sum.elim (fun s_35 => Option.bind (mix_words_often (A4.mk s_35.1 (s_35.2.1 ^^^ (u32i (p_1.length : Int))) s_35.2.2.1 s_35.2.2.2) 8) fun x_42 => some x_42) (fun _ => none) t_32))

def mix_Sum (p_1 : List UInt8) : Option UInt32 :=
  Option.bind (mix_four p_1) fun x_3 => some x_3.e0

def bytes_Clone (p_1 : List UInt8) : Option (List UInt8) := app [] p_1 fun q => some q

def dev_Write_1 (p_2 : Disk) : Option (Disk × Disk) :=
  some (p_2, p_2)

def dev_guarded (p_1 : Disk) (p_4 : Bool) (p_6 : Disk) : Option (Disk × Int × Disk) :=
  Option.bind (dev_Check p_1) fun x_11 => cond (!decide (x_11 = 0)) (some (Disk.mk ([] : List (List UInt8)) ([] : List Write), x_11, p_6)) (cond (!p_4) (some (Disk.mk ([] : List (List UInt8)) ([] : List Write), 2, p_6)) (Option.bind (dev_Write_1 p_6) fun x_16 => some (x_16.1, 0, x_16.2)))

def slices_Clip_Write (p_1 : List Write) : Option (List Write) :=
  slc p_1 0 (p_1.length : Int) fun m_3 => some m_3

def dev_Twin_l3 (p_1 : Disk) (s_30 : List Write × Nat) : Option ((List Write × Nat) ⊕ (List Write)) :=
  cond (decide (((s_30.2 : Nat) : Int) < (p_1.Waits.length : Int))) (idx p_1.Waits ((s_30.2 : Nat) : Int) fun y_36 => Option.bind (bytes_Clone y_36.Data) fun x_48 => app s_30.1 ([Write.mk y_36.At x_48]) fun q_54 => some (.inl (q_54, s_30.2 + 1))) (some (.inr s_30.1))

def dev_Twin_l2 (p_1 : Disk) (s_22 : List (List UInt8) × Nat) : Option ((List (List UInt8) × Nat) ⊕ (List (List UInt8))) :=
  cond (decide (((s_22.2 : Nat) : Int) < (p_1.Blocks.length : Int))) (idx p_1.Blocks ((s_22.2 : Nat) : Int) fun y_27 => idx s_22.1 ((s_22.2 : Nat) : Int) fun y_38 => chk (y_27.length = y_38.length) <| setI s_22.1 ((s_22.2 : Nat) : Int) y_27 fun m_51 => some (.inl (m_51, s_22.2 + 1))) (some (.inr s_22.1))

def dev_Twin_l1 (p_1 : Disk) (s_9 : List Int × Nat) : Option ((List Int × Nat) ⊕ (List Int)) :=
  cond (decide (((s_9.2 : Nat) : Int) < (p_1.Blocks.length : Int))) (idx p_1.Blocks ((s_9.2 : Nat) : Int) fun y_14 => app s_9.1 ([(y_14.length : Int)]) fun q_26 => some (.inl (q_26, s_9.2 + 1))) (some (.inr s_9.1))

def dev_Twin (p_1 : Disk) : Option Disk :=
  Option.bind (loop (dev_Twin_l1 p_1) (([] : List Int), 0)) (fun t_6 => Option.bind (dev_cut t_6) fun x_15 => Option.bind (loop (dev_Twin_l2 p_1) (x_15, 0)) (fun t_19 => Option.bind (loop (dev_Twin_l3 p_1) (([] : List Write), 0)) (fun t_27 => some (Disk.mk t_19 t_27))))

def dev_Write (p_1 : Disk) (p_4 : Int) (p_5 : List UInt8) : Option (Disk × Int) :=
  Option.bind (Option.bind (dev_place p_4) fun x_12 => Option.bind (dev_guarded p_1 x_12 p_1) fun x_15 => some (x_15.2.2.Blocks, x_15.2.2.Waits, x_15.2.1)) (fun t_9 => cond (!decide (t_9.2.2 = 0)) (some (Disk.mk ([] : List (List UInt8)) ([] : List Write), t_9.2.2)) (cond (!decide ((p_5.length : Int) = 256)) (some (Disk.mk ([] : List (List UInt8)) ([] : List Write), 3)) (cond (decide ((t_9.2.1.length : Int) = 4096)) (some (Disk.mk ([] : List (List UInt8)) ([] : List Write), 9)) (Option.bind (Option.bind (slices_Clip_Write t_9.2.1) fun x_31 => app x_31 ([Write.mk p_4 p_5]) fun q_36 => Option.bind (dev_Twin (Disk.mk t_9.1 q_36)) fun x_41 => some (x_41.Blocks, x_41.Waits)) (fun t_28 => some (Disk.mk t_28.1 t_28.2, 0))))))

def ptr_Check (p_1 : Ptr) : Option Int :=
  cond (decide (p_1.At = 0) && (decide (p_1.Birth = (0 : UInt32)) && (decide (p_1.Iv = (0 : UInt32)) && (decide (p_1.Tag = (0 : UInt32)) && (decide (p_1.Sum = (0 : UInt32)) && true))))) (some 0) (cond (decide (p_1.At < 12)) (some 8) (cond (decide (256 ≤ p_1.At)) (some 8) (cond (decide (p_1.Birth < (1 : UInt32))) (some 8) (cond (decide ((16777215 : UInt32) < p_1.Birth)) (some 8) (some 0)))))

def slices_Clone_byte_L (p_1 : List (List UInt8)) : Option (List (List UInt8)) := app [] p_1 fun q => some q

def dev_all (p_1 : Int) : Option Bool :=
  some true

def dev_lasts_l1 (p_1 : Disk) (s_9 : (List (Int × Write)) × Nat) : Option (((List (Int × Write)) × Nat) ⊕ (List (Int × Write))) :=
  cond (decide (((s_9.2 : Nat) : Int) < (p_1.Waits.length : Int))) (idx p_1.Waits ((s_9.2 : Nat) : Int) fun y_14 => Option.bind (dev_all ((s_9.2 : Nat) : Int)) fun x_26 => cond x_26 (some (.inl ((putM s_9.1 y_14.At y_14), s_9.2 + 1))) (some (.inl (s_9.1, s_9.2 + 1)))) (some (.inr s_9.1))

def dev_lasts (p_1 : Disk) : Option (List (Int × Write)) :=
  Option.bind (loop (dev_lasts_l1 p_1) (([] : List (Int × Write)), 0)) (fun t_6 => some t_6)

def dev_left (p_1 : Disk) : Option Disk :=
  Option.bind (Option.bind (slices_Clone_byte_L p_1.Blocks) fun x_9 => some x_9) (fun t_6 => Option.bind (dev_lasts (Disk.mk t_6 p_1.Waits)) fun x_22 => layR (fun y : Write => y.Data) t_6 x_22 fun m_30 => Option.bind (dev_Twin (Disk.mk m_30 ([] : List Write))) fun x_50 => some x_50)

def dev_Read_1 (p_2 : Disk) : Option (Disk × Disk) :=
  Option.bind (dev_left p_2) fun x_6 => some (x_6, p_2)

def dev_guarded_v2 (p_1 : Disk) (p_4 : Bool) (p_6 : Disk) : Option (Disk × Int × Disk) :=
  Option.bind (dev_Check p_1) fun x_11 => cond (!decide (x_11 = 0)) (some (Disk.mk ([] : List (List UInt8)) ([] : List Write), x_11, p_6)) (cond (!p_4) (some (Disk.mk ([] : List (List UInt8)) ([] : List Write), 2, p_6)) (Option.bind (dev_Read_1 p_6) fun x_16 => some (x_16.1, 0, x_16.2)))

def dev_Read (p_1 : Disk) (p_4 : Int) : Option (List UInt8 × Int) :=
  Option.bind (Option.bind (dev_place p_4) fun x_9 => Option.bind (dev_guarded_v2 p_1 x_9 p_1) fun x_12 => some (x_12.1.Blocks, x_12.1.Waits, x_12.2.1)) (fun t_6 => cond (!decide (t_6.2.2 = 0)) (some (([] : List UInt8), t_6.2.2)) (idx t_6.1 p_4 fun y_25 => some (y_25, 0)))

def ref09_Great_l2 (p_1 : Disk) (s_22 : Int × Nat) : Option ((Int × Nat) ⊕ Int) :=
  cond (decide (((s_22.2 : Nat) : Int) < (p_1.Waits.length : Int))) (cond (decide (s_22.1 < 2000000)) (idx p_1.Waits ((s_22.2 : Nat) : Int) fun y_27 => some (.inl (w64 (s_22.1 + (y_27.Data.length : Int)), s_22.2 + 1))) (some (.inr s_22.1))) (some (.inr s_22.1))

def ref09_Great_l1 (p_1 : Disk) (s_16 : Int × Nat) : Option ((Int × Nat) ⊕ Int) :=
  cond (decide (((s_16.2 : Nat) : Int) < (p_1.Blocks.length : Int))) (cond (decide (s_16.1 < 2000000)) (idx p_1.Blocks ((s_16.2 : Nat) : Int) fun y_21 => some (.inl (w64 (s_16.1 + (y_21.length : Int)), s_16.2 + 1))) (some (.inr s_16.1))) (some (.inr s_16.1))

def ref09_Great (p_1 : Disk) : Option Bool :=
  Option.bind (cond (decide (500 < (p_1.Blocks.length : Int))) (some (.inr ())) (cond (decide (500 < (p_1.Waits.length : Int))) (cond (decide ((p_1.Waits.length : Int) < 4096)) (some (.inr ())) (cond (decide (4106 < (p_1.Waits.length : Int))) (some (.inr ())) (some (.inl ())))) (cond (decide (4106 < (p_1.Waits.length : Int))) (some (.inr ())) (some (.inl ()))))) (fun t_5 => Sum.elim (fun t_5a => Option.bind (loop (ref09_Great_l1 p_1) (0, 0)) (fun t_13 => Option.bind (loop (ref09_Great_l2 p_1) (t_13, 0)) (fun t_19 => some (decide (2000000 ≤ t_19))))) (fun t_5b => some true) t_5)

end Go.Ow

/- that new memory's bytes do not matter to bytes.Repeat. -/
namespace Go.Ow
set_option linter.unusedVariables false
set_option linter.unusedSimpArgs false

theorem run_go {σ τ : Type} {body : σ → Option (σ ⊕ τ)} {n : Nat} {s s' : σ} (h : body s = some (.inl s')) : run body (n + 1) s = run body n s' := by
  show Option.bind (body s) _ = _
  rw [h]; rfl
end Go.Ow

/- plain functions: what the code computes. -/
namespace Go.Ow
set_option linter.unusedVariables false
set_option linter.unusedSimpArgs false

end Go.Ow

/- plain functions: what the code computes. -/
namespace Go.Ow
set_option linter.unusedVariables false
set_option linter.unusedSimpArgs false

def ptr_sizes : Option (A5 Int) :=
  some (A5.mk 1 3 4 4 4)

def ptr_Write_l1 (p_1 : Ptr) (x_8 : A5 Int) (s_14 : List UInt8 × Nat) : Option ((List UInt8 × Nat) ⊕ (List UInt8)) :=
  cond (decide (((s_14.2 : Nat) : Int) < 5)) (idx x_8.l ((s_14.2 : Nat) : Int) fun y_19 => idx (A5.mk p_1.At (p_1.Birth.toNat : Int) (p_1.Iv.toNat : Int) (p_1.Tag.toNat : Int) (p_1.Sum.toNat : Int)).l ((s_14.2 : Nat) : Int) fun y_21 => Option.bind (code_Put y_21 y_19) fun x_23 => app s_14.1 x_23.1 fun q_27 => some (.inl (q_27, s_14.2 + 1))) (some (.inr s_14.1))

def ptr_Write (p_1 : Ptr) : Option (List UInt8 × Int) :=
  Option.bind (ptr_Check p_1) fun x_3 => cond (!decide (x_3 = 0)) (some (([] : List UInt8), x_3)) (Option.bind (ptr_sizes) fun x_8 => Option.bind (loop (ptr_Write_l1 p_1 x_8) (([] : List UInt8), 0)) (fun t_11 => some (t_11, 0)))

def ptr_Read_l1 (p_1 : List UInt8) (x_6 : A5 Int) (s_12 : Int × Int × Int × Int × Int × Int × Nat) : Option ((Int × Int × Int × Int × Int × Int × Nat) ⊕ (Int × Int × Int × Int × Int)) :=
  cond (decide (((s_12.2.2.2.2.2.2 : Nat) : Int) < 5)) (idx x_6.l ((s_12.2.2.2.2.2.2 : Nat) : Int) fun y_17 => Option.bind (code_Get p_1 s_12.2.2.2.2.2.1 y_17) fun x_19 => chk (0 ≤ ((s_12.2.2.2.2.2.2 : Nat) : Int) ∧ ((s_12.2.2.2.2.2.2 : Nat) : Int).toNat < 5) <| A5.setI (A5.mk s_12.1 s_12.2.1 s_12.2.2.1 s_12.2.2.2.1 s_12.2.2.2.2.1) ((s_12.2.2.2.2.2.2 : Nat) : Int) x_19.1 fun m_23 => some (.inl (m_23.e0, m_23.e1, m_23.e2, m_23.e3, m_23.e4, w64 (s_12.2.2.2.2.2.1 + y_17), s_12.2.2.2.2.2.2 + 1))) (some (.inr (s_12.1, s_12.2.1, s_12.2.2.1, s_12.2.2.2.1, s_12.2.2.2.2.1)))

def ptr_Read (p_1 : List UInt8) : Option (Ptr × Int) :=
  cond (!decide ((p_1.length : Int) = 16)) (some (Ptr.mk 0 (0 : UInt32) (0 : UInt32) (0 : UInt32) (0 : UInt32), 3)) (Option.bind (ptr_sizes) fun x_6 => Option.bind (loop (ptr_Read_l1 p_1 x_6) (0, 0, 0, 0, 0, 0, 0)) (fun t_9 => Option.bind (ptr_Check (Ptr.mk t_9.1 (u32i t_9.2.1) (u32i t_9.2.2.1) (u32i t_9.2.2.2.1) (u32i t_9.2.2.2.2))) fun x_17 => cond (!decide (x_17 = 0)) (some (Ptr.mk 0 (0 : UInt32) (0 : UInt32) (0 : UInt32) (0 : UInt32), x_17)) (some (Ptr.mk t_9.1 (u32i t_9.2.1) (u32i t_9.2.2.1) (u32i t_9.2.2.2.1) (u32i t_9.2.2.2.2), 0))))

end Go.Ow

/- plain functions: what the code computes. -/
namespace Go.Ow
set_option linter.unusedVariables false
set_option linter.unusedSimpArgs false

def ref09_Twin_l2 (p_1 : Disk) (s_44 : List WriteO × Nat) : Option ((List WriteO × Nat) ⊕ (List WriteO)) :=
  cond (decide (((s_44.2 : Nat) : Int) < (p_1.Waits.length : Int))) (idx p_1.Waits ((s_44.2 : Nat) : Int) fun y_50 => idx s_44.1 ((s_44.2 : Nat) : Int) fun y_61 => setI s_44.1 ((s_44.2 : Nat) : Int) (WriteO.mk y_50.At y_61.Data) fun m_74 => idx p_1.Waits ((s_44.2 : Nat) : Int) fun y_78 => idx m_74 ((s_44.2 : Nat) : Int) fun y_89 => chkN y_89.Data <| app ([] : List UInt8) y_78.Data fun q_104 => idx m_74 ((s_44.2 : Nat) : Int) fun y_108 => setI m_74 ((s_44.2 : Nat) : Int) (WriteO.mk y_108.At (some q_104)) fun m_122 => some (.inl (m_122, s_44.2 + 1))) (some (.inr s_44.1))

def ref09_Twin_l1 (p_1 : Disk) (s_34 : List (Option (List UInt8)) × Nat) : Option ((List (Option (List UInt8)) × Nat) ⊕ (List (Option (List UInt8)))) :=
  cond (decide (((s_34.2 : Nat) : Int) < (p_1.Blocks.length : Int))) (idx p_1.Blocks ((s_34.2 : Nat) : Int) fun y_40 => idx s_34.1 ((s_34.2 : Nat) : Int) fun y_51 => chkN y_51 <| app ([] : List UInt8) y_40 fun q_66 => chk (0 ≤ ((s_34.2 : Nat) : Int) ∧ ((s_34.2 : Nat) : Int).toNat < s_34.1.length) <| setI s_34.1 ((s_34.2 : Nat) : Int) (some q_66) fun m_75 => some (.inl (m_75, s_34.2 + 1))) (some (.inr s_34.1))

def ref09_Twin (p_1 : Disk) : Option Disk :=
  Option.bind (mks (p_1.Blocks.length : Int) (none : Option (List UInt8)) fun x_11 => mks (p_1.Waits.length : Int) (WriteO.mk 0 (none : Option (List UInt8))) fun x_15 => some (x_11, x_15)) (fun t_6 => Option.bind (loop (ref09_Twin_l1 p_1) (t_6.1, 0)) (fun t_31 => Option.bind (loop (ref09_Twin_l2 p_1) (t_6.2, 0)) (fun t_41 => some (Disk.mk ((t_31).map (fun y => y.getD [])) ((t_41).map WriteO.w)))))

def ref09_place (p_1 : Int) : Option Bool :=
  Option.bind (cond (decide (0 ≤ p_1)) (some (decide (p_1 < 256))) (some false)) (fun t_2 => some t_2)

def ref09_May_l2 (p_1 : Disk) (s_14 : Int × Nat) : Option ((Int × Nat) ⊕ Int) :=
  cond (decide (((s_14.2 : Nat) : Int) < (p_1.Waits.length : Int))) (cond (decide (((s_14.2 : Nat) : Int) ≤ 4096)) (idx p_1.Waits ((s_14.2 : Nat) : Int) fun y_19 => cond (!decide ((y_19.Data.length : Int) = 256)) (some (.inl (w64 (s_14.1 + 1), s_14.2 + 1))) (idx p_1.Waits ((s_14.2 : Nat) : Int) fun y_31 => Option.bind (ref09_place y_31.At) fun x_42 => cond (!x_42) (some (.inl (w64 (s_14.1 + 1), s_14.2 + 1))) (some (.inl (s_14.1, s_14.2 + 1))))) (some (.inr s_14.1))) (some (.inr s_14.1))

def ref09_May_l1 (p_1 : Disk) (s_8 : Int × Nat) : Option ((Int × Nat) ⊕ Int) :=
  cond (decide (((s_8.2 : Nat) : Int) < (p_1.Blocks.length : Int))) (cond (decide (((s_8.2 : Nat) : Int) ≤ 256)) (idx p_1.Blocks ((s_8.2 : Nat) : Int) fun y_13 => cond (!decide ((y_13.length : Int) = 256)) (some (.inl (w64 (s_8.1 + 1), s_8.2 + 1))) (some (.inl (s_8.1, s_8.2 + 1)))) (some (.inr s_8.1))) (some (.inr s_8.1))

def ref09_May (p_1 : Disk) : Option Bool :=
  Option.bind (loop (ref09_May_l1 p_1) (0, 0)) (fun t_5 => Option.bind (loop (ref09_May_l2 p_1) (t_5, 0)) (fun t_11 => Option.bind (cond (decide (t_11 = 0)) (cond (decide ((p_1.Blocks.length : Int) = 256)) (some (decide ((p_1.Waits.length : Int) ≤ 4096))) (some false)) (some false)) (fun t_17 => some t_17)))

def ref10_None (p_1 : Ptr) : Option Bool :=
  some (decide (p_1.At = 0) && (decide (p_1.Birth = (0 : UInt32)) && (decide (p_1.Iv = (0 : UInt32)) && (decide (p_1.Tag = (0 : UInt32)) && (decide (p_1.Sum = (0 : UInt32)) && true)))))

def ref10_May (p_1 : Ptr) : Option Bool :=
  Option.bind (Option.bind (ref10_None p_1) fun x_6 => cond x_6 (some true) (cond (decide (12 ≤ p_1.At)) (cond (decide (p_1.At < 256)) (cond (decide ((1 : UInt32) ≤ p_1.Birth)) (some (decide (p_1.Birth ≤ (16777215 : UInt32)))) (some false)) (some false)) (some false))) (fun t_3 => some t_3)

def ref09_last_l1 (p_1 : Disk) (p_4 : List Bool) (p_6 : Int) (s_11 : Int) : Option (Int ⊕ Int) :=
  Option.bind (cond (decide (0 ≤ s_11)) (idx p_1.Waits s_11 fun y_18 => cond (decide (y_18.At = p_6)) (cond (decide ((p_4.length : Int) = 0)) (some (.inr ())) (idx p_4 s_11 fun y_31 => cond (!y_31) (some (.inl ())) (some (.inr ())))) (some (.inl ()))) (some (.inr ()))) (fun t_14 => Sum.elim (fun t_14a => some (.inl (w64 (s_11 - 1)))) (fun t_14b => some (.inr s_11)) t_14)

def ref09_last (p_1 : Disk) (p_4 : List Bool) (p_6 : Int) : Option Int :=
  Option.bind (loop (ref09_last_l1 p_1 p_4 p_6) (w64 ((p_1.Waits.length : Int) - 1))) (fun t_8 => some t_8)

def ref09_left (p_1 : Disk) (p_4 : List Bool) (p_6 : Int) : Option (List UInt8) :=
  Option.bind (ref09_last p_1 p_4 p_6) fun x_8 => cond (decide (x_8 < 0)) (idx p_1.Blocks p_6 fun y_12 => app ([] : List UInt8) y_12 fun q_24 => some q_24) (idx p_1.Waits x_8 fun y_28 => app ([] : List UInt8) y_28.Data fun q_40 => some q_40)

def ref09_Seen (p_1 : Disk) (p_4 : Int) : Option (List UInt8) :=
  Option.bind (ref09_left p_1 ([] : List Bool) p_4) fun x_6 => some x_6

def ref02_byteAt (p_1 : List UInt8) (p_3 : Int) : Option UInt32 :=
  cond (decide (p_3 < (p_1.length : Int))) (idx p_1 p_3 fun y_5 => some y_5.toUInt32) (cond (decide (p_3 = (p_1.length : Int))) (some (1 : UInt32)) (some (0 : UInt32)))

def ref02_word (p_1 : List UInt8) (p_3 : Int) : Option UInt32 :=
  Option.bind (ref02_byteAt p_1 p_3) fun x_4 => Option.bind (ref02_byteAt p_1 (w64 (p_3 + 1))) fun x_7 => Option.bind (ref02_byteAt p_1 (w64 (p_3 + 2))) fun x_10 => Option.bind (ref02_byteAt p_1 (w64 (p_3 + 3))) fun x_13 => some (((x_4 + ((256 : UInt32) * x_7)) + ((65536 : UInt32) * x_10)) + ((16777216 : UInt32) * x_13))

def ref02_plus (p_1 : UInt32) (p_2 : UInt32) : Option UInt32 :=
  some (u32i ((w64 ((p_1.toNat : Int) + (p_2.toNat : Int))).tmod 4294967296))

def ref02_left_l1 (p_2 : Int) (s_6 : Int × Int) : Option ((Int × Int) ⊕ Int) :=
  cond (decide (s_6.2 < p_2)) (some (.inl (w64 (((w64 (s_6.1 * 2)).tmod 4294967296) + (w64 ((w64 (s_6.1 * 2)).tdiv 4294967296))), w64 (s_6.2 + 1)))) (some (.inr s_6.1))

def ref02_left (p_1 : UInt32) (p_2 : Int) : Option UInt32 :=
  Option.bind (loop (ref02_left_l1 p_2) ((p_1.toNat : Int), 0)) (fun t_3 => some (u32i t_3))

def ref02_Turn (p_1 : A4 UInt32) : Option (A4 UInt32) :=
  Option.bind (ref02_plus p_1.e0 p_1.e1) fun x_4 => Option.bind (ref02_left (p_1.e3 ^^^ x_4) 15) fun x_7 => Option.bind (ref02_plus p_1.e2 x_7) fun x_10 => Option.bind (ref02_left (p_1.e1 ^^^ x_10) 11) fun x_13 => Option.bind (ref02_plus x_4 x_13) fun x_16 => Option.bind (ref02_left (x_7 ^^^ x_16) 9) fun x_19 => Option.bind (ref02_plus x_10 x_19) fun x_22 => Option.bind (ref02_left (x_13 ^^^ x_22) 6) fun x_25 => some (A4.mk x_16 x_25 x_22 x_19)

def ref02_Four_l1 (p_1 : List UInt8) (s_8 : UInt32 × UInt32 × UInt32 × UInt32 × Int) : Option ((UInt32 × UInt32 × UInt32 × UInt32 × Int) ⊕ (UInt32 × UInt32 × UInt32 × UInt32)) :=
  cond (decide (s_8.2.2.2.2 ≤ (p_1.length : Int))) (Option.bind (Option.bind (ref02_word p_1 s_8.2.2.2.2) fun x_15 => some (s_8.1 ^^^ x_15)) (fun t_12 => Option.bind (Option.bind (ref02_word p_1 (w64 (s_8.2.2.2.2 + 4))) fun x_24 => some (s_8.2.2.1 ^^^ x_24)) (fun t_21 => Option.bind (ref02_Turn (A4.mk t_12 s_8.2.1 t_21 s_8.2.2.2.1)) fun x_30 => Option.bind (ref02_Turn x_30) fun x_33 => Option.bind (ref02_Turn x_33) fun x_36 => Option.bind (ref02_Turn x_36) fun x_39 => some (.inl (x_39.e0, x_39.e1, x_39.e2, x_39.e3, w64 (s_8.2.2.2.2 + 8)))))) (some (.inr (s_8.1, s_8.2.1, s_8.2.2.1, s_8.2.2.2.1)))

def ref02_Four (p_1 : List UInt8) : Option (A4 UInt32) :=
  Option.bind (loop (ref02_Four_l1 p_1) ((1 : UInt32), (2 : UInt32), (3 : UInt32), (4 : UInt32), 0)) (fun t_5 => Option.bind (ref02_Turn (A4.mk t_5.1 (t_5.2.1 ^^^ (u32i (p_1.length : Int))) t_5.2.2.1 t_5.2.2.2)) fun x_11 => Option.bind (ref02_Turn x_11) fun x_14 => Option.bind (ref02_Turn x_14) fun x_17 => Option.bind (ref02_Turn x_17) fun x_20 => Option.bind (ref02_Turn x_20) fun x_23 => Option.bind (ref02_Turn x_23) fun x_26 => Option.bind (ref02_Turn x_26) fun x_29 => Option.bind (ref02_Turn x_29) fun x_32 => some x_32)

def ref02_Sum (p_1 : List UInt8) : Option UInt32 :=
  Option.bind (ref02_Four p_1) fun x_3 => some x_3.e0

def ref10_Get_l1 (p_1 : List UInt8) (s_6 : UInt32 × Int) : Option ((UInt32 × Int) ⊕ UInt32) :=
  cond (decide (0 ≤ s_6.2)) (idx p_1 s_6.2 fun y_10 => some (.inl (((256 : UInt32) * s_6.1) + y_10.toUInt32, w64 (s_6.2 - 1)))) (some (.inr s_6.1))

def ref10_Get (p_1 : List UInt8) : Option UInt32 :=
  Option.bind (loop (ref10_Get_l1 p_1) ((0 : UInt32), w64 ((p_1.length : Int) - 1))) (fun t_3 => some t_3)

def ref10_Read (p_1 : List UInt8) : Option (Ptr × Int) :=
  cond (!decide ((p_1.length : Int) = 16)) (some (Ptr.mk 0 (0 : UInt32) (0 : UInt32) (0 : UInt32) (0 : UInt32), 3)) (idx p_1 0 fun y_5 => slc p_1 1 4 fun m_14 => slc p_1 4 8 fun m_18 => slc p_1 8 12 fun m_22 => slc p_1 12 16 fun m_26 => Option.bind (ref10_Get m_14) fun x_32 => Option.bind (ref10_Get m_18) fun x_37 => Option.bind (ref10_Get m_22) fun x_42 => Option.bind (ref10_Get m_26) fun x_47 => Option.bind (ref10_May (Ptr.mk (y_5.toNat : Int) x_32 x_37 x_42 x_47)) fun x_51 => cond (!x_51) (some (Ptr.mk 0 (0 : UInt32) (0 : UInt32) (0 : UInt32) (0 : UInt32), 8)) (some (Ptr.mk (y_5.toNat : Int) x_32 x_37 x_42 x_47, 0)))

def ref10_Number_l1 (p_2 : Int) (s_6 : UInt32 × List UInt8 × Int) : Option ((UInt32 × List UInt8 × Int) ⊕ (List UInt8)) :=
  cond (decide (s_6.2.2 < p_2)) (app s_6.2.1 ([(s_6.1 % (256 : UInt32)).toUInt8]) fun q_12 => some (.inl (s_6.1 / (256 : UInt32), q_12, w64 (s_6.2.2 + 1)))) (some (.inr s_6.2.1))

def ref10_Number (p_1 : UInt32) (p_2 : Int) : Option (List UInt8) :=
  Option.bind (loop (ref10_Number_l1 p_2) (p_1, ([] : List UInt8), 0)) (fun t_3 => some t_3)

def ref10_Bytes (p_1 : Ptr) : Option (List UInt8) :=
  Option.bind (Option.bind (ref10_Number p_1.Birth 3) fun x_7 => app ([u8i p_1.At]) x_7 fun q_11 => some q_11) (fun t_3 => Option.bind (ref10_Number p_1.Iv 4) fun x_16 => app t_3 x_16 fun q_20 => Option.bind (ref10_Number p_1.Tag 4) fun x_24 => app q_20 x_24 fun q_28 => Option.bind (ref10_Number p_1.Sum 4) fun x_32 => app q_28 x_32 fun q_36 => some q_36)

def ref09_Same_l2 (p_1 : Disk) (p_4 : Disk) (s_20 : Int × Nat) : Option ((Int × Nat) ⊕ Int) :=
  cond (decide (((s_20.2 : Nat) : Int) < (p_1.Waits.length : Int))) (idx p_1.Waits ((s_20.2 : Nat) : Int) fun y_24 => idx p_4.Waits ((s_20.2 : Nat) : Int) fun y_36 => cond (!decide (y_24.At = y_36.At)) (some (.inl (w64 (s_20.1 + 1), s_20.2 + 1))) (cond (!decide (y_24.Data = y_36.Data)) (some (.inl (w64 (s_20.1 + 1), s_20.2 + 1))) (some (.inl (s_20.1, s_20.2 + 1))))) (some (.inr s_20.1))

def ref09_Same_l1 (p_1 : Disk) (p_4 : Disk) (s_14 : Int × Nat) : Option ((Int × Nat) ⊕ Int) :=
  cond (decide (((s_14.2 : Nat) : Int) < (p_1.Blocks.length : Int))) (idx p_1.Blocks ((s_14.2 : Nat) : Int) fun y_18 => idx p_4.Blocks ((s_14.2 : Nat) : Int) fun y_29 => cond (!decide (y_18 = y_29)) (some (.inl (w64 (s_14.1 + 1), s_14.2 + 1))) (some (.inl (s_14.1, s_14.2 + 1)))) (some (.inr s_14.1))

def ref09_Same (p_1 : Disk) (p_4 : Disk) : Option Bool :=
  cond (!decide ((p_1.Blocks.length : Int) = (p_4.Blocks.length : Int))) (some false) (cond (!decide ((p_1.Waits.length : Int) = (p_4.Waits.length : Int))) (some false) (Option.bind (loop (ref09_Same_l1 p_1 p_4) (0, 0)) (fun t_11 => Option.bind (loop (ref09_Same_l2 p_1 p_4) (t_11, 0)) (fun t_17 => some (decide (t_17 = 0))))))

end Go.Ow

/- plain functions: what the code computes. -/
namespace Go.Ow
set_option linter.unusedVariables false
set_option linter.unusedSimpArgs false

def label_may (p_1 : Label) : Option Bool :=
  Option.bind (cond (decide ((1 : UInt32) ≤ p_1.Gen)) (cond (decide (p_1.Gen ≤ (16777215 : UInt32))) (cond (decide ((1 : UInt32) ≤ p_1.Epoch)) (cond (decide (p_1.Epoch ≤ (65535 : UInt32))) (cond (!(decide (p_1.Root.At = 0) && (decide (p_1.Root.Birth = (0 : UInt32)) && (decide (p_1.Root.Iv = (0 : UInt32)) && (decide (p_1.Root.Tag = (0 : UInt32)) && (decide (p_1.Root.Sum = (0 : UInt32)) && true)))))) (Option.bind (ptr_Check (Ptr.mk p_1.Root.At p_1.Root.Birth p_1.Root.Iv p_1.Root.Tag p_1.Root.Sum)) fun x_11 => some (decide (x_11 = 0))) (some false)) (some false)) (some false)) (some false)) (some false)) (fun t_3 => some t_3)

def label_Slot (p_1 : UInt32) : Option Int :=
  some ((p_1 % (4 : UInt32)).toNat : Int)

def label_block (p_1 : Label) : Option (List UInt8) :=
  Option.bind (code_Put (p_1.Gen.toNat : Int) 4) fun x_3 => Option.bind (code_Put (p_1.Epoch.toNat : Int) 4) fun x_7 => Option.bind (ptr_Write (Ptr.mk p_1.Root.At p_1.Root.Birth p_1.Root.Iv p_1.Root.Tag p_1.Root.Sum)) fun x_11 => app ([(67 : UInt8)]) x_3.1 fun q_16 => app q_16 x_7.1 fun q_20 => app q_20 x_11.1 fun q_24 => Option.bind (mix_Sum q_24) fun x_31 => Option.bind (code_Put (x_31.toNat : Int) 4) fun x_33 => app q_24 x_33.1 fun q_37 => mks 227 (0 : UInt8) fun z_43 => app q_37 z_43 fun q_44 => some q_44

def label_Put (p_1 : Disk) (p_4 : Label) : Option (Disk × Int) :=
  Option.bind (dev_Check p_1) fun x_8 => cond (!decide (x_8 = 0)) (some (Disk.mk ([] : List (List UInt8)) ([] : List Write), x_8)) (Option.bind (label_may p_4) fun x_12 => cond (!x_12) (some (Disk.mk ([] : List (List UInt8)) ([] : List Write), 8)) (Option.bind (label_Slot p_4.Gen) fun x_16 => Option.bind (label_block p_4) fun x_19 => Option.bind (dev_Write p_1 x_16 x_19) fun x_24 => some (x_24.1, x_24.2)))

def ref11_May (p_1 : Label) : Option Bool :=
  Option.bind (cond (decide ((1 : UInt32) ≤ p_1.Gen)) (cond (decide (p_1.Gen ≤ (16777215 : UInt32))) (cond (decide ((1 : UInt32) ≤ p_1.Epoch)) (cond (decide (p_1.Epoch ≤ (65535 : UInt32))) (Option.bind (ref10_May (Ptr.mk p_1.Root.At p_1.Root.Birth p_1.Root.Iv p_1.Root.Tag p_1.Root.Sum)) fun x_10 => cond x_10 (Option.bind (ref10_None (Ptr.mk p_1.Root.At p_1.Root.Birth p_1.Root.Iv p_1.Root.Tag p_1.Root.Sum)) fun x_14 => some (!x_14)) (some false)) (some false)) (some false)) (some false)) (some false)) (fun t_3 => some t_3)

def ref11_Slot (p_1 : UInt32) : Option Int :=
  some ((p_1 % (4 : UInt32)).toNat : Int)

def ref11_Block (p_1 : Label) : Option (List UInt8) :=
  Option.bind (ref10_Number p_1.Gen 4) fun x_4 => app ([(67 : UInt8)]) x_4 fun q_8 => Option.bind (ref10_Number p_1.Epoch 4) fun x_12 => app q_8 x_12 fun q_16 => Option.bind (ref10_Bytes (Ptr.mk p_1.Root.At p_1.Root.Birth p_1.Root.Iv p_1.Root.Tag p_1.Root.Sum)) fun x_20 => app q_16 x_20 fun q_24 => Option.bind (ref02_Sum q_24) fun x_31 => Option.bind (ref10_Number x_31 4) fun x_33 => app q_24 x_33 fun q_37 => mks 227 (0 : UInt8) fun z_43 => app q_37 z_43 fun q_44 => some q_44

def ref09_With (p_1 : Disk) (p_4 : Int) (p_5 : List UInt8) : Option Disk :=
  Option.bind (ref09_Twin p_1) fun x_9 => Option.bind (app ([] : List UInt8) p_5 fun q_19 => app x_9.Waits ([Write.mk p_4 q_19]) fun q_25 => some q_25) (fun t_15 => some (Disk.mk x_9.Blocks t_15))

def ref11_With (p_1 : Disk) (p_4 : Label) : Option Disk :=
  Option.bind (ref11_Slot p_4.Gen) fun x_8 => Option.bind (ref11_Block p_4) fun x_11 => Option.bind (ref09_With p_1 x_8 x_11) fun x_16 => some x_16

def ref11_Put (p_1 : Disk) (p_4 : Label) : Option (Disk × Int) :=
  Option.bind (ref09_May p_1) fun x_8 => cond (!x_8) (some (Disk.mk ([] : List (List UInt8)) ([] : List Write), 8)) (Option.bind (ref11_May p_4) fun x_12 => cond (!x_12) (some (Disk.mk ([] : List (List UInt8)) ([] : List Write), 8)) (cond (decide (4096 ≤ (p_1.Waits.length : Int))) (some (Disk.mk ([] : List (List UInt8)) ([] : List Write), 9)) (Option.bind (ref11_With p_1 p_4) fun x_17 => some (x_17, 0))))

def bytes_Equal (p_1 : List UInt8) (p_3 : List UInt8) : Option Bool :=
  some (decide (p_1 = p_3))

def label_read (p_1 : List UInt8) : Option (Label × Bool) :=
  Option.bind (code_Get p_1 1 4) fun x_4 => Option.bind (code_Get p_1 5 4) fun x_7 => slc p_1 9 25 fun m_10 => Option.bind (ptr_Read m_10) fun x_14 => Option.bind (cond (decide (x_14.2 = 0)) (Option.bind (label_may (Label.mk (u32i x_4.1) (u32i x_7.1) (Ptr.mk x_14.1.At x_14.1.Birth x_14.1.Iv x_14.1.Tag x_14.1.Sum))) fun x_22 => cond x_22 (Option.bind (label_block (Label.mk (u32i x_4.1) (u32i x_7.1) (Ptr.mk x_14.1.At x_14.1.Birth x_14.1.Iv x_14.1.Tag x_14.1.Sum))) fun x_26 => Option.bind (bytes_Equal x_26 p_1) fun x_33 => some x_33) (some false)) (some false)) (fun t_18 => some (Label.mk (u32i x_4.1) (u32i x_7.1) (Ptr.mk x_14.1.At x_14.1.Birth x_14.1.Iv x_14.1.Tag x_14.1.Sum), t_18))

def cmp_isNaN_uint32 (p_1 : UInt32) : Option Bool :=
  some (!decide (p_1 = p_1))

def cmp_Compare_uint32 (p_1 : UInt32) (p_2 : UInt32) : Option Int :=
  Option.bind (cmp_isNaN_uint32 p_1) fun x_3 => Option.bind (cmp_isNaN_uint32 p_2) fun x_6 => cond x_3 (cond x_6 (some 0) (some (-1))) (cond x_6 (some 1) (cond (decide (p_1 < p_2)) (some (-1)) (cond (decide (p_2 < p_1)) (some 1) (some 0))))

def label_Find_1 (p_1 : Label) (p_2 : Label) : Option Int :=
  Option.bind (cmp_Compare_uint32 p_2.Gen p_1.Gen) fun x_5 => some x_5

def slices_SortFunc_Label_label_Find_1 (p_1 : List Label) : Option (List Label) := if p_1.length < 4611686018427387904 then some (sortL (fun x y => (label_Find_1 x y).getD 0) p_1) else none

def label_Find_l1 (p_1 : Disk) (s_12 : List Label × Nat) : Option ((List Label × Nat) ⊕ (List Label)) :=
  cond (decide (((s_12.2 : Nat) : Int) < 4)) (Option.bind (dev_Read p_1 ((s_12.2 : Nat) : Int)) fun x_18 => Option.bind (label_read x_18.1) fun x_22 => cond x_22.2 (Option.bind (label_Slot x_22.1.Gen) fun x_27 => cond (decide (x_27 = ((s_12.2 : Nat) : Int))) (app s_12.1 ([x_22.1]) fun q_32 => some (.inl (q_32, s_12.2 + 1))) (some (.inl (s_12.1, s_12.2 + 1)))) (some (.inl (s_12.1, s_12.2 + 1)))) (some (.inr s_12.1))

def label_Find (p_1 : Disk) : Option (List Label × Int) :=
  Option.bind (dev_Check p_1) fun x_5 => cond (!decide (x_5 = 0)) (some (([] : List Label), x_5)) (Option.bind (loop (label_Find_l1 p_1) (([] : List Label), 0)) (fun t_9 => Option.bind (slices_SortFunc_Label_label_Find_1 t_9) fun x_19 => some (x_19, 0)))

def ref11_of (p_1 : List UInt8) : Option (Label × Bool) :=
  slc p_1 9 25 fun m_4 => Option.bind (ref10_Read m_4) fun x_8 => slc p_1 1 5 fun m_12 => slc p_1 5 9 fun m_16 => Option.bind (ref10_Get m_12) fun x_22 => Option.bind (ref10_Get m_16) fun x_27 => Option.bind (cond (decide (x_8.2 = 0)) (Option.bind (ref11_May (Label.mk x_22 x_27 (Ptr.mk x_8.1.At x_8.1.Birth x_8.1.Iv x_8.1.Tag x_8.1.Sum))) fun x_35 => cond x_35 (Option.bind (ref11_Block (Label.mk x_22 x_27 (Ptr.mk x_8.1.At x_8.1.Birth x_8.1.Iv x_8.1.Tag x_8.1.Sum))) fun x_39 => some (decide (x_39 = p_1))) (some false)) (some false)) (fun t_31 => some (Label.mk x_22 x_27 (Ptr.mk x_8.1.At x_8.1.Birth x_8.1.Iv x_8.1.Tag x_8.1.Sum), t_31))

def ref11_Stand_l1 (s_8 : List Label × Nat) (x_20 : Label × Bool) (s_31 : List Label × Bool × Nat) : Option ((List Label × Bool × Nat) ⊕ (List Label × Bool)) :=
  cond (decide (((s_31.2.2 : Nat) : Int) < (s_8.1.length : Int))) (Option.bind (cond (!s_31.2.1) (idx s_8.1 ((s_31.2.2 : Nat) : Int) fun y_40 => cond (decide (y_40.Gen < x_20.1.Gen)) (app s_31.1 ([x_20.1]) fun q_53 => some (q_53, true)) (some (s_31.1, s_31.2.1))) (some (s_31.1, s_31.2.1))) (fun t_36 => idx s_8.1 ((s_31.2.2 : Nat) : Int) fun y_58 => app t_36.1 ([y_58]) fun q_70 => some (.inl (q_70, t_36.2, s_31.2.2 + 1)))) (some (.inr (s_31.1, s_31.2.1)))

def ref11_Stand_l2 (p_1 : Disk) (s_8 : List Label × Nat) : Option ((List Label × Nat) ⊕ (List Label)) :=
  cond (decide (((s_8.2 : Nat) : Int) < 4)) (Option.bind (ref09_Seen p_1 ((s_8.2 : Nat) : Int)) fun x_13 => Option.bind (ref11_of x_13) fun x_20 => cond (!x_20.2) (some (.inl (s_8.1, s_8.2 + 1))) (Option.bind (ref11_Slot x_20.1.Gen) fun x_24 => cond (!decide (x_24 = ((s_8.2 : Nat) : Int))) (some (.inl (s_8.1, s_8.2 + 1))) (Option.bind (loop (ref11_Stand_l1 s_8 x_20) (([] : List Label), false, 0)) (fun t_28 => cond (!t_28.2) (app t_28.1 ([x_20.1]) fun q_38 => some (.inl (q_38, s_8.2 + 1))) (some (.inl (t_28.1, s_8.2 + 1))))))) (some (.inr s_8.1))

def ref11_Stand (p_1 : Disk) : Option (List Label) :=
  Option.bind (loop (ref11_Stand_l2 p_1) (([] : List Label), 0)) (fun t_5 => some t_5)

def ref11_Find (p_1 : Disk) : Option (List Label × Int) :=
  Option.bind (ref09_May p_1) fun x_5 => cond (!x_5) (some (([] : List Label), 8)) (Option.bind (ref11_Stand p_1) fun x_9 => some (x_9, 0))

def law11_LabelRing_l2 (x_25 : Disk × Int) (s_74 : Nat) : Option (Nat ⊕ Unit) :=
  cond (decide (((s_74 : Nat) : Int) < (x_25.1.Waits.length : Int))) (idx x_25.1.Waits ((s_74 : Nat) : Int) fun y_80 => idx x_25.1.Waits ((s_74 : Nat) : Int) fun y_91 => idx y_91.Data 0 fun y_112 => idx y_80.Data 0 fun y_126 => some (.inl (s_74 + 1))) (some (.inr ()))

def law11_LabelRing_l1 (x_37 : List Label × Int) (x_41 : List Label × Int) (s_64 : Nat) : Option (Nat ⊕ (Unit ⊕ Unit)) :=
  cond (decide (((s_64 : Nat) : Int) < (x_37.1.length : Int))) (idx x_37.1 ((s_64 : Nat) : Int) fun y_68 => idx x_41.1 ((s_64 : Nat) : Int) fun y_79 => cond (!(decide (y_68.Gen = y_79.Gen) && (decide (y_68.Epoch = y_79.Epoch) && ((decide (y_68.Root.At = y_79.Root.At) && (decide (y_68.Root.Birth = y_79.Root.Birth) && (decide (y_68.Root.Iv = y_79.Root.Iv) && (decide (y_68.Root.Tag = y_79.Root.Tag) && (decide (y_68.Root.Sum = y_79.Root.Sum) && true))))) && true)))) (some (.inr (.inr ()))) (some (.inl (s_64 + 1)))) (some (.inr (.inl ())))

def law11_LabelRing (p_1 : Disk) (p_4 : Label) : Option Bool :=
  Option.bind (ref09_Great p_1) fun x_7 => cond x_7 (some true) (Option.bind (ref09_Twin p_1) fun x_11 => Option.bind (label_Put x_11 p_4) fun x_25 => Option.bind (ref11_Put p_1 p_4) fun x_31 => Option.bind (label_Find x_11) fun x_37 => Option.bind (ref11_Find p_1) fun x_41 => Option.bind (ref09_Same x_25.1 x_31.1) fun x_48 => cond (!x_48) (some false) (cond (!decide (x_25.2 = x_31.2)) (some false) (cond (!decide ((x_37.1.length : Int) = (x_41.1.length : Int))) (some false) (cond (!decide (x_37.2 = x_41.2)) (some false) (Option.bind (label_Slot p_4.Gen) fun x_54 => Option.bind (ref11_Slot p_4.Gen) fun x_57 => cond (!decide (x_54 = x_57)) (some false) (Option.bind (loop (law11_LabelRing_l1 x_37 x_41) 0) (fun t_61 => Sum.elim (fun t_61a => Option.bind (loop (law11_LabelRing_l2 x_25) 0) (fun t_71 => Option.bind (ref09_Same x_11 p_1) fun x_81 => some x_81)) (fun t_61b => some false) t_61)))))))
end Go.Ow

/-
  What is proved here: the order of labels computes, and is a strict weak order.
-/
namespace Go.Ow
set_option linter.unusedVariables false
set_option linter.unusedSimpArgs false
open Go.Sort Go.Proofs
def cmpU (a b : UInt32) : Int := if a < b then -1 else if b < a then 1 else 0
theorem cmp_Compare_uint32_eq (a b : UInt32) : cmp_Compare_uint32 a b = some (cmpU a b) := by
  unfold cmp_Compare_uint32 cmp_isNaN_uint32 cmpU
  by_cases h1 : a < b
  · simp [h1]
  · by_cases h2 : b < a <;> simp [h1, h2]
theorem label_Find_1_eq (x y : Label) : label_Find_1 x y = some (cmpU y.Gen x.Gen) := by
  unfold label_Find_1; rw [cmp_Compare_uint32_eq]; rfl
theorem label_Find_1_tot (x y : Label) : ∃ r, label_Find_1 x y = some r := ⟨_, label_Find_1_eq x y⟩
theorem label_Find_1_lt (x y : Label) : ltOf (fun x y => (label_Find_1 x y).getD 0) x y = decide (y.Gen < x.Gen) := by
  unfold ltOf
  simp only [label_Find_1_eq, Option.getD_some, cmpU]
  by_cases h1 : y.Gen < x.Gen
  · simp [h1]
  · by_cases h2 : x.Gen < y.Gen <;> simp [h1, h2]
theorem label_Find_1_swo : SWO (ltOf fun x y => (label_Find_1 x y).getD 0) where
  irrefl x := by rw [label_Find_1_lt]; simp
  trans x y z h1 h2 := by rw [label_Find_1_lt] at *; simp [UInt32.lt_iff_toNat_lt] at *; omega
  ntrans x y z h1 h2 := by rw [label_Find_1_lt] at *; simp [UInt32.lt_iff_toNat_lt, UInt32.le_iff_toNat_le] at *; omega
end Go.Ow

/-
  What is proved here: loops over the elements of a list, told by recursion over the list: plain lists alone.
-/
namespace Go.Ow
set_option linter.unusedVariables false
set_option linter.unusedSimpArgs false
variable {α σ ρ τ : Type}

/-- how a loop that goes on behind the element ends -/
def goesOn (st : ρ → σ) : ρ ⊕ τ → Option (σ ⊕ τ)
  | .inl r => some (.inl (st r))
  | .inr t => some (.inr t)
def ends (fin : ρ → τ) : ρ ⊕ τ → Option τ
  | .inl r => some (fin r)
  | .inr t => some t
/-- a loop over the elements of a list: what is carried is told by a recursion over the list -/
theorem loop_each (l : List α) (st : Nat → ρ → σ) {body : σ → Option (σ ⊕ τ)} (f : α → ρ → Option (ρ ⊕ τ)) (fin : ρ → τ) (I : Nat → ρ → Prop)
    (step : ∀ i (h : i < l.length) r, I i r → body (st i r) = Option.bind (f l[i] r) (goesOn (st (i + 1)))) (inv : ∀ i (h : i < l.length) r r', I i r → f l[i] r = some (.inl r') → I (i + 1) r')
    (stop : ∀ r, I l.length r → body (st l.length r) = some (.inr (fin r))) (hl : l.length < FUEL) {r0 : ρ} (h0 : I 0 r0) :
    loop body (st 0 r0) = Option.bind (forL f l r0) (ends fin) := by
  have key : ∀ (k i : Nat) (r : ρ) (n : Nat), i + k = l.length → k < n → I i r → run body n (st i r) = Option.bind (forL f (l.drop i) r) (ends fin) := by
    intro k
    induction k with
    | zero =>
      intro i r n hi hn hI
      obtain rfl : i = l.length := by omega
      obtain ⟨n, rfl⟩ : ∃ m, n = m + 1 := ⟨n - 1, by omega⟩
      show Option.bind (body (st l.length r)) _ = _
      rw [stop r hI, List.drop_length]; rfl
    | succ k ih =>
      intro i r n hi hn hI
      have hlt : i < l.length := by omega
      obtain ⟨n, rfl⟩ : ∃ m, n = m + 1 := ⟨n - 1, by omega⟩
      show Option.bind (body (st i r)) _ = _
      rw [step i hlt r hI, List.drop_eq_getElem_cons hlt]
      show _ = Option.bind (Option.bind (f l[i] r) _) _
      cases hf : f l[i] r with
      | none => rfl
      | some o =>
        cases o with
        | inl r' => exact ih (i + 1) r' n (by omega) (by omega) (inv i hlt r r' hI hf)
        | inr t => rfl
  have := key l.length 0 r0 FUEL (by omega) hl h0
  simpa [loop] using this
/-- the same, where nothing is known of what is carried -/
theorem loop_each' (l : List α) (st : Nat → ρ → σ) {body : σ → Option (σ ⊕ τ)} (f : α → ρ → Option (ρ ⊕ τ)) (fin : ρ → τ)
    (step : ∀ i (h : i < l.length) r, body (st i r) = Option.bind (f l[i] r) (goesOn (st (i + 1)))) (stop : ∀ r, body (st l.length r) = some (.inr (fin r))) (hl : l.length < FUEL) (r0 : ρ) :
    loop body (st 0 r0) = Option.bind (forL f l r0) (ends fin) :=
  loop_each l st f fin (fun _ _ => True) (fun i h r _ => step i h r) (fun _ _ _ _ _ _ => trivial) (fun r _ => stop r) hl trivial
theorem forL_map (g : ρ → α → ρ) : ∀ (l : List α) (r : ρ), forL (fun y r => some (.inl (g r y) : ρ ⊕ τ)) l r = some (.inl (l.foldl g r))
  | [], r => rfl
  | y :: l, r => by rw [forL_cons (s' := g r y) rfl, forL_map g l]; rfl
theorem cI {n m : Nat} {β : Type} {a b : β} : (bif decide ((n : Int) < (m : Int)) then a else b) = if n < m then a else b := by
  by_cases h : n < m
  · rw [if_pos h, decide_eq_true (by omega)]; rfl
  · rw [if_neg h, decide_eq_false (by omega)]; rfl
end Go.Ow

/-
  What is proved here: the disk in plain words: what may be, a twin, a write, what is seen.
-/
namespace Go.Ow
set_option linter.unusedVariables false
set_option linter.unusedSimpArgs false

def okW (w : Write) : Bool := decide (0 ≤ w.At ∧ w.At < 256) && decide (w.Data.length = 256)
def OKD (d : Disk) : Prop := d.Blocks.length = 256 ∧ d.Waits.length ≤ 4096 ∧ (∀ b ∈ d.Blocks, b.length = 256) ∧ ∀ w ∈ d.Waits, okW w = true
instance (d : Disk) : Decidable (OKD d) := by unfold OKD; infer_instance
/-- no disk is larger than the machine's numbers -/
structure Sized (d : Disk) : Prop where
  blocks : d.Blocks.length ≤ 9223372036854775807
  waits : d.Waits.length ≤ 9223372036854775807
  at' : ∀ w ∈ d.Waits, InI64 w.At

theorem dev_place_eq {n : Int} (h : InI64 n) : dev_place n = some (decide (0 ≤ n ∧ n < 256)) := by
  unfold dev_place u64i
  congr 1
  apply decide_eq_decide.2
  rw [UInt64.lt_iff_toNat_lt, UInt64.toNat_ofNat']
  obtain ⟨h1, h2⟩ := h
  show _ % 18446744073709551616 < (256 : UInt64).toNat ↔ _
  rw [show (256 : UInt64).toNat = 256 from rfl]
  omega
theorem small_lt {n : Nat} (h : n ≤ 9223372036854775807) : n < FUEL := Nat.lt_of_le_of_lt h (by decide)

theorem check_l1 (d : Disk) (ok : Bool) (h : d.Blocks.length ≤ 9223372036854775807) : loop (dev_Check_l1 d) (ok, 0) = some (ok && d.Blocks.all fun b => decide (b.length = 256)) := by
  rw [loop_each' d.Blocks (fun i (r : Bool) => (r, i)) (fun b r => some (.inl (r && decide (b.length = 256)))) (fun r => r) (fun i hi r => ?_) (fun r => ?_) (small_lt h) ok, forL_map]
  · show some _ = some _
    congr 1
    generalize d.Blocks = l
    induction l generalizing ok with
    | nil => simp
    | cons b l ih => simp only [List.foldl_cons, ih, List.all_cons, Bool.and_assoc]
  · unfold dev_Check_l1
    rw [cI, if_pos hi, Zx _ hi]
    cases r
    · rfl
    · simp only [cond_true, Option.bind_some, goesOn, Bool.true_and]
      rw [show decide ((d.Blocks[i].length : Int) = 256) = decide (d.Blocks[i].length = 256) from decide_eq_decide.2 (by omega)]
  · unfold dev_Check_l1
    rw [cI, if_neg (by omega)]
theorem check_l2 (d : Disk) (ok : Bool) (h : Sized d) : loop (dev_Check_l2 d) (ok, 0) = some (ok && d.Waits.all okW) := by
  rw [loop_each' d.Waits (fun i (r : Bool) => (r, i)) (fun w r => some (.inl (r && (okW w)))) (fun r => r) (fun i hi r => ?_) (fun r => ?_) (small_lt h.waits) ok, forL_map]
  · show some _ = some _
    congr 1
    generalize d.Waits = l
    induction l generalizing ok with
    | nil => simp
    | cons b l ih => simp only [List.foldl_cons, ih, List.all_cons, Bool.and_assoc]
  · unfold dev_Check_l2
    rw [cI, if_pos hi, Zx _ hi]
    cases r
    · rfl
    · simp only [cond_true, Option.bind_some, goesOn, Bool.true_and]
      rw [dev_place_eq (h.at' _ (List.getElem_mem hi))]
      unfold okW
      by_cases c : 0 ≤ d.Waits[i].At ∧ d.Waits[i].At < 256
      · rw [decide_eq_true c]
        simp only [Option.bind_some, cond_true, Bool.true_and]
        rw [show decide ((d.Waits[i].Data.length : Int) = 256) = decide (d.Waits[i].Data.length = 256) from decide_eq_decide.2 (by omega)]
      · rw [decide_eq_false c]
        rfl
  · unfold dev_Check_l2
    rw [cI, if_neg (by omega)]
theorem dev_Check_eq {d : Disk} (h : Sized d) : dev_Check d = some (if OKD d then 0 else 8) := by
  unfold dev_Check
  rw [show (bif decide ((d.Blocks.length : Int) = 256) then some (decide ((d.Waits.length : Int) ≤ 4096)) else some false) = some (decide (d.Blocks.length = 256) && decide (d.Waits.length ≤ 4096)) from by
    by_cases c : d.Blocks.length = 256
    · rw [decide_eq_true (show (d.Blocks.length : Int) = 256 by omega), decide_eq_true c]
      simp only [cond_true, Bool.true_and]
      congr 1
      simp only [decide_eq_decide]; omega
    · rw [decide_eq_false (show ¬ (d.Blocks.length : Int) = 256 by omega), decide_eq_false c]; rfl]
  simp only [Option.bind_some]
  rw [check_l1 d _ h.blocks]
  simp only [Option.bind_some]
  rw [check_l2 d _ h]
  simp only [Option.bind_some]
  by_cases c : OKD d
  · rw [if_pos c]
    obtain ⟨c1, c2, c3, c4⟩ := c
    rw [show (decide (d.Blocks.length = 256) && decide (d.Waits.length ≤ 4096) && (d.Blocks.all fun b => decide (b.length = 256)) && d.Waits.all okW) = true from by
      simp only [Bool.and_eq_true, decide_eq_true_eq, List.all_eq_true]; exact ⟨⟨⟨c1, c2⟩, c3⟩, c4⟩]
    rfl
  · rw [if_neg c]
    rw [show (decide (d.Blocks.length = 256) && decide (d.Waits.length ≤ 4096) && (d.Blocks.all fun b => decide (b.length = 256)) && d.Waits.all okW) = false from by
      rw [Bool.eq_false_iff]; intro e
      simp only [Bool.and_eq_true, decide_eq_true_eq, List.all_eq_true] at e
      exact c ⟨e.1.1.1, e.1.1.2, e.1.2, e.2⟩]
    rfl

/-! ### A twin -/
structure Mid (d : Disk) : Prop where
  blocks : d.Blocks.length ≤ 1000
  waits : d.Waits.length ≤ 5000
  eb : ∀ b ∈ d.Blocks, b.length ≤ 1000
  ew : ∀ w ∈ d.Waits, w.Data.length ≤ 1000
theorem OKD.mid {d : Disk} (h : OKD d) : Mid d := ⟨by rw [h.1]; omega, by have := h.2.1; omega, fun b hb => by rw [h.2.2.1 b hb]; omega, fun w hw => by
  have := h.2.2.2 w hw
  simp only [okW, Bool.and_eq_true, decide_eq_true_eq] at this
  omega⟩
theorem OKD.sized {d : Disk} (h : OKD d) : Sized d := ⟨by rw [h.1]; omega, by have := h.2.1; omega, fun w hw => by
  have := h.2.2.2 w hw
  simp only [okW, Bool.and_eq_true, decide_eq_true_eq] at this
  exact ⟨by omega, by omega⟩⟩
theorem sum_le_mul {l : List Nat} {k : Nat} (h : ∀ x ∈ l, x ≤ k) : l.sum ≤ l.length * k := by
  induction l with
  | nil => simp
  | cons x l ih =>
    have := h x (by simp); have := ih (fun y hy => h y (by simp [hy]))
    simp only [List.sum_cons, List.length_cons, Nat.add_mul, Nat.one_mul]; omega
theorem twin_l1 (d : Disk) (h : d.Blocks.length ≤ 1000) : loop (dev_Twin_l1 d) (([] : List Int), 0) = some (d.Blocks.map fun b => (b.length : Int)) := by
  rw [loop_each d.Blocks (fun i (r : List Int) => (r, i)) (fun b r => some (.inl (r ++ [(b.length : Int)]))) (fun r => r) (fun i r => r.length = i) (fun i hi r hr => ?_) (fun i hi r r' hr e => ?_) (fun r _ => ?_) (small_lt (by omega)) rfl, forL_map]
  · show some _ = some _
    congr 1
    suffices H : ∀ (l : List (List UInt8)) (a : List Int), l.foldl (fun r b => r ++ [(b.length : Int)]) a = a ++ l.map fun b => (b.length : Int) by simpa using H d.Blocks []
    intro l
    induction l with
    | nil => simp
    | cons b l ih => intro a; simp [ih]
  · unfold dev_Twin_l1
    rw [cI, if_pos hi, Zx _ hi, YA (by simp only [List.length_cons, List.length_nil, LIM]; omega)]
    rfl
  · simp only [Option.some.injEq, Sum.inl.injEq] at e; subst e; simp [hr]
  · unfold dev_Twin_l1
    rw [cI, if_neg (by omega)]
theorem dev_cut_eq (bs : List (List UInt8)) (h : bs.length ≤ 1000) (hb : ∀ b ∈ bs, b.length ≤ 1000) : dev_cut (bs.map fun b => (b.length : Int)) = some (bs.map fun b => List.replicate b.length 0) := by
  unfold dev_cut
  have e1 : (bs.map fun b => (b.length : Int)).map Int.toNat = bs.map List.length := by rw [List.map_map]; rfl
  have e2 := sum_le_mul (l := bs.map List.length) (k := 1000) (fun x hx => by obtain ⟨b, h1, rfl⟩ := List.mem_map.1 hx; exact hb b h1)
  rw [List.length_map] at e2
  rw [if_pos ⟨fun n hn => by obtain ⟨b, _, rfl⟩ := List.mem_map.1 hn; omega, by rw [e1]; simp only [LIM]; omega, by simp only [List.length_map, LIM]; omega⟩, List.map_map]
  rfl
theorem twin_l2 (d : Disk) (h : d.Blocks.length ≤ 1000) : loop (dev_Twin_l2 d) (d.Blocks.map (fun b => List.replicate b.length (0 : UInt8)), 0) = some d.Blocks := by
  obtain ⟨t, h1, h2⟩ := loop_rule (body := dev_Twin_l2 d) (fun s => s.2 ≤ d.Blocks.length ∧ s.1 = d.Blocks.take s.2 ++ (d.Blocks.drop s.2).map (fun b => List.replicate b.length (0 : UInt8))) (fun s => d.Blocks.length - s.2) (fun t => t = d.Blocks) (by
    rintro ⟨r, i⟩ ⟨hi, hr⟩
    simp only at hi hr
    subst hr
    unfold dev_Twin_l2
    dsimp only
    rw [cI]
    rcases Nat.lt_or_ge i d.Blocks.length with hlt | hge
    · left
      have hl : (d.Blocks.take i ++ (d.Blocks.drop i).map (fun b => List.replicate b.length (0 : UInt8))).length = d.Blocks.length := by simp; omega
      have hg : (d.Blocks.take i ++ (d.Blocks.drop i).map (fun b => List.replicate b.length (0 : UInt8)))[i]'(by omega) = List.replicate d.Blocks[i].length 0 := by
        rw [List.getElem_append_right (by simp; omega)]
        simp [Nat.min_eq_left (Nat.le_of_lt hlt)]
      rw [if_pos hlt, Zx _ hlt, Zx _ (by omega), chk_eq (by rw [hg]; simp), setI_eq (by omega) (by simpa using (by omega : i < (d.Blocks.take i ++ (d.Blocks.drop i).map (fun b => List.replicate b.length (0 : UInt8))).length))]
      refine ⟨_, rfl, ⟨hlt, ?_⟩, by simp only; omega⟩
      simp only [Int.toNat_natCast]
      rw [List.set_append_right _ _ (by simp only [List.length_take]; omega), List.drop_eq_getElem_cons hlt]
      simp only [List.map_cons, List.length_take, Nat.min_eq_left (Nat.le_of_lt hlt), Nat.sub_self, List.set_cons_zero]
      rw [List.take_add_one, List.getElem?_eq_getElem hlt]
      simp only [Option.toList_some, List.append_assoc, List.singleton_append]
    · right
      rw [if_neg (by omega)]
      refine ⟨_, rfl, ?_⟩
      rw [List.take_of_length_le hge, List.drop_of_length_le hge]; simp) (s := (d.Blocks.map (fun b => List.replicate b.length (0 : UInt8)), 0)) ⟨Nat.zero_le _, by simp⟩ (small_lt (by simp only; omega))
  rw [h1, h2]
theorem bytes_Clone_eq {l : List UInt8} (h : l.length ≤ 1000) : bytes_Clone l = some l := by
  unfold bytes_Clone; rw [YA (by simp only [List.length_nil, LIM]; omega)]; rfl
theorem twin_l3 (d : Disk) (h : d.Waits.length ≤ 5000) (hw : ∀ w ∈ d.Waits, w.Data.length ≤ 1000) : loop (dev_Twin_l3 d) (([] : List Write), 0) = some d.Waits := by
  rw [loop_each d.Waits (fun i (r : List Write) => (r, i)) (fun b r => some (.inl (r ++ [b]))) (fun r => r) (fun i r => r.length = i) (fun i hi r hr => ?_) (fun i hi r r' hr e => ?_) (fun r _ => ?_) (small_lt (by omega)) rfl, forL_map]
  · show some _ = some _
    congr 1
    suffices H : ∀ (l : List Write) (a : List Write), l.foldl (fun r b => r ++ [b]) a = a ++ l by simpa using H d.Waits []
    intro l
    induction l with
    | nil => simp
    | cons b l ih => intro a; simp [ih]
  · unfold dev_Twin_l3
    rw [cI, if_pos hi, Zx _ hi, bytes_Clone_eq (hw _ (List.getElem_mem hi))]
    simp only [Option.bind_some]
    rw [YA (by simp only [List.length_cons, List.length_nil, LIM]; omega)]
    rfl
  · simp only [Option.some.injEq, Sum.inl.injEq] at e; subst e; simp [hr]
  · unfold dev_Twin_l3
    rw [cI, if_neg (by omega)]
theorem dev_Twin_eq {d : Disk} (h : Mid d) : dev_Twin d = some d := by
  unfold dev_Twin
  rw [twin_l1 d h.blocks]
  simp only [Option.bind_some]
  rw [dev_cut_eq _ h.blocks h.eb]
  simp only [Option.bind_some]
  rw [twin_l2 d h.blocks]
  simp only [Option.bind_some]
  rw [twin_l3 d h.waits h.ew]
  rfl
end Go.Ow

/-
  What is proved here: what is written, what is seen, what a crash leaves: the disk in plain words.
-/
namespace Go.Ow
set_option linter.unusedVariables false
set_option linter.unusedSimpArgs false

def noD : Disk := ⟨[], []⟩
theorem inI64_of {n : Int} (h : 0 ≤ n ∧ n < 256) : InI64 n := ⟨by omega, by omega⟩
theorem slices_Clip_Write_eq (l : List Write) : slices_Clip_Write l = some l := by
  unfold slices_Clip_Write
  rw [slc_eq (by omega) (by omega) (by omega)]
  simp [cut]
theorem guarded_eq {d : Disk} (h : Sized d) (is : Bool) (e : Disk) : dev_guarded d is e = some (if OKD d then (if is = true then (e, 0, e) else (noD, 2, e)) else (noD, 8, e)) := by
  unfold dev_guarded
  rw [dev_Check_eq h]
  simp only [Option.bind_some]
  by_cases c : OKD d
  · rw [if_pos c, if_pos c]
    cases is <;> rfl
  · rw [if_neg c, if_neg c]; rfl
def writeD (d : Disk) (at' : Int) (b : List UInt8) : Disk × Int :=
  if OKD d then (if 0 ≤ at' ∧ at' < 256 then (if b.length = 256 then (if d.Waits.length = 4096 then (noD, 9) else (⟨d.Blocks, d.Waits ++ [⟨at', b⟩]⟩, 0)) else (noD, 3)) else (noD, 2)) else (noD, 8)
theorem dev_Write_eq {d : Disk} (h : Sized d) {at' : Int} (ha : InI64 at') (b : List UInt8) : dev_Write d at' b = some (writeD d at' b) := by
  unfold dev_Write writeD
  rw [dev_place_eq ha]
  simp only [Option.bind_some]
  rw [guarded_eq h]
  simp only [Option.bind_some]
  by_cases c : OKD d
  · rw [if_pos c, if_pos c]
    by_cases c1 : 0 ≤ at' ∧ at' < 256
    · rw [decide_eq_true c1, if_pos rfl, if_pos c1]
      by_cases c2 : b.length = 256
      · rw [if_pos c2]
        dsimp only
        rw [show decide ((b.length : Int) = 256) = true from decide_eq_true (by omega)]
        by_cases c3 : d.Waits.length = 4096
        · rw [if_pos c3]
          rw [show decide ((d.Waits.length : Int) = 4096) = true from decide_eq_true (by omega)]
          rfl
        · rw [if_neg c3]
          rw [show decide ((d.Waits.length : Int) = 4096) = false from decide_eq_false (by omega), slices_Clip_Write_eq]
          have hm := c.mid
          have hw := c.2.1
          simp only [decide_true, Bool.not_true, cond_false, Option.bind_some]
          rw [YA (by simp only [List.length_cons, List.length_nil, LIM]; omega), dev_Twin_eq (d := Disk.mk d.Blocks (d.Waits ++ [Write.mk at' b])) ⟨hm.blocks, by simp only [List.length_append, List.length_cons, List.length_nil]; omega, hm.eb, fun w hw' => by
            rcases List.mem_append.1 hw' with h' | h'
            · exact hm.ew w h'
            · simp at h'; subst h'; simp only; omega⟩]
          rfl
      · rw [if_neg c2]
        dsimp only
        rw [show decide ((b.length : Int) = 256) = false from decide_eq_false (by omega)]
        rfl
    · rw [decide_eq_false c1, if_neg (by simp), if_neg c1]
      rfl
  · rw [if_neg c, if_neg c]; rfl
theorem OKD.write {d : Disk} (h : OKD d) {at' : Int} {b : List UInt8} (ha : 0 ≤ at' ∧ at' < 256) (hb : b.length = 256) (hw : d.Waits.length ≠ 4096) : OKD ⟨d.Blocks, d.Waits ++ [⟨at', b⟩]⟩ := by
  obtain ⟨h1, h2, h3, h4⟩ := h
  refine ⟨h1, by simp only [List.length_append, List.length_cons, List.length_nil]; omega, h3, fun w hw' => ?_⟩
  rcases List.mem_append.1 hw' with h' | h'
  · exact h4 w h'
  · simp at h'; subst h'; simp [okW, ha, hb]

/-! ### What is left of the writes -/
def layW (B : List (List UInt8)) (ws : List Write) : List (List UInt8) := ws.foldl (fun B w => B.set w.At.toNat w.Data) B
def KeysOk (M : List (Int × Write)) : Prop := (M.map (·.1)).Nodup ∧ ∀ p ∈ M, 0 ≤ p.1
theorem mem_putM {M : List (Int × Write)} {k : Int} {y : Write} {p : Int × Write} (h : p ∈ putM M k y) : p ∈ M ∨ p = (k, y) := by
  induction M with
  | nil => simp [putM] at h; exact .inr h
  | cons q r ih =>
    simp only [putM] at h
    split at h
    · rcases List.mem_cons.1 h with h' | h'
      · exact .inr h'
      · exact .inl (by simp [h'])
    · rcases List.mem_cons.1 h with h' | h'
      · exact .inl (by simp [h'])
      · exact (ih h').imp (fun z => by simp [z]) id
theorem keys_putM {M : List (Int × Write)} {k : Int} {y : Write} (h : (M.map (·.1)).Nodup) : ((putM M k y).map (·.1)).Nodup := by
  induction M with
  | nil => simp [putM]
  | cons q r ih =>
    simp only [List.map_cons, List.nodup_cons] at h
    simp only [putM]
    split
    · rename_i e
      simp only [List.map_cons, List.nodup_cons]; rw [← e]; exact h
    · rename_i e
      simp only [List.map_cons, List.nodup_cons]
      refine ⟨fun hm => ?_, ih h.2⟩
      obtain ⟨p, hp, hpe⟩ := List.mem_map.1 hm
      rcases mem_putM hp with h' | h'
      · exact h.1 (List.mem_map.2 ⟨p, h', hpe⟩)
      · subst h'; exact e hpe.symm
theorem KeysOk.put {M : List (Int × Write)} {k : Int} {y : Write} (h : KeysOk M) (hk : 0 ≤ k) : KeysOk (putM M k y) :=
  ⟨keys_putM h.1, fun p hp => (mem_putM hp).elim (h.2 p) (fun e => by subst e; exact hk)⟩
theorem layM_set {M : List (Int × Write)} {L : List (List UInt8)} {j : Nat} {v : List UInt8} (h : ∀ p ∈ M, p.1.toNat ≠ j) :
    layM (fun y : Write => y.Data) (L.set j v) M = (layM (fun y : Write => y.Data) L M).set j v := by
  unfold layM
  induction M generalizing L with
  | nil => rfl
  | cons p r ih =>
    simp only [List.foldl_cons]
    rw [List.set_comm _ _ (fun e => h p (by simp) e.symm), ih (fun q hq => h q (by simp [hq]))]
theorem layM_put {M : List (Int × Write)} {L : List (List UInt8)} {k : Int} {y : Write} (h : KeysOk M) (hk : 0 ≤ k) :
    layM (fun y : Write => y.Data) L (putM M k y) = (layM (fun y : Write => y.Data) L M).set k.toNat y.Data := by
  induction M generalizing L with
  | nil => rfl
  | cons p r ih =>
    obtain ⟨h1, h2⟩ := h
    simp only [List.map_cons, List.nodup_cons] at h1
    simp only [putM]
    split
    · rename_i e
      have hr : ∀ q ∈ r, q.1.toNat ≠ k.toNat := fun q hq e' => h1.1 (List.mem_map.2 ⟨q, hq, by have := h2 q (by simp [hq]); omega⟩)
      show layM _ (L.set k.toNat y.Data) r = (layM _ (L.set p.1.toNat p.2.Data) r).set k.toNat y.Data
      rw [← layM_set hr, e, List.set_set]
    · exact ih ⟨h1.2, fun q hq => h2 q (by simp [hq])⟩
def lastM (ws : List Write) : List (Int × Write) := ws.foldl (fun M w => putM M w.At w) []
theorem lastM_snoc (ws : List Write) (w : Write) : lastM (ws ++ [w]) = putM (lastM ws) w.At w := by simp [lastM]
theorem lastM_spec (ws : List Write) (L : List (List UInt8)) (h : ∀ w ∈ ws, 0 ≤ w.At) : KeysOk (lastM ws) ∧ layM (fun y : Write => y.Data) L (lastM ws) = layW L ws ∧ ∀ p ∈ lastM ws, ∃ w ∈ ws, p.1 = w.At := by
  suffices H : ∀ (n : Nat) (ws : List Write), ws.length = n → (∀ w ∈ ws, 0 ≤ w.At) → KeysOk (lastM ws) ∧ layM (fun y : Write => y.Data) L (lastM ws) = layW L ws ∧ ∀ p ∈ lastM ws, ∃ w ∈ ws, p.1 = w.At from H _ ws rfl h
  intro n
  induction n with
  | zero => intro ws hn _; obtain rfl := List.length_eq_zero_iff.1 hn; exact ⟨⟨by simp [lastM], by simp [lastM]⟩, rfl, by simp [lastM]⟩
  | succ n ih =>
    intro ws hn h
    obtain ⟨ws', w, rfl⟩ : ∃ a b, ws = a ++ [b] := ⟨ws.dropLast, ws.getLast (by intro e; subst e; simp at hn), (List.dropLast_concat_getLast _).symm⟩
    obtain ⟨h1, h2, h3⟩ := ih ws' (by simpa using hn) (fun w hw => h w (by simp [hw]))
    have hw := h w (by simp)
    rw [lastM_snoc]
    refine ⟨h1.put hw, ?_, fun p hp => ?_⟩
    · rw [layM_put h1 hw, h2]; simp [layW]
    · rcases mem_putM hp with h' | h'
      · obtain ⟨w', a, b⟩ := h3 p h'; exact ⟨w', by simp [a], b⟩
      · subst h'; exact ⟨w, by simp, rfl⟩
theorem layW_length (B : List (List UInt8)) (ws : List Write) : (layW B ws).length = B.length := by
  unfold layW
  induction ws generalizing B with
  | nil => rfl
  | cons w ws ih => simp only [List.foldl_cons, ih, List.length_set]
theorem layW_all {B : List (List UInt8)} {ws : List Write} (h : ∀ b ∈ B, b.length = 256) (hw : ∀ w ∈ ws, w.Data.length = 256) : ∀ b ∈ layW B ws, b.length = 256 := by
  unfold layW
  induction ws generalizing B with
  | nil => exact h
  | cons w ws ih =>
    simp only [List.foldl_cons]
    refine ih (fun b hb => ?_) (fun w' hw' => hw w' (by simp [hw']))
    rcases List.mem_or_eq_of_mem_set hb with h' | h'
    · exact h b h'
    · rw [h']; exact hw w (by simp)
theorem okW_at {w : Write} (h : okW w = true) : 0 ≤ w.At ∧ w.At < 256 := by
  simp only [okW, Bool.and_eq_true, decide_eq_true_eq] at h; exact h.1
theorem okW_data {w : Write} (h : okW w = true) : w.Data.length = 256 := by
  simp only [okW, Bool.and_eq_true, decide_eq_true_eq] at h; exact h.2
theorem clone45 {l : List (List UInt8)} (h : l.length ≤ 1000) : slices_Clone_byte_L l = some l := by
  unfold slices_Clone_byte_L; rw [YA (by simp only [List.length_nil, LIM]; omega)]; rfl
theorem lasts_loop (d : Disk) (h : d.Waits.length ≤ 5000) : dev_lasts d = some (lastM d.Waits) := by
  unfold dev_lasts
  rw [loop_each' d.Waits (fun i (r : List (Int × Write)) => (r, i)) (fun w r => some (.inl (putM r w.At w))) (fun r => r) (fun i hi r => ?_) (fun r => ?_) (small_lt (by omega)) [], forL_map]
  · rfl
  · unfold dev_lasts_l1
    rw [cI, if_pos hi, Zx _ hi]
    rfl
  · unfold dev_lasts_l1
    rw [cI, if_neg (by omega)]
/-- the blocks as the writes leave them -/
def seenB (d : Disk) : List (List UInt8) := layW d.Blocks d.Waits
theorem okd_lay {d : Disk} (h : OKD d) (ws : List Write) (hw : ∀ w ∈ ws, w ∈ d.Waits) : OKD ⟨layW d.Blocks ws, []⟩ :=
  ⟨by simp only [layW_length]; exact h.1, by simp, layW_all h.2.2.1 (fun w hw' => okW_data (h.2.2.2 w (hw w hw'))), by simp⟩
theorem lay_range {d : Disk} (h : OKD d) {ws : List Write} (hw : ∀ w ∈ ws, w ∈ d.Waits) : ∀ p ∈ lastM ws, 0 ≤ p.1 ∧ p.1.toNat < d.Blocks.length := fun p hp => by
  obtain ⟨w, h1, h2⟩ := (lastM_spec ws [] (fun w hw' => (okW_at (h.2.2.2 w (hw w hw'))).1)).2.2 p hp
  have := okW_at (h.2.2.2 w (hw w h1))
  rw [h2, h.1]; omega
theorem dev_left_eq {d : Disk} (h : OKD d) : dev_left d = some ⟨seenB d, []⟩ := by
  unfold dev_left
  rw [clone45 h.mid.blocks]
  simp only [Option.bind_some]
  rw [lasts_loop _ h.mid.waits]
  simp only [Option.bind_some]
  unfold layR
  rw [if_pos (lay_range h (fun w hw => hw)), (lastM_spec d.Waits d.Blocks (fun w hw => (okW_at (h.2.2.2 w hw)).1)).2.1]
  dsimp only
  rw [dev_Twin_eq (okd_lay h d.Waits (fun w hw => hw)).mid]
  rfl
theorem guarded2_eq {d : Disk} (h : Sized d) (is : Bool) : dev_guarded_v2 d is d = some (if OKD d then (if is = true then (⟨seenB d, []⟩, 0, d) else (noD, 2, d)) else (noD, 8, d)) := by
  unfold dev_guarded_v2
  rw [dev_Check_eq h]
  simp only [Option.bind_some]
  by_cases c : OKD d
  · rw [if_pos c, if_pos c]
    cases is
    · rfl
    · unfold dev_Read_1; rw [dev_left_eq c]; rfl
  · rw [if_neg c, if_neg c]; rfl
theorem seenB_length {d : Disk} (h : OKD d) : (seenB d).length = 256 := by unfold seenB; rw [layW_length]; exact h.1
theorem dev_Read_eq {d : Disk} (h : OKD d) {i : Nat} (hi : i < 256) : dev_Read d (i : Int) = some ((seenB d)[i]'(by rw [seenB_length h]; exact hi), 0) := by
  unfold dev_Read
  rw [dev_place_eq (inI64_of (by omega))]
  simp only [Option.bind_some]
  rw [guarded2_eq h.sized, if_pos h, decide_eq_true (show 0 ≤ (i : Int) ∧ (i : Int) < 256 by omega), if_pos rfl]
  simp only [Option.bind_some, decide_true, Bool.not_true, cond_false]
  rw [Zx _ (by rw [seenB_length h]; exact hi)]
end Go.Ow

/-
  What is proved here: numbers as bytes and back; a sum is always told; pointers as bytes: in plain words.
-/
namespace Go.Ow
set_option linter.unusedVariables false
set_option linter.unusedSimpArgs false

/-- a number's bytes, the lowest first -/
def leB (n : Nat) : Nat → List UInt8
  | 0 => []
  | k + 1 => UInt8.ofNat n :: leB (n / 256) k
theorem Zu (n k : Nat) : (leB n k).length = k := by
  induction k generalizing n with
  | zero => rfl
  | succ k ih => simp [leB, ih]
def numB : List UInt8 → Nat
  | [] => 0
  | b :: r => b.toNat + 256 * numB r
theorem numB_leB {n k : Nat} (h : n < 256 ^ k) : numB (leB n k) = n := by
  induction k generalizing n with
  | zero => simp at h; subst h; rfl
  | succ k ih =>
    simp only [leB, numB]
    rw [ih (by rw [Nat.pow_succ] at h; omega), UInt8.toNat_ofNat']
    omega
theorem u8i_nat (n : Nat) : u8i (n : Int) = UInt8.ofNat n := by
  unfold u8i
  apply UInt8.toNat_inj.1
  rw [UInt8.toNat_ofNat', UInt8.toNat_ofNat']
  omega
theorem sized_eq (k : Int) : code_sized k = some (decide (0 < k ∧ k ≤ 4)) := by
  unfold code_sized
  by_cases h : 0 < k
  · rw [decide_eq_true h]
    simp only [cond_true, Option.bind_some]
    congr 1; simp only [decide_eq_decide]; omega
  · rw [decide_eq_false h]
    simp only [cond_false, Option.bind_some]
    congr 1; rw [decide_eq_false (fun e => h e.1)]
theorem put_loop {n k : Nat} (hk : k ≤ 4) (hn : n < 4294967296) : loop (code_Put_l1 (k : Int)) ((n : Int), ([] : List UInt8)) = some (leB n k) := by
  obtain ⟨t, h1, h2⟩ := loop_rule (body := code_Put_l1 (k : Int)) (fun s => ∃ m : Nat, s.1 = (m : Int) ∧ m < 4294967296 ∧ s.2.length ≤ k ∧ s.2 ++ leB m (k - s.2.length) = leB n k) (fun s => k - s.2.length) (fun t => t = leB n k) (by
    rintro ⟨a, b⟩ ⟨m, h1, h0, h2, h3⟩
    simp only at h1 h2 h3
    subst h1
    unfold code_Put_l1
    dsimp only
    rw [cI]
    rcases Nat.lt_or_ge b.length k with c | c
    · left
      rw [if_pos c, YA (by simp only [List.length_cons, List.length_nil, LIM]; omega)]
      refine ⟨_, rfl, ⟨m / 256, ?_, by omega, by simp; omega, ?_⟩, by simp; omega⟩
      · simp only
        rw [Int.tdiv_eq_ediv_of_nonneg (by omega), w64_of (by omega) (by omega)]; omega
      · simp only
        rw [← h3, show k - b.length = (k - (b ++ [u8i (m : Int)]).length) + 1 by simp; omega]
        simp only [leB, u8i_nat, List.append_assoc, List.singleton_append]
    · right
      rw [if_neg (by omega)]
      refine ⟨_, rfl, ?_⟩
      rw [show k - b.length = 0 by omega] at h3
      simpa [leB] using h3) (s := ((n : Int), ([] : List UInt8))) ⟨n, rfl, hn, by simp, by simp⟩ (Nat.lt_of_le_of_lt (Nat.sub_le _ _) (small_lt (by omega)))
  rw [h1, h2]
theorem pow256 {k : Nat} (h1 : 1 ≤ k) (h4 : k ≤ 4) : sli 1 (w64 (8 * (k : Int))) = ((256 ^ k : Nat) : Int) ∧ 256 ^ k ≤ 4294967296 := by
  have : k = 1 ∨ k = 2 ∨ k = 3 ∨ k = 4 := by omega
  rcases this with rfl | rfl | rfl | rfl <;> decide
theorem code_Put_eq {n k : Nat} (h1 : 1 ≤ k) (h4 : k ≤ 4) (hn : n < 256 ^ k) : code_Put (n : Int) (k : Int) = some (leB n k, 0) := by
  unfold code_Put
  rw [sized_eq]
  simp only [Option.bind_some]
  obtain ⟨h5, h6⟩ := pow256 h1 h4
  rw [decide_eq_true (show 0 < (k : Int) ∧ (k : Int) ≤ 4 by omega), decide_eq_false (show ¬ (n : Int) < 0 by omega), chk_eq (by rw [w64_of (by omega) (by omega)]; omega), h5,
    decide_eq_false (show ¬ ((256 ^ k : Nat) : Int) ≤ (n : Int) by omega)]
  simp only [Bool.not_true, cond_false]
  rw [put_loop h4 (by omega)]
  rfl

theorem numB_snoc (p : List UInt8) (c : UInt8) : numB (p ++ [c]) = numB p + 256 ^ p.length * c.toNat := by
  induction p with
  | nil => simp [numB]
  | cons b p ih => simp only [List.cons_append, numB, ih, List.length_cons, Nat.pow_succ]; rw [Nat.mul_add, ← Nat.mul_assoc, Nat.mul_comm 256 (256 ^ p.length)]; omega
theorem bwd_length' (m : List UInt8) (k : Nat) : (bwd m k).length = k := by induction k with | zero => rfl | succ k ih => simp [bwd, ih]
theorem bwd_fold (m : List UInt8) : ∀ (k a : Nat), k ≤ m.length → (bwd m k).foldl (fun n y => 256 * n + y.2.toNat) a = numB (m.take k) + 256 ^ k * a := by
  intro k
  induction k with
  | zero => intro a _; simp [bwd, numB]
  | succ k ih =>
    intro a hk
    simp only [bwd, List.foldl_cons]
    rw [ih _ (by omega), List.take_succ_eq_append_getElem (by omega), numB_snoc, List.length_take, Nat.min_eq_left (by omega), List.getD_eq_getElem?_getD, List.getElem?_eq_getElem (by omega), Option.getD_some, Nat.pow_succ, Nat.mul_add, ← Nat.mul_assoc]
    omega
theorem get_loop : ∀ (l : List (Nat × UInt8)) (a j : Nat), a < 256 ^ j → j + l.length ≤ 4 → forL code_Get_r1 l (a : Int) = some (.inl ((l.foldl (fun n y => 256 * n + y.2.toNat) a : Nat) : Int))
  | [], a, j, _, _ => rfl
  | y :: l, a, j, ha, hj => by
    have hy := y.2.toNat_lt
    have hp : (256 : Nat) ^ (j + 1) ≤ 256 ^ 4 := Nat.pow_le_pow_right (by omega) (by simp at hj; omega)
    have h2 : 256 * a + y.2.toNat < 256 ^ (j + 1) := by rw [Nat.pow_succ]; omega
    rw [forL_cons (s' := ((256 * a + y.2.toNat : Nat) : Int)) (by
      have e4 : (256 : Nat) ^ 4 = 4294967296 := by decide
      rw [e4] at hp
      generalize (256 : Nat) ^ (j + 1) = N at hp h2
      show some (Sum.inl (w64 ((w64 (256 * (a : Int))) + (y.2.toNat : Int)))) = _
      rw [w64_of (n := 256 * (a : Int)) (by omega) (by omega), w64_of (by omega) (by omega)]
      rw [show (256 * (a : Int) + (y.2.toNat : Int)) = ((256 * a + y.2.toNat : Nat) : Int) by omega]), get_loop l _ (j + 1) h2 (by simp at hj; omega)]
    rfl
theorem cut_len {l : List UInt8} {a b : Nat} (h1 : a ≤ b) (h2 : b ≤ l.length) : (cut l (a : Int) (b : Int)).length = b - a := by
  unfold cut; simp only [List.length_take, List.length_drop]; omega
theorem get_core {b : List UInt8} {at' k : Nat} (h4 : k ≤ 4) (hl : at' + k ≤ b.length) :
    (slc b (at' : Int) ((at' + k : Nat) : Int) fun m_16 => Option.bind (slices_Backward_byte m_16) fun x_20 => Option.bind (forL code_Get_r1 (bwd m_16 m_16.length) 0) (fun t_24 => Sum.elim (fun s_27 => some (s_27, (0 : Int))) (fun _ => none) t_24)) = some ((numB ((b.drop at').take k) : Int), 0) := by
  rw [slc_eq (by omega) (by omega) (by omega)]
  have hm : (cut b (at' : Int) ((at' + k : Nat) : Int)).length = k := by rw [cut_len (by omega) (by omega)]; omega
  have he : cut b (at' : Int) ((at' + k : Nat) : Int) = (b.drop at').take k := by unfold cut; rw [Int.toNat_natCast, Int.toNat_natCast, Nat.add_sub_cancel_left]
  rw [he] at hm ⊢
  have := get_loop (bwd ((b.drop at').take k) ((b.drop at').take k).length) 0 0 (by decide) (by rw [bwd_length', hm]; omega)
  unfold slices_Backward_byte
  rw [Option.bind_some]
  rw [show ((0 : Nat) : Int) = 0 from rfl] at this
  rw [this, bwd_fold _ _ _ (Nat.le_refl _), List.take_length, Nat.mul_zero, Nat.add_zero]
  rfl
theorem get_cond {b : List UInt8} {a q k : Int} {K : Option (Int × Int)} (hk : 0 < k ∧ k ≤ 4) (h0 : 0 ≤ a) (h1 : a ≤ b.length) (h2 : q ≤ b.length) :
    (Option.bind (code_sized k) fun x_5 => Option.bind (cond (!x_5) (some true) (cond (decide (a < 0)) (some true) (some (decide ((b.length : Int) < a))))) (fun t_8 => cond t_8 (some (0, 2)) (cond (decide ((b.length : Int) < q)) (some (0, 8)) K))) = K := by
  rw [sized_eq, Option.bind_some, decide_eq_true hk, decide_eq_false (show ¬ a < 0 by omega), decide_eq_false (show ¬ (b.length : Int) < a by omega), decide_eq_false (show ¬ (b.length : Int) < q by omega)]
  rfl
theorem code_Get_eq {b : List UInt8} {at' k : Nat} (h1 : 1 ≤ k) (h4 : k ≤ 4) (hl : at' + k ≤ b.length) (hb : b.length ≤ 1000000) : code_Get b (at' : Int) (k : Int) = some ((numB ((b.drop at').take k) : Int), 0) := by
  unfold code_Get
  have hw : w64 ((at' : Int) + (k : Int)) = ((at' + k : Nat) : Int) := by rw [w64_of (by omega) (by omega)]; omega
  rw [hw]
  exact (get_cond ⟨by omega, by omega⟩ (by omega) (by omega) (by omega)).trans (get_core h4 hl)

/-! ### A sum is always told -/
theorem rot_tot (a : UInt32) (n : Int) : ∃ r, math_bits_RotateLeft32 a n = some r := ⟨_, rfl⟩
theorem turned1_tot (a b : Int) (x : A4 UInt32) : ∃ r, mix_words_turned_1 a b x = some r := by
  unfold mix_words_turned_1
  obtain ⟨r, h⟩ := rot_tot (x.e3 ^^^ (x.e0 + x.e1)) a
  rw [h]
  simp only [Option.bind_some]
  obtain ⟨r', h'⟩ := rot_tot (x.e1 ^^^ (x.e2 + r)) b
  rw [h']
  exact ⟨_, rfl⟩
theorem turned_tot (x : A4 UInt32) : ∃ r, mix_words_turned x = some r := by
  unfold mix_words_turned
  obtain ⟨r, h⟩ := turned1_tot 15 11 x
  rw [h]
  simp only [Option.bind_some]
  obtain ⟨r', h'⟩ := turned1_tot 9 6 r
  rw [h']
  exact ⟨_, rfl⟩
theorem often_tot (x : A4 UInt32) (n : Int) (hn : n ≤ 100) : ∃ r, mix_words_often x n = some r := by
  unfold mix_words_often
  obtain ⟨t, h1, -⟩ := loop_rule (body := mix_words_often_l1 n) (fun s => 0 ≤ s.2.2.2.2 ∧ s.2.2.2.2 ≤ 100) (fun s => 100 - s.2.2.2.2.toNat) (fun _ => True) (by
    rintro ⟨a, b, c, d, i⟩ ⟨hi, hi'⟩
    simp only at hi hi'
    unfold mix_words_often_l1
    dsimp only
    by_cases h : i < n
    · left
      rw [decide_eq_true h]
      obtain ⟨r, hr⟩ := turned_tot (A4.mk a b c d)
      simp only [cond_true]
      rw [hr]
      refine ⟨_, rfl, ?_, ?_⟩
      · simp only; rw [w64_of (by omega) (by omega)]; omega
      · simp only; rw [w64_of (by omega) (by omega)]; omega
    · right
      rw [decide_eq_false h]
      exact ⟨_, rfl, trivial⟩) (s := (x.e0, x.e1, x.e2, x.e3, 0)) ⟨by simp, by simp⟩ (Nat.lt_of_le_of_lt (Nat.sub_le _ _) (small_lt (by omega)))
  rw [h1]
  exact ⟨_, rfl⟩
theorem number_tot {b : List UInt8} (h : b.length = 4) : ∃ r, mix_number b = some r := by
  unfold mix_number
  rw [show (0 : Int) = ((0 : Nat) : Int) from rfl, show (4 : Int) = ((4 : Nat) : Int) from rfl, code_Get_eq (by omega) (by omega) (by omega) (by omega)]
  exact ⟨_, rfl⟩
theorem forL_tot {α σ τ : Type} {body : α → σ → Option (σ ⊕ τ)} : ∀ {l : List α} {s : σ}, (∀ y ∈ l, ∀ s, ∃ s', body y s = some (.inl s')) → ∃ s', forL body l s = some (.inl s')
  | [], s, _ => ⟨s, rfl⟩
  | y :: l, s, h => by
    obtain ⟨s', h1⟩ := h y (by simp) s
    rw [forL_cons h1]
    exact forL_tot (fun y hy => h y (by simp [hy]))
theorem chunks_len {n : Nat} (hn : 0 < n) : ∀ (f : Nat) (l : List UInt8), l.length ≤ f → l.length % n = 0 → ∀ y ∈ chunks n f l, y.length = n
  | 0, l, h, _, y, hy => by simp [chunks] at hy
  | f + 1, l, h, hm, y, hy => by
    by_cases c : l = []
    · subst c; simp [chunks] at hy
    · rw [chunks_step c] at hy
      have hpos := List.length_pos_iff.2 c
      have hge : n ≤ l.length := by
        rcases Nat.lt_or_ge l.length n with h' | h'
        · rw [Nat.mod_eq_of_lt h'] at hm; omega
        · exact h'
      rcases List.mem_cons.1 hy with rfl | hy
      · simp only [List.length_take]; omega
      · refine chunks_len hn f _ (by simp only [List.length_drop]; omega) ?_ y hy
        rw [List.length_drop, ← Nat.mod_eq_sub_mod hge]; exact hm
def pad8 (n : Nat) : Nat := (8 - n % 8) % 8
theorem pad8_step {n : Nat} (h : n % 8 ≠ 0) : pad8 (n + 1) + 1 = pad8 n := by
  unfold pad8
  have : n % 8 = 1 ∨ n % 8 = 2 ∨ n % 8 = 3 ∨ n % 8 = 4 ∨ n % 8 = 5 ∨ n % 8 = 6 ∨ n % 8 = 7 := by omega
  rcases this with h | h | h | h | h | h | h <;> rw [Nat.add_mod, h]
theorem pad8_le (n : Nat) : pad8 n ≤ 8 := by unfold pad8; omega
theorem four_l1 {l : List UInt8} (h : l.length ≤ 100000) : ∃ t, loop mix_four_l1 l = some t ∧ t.length % 8 = 0 ∧ t.length ≤ 100016 := by
  obtain ⟨t, h1, h2⟩ := loop_rule (body := mix_four_l1) (fun s => s.length + pad8 s.length ≤ 100008) (fun s => pad8 s.length) (fun t => t.length % 8 = 0 ∧ t.length ≤ 100016) (by
    intro s hs
    unfold mix_four_l1
    rw [Int.tmod_eq_emod_of_nonneg (by omega)]
    by_cases c : s.length % 8 = 0
    · right
      rw [decide_eq_true (show (s.length : Int) % 8 = 0 by omega)]
      exact ⟨_, rfl, c, by omega⟩
    · left
      have := pad8_step c
      rw [decide_eq_false (show ¬ (s.length : Int) % 8 = 0 by omega)]
      simp only [Bool.not_false, cond_true]
      rw [YA (by simp only [List.length_cons, List.length_nil, LIM]; omega)]
      exact ⟨_, rfl, by simp only [List.length_append, List.length_cons, List.length_nil, Nat.zero_add]; omega, by simp only [List.length_append, List.length_cons, List.length_nil, Nat.zero_add]; omega⟩) (s := l) (by have := pad8_le l.length; omega) (Nat.lt_of_le_of_lt (pad8_le _) (small_lt (by omega)))
  exact ⟨t, h1, h2⟩
theorem mix_Sum_tot {b : List UInt8} (h : b.length ≤ 10000) : ∃ r, mix_Sum b = some r := by
  unfold mix_Sum mix_four slices_Clone_byte slices_Clip_byte
  rw [YA (by simp only [List.length_nil, LIM]; omega)]
  simp only [Option.bind_some, List.nil_append]
  rw [slc_eq (by omega) (by omega) (by omega)]
  simp only [Option.bind_some]
  have hc : cut b 0 (b.length : Int) = b := by simp [cut]
  rw [hc, YA (by simp only [List.length_cons, List.length_nil, LIM]; omega)]
  obtain ⟨t, h1, h2, h3⟩ := four_l1 (l := b ++ [1]) (by simp; omega)
  rw [h1]
  simp only [Option.bind_some]
  unfold slices_Chunk_byte
  rw [if_pos ⟨by omega, by omega, by simp only [LIM]; omega⟩]
  simp only [Option.bind_some]
  obtain ⟨s, hs⟩ := forL_tot (body := mix_four_r2) (l := chunks (8 : Int).toNat t.length t) (s := ((1 : UInt32), (2 : UInt32), (3 : UInt32), (4 : UInt32))) (fun y hy s => by
    have hy8 : y.length = 8 := chunks_len (n := 8) (by omega) t.length t (Nat.le_refl _) h2 y hy
    unfold mix_four_r2
    rw [slc_eq (by omega) (by omega) (by omega)]
    obtain ⟨n1, e1⟩ := number_tot (b := cut y 0 4) (by rw [show (0 : Int) = ((0 : Nat) : Int) from rfl, show (4 : Int) = ((4 : Nat) : Int) from rfl, cut_len (by omega) (by omega)])
    rw [e1]
    simp only [Option.bind_some]
    rw [slc_eq (by omega) (by omega) (by omega)]
    obtain ⟨n2, e2⟩ := number_tot (b := cut y 4 (y.length : Int)) (by rw [show (4 : Int) = ((4 : Nat) : Int) from rfl, cut_len (by omega) (by omega)]; omega)
    rw [e2]
    simp only [Option.bind_some]
    obtain ⟨w, e3⟩ := often_tot (A4.mk (s.1 ^^^ n1) s.2.1 (s.2.2.1 ^^^ n2) s.2.2.2) 4 (by omega)
    rw [e3]
    exact ⟨_, rfl⟩)
  rw [hs]
  simp only [Option.bind_some, Sum.elim_inl]
  obtain ⟨w, e3⟩ := often_tot (A4.mk s.1 (s.2.1 ^^^ (u32i (b.length : Int))) s.2.2.1 s.2.2.2) 8 (by omega)
  rw [e3]
  exact ⟨_, rfl⟩
def sumOf (b : List UInt8) : UInt32 := (mix_Sum b).getD 0
theorem mix_Sum_eq {b : List UInt8} (h : b.length ≤ 10000) : mix_Sum b = some (sumOf b) := by
  obtain ⟨r, hr⟩ := mix_Sum_tot h
  unfold sumOf; rw [hr]; rfl
end Go.Ow

/-
  What is proved here: pointers and labels as bytes, and back: in plain words.
-/
namespace Go.Ow
set_option linter.unusedVariables false
set_option linter.unusedSimpArgs false

theorem run_st {σ τ : Type} {body : σ → Option (σ ⊕ τ)} {n : Nat} {s s' : σ} (h : body s = some (.inl s')) : run body (n + 1) s = run body n s' := by
  show Option.bind (body s) _ = _; rw [h]; rfl
theorem run_en {σ τ : Type} {body : σ → Option (σ ⊕ τ)} {n : Nat} {s : σ} {t : τ} (h : body s = some (.inr t)) : run body (n + 1) s = some t := by
  show Option.bind (body s) _ = _; rw [h]; rfl
theorem six_fuel : 6 ≤ FUEL := by decide
theorem run5 {σ τ : Type} {body : σ → Option (σ ⊕ τ)} {s0 s1 s2 s3 s4 s5 : σ} {t : τ} (h0 : body s0 = some (.inl s1)) (h1 : body s1 = some (.inl s2)) (h2 : body s2 = some (.inl s3)) (h3 : body s3 = some (.inl s4)) (h4 : body s4 = some (.inl s5)) (h5 : body s5 = some (.inr t)) :
    loop body s0 = some t := loop_of six_fuel (by rw [run_st h0, run_st h1, run_st h2, run_st h3, run_st h4, run_en h5])

def isNone (p : Ptr) : Prop := p.At = 0 ∧ p.Birth = 0 ∧ p.Iv = 0 ∧ p.Tag = 0 ∧ p.Sum = 0
instance (p : Ptr) : Decidable (isNone p) := by unfold isNone; infer_instance
/-- a pointer that is one -/
def okR (p : Ptr) : Prop := 12 ≤ p.At ∧ p.At < 256 ∧ (1 : UInt32) ≤ p.Birth ∧ p.Birth ≤ 16777215
instance (p : Ptr) : Decidable (okR p) := by unfold okR; infer_instance
theorem none_dec (p : Ptr) : (decide (p.At = 0) && (decide (p.Birth = (0 : UInt32)) && (decide (p.Iv = (0 : UInt32)) && (decide (p.Tag = (0 : UInt32)) && (decide (p.Sum = (0 : UInt32)) && true))))) = decide (isNone p) := by
  rw [Bool.eq_iff_iff]
  simp only [Bool.and_eq_true, decide_eq_true_eq, and_true]
  exact Iff.rfl
theorem ptr_Check_eq' (p : Ptr) : ptr_Check p = some (if isNone p ∨ okR p then 0 else 8) := by
  unfold ptr_Check
  rw [none_dec]
  by_cases h0 : isNone p
  · rw [decide_eq_true h0, if_pos (.inl h0)]; rfl
  rw [decide_eq_false h0]
  by_cases h : okR p
  · rw [if_pos (.inr h)]
    obtain ⟨h1, h2, h3, h4⟩ := h
    rw [decide_eq_false (show ¬ p.At < 12 by omega), decide_eq_false (show ¬ 256 ≤ p.At by omega), decide_eq_false (show ¬ p.Birth < 1 from UInt32.not_lt.2 h3), decide_eq_false (show ¬ (16777215 : UInt32) < p.Birth from UInt32.not_lt.2 h4)]
    rfl
  · rw [if_neg (fun e => e.elim h0 h)]
    by_cases h1 : p.At < 12
    · rw [decide_eq_true h1]; rfl
    by_cases h2 : 256 ≤ p.At
    · rw [decide_eq_false h1, decide_eq_true h2]; rfl
    by_cases h3 : p.Birth < 1
    · rw [decide_eq_false h1, decide_eq_false h2, decide_eq_true h3]; rfl
    by_cases h4 : (16777215 : UInt32) < p.Birth
    · rw [decide_eq_false h1, decide_eq_false h2, decide_eq_false h3, decide_eq_true h4]; rfl
    exact absurd ⟨by omega, by omega, UInt32.not_lt.1 h3, UInt32.not_lt.1 h4⟩ h


end Go.Ow

/-
  What is proved here: what stands behind a put or a write; one label stands on a new disk: in plain words.
-/
namespace Go.Ow
set_option linter.unusedVariables false
set_option linter.unusedSimpArgs false

theorem sized_no : Sized noD := ⟨by simp [noD], by simp [noD], by simp [noD]⟩
theorem writeD_cases (d : Disk) (at' : Int) (b : List UInt8) : ((writeD d at' b).2 ≠ 0 ∧ (writeD d at' b).1 = noD) ∨ (OKD d ∧ (0 ≤ at' ∧ at' < 256) ∧ b.length = 256 ∧ d.Waits.length ≠ 4096 ∧ writeD d at' b = (Disk.mk d.Blocks (d.Waits ++ [Write.mk at' b]), 0)) := by
  unfold writeD
  by_cases c : OKD d
  · by_cases c1 : 0 ≤ at' ∧ at' < 256
    · by_cases c2 : b.length = 256
      · by_cases c3 : d.Waits.length = 4096
        · left; rw [if_pos c, if_pos c1, if_pos c2, if_pos c3]; exact ⟨by decide, rfl⟩
        · right; rw [if_pos c, if_pos c1, if_pos c2, if_neg c3]; exact ⟨c, c1, c2, c3, rfl⟩
      · left; rw [if_pos c, if_pos c1, if_neg c2]; exact ⟨by decide, rfl⟩
    · left; rw [if_pos c, if_neg c1]; exact ⟨by decide, rfl⟩
  · left; rw [if_neg c]; exact ⟨by decide, rfl⟩
end Go.Ow

/-
  What is proved here: tables of blocks (space), in plain words.
-/
namespace Go.Ow
set_option linter.unusedVariables false
set_option linter.unusedSimpArgs false

def okS (s : List UInt8) : Prop := s.length = 256 ∧ (∀ b ∈ s, b ≤ 2) ∧ ∀ b ∈ s.take 12, b = 1
instance (s : List UInt8) : Decidable (okS s) := by unfold okS; infer_instance

/-! ### Free blocks -/
/-- the first nought from place i on -/
def freeFrom (s : List UInt8) (i : Nat) : Option Nat := (List.range' i (s.length - i)).find? fun j => s.getD j 1 == 0
theorem freeFrom_some {s : List UInt8} {i j : Nat} (h : freeFrom s i = some j) : i ≤ j ∧ j < s.length ∧ s[j]? = some 0 := by
  unfold freeFrom at h
  have h1 := List.mem_of_find?_eq_some h
  have h2 := List.find?_some h
  rw [List.mem_range'_1] at h1
  have hj : j < s.length := by omega
  refine ⟨h1.1, hj, ?_⟩
  rw [List.getD_eq_getElem?_getD, List.getElem?_eq_getElem hj] at h2
  rw [List.getElem?_eq_getElem hj]
  simpa using h2
end Go.Ow

/-
  What is proved here: keys, streams of bytes, tags and seals (mix, mac, cipher, seal), in plain words: which values they have is left open.
-/
namespace Go.Ow
set_option linter.unusedVariables false
set_option linter.unusedSimpArgs false

theorem lim_le {n : Nat} (h : n ≤ 1000000) : n ≤ LIM := Nat.le_trans h (by decide)
/-! ### Texts one behind the other -/
/-! ### Keys -/
theorem put4 (a : UInt32) : code_Put (a.toNat : Int) 4 = some (leB a.toNat 4, 0) := by
  have := code_Put_eq (n := a.toNat) (k := 4) (by omega) (by omega) (by have := a.toNat_lt; omega)
  exact this
/-! ### Tags -/
/-! ### Streams -/
end Go.Ow

/-
  What is proved here: blocks laid, sealed, looked at, opened (store), in plain words.
-/
namespace Go.Ow
set_option linter.unusedVariables false
set_option linter.unusedSimpArgs false

def noP : Ptr := ⟨0, 0, 0, 0, 0⟩
def OKSt (s : Store) : Prop := OKD s.Disk ∧ okS s.Space ∧ (1 : UInt32) ≤ s.Epoch ∧ s.Epoch ≤ 65535 ∧ s.Count ≤ 65535
instance (s : Store) : Decidable (OKSt s) := by unfold OKSt; infer_instance
theorem OKSt.sized {s : Store} (h : OKSt s) : Sized s.Disk := h.1.sized

/-! ### What is asked -/
def birthOk (b : UInt32) : Prop := (1 : UInt32) ≤ b ∧ b ≤ 16777215
instance (b : UInt32) : Decidable (birthOk b) := by unfold birthOk; infer_instance
/-! ### A block is laid -/
structure PutAt (s : Store) (p : Ptr) (b : List UInt8) (t : Store) (q : Ptr) (j : Nat) : Prop where
  ok : OKSt s
  len : b.length = 256
  free : freeFrom s.Space 0 = some j
  room : s.Disk.Waits.length ≠ 4096
  out : t = ⟨⟨s.Disk.Blocks, s.Disk.Waits ++ [⟨(j : Int), b⟩]⟩, s.Space.set j 1, s.Epoch, s.Count⟩
  ptr : q = ⟨(j : Int), p.Birth, p.Iv, p.Tag, sumOf b⟩
theorem free_high {s : List UInt8} (h : okS s) {j : Nat} (hj : s[j]? = some 0) : 12 ≤ j ∧ j < 256 := by
  have hlt : j < s.length := (List.getElem?_eq_some_iff.1 hj).1
  rw [h.1] at hlt
  refine ⟨?_, hlt⟩
  apply Nat.le_of_not_lt
  intro hc
  have : (s.take 12)[j]? = some 0 := by rw [List.getElem?_take, if_pos hc]; exact hj
  have := h.2.2 0 (List.mem_of_getElem? this)
  cases this
theorem PutAt.place {s : Store} {p : Ptr} {b : List UInt8} {t : Store} {q : Ptr} {j : Nat} (h : PutAt s p b t q j) : 12 ≤ j ∧ j < 256 := free_high h.ok.2.1 (freeFrom_some h.free).2.2
theorem PutAt.seen {s : Store} {p : Ptr} {b : List UInt8} {t : Store} {q : Ptr} {j : Nat} (h : PutAt s p b t q j) : seenB t.Disk = (seenB s.Disk).set j b := by
  rw [h.out]
  simp only [seenB, layW, List.foldl_append, List.foldl_cons, List.foldl_nil, Int.toNat_natCast]
/-! ### A block is sealed -/
def more (s : Store) : Store := ⟨s.Disk, s.Space, s.Epoch, s.Count + 1⟩
/-! ### A block is looked at, and opened -/
def lookS (s : Store) (p : Ptr) : List UInt8 × Int :=
  if OKSt s ∧ (isNone p ∨ okR p) then (if isNone p then ([], 6) else (if sumOf ((seenB s.Disk).getD p.At.toNat []) = p.Sum then ((seenB s.Disk).getD p.At.toNat [], 0) else ([], 130))) else ([], 8)
theorem seen_mem {d : Disk} (h : OKD d) {i : Nat} (hi : i < 256) : ((seenB d).getD i []).length = 256 := by
  have hl := seenB_length h
  rw [List.getD_eq_getElem?_getD, List.getElem?_eq_getElem (by omega), Option.getD_some]
  exact layW_all h.2.2.1 (fun w hw => okW_data (h.2.2.2 w hw)) _ (List.getElem_mem _)
theorem none_dec' (p : Ptr) : (decide (p.At = 0) && (decide (p.Birth = (0 : UInt32)) && (decide (p.Iv = (0 : UInt32)) && (decide (p.Tag = (0 : UInt32)) && (decide (p.Sum = (0 : UInt32)) && true))))) = decide (isNone p) := none_dec p
end Go.Ow

/-
  What is proved here: a store that is new; what was laid is seen, what was sealed is opened; an example.
-/
namespace Go.Ow
set_option linter.unusedVariables false
set_option linter.unusedSimpArgs false

theorem forL_tot' {α σ τ : Type} {f : α → σ → Option (σ ⊕ τ)} : ∀ {l : List α} {s : σ}, (∀ y s, ∃ o, f y s = some o) → ∃ o, forL f l s = some o
  | [], s, _ => ⟨_, rfl⟩
  | y :: l, s, h => by
    obtain ⟨o, h1⟩ := h y s
    cases o with
    | inl s' => rw [forL_cons h1]; exact forL_tot' h
    | inr e => rw [forL_stop h1]; exact ⟨_, rfl⟩
def greatF (n : Nat) (r : Int) : Option (Int ⊕ Int) := if r < 2000000 then some (.inl (w64 (r + (n : Int)))) else some (.inr r)
theorem great_tot {d : Disk} (h : Sized d) : ∃ g, ref09_Great d = some g := by
  have L1 : ∀ r0, ∃ t, loop (ref09_Great_l1 d) (r0, 0) = some t := fun r0 => by
    rw [loop_each' d.Blocks (fun i (r : Int) => (r, i)) (fun b r => greatF b.length r) (fun r => r) (fun i hi r => ?_) (fun r => ?_) (small_lt h.blocks) r0]
    · obtain ⟨o, ho⟩ := forL_tot' (f := fun (b : List UInt8) (r : Int) => greatF b.length r) (l := d.Blocks) (s := r0) (fun y s => by unfold greatF; split <;> exact ⟨_, rfl⟩)
      rw [ho]; cases o <;> exact ⟨_, rfl⟩
    · unfold ref09_Great_l1 greatF
      rw [cI, if_pos hi]
      by_cases c : r < 2000000
      · rw [decide_eq_true c, if_pos c, cond_true, Zx _ hi]; rfl
      · rw [decide_eq_false c, if_neg c]; rfl
    · unfold ref09_Great_l1
      rw [cI, if_neg (by omega)]
  have L2 : ∀ r0, ∃ t, loop (ref09_Great_l2 d) (r0, 0) = some t := fun r0 => by
    rw [loop_each' d.Waits (fun i (r : Int) => (r, i)) (fun b r => greatF b.Data.length r) (fun r => r) (fun i hi r => ?_) (fun r => ?_) (small_lt h.waits) r0]
    · obtain ⟨o, ho⟩ := forL_tot' (f := fun (b : Write) (r : Int) => greatF b.Data.length r) (l := d.Waits) (s := r0) (fun y s => by unfold greatF; split <;> exact ⟨_, rfl⟩)
      rw [ho]; cases o <;> exact ⟨_, rfl⟩
    · unfold ref09_Great_l2 greatF
      rw [cI, if_pos hi]
      by_cases c : r < 2000000
      · rw [decide_eq_true c, if_pos c, cond_true, Zx _ hi]; rfl
      · rw [decide_eq_false c, if_neg c]; rfl
    · unfold ref09_Great_l2
      rw [cI, if_neg (by omega)]
  unfold ref09_Great
  have key : ∃ t, (cond (decide (500 < (d.Blocks.length : Int))) (some (.inr ())) (cond (decide (500 < (d.Waits.length : Int))) (cond (decide ((d.Waits.length : Int) < 4096)) (some (.inr ())) (cond (decide (4106 < (d.Waits.length : Int))) (some (.inr ())) (some (.inl ())))) (cond (decide (4106 < (d.Waits.length : Int))) (some (.inr ())) (some (.inl ()))))) = some (t : Unit ⊕ Unit) := by
    generalize decide (500 < (d.Blocks.length : Int)) = b1
    generalize decide (500 < (d.Waits.length : Int)) = b2
    generalize decide ((d.Waits.length : Int) < 4096) = b3
    generalize decide (4106 < (d.Waits.length : Int)) = b4
    cases b1 <;> cases b2 <;> cases b3 <;> cases b4 <;> exact ⟨_, rfl⟩
  obtain ⟨t, ht⟩ := key
  rw [ht, Option.bind_some]
  cases t with
  | inl _ =>
    obtain ⟨t1, h1⟩ := L1 0
    obtain ⟨t2, h2⟩ := L2 t1
    simp only [Sum.elim_inl]
    rw [h1, Option.bind_some, h2, Option.bind_some]
    exact ⟨_, rfl⟩
  | inr _ => exact ⟨_, rfl⟩

/-! ### What was laid is seen -/
theorem PutAt.okR {s : Store} {p : Ptr} {b : List UInt8} {t : Store} {q : Ptr} {j : Nat} (h : PutAt s p b t q j) (hb : birthOk p.Birth) : okR q ∧ ¬ isNone q := by
  have hp := h.place
  rw [h.ptr]
  exact ⟨⟨by show (12 : Int) ≤ (j : Int); omega, by show (j : Int) < 256; omega, hb.1, hb.2⟩, fun hn => by have : (j : Int) = 0 := hn.1; omega⟩
theorem getD_set {B : List (List UInt8)} {j : Nat} (hj : j < B.length) (b : List UInt8) (i : Nat) : (B.set j b).getD i [] = if i = j then b else B.getD i [] := by
  rw [List.getD_eq_getElem?_getD, List.getElem?_set]
  by_cases c : i = j
  · subst c; rw [if_pos rfl, if_pos hj, if_pos rfl]; rfl
  · rw [if_neg (fun e => c e.symm), if_neg c, List.getD_eq_getElem?_getD]
theorem PutAt.at {s : Store} {p : Ptr} {b : List UInt8} {t : Store} {q : Ptr} {j : Nat} (h : PutAt s p b t q j) (i : Nat) : (seenB t.Disk).getD i [] = if i = j then b else (seenB s.Disk).getD i [] := by
  have hp := h.place
  rw [h.seen, getD_set (by rw [seenB_length h.ok.1]; omega)]
/-! ### A new store -/
end Go.Ow

/-
  What is proved here: no two blocks are sealed by one number; limits, errors, examples: the laws, in plain words.
-/
namespace Go.Ow
set_option linter.unusedVariables false
set_option linter.unusedSimpArgs false

theorem noP_none : isNone noP := ⟨rfl, rfl, rfl, rfl, rfl⟩
/-! ### Examples -/
end Go.Ow

/-
  What is proved here: where there is room a block is laid; where a byte is turned, it is found: the laws, in plain words.
-/
namespace Go.Ow
set_option linter.unusedVariables false
set_option linter.unusedSimpArgs false

/-! ### The next free block -/
/-! ### A byte that is turned -/
def turned (B : List (List UInt8)) (j i : Nat) (by' : UInt8) : List (List UInt8) := B.set j ((B.getD j []).set i (((B.getD j []).getD i 0) ^^^ by'))
end Go.Ow

/-
  What is proved here: what was laid is seen, what was sealed is opened, no other block changes; what was given up is looked at as before: the laws, in plain words.
-/
namespace Go.Ow
set_option linter.unusedVariables false
set_option linter.unusedSimpArgs false

theorem nbeq {α : Type} [DecidableEq α] {a b : α} (h : a = b) : (!decide (a = b)) = false := by rw [decide_eq_true h]; rfl
/-! ### A block is given up -/
/-! ### What was given up -/
end Go.Ow
