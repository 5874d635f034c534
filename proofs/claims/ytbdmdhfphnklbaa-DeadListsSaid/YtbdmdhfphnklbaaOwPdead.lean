/- plain functions: what the code computes. -/
import Derived.Test.YtbdmdhfphnklbaaOwPT
import Derived.Test.YtbdmdhfphnklbaaOwPU
import Derived.Test.YtbdmdhfphnklbaaOwPA
import Derived.Test.YtbdmdhfphnklbaaOwSp
namespace Go.Ow
set_option linter.unusedVariables false
set_option linter.unusedSimpArgs false

def law16_at (p_1 : Int) (p_2 : UInt32) : Option Ptr :=
  some (Ptr.mk p_1 p_2 (0 : UInt32) (0 : UInt32) (0 : UInt32))

def ptr_Check (p_1 : Ptr) : Option Int :=
  cond (decide (p_1.At = 0) && (decide (p_1.Birth = (0 : UInt32)) && (decide (p_1.Iv = (0 : UInt32)) && (decide (p_1.Tag = (0 : UInt32)) && (decide (p_1.Sum = (0 : UInt32)) && true))))) (some 0) (cond (decide (p_1.At < 12)) (some 8) (cond (decide (256 ≤ p_1.At)) (some 8) (cond (decide (p_1.Birth < (1 : UInt32))) (some 8) (cond (decide ((16777215 : UInt32) < p_1.Birth)) (some 8) (some 0)))))

def cmp_isNaN_int (p_1 : Int) : Option Bool :=
  some (!decide (p_1 = p_1))

def cmp_Compare_int (p_1 : Int) (p_2 : Int) : Option Int :=
  Option.bind (cmp_isNaN_int p_1) fun x_3 => Option.bind (cmp_isNaN_int p_2) fun x_6 => cond x_3 (cond x_6 (some 0) (some (-1))) (cond x_6 (some 1) (cond (decide (p_1 < p_2)) (some (-1)) (cond (decide (p_2 < p_1)) (some 1) (some 0))))

def dead_order (p_1 : Ptr) (p_2 : Ptr) : Option Int :=
  Option.bind (cmp_Compare_int p_1.At p_2.At) fun x_5 => some x_5

def dead_Check_l1 (p_1 : List Ptr) (s_7 : Nat) : Option (Nat ⊕ (Unit ⊕ Unit)) :=
  cond (decide (((s_7 : Nat) : Int) < (p_1.length : Int))) (idx p_1 ((s_7 : Nat) : Int) fun y_11 => cond (decide (y_11.At = 0) && (decide (y_11.Birth = (0 : UInt32)) && (decide (y_11.Iv = (0 : UInt32)) && (decide (y_11.Tag = (0 : UInt32)) && (decide (y_11.Sum = (0 : UInt32)) && true))))) (some (.inr (.inr ()))) (Option.bind (ptr_Check y_11) fun x_22 => cond (!decide (x_22 = 0)) (some (.inr (.inr ()))) (cond (decide (0 < ((s_7 : Nat) : Int))) (idx p_1 (w64 (((s_7 : Nat) : Int) - 1)) fun y_27 => Option.bind (dead_order y_27 y_11) fun x_36 => cond (decide (0 ≤ x_36)) (some (.inr (.inr ()))) (some (.inl (s_7 + 1)))) (some (.inl (s_7 + 1)))))) (some (.inr (.inl ())))

def dead_Check (p_1 : List Ptr) : Option Int :=
  cond (decide (240 < (p_1.length : Int))) (some 8) (Option.bind (loop (dead_Check_l1 p_1) 0) (fun t_4 => Sum.elim (fun t_4a => some 0) (fun t_4b => some 8) t_4))

def slices_Grow_Ptr (p_1 : Int) : Option (List Ptr) :=
  cond (decide (p_1 < 0)) (none) (Option.bind (cond (decide (0 < (w64 (p_1 - 0)))) (mks (w64 (p_1 - 0)) (Ptr.mk 0 (0 : UInt32) (0 : UInt32) (0 : UInt32) (0 : UInt32)) fun q_9 => slc q_9 0 0 fun m_13 => some m_13) (some ([] : List Ptr))) (fun t_3 => some t_3))

def slices_Concat_Ptr_l2 (p_1 : List (List Ptr)) (s_16 : List Ptr × Nat) : Option ((List Ptr × Nat) ⊕ (List Ptr)) :=
  cond (decide (((s_16.2 : Nat) : Int) < (p_1.length : Int))) (idx p_1 ((s_16.2 : Nat) : Int) fun y_21 => app s_16.1 y_21 fun q_32 => some (.inl (q_32, s_16.2 + 1))) (some (.inr s_16.1))

def slices_Concat_Ptr_l1 (p_1 : List (List Ptr)) (s_6 : Int × Nat) : Option ((Int × Nat) ⊕ Int) :=
  cond (decide (((s_6.2 : Nat) : Int) < (p_1.length : Int))) (idx p_1 ((s_6.2 : Nat) : Int) fun y_10 => cond (decide ((w64 (s_6.1 + (y_10.length : Int))) < 0)) (none) (some (.inl (w64 (s_6.1 + (y_10.length : Int)), s_6.2 + 1)))) (some (.inr s_6.1))

def slices_Concat_Ptr (p_1 : List (List Ptr)) : Option (List Ptr) :=
  Option.bind (loop (slices_Concat_Ptr_l1 p_1) (0, 0)) (fun t_3 => Option.bind (slices_Grow_Ptr t_3) fun x_9 => Option.bind (loop (slices_Concat_Ptr_l2 p_1) (x_9, 0)) (fun t_13 => some t_13))

def slices_SortFunc_Ptr_dead_order (p_1 : List Ptr) : Option (List Ptr) := if p_1.length < 4611686018427387904 then some (sortL (fun x y => (dead_order x y).getD 0) p_1) else none

def slices_Clone_Ptr (p_1 : List Ptr) : Option (List Ptr) := app [] p_1 fun q => some q

def dead_Join_1 (p_1 : Ptr) (p_2 : Ptr) : Option Bool :=
  some (decide (p_1.At = p_2.At))

def slices_CompactFunc_Ptr_l1 (p_1 : List Ptr) (s_7 : Nat) (s_42 : List Ptr × Int × Int) : Option ((List Ptr × Int × Int) ⊕ (List Ptr × Int)) :=
  cond (decide (s_42.2.2 < ((p_1.length : Int) - ((s_7 : Nat) : Int)))) (chk (0 ≤ s_42.2.2 ∧ s_42.2.2 < (p_1.length : Int) - ((s_7 : Nat) : Int)) <| idx s_42.1 (((s_7 : Nat) : Int) + s_42.2.2) fun y_48 => chk (0 ≤ w64 (s_42.2.2 - 1) ∧ w64 (s_42.2.2 - 1) < (p_1.length : Int) - ((s_7 : Nat) : Int)) <| idx s_42.1 (((s_7 : Nat) : Int) + (w64 (s_42.2.2 - 1))) fun y_60 => Option.bind (dead_Join_1 y_48 y_60) fun x_71 => cond (!x_71) (chk (0 ≤ s_42.2.2 ∧ s_42.2.2 < (p_1.length : Int) - ((s_7 : Nat) : Int)) <| idx s_42.1 (((s_7 : Nat) : Int) + s_42.2.2) fun y_76 => chk (0 ≤ s_42.2.1 ∧ s_42.2.1.toNat < s_42.1.length) <| setI s_42.1 s_42.2.1 y_76 fun m_91 => some (.inl (m_91, w64 (s_42.2.1 + 1), w64 (s_42.2.2 + 1)))) (some (.inl (s_42.1, s_42.2.1, w64 (s_42.2.2 + 1))))) (some (.inr (s_42.1, s_42.2.1)))

def slices_CompactFunc_Ptr_l2 (p_1 : List Ptr) (s_7 : Nat) : Option (Nat ⊕ (Unit ⊕ (List Ptr))) :=
  cond (decide (((s_7 : Nat) : Int) < (p_1.length : Int))) (idx p_1 ((s_7 : Nat) : Int) fun y_11 => idx p_1 (w64 (((s_7 : Nat) : Int) - 1)) fun y_22 => Option.bind (dead_Join_1 y_11 y_22) fun x_33 => cond x_33 (chk (0 ≤ ((s_7 : Nat) : Int) ∧ ((s_7 : Nat) : Int) ≤ (p_1.length : Int) ∧ (p_1.length : Int) ≤ p_1.length) <| Option.bind (loop (slices_CompactFunc_Ptr_l1 p_1 s_7) (p_1, ((s_7 : Nat) : Int), 1)) (fun t_39 => chk (0 ≤ t_39.2 ∧ t_39.2 ≤ (t_39.1.length : Int) ∧ (t_39.1.length : Int) ≤ t_39.1.length) <| clrO t_39.1 t_39.2 (t_39.1.length : Int) (Ptr.mk 0 (0 : UInt32) (0 : UInt32) (0 : UInt32) (0 : UInt32)) fun m_49 => slc m_49 0 t_39.2 fun m_54 => some (.inr (.inr m_54)))) (some (.inl (s_7 + 1)))) (some (.inr (.inl ())))

def slices_CompactFunc_Ptr (p_1 : List Ptr) : Option (List Ptr) :=
  cond (decide ((p_1.length : Int) < 2)) (some p_1) (Option.bind (loop (slices_CompactFunc_Ptr_l2 p_1) 1) (fun t_4 => Sum.elim (fun t_4a => some p_1) (fun t_4b => some t_4b) t_4))

def dead_Join (p_1 : List Ptr) (p_3 : List Ptr) : Option (List Ptr × Int) :=
  Option.bind (dead_Check p_1) fun x_5 => cond (!decide (x_5 = 0)) (some (([] : List Ptr), 8)) (Option.bind (dead_Check p_3) fun x_9 => cond (!decide (x_9 = 0)) (some (([] : List Ptr), 8)) (Option.bind (slices_Concat_Ptr ([p_1, p_3])) fun x_17 => Option.bind (slices_SortFunc_Ptr_dead_order x_17) fun x_22 => Option.bind (slices_Clone_Ptr x_22) fun x_29 => Option.bind (slices_CompactFunc_Ptr x_29) fun x_34 => cond (decide ((x_34.length : Int) < (x_22.length : Int))) (some (([] : List Ptr), 2)) (cond (decide (240 < (x_22.length : Int))) (some (([] : List Ptr), 9)) (some (x_22, 0)))))

def dead_Add (p_1 : List Ptr) (p_3 : Ptr) : Option (List Ptr × Int) :=
  Option.bind (dead_Check ([p_3])) fun x_9 => cond (!decide (x_9 = 0)) (some (([] : List Ptr), 8)) (Option.bind (dead_Join p_1 ([p_3])) fun x_16 => some (x_16.1, x_16.2))

def law16_alive : Option Bool :=
  Option.bind (law16_at 20 (1 : UInt32)) fun x_1 => Option.bind (law16_at 30 (1 : UInt32)) fun x_4 => Option.bind (law16_at 25 (1 : UInt32)) fun x_8 => Option.bind (dead_Add ([x_1, x_4]) x_8) fun x_14 => Option.bind (cond (decide (x_14.2 = 0)) (cond (decide ((x_14.1.length : Int) = 3)) (idx x_14.1 0 fun y_24 => cond (decide (y_24.At = 20)) (idx x_14.1 1 fun y_36 => cond (decide (y_36.At = 25)) (idx x_14.1 2 fun y_48 => some (decide (y_48.At = 30))) (some false)) (some false)) (some false)) (some false)) (fun t_19 => some t_19)

def law16_same_l1 (p_1 : List Ptr) (p_3 : List Ptr) (s_8 : Nat) : Option (Nat ⊕ (Unit ⊕ Unit)) :=
  cond (decide (((s_8 : Nat) : Int) < (p_1.length : Int))) (cond (decide (((s_8 : Nat) : Int) < (p_3.length : Int))) (idx p_1 ((s_8 : Nat) : Int) fun y_13 => idx p_3 ((s_8 : Nat) : Int) fun y_22 => cond (!(decide (y_13.At = y_22.At) && (decide (y_13.Birth = y_22.Birth) && (decide (y_13.Iv = y_22.Iv) && (decide (y_13.Tag = y_22.Tag) && (decide (y_13.Sum = y_22.Sum) && true)))))) (some (.inr (.inr ()))) (some (.inl (s_8 + 1)))) (some (.inr (.inl ())))) (some (.inr (.inl ())))

def law16_same (p_1 : List Ptr) (p_3 : List Ptr) : Option Bool :=
  Option.bind (loop (law16_same_l1 p_1 p_3) 0) (fun t_5 => Sum.elim (fun t_5a => some (decide ((p_1.length : Int) = (p_3.length : Int)))) (fun t_5b => some false) t_5)

def law16_DeadJoins (p_1 : List Ptr) (p_3 : List Ptr) (p_5 : List Ptr) : Option Bool :=
  Option.bind (law16_alive) fun x_7 => cond (decide (1000 < (p_1.length : Int))) (some x_7) (cond (decide (1000 < (p_3.length : Int))) (some x_7) (cond (decide (1000 < (p_5.length : Int))) (some x_7) (Option.bind (dead_Join p_1 p_3) fun x_13 => Option.bind (dead_Join p_3 p_1) fun x_17 => Option.bind (cond (!decide (x_13.2 = x_17.2)) (some (.inr ())) (Option.bind (law16_same x_13.1 x_17.1) fun x_28 => cond (!x_28) (some (.inr ())) (cond (decide (x_13.2 = 0)) (cond (!decide ((x_13.1.length : Int) = (w64 ((p_1.length : Int) + (p_3.length : Int))))) (some (.inr ())) (some (.inl ()))) (some (.inl ()))))) (fun t_21 => Sum.elim (fun t_21a => Option.bind (dead_Join p_1 ([] : List Ptr)) fun x_33 => Option.bind (Option.bind (dead_Check p_1) fun x_40 => cond (decide (x_40 = 0)) (cond (!decide (x_33.2 = 0)) (some (.inr ())) (Option.bind (law16_same x_33.1 p_1) fun x_48 => cond (!x_48) (some (.inr ())) (some (.inl ())))) (some (.inl ()))) (fun t_37 => Sum.elim (fun t_37a => cond (!decide (x_13.2 = 0)) (Option.bind (cond x_7 (some (decide ((x_13.1.length : Int) = 0))) (some false)) (fun t_52 => some t_52)) (Option.bind (dead_Join x_13.1 p_5) fun x_59 => Option.bind (dead_Join p_3 p_5) fun x_64 => cond (!decide (x_59.2 = 0)) (Option.bind (cond x_7 (some (!decide (x_59.2 = 0))) (some false)) (fun t_69 => some t_69)) (cond (!decide (x_64.2 = 0)) (Option.bind (cond x_7 (some (!decide (x_59.2 = 0))) (some false)) (fun t_74 => some t_74)) (Option.bind (dead_Join p_1 x_64.1) fun x_81 => Option.bind (cond x_7 (cond (decide (x_81.2 = 0)) (Option.bind (law16_same x_59.1 x_81.1) fun x_94 => some x_94) (some false)) (some false)) (fun t_86 => some t_86))))) (fun t_37b => some false) t_37)) (fun t_21b => some false) t_21))))

def dead_Split_l1 (p_1 : List Ptr) (p_3 : UInt32) (s_13 : List Ptr × List Ptr × Nat) : Option ((List Ptr × List Ptr × Nat) ⊕ (List Ptr × List Ptr)) :=
  cond (decide (((s_13.2.2 : Nat) : Int) < (p_1.length : Int))) (idx p_1 ((s_13.2.2 : Nat) : Int) fun y_19 => cond (decide (p_3 < y_19.Birth)) (app s_13.2.1 ([y_19]) fun q_31 => some (.inl (s_13.1, q_31, s_13.2.2 + 1))) (app s_13.1 ([y_19]) fun q_41 => some (.inl (q_41, s_13.2.1, s_13.2.2 + 1)))) (some (.inr (s_13.1, s_13.2.1)))

def dead_Split (p_1 : List Ptr) (p_3 : UInt32) : Option (List Ptr × List Ptr × Int) :=
  Option.bind (dead_Check p_1) fun x_6 => cond (!decide (x_6 = 0)) (some (([] : List Ptr), ([] : List Ptr), x_6)) (Option.bind (loop (dead_Split_l1 p_1 p_3) (([] : List Ptr), ([] : List Ptr), 0)) (fun t_10 => some (t_10.1, t_10.2, 0)))

def law16_DeadParts_l3 (p_1 : List Ptr) (p_3 : Ptr) (x_59 : List Ptr × Int) (s_71 : Int × Int × Nat) : Option ((Int × Int × Nat) ⊕ ((Int × Int) ⊕ Unit)) :=
  cond (decide (((s_71.2.2 : Nat) : Int) < (x_59.1.length : Int))) (idx x_59.1 ((s_71.2.2 : Nat) : Int) fun y_75 => cond (decide (y_75.At = p_3.At) && (decide (y_75.Birth = p_3.Birth) && (decide (y_75.Iv = p_3.Iv) && (decide (y_75.Tag = p_3.Tag) && (decide (y_75.Sum = p_3.Sum) && true))))) (some (.inl (s_71.1, w64 (s_71.2.1 + 1), s_71.2.2 + 1))) (cond (decide ((p_1.length : Int) ≤ s_71.1)) (some (.inr (.inr ()))) (idx p_1 s_71.1 fun y_88 => idx x_59.1 ((s_71.2.2 : Nat) : Int) fun y_97 => cond (!(decide (y_88.At = y_97.At) && (decide (y_88.Birth = y_97.Birth) && (decide (y_88.Iv = y_97.Iv) && (decide (y_88.Tag = y_97.Tag) && (decide (y_88.Sum = y_97.Sum) && true)))))) (some (.inr (.inr ()))) (some (.inl (w64 (s_71.1 + 1), s_71.2.1, s_71.2.2 + 1)))))) (some (.inr (.inl (s_71.1, s_71.2.1))))

def law16_DeadParts_l2 (p_4 : UInt32) (x_14 : List Ptr × List Ptr × Int) (s_56 : Nat) : Option (Nat ⊕ (Unit ⊕ Unit)) :=
  cond (decide (((s_56 : Nat) : Int) < (x_14.2.1.length : Int))) (idx x_14.2.1 ((s_56 : Nat) : Int) fun y_60 => cond (decide (y_60.Birth ≤ p_4)) (some (.inr (.inr ()))) (some (.inl (s_56 + 1)))) (some (.inr (.inl ())))

def law16_DeadParts_l1 (p_4 : UInt32) (x_14 : List Ptr × List Ptr × Int) (s_50 : Nat) : Option (Nat ⊕ (Unit ⊕ Unit)) :=
  cond (decide (((s_50 : Nat) : Int) < (x_14.1.length : Int))) (idx x_14.1 ((s_50 : Nat) : Int) fun y_54 => cond (decide (p_4 < y_54.Birth)) (some (.inr (.inr ()))) (some (.inl (s_50 + 1)))) (some (.inr (.inl ())))

def law16_DeadParts (p_1 : List Ptr) (p_3 : Ptr) (p_4 : UInt32) : Option Bool :=
  Option.bind (law16_alive) fun x_6 => cond (decide (1000 < (p_1.length : Int))) (some x_6) (Option.bind (dead_Check p_1) fun x_10 => cond (!decide (x_10 = 0)) (some x_6) (Option.bind (dead_Split p_1 p_4) fun x_14 => Option.bind (dead_Join x_14.2.1 x_14.1) fun x_22 => cond (!decide (x_14.2.2 = 0)) (some false) (cond (!decide (x_22.2 = 0)) (some false) (Option.bind (law16_same x_22.1 p_1) fun x_32 => cond (!x_32) (some false) (Option.bind (dead_Check x_14.1) fun x_38 => cond (!decide (x_38 = 0)) (some false) (Option.bind (dead_Check x_14.2.1) fun x_44 => cond (!decide (x_44 = 0)) (some false) (Option.bind (loop (law16_DeadParts_l1 p_4 x_14) 0) (fun t_47 => Sum.elim (fun t_47a => Option.bind (loop (law16_DeadParts_l2 p_4 x_14) 0) (fun t_53 => Sum.elim (fun t_53a => Option.bind (dead_Add p_1 p_3) fun x_59 => cond (!decide (x_59.2 = 0)) (Option.bind (cond x_6 (some (decide ((x_59.1.length : Int) = 0))) (some false)) (fun t_64 => some t_64)) (Option.bind (loop (law16_DeadParts_l3 p_1 p_3 x_59) (0, 0, 0)) (fun t_68 => Sum.elim (fun t_68a => Option.bind (cond x_6 (cond (decide (t_68a.2 = 1)) (cond (decide (t_68a.1 = (p_1.length : Int))) (Option.bind (dead_Check x_59.1) fun x_83 => some (decide (x_83 = 0))) (some false)) (some false)) (some false)) (fun t_74 => some t_74)) (fun t_68b => some false) t_68))) (fun t_53b => some false) t_53)) (fun t_47b => some false) t_47))))))))

def law16_DeadSyncs_l1 (p_1 : List Ptr) (s_67 : List Ptr × Int) : Option ((List Ptr × Int) ⊕ ((List Ptr) ⊕ Unit)) :=
  cond (decide (0 ≤ s_67.2)) (idx p_1 s_67.2 fun y_72 => Option.bind (dead_Add s_67.1 y_72) fun x_84 => cond (!decide (x_84.2 = 0)) (some (.inr (.inr ()))) (some (.inl (x_84.1, w64 (s_67.2 - 1))))) (some (.inr (.inl s_67.1)))

def law16_DeadSyncs (p_1 : List Ptr) (p_3 : UInt32) (p_4 : UInt32) : Option Bool :=
  Option.bind (law16_alive) fun x_5 => cond (decide (300 < (p_1.length : Int))) (some x_5) (Option.bind (dead_Check p_1) fun x_9 => cond (!decide (x_9 = 0)) (some x_5) (cond (decide (p_4 < p_3)) (some x_5) (Option.bind (dead_Split p_1 p_3) fun x_14 => Option.bind (dead_Split x_14.2.1 p_4) fun x_22 => Option.bind (dead_Split p_1 p_4) fun x_28 => Option.bind (dead_Split x_28.1 p_3) fun x_36 => cond (!decide (x_14.2.2 = 0)) (some false) (cond (!decide (x_22.2.2 = 0)) (some false) (cond (!decide (x_28.2.2 = 0)) (some false) (cond (!decide (x_36.2.2 = 0)) (some false) (Option.bind (law16_same x_14.1 x_36.1) fun x_49 => cond (!x_49) (some false) (Option.bind (law16_same x_22.1 x_36.2.1) fun x_55 => cond (!x_55) (some false) (Option.bind (law16_same x_22.2.1 x_28.2.1) fun x_61 => cond (!x_61) (some false) (Option.bind (loop (law16_DeadSyncs_l1 p_1) (([] : List Ptr), w64 ((p_1.length : Int) - 1))) (fun t_64 => Sum.elim (fun t_64a => Option.bind (cond x_5 (Option.bind (law16_same t_64a p_1) fun x_79 => some x_79) (some false)) (fun t_72 => some t_72)) (fun t_64b => some false) t_64)))))))))))

def ref10_None (p_1 : Ptr) : Option Bool :=
  some (decide (p_1.At = 0) && (decide (p_1.Birth = (0 : UInt32)) && (decide (p_1.Iv = (0 : UInt32)) && (decide (p_1.Tag = (0 : UInt32)) && (decide (p_1.Sum = (0 : UInt32)) && true)))))

def ref10_May (p_1 : Ptr) : Option Bool :=
  Option.bind (Option.bind (ref10_None p_1) fun x_6 => cond x_6 (some true) (cond (decide (12 ≤ p_1.At)) (cond (decide (p_1.At < 256)) (cond (decide ((1 : UInt32) ≤ p_1.Birth)) (some (decide (p_1.Birth ≤ (16777215 : UInt32)))) (some false)) (some false)) (some false))) (fun t_3 => some t_3)

def ref16_one (p_1 : Ptr) : Option Bool :=
  Option.bind (Option.bind (ref10_May p_1) fun x_6 => cond x_6 (Option.bind (ref10_None p_1) fun x_10 => some (!x_10)) (some false)) (fun t_3 => some t_3)

def ref16_May_l1 (p_1 : List Ptr) (s_7 : Nat) : Option (Nat ⊕ (Unit ⊕ Unit)) :=
  cond (decide (((s_7 : Nat) : Int) < (p_1.length : Int))) (idx p_1 ((s_7 : Nat) : Int) fun y_11 => Option.bind (ref16_one y_11) fun x_20 => cond (!x_20) (some (.inr (.inr ()))) (cond (decide (0 < ((s_7 : Nat) : Int))) (idx p_1 ((s_7 : Nat) : Int) fun y_25 => idx p_1 (w64 (((s_7 : Nat) : Int) - 1)) fun y_34 => cond (decide (y_25.At ≤ y_34.At)) (some (.inr (.inr ()))) (some (.inl (s_7 + 1)))) (some (.inl (s_7 + 1))))) (some (.inr (.inl ())))

def ref16_May (p_1 : List Ptr) : Option Bool :=
  cond (decide (240 < (p_1.length : Int))) (some false) (Option.bind (loop (ref16_May_l1 p_1) 0) (fun t_4 => Sum.elim (fun t_4a => some true) (fun t_4b => some false) t_4))

def ref16_Has_l1 (p_1 : List Ptr) (p_3 : Int) (s_7 : Nat) : Option (Nat ⊕ (Unit ⊕ Unit)) :=
  cond (decide (((s_7 : Nat) : Int) < (p_1.length : Int))) (idx p_1 ((s_7 : Nat) : Int) fun y_11 => cond (decide (y_11.At = p_3)) (some (.inr (.inr ()))) (some (.inl (s_7 + 1)))) (some (.inr (.inl ())))

def ref16_Has (p_1 : List Ptr) (p_3 : Int) : Option Bool :=
  Option.bind (loop (ref16_Has_l1 p_1 p_3) 0) (fun t_4 => Sum.elim (fun t_4a => some false) (fun t_4b => some true) t_4)

def ref16_With_l1 (p_1 : List Ptr) (p_3 : Ptr) (s_8 : List Ptr × Bool × Nat) : Option ((List Ptr × Bool × Nat) ⊕ (List Ptr × Bool)) :=
  cond (decide (((s_8.2.2 : Nat) : Int) < (p_1.length : Int))) (Option.bind (cond (!s_8.2.1) (idx p_1 ((s_8.2.2 : Nat) : Int) fun y_17 => cond (decide (p_3.At < y_17.At)) (app s_8.1 ([p_3]) fun q_28 => some (q_28, true)) (some (s_8.1, s_8.2.1))) (some (s_8.1, s_8.2.1))) (fun t_13 => idx p_1 ((s_8.2.2 : Nat) : Int) fun y_33 => app t_13.1 ([y_33]) fun q_43 => some (.inl (q_43, t_13.2, s_8.2.2 + 1)))) (some (.inr (s_8.1, s_8.2.1)))

def ref16_With (p_1 : List Ptr) (p_3 : Ptr) : Option (List Ptr) :=
  Option.bind (loop (ref16_With_l1 p_1 p_3) (([] : List Ptr), false, 0)) (fun t_5 => Option.bind (cond (!t_5.2) (app t_5.1 ([p_3]) fun q_18 => some q_18) (some t_5.1)) (fun t_13 => some t_13))

def ref16_Add (p_1 : List Ptr) (p_3 : Ptr) : Option (List Ptr × Int) :=
  Option.bind (ref16_May p_1) fun x_5 => cond (!x_5) (some (([] : List Ptr), 8)) (Option.bind (ref16_one p_3) fun x_9 => cond (!x_9) (some (([] : List Ptr), 8)) (Option.bind (ref16_Has p_1 p_3.At) fun x_13 => cond x_13 (some (([] : List Ptr), 2)) (cond (decide (240 ≤ (p_1.length : Int))) (some (([] : List Ptr), 9)) (Option.bind (ref16_With p_1 p_3) fun x_18 => some (x_18, 0)))))

def ref16_Parts_l1 (p_1 : List Ptr) (p_3 : UInt32) (s_7 : List Ptr × List Ptr × Nat) : Option ((List Ptr × List Ptr × Nat) ⊕ (List Ptr × List Ptr)) :=
  cond (decide (((s_7.2.2 : Nat) : Int) < (p_1.length : Int))) (idx p_1 ((s_7.2.2 : Nat) : Int) fun y_13 => cond (decide (y_13.Birth ≤ p_3)) (idx p_1 ((s_7.2.2 : Nat) : Int) fun y_23 => app s_7.1 ([y_23]) fun q_33 => some (.inl (q_33, s_7.2.1, s_7.2.2 + 1))) (idx p_1 ((s_7.2.2 : Nat) : Int) fun y_37 => app s_7.2.1 ([y_37]) fun q_47 => some (.inl (s_7.1, q_47, s_7.2.2 + 1)))) (some (.inr (s_7.1, s_7.2.1)))

def ref16_Parts (p_1 : List Ptr) (p_3 : UInt32) : Option (List Ptr × List Ptr) :=
  Option.bind (loop (ref16_Parts_l1 p_1 p_3) (([] : List Ptr), ([] : List Ptr), 0)) (fun t_4 => some (t_4.1, t_4.2))

def ref16_Split (p_1 : List Ptr) (p_3 : UInt32) : Option (List Ptr × List Ptr × Int) :=
  Option.bind (ref16_May p_1) fun x_4 => cond (!x_4) (some (([] : List Ptr), ([] : List Ptr), 8)) (Option.bind (ref16_Parts p_1 p_3) fun x_8 => some (x_8.1, x_8.2, 0))

def ref16_Join_l1 (p_1 : List Ptr) (p_3 : List Ptr) (s_21 : List Ptr × Nat) : Option ((List Ptr × Nat) ⊕ ((List Ptr) ⊕ Unit)) :=
  cond (decide (((s_21.2 : Nat) : Int) < (p_3.length : Int))) (idx p_3 ((s_21.2 : Nat) : Int) fun y_26 => Option.bind (ref16_Has p_1 y_26.At) fun x_35 => cond x_35 (some (.inr (.inr ()))) (idx p_3 ((s_21.2 : Nat) : Int) fun y_39 => Option.bind (ref16_With s_21.1 y_39) fun x_51 => some (.inl (x_51, s_21.2 + 1)))) (some (.inr (.inl s_21.1)))

def ref16_Join (p_1 : List Ptr) (p_3 : List Ptr) : Option (List Ptr × Int) :=
  Option.bind (ref16_May p_1) fun x_5 => cond (!x_5) (some (([] : List Ptr), 8)) (Option.bind (ref16_May p_3) fun x_9 => cond (!x_9) (some (([] : List Ptr), 8)) (app ([] : List Ptr) p_1 fun q_14 => Option.bind (loop (ref16_Join_l1 p_1 p_3) (q_14, 0)) (fun t_18 => Sum.elim (fun t_18a => cond (decide (240 < (t_18a.length : Int))) (some (([] : List Ptr), 9)) (some (t_18a, 0))) (fun t_18b => some (([] : List Ptr), 2)) t_18)))

def ref10_Same_l1 (p_1 : List Ptr) (p_3 : List Ptr) (s_9 : Nat) : Option (Nat ⊕ (Unit ⊕ Unit)) :=
  cond (decide (((s_9 : Nat) : Int) < (p_1.length : Int))) (idx p_1 ((s_9 : Nat) : Int) fun y_13 => idx p_3 ((s_9 : Nat) : Int) fun y_22 => cond (!(decide (y_13.At = y_22.At) && (decide (y_13.Birth = y_22.Birth) && (decide (y_13.Iv = y_22.Iv) && (decide (y_13.Tag = y_22.Tag) && (decide (y_13.Sum = y_22.Sum) && true)))))) (some (.inr (.inr ()))) (some (.inl (s_9 + 1)))) (some (.inr (.inl ())))

def ref10_Same (p_1 : List Ptr) (p_3 : List Ptr) : Option Bool :=
  cond (!decide ((p_1.length : Int) = (p_3.length : Int))) (some false) (Option.bind (loop (ref10_Same_l1 p_1 p_3) 0) (fun t_6 => Sum.elim (fun t_6a => some true) (fun t_6b => some false) t_6))

def ref16_Check (p_1 : List Ptr) : Option Int :=
  Option.bind (ref16_May p_1) fun x_3 => cond (!x_3) (some 8) (some 0)

def law16_spoil_l1 (s_6 : List Ptr × Nat) : Option ((List Ptr × Nat) ⊕ Unit) :=
  cond (decide (((s_6.2 : Nat) : Int) < (s_6.1.length : Int))) (idx s_6.1 ((s_6.2 : Nat) : Int) fun y_11 => setI s_6.1 ((s_6.2 : Nat) : Int) (Ptr.mk 0 y_11.Birth y_11.Iv y_11.Tag y_11.Sum) fun m_22 => some (.inl (m_22, s_6.2 + 1))) (some (.inr ()))

def law16_spoil (p_1 : List Ptr) : Option Unit :=
  Option.bind (loop law16_spoil_l1 (p_1, 0)) (fun t_3 => some ())

def law16_DeadLists (p_1 : List Ptr) (p_3 : List Ptr) (p_5 : Ptr) (p_6 : UInt32) : Option Bool :=
  cond (decide (1000 < (p_1.length : Int))) (some true) (cond (decide (1000 < (p_3.length : Int))) (some true) (app ([] : List Ptr) p_1 fun q_11 => app ([] : List Ptr) p_3 fun q_16 => Option.bind (dead_Add q_11 p_5) fun x_23 => Option.bind (ref16_Add p_1 p_5) fun x_28 => Option.bind (dead_Split q_11 p_6) fun x_35 => Option.bind (ref16_Split p_1 p_6) fun x_41 => Option.bind (dead_Join q_11 q_16) fun x_49 => Option.bind (ref16_Join p_1 p_3) fun x_54 => Option.bind (ref10_Same x_23.1 x_28.1) fun x_61 => cond (!x_61) (some false) (cond (!decide (x_23.2 = x_28.2)) (some false) (Option.bind (ref10_Same x_35.1 x_41.1) fun x_68 => cond (!x_68) (some false) (Option.bind (ref10_Same x_35.2.1 x_41.2.1) fun x_74 => cond (!x_74) (some false) (cond (!decide (x_35.2.2 = x_41.2.2)) (some false) (Option.bind (ref10_Same x_49.1 x_54.1) fun x_81 => cond (!x_81) (some false) (cond (!decide (x_49.2 = x_54.2)) (some false) (Option.bind (dead_Check q_11) fun x_88 => Option.bind (ref16_Check p_1) fun x_90 => cond (!decide (x_88 = x_90)) (some false) (Option.bind (law16_spoil x_23.1) fun x_94 => Option.bind (law16_spoil x_35.1) fun x_97 => Option.bind (law16_spoil x_35.2.1) fun x_100 => Option.bind (law16_spoil x_49.1) fun x_103 => Option.bind (Option.bind (ref10_Same q_11 p_1) fun x_112 => cond x_112 (Option.bind (ref10_Same q_16 p_3) fun x_118 => some x_118) (some false)) (fun t_106 => some t_106)))))))))))
end Go.Ow
