/- plain functions: what the code computes. -/
import Derived.Test.YtbdmdhfphnklbaaOwPT
import Derived.Test.YtbdmdhfphnklbaaOwPU
import Derived.Test.YtbdmdhfphnklbaaOwSp
namespace Go.Ow
set_option linter.unusedVariables false

def law16_at (p_1 : Int) (p_2 : UInt32) : Option Ptr :=
  some (Ptr.mk p_1 p_2 (0 : UInt32) (0 : UInt32) (0 : UInt32))

def ptr_Check (p_1 : Ptr) : Option Int :=
  cond (decide (p_1.At = 0) && (decide (p_1.Birth = (0 : UInt32)) && (decide (p_1.Iv = (0 : UInt32)) && (decide (p_1.Tag = (0 : UInt32)) && (decide (p_1.Sum = (0 : UInt32)) && true))))) (some 0) (cond (decide (p_1.At < 12)) (some 8) (cond (decide (256 ≤ p_1.At)) (some 8) (cond (decide (p_1.Birth < (1 : UInt32))) (some 8) (cond (decide ((16777215 : UInt32) < p_1.Birth)) (some 8) (some 0)))))

def cmp_isNaN_int (p_1 : Int) : Option Bool :=
  some (!decide (p_1 = p_1))

def cmp_Compare_int (p_1 : Int) (p_2 : Int) : Option Int :=
  Option.bind (cmp_isNaN_int p_1) fun x_3 => Option.bind (cmp_isNaN_int p_2) fun x_6 => cond x_3 (cond x_6 (some 0) (some (-1))) (cond x_6 (some 1) (cond (decide (p_1 < p_2)) (some (-1)) (cond (decide (p_2 < p_1)) (some 1) (some 0))))

def dead_order (p_1 : Ptr) (p_2 : Ptr) : Option Int :=
  Option.bind (cmp_Compare_int p_1.At p_2.At) fun x_5 => some x_5

def dead_Check_l1 (p_1 : List Ptr) (s_7 : Nat) : Option (Nat ⊕ (Unit ⊕ Unit)) :=
  cond (decide (((s_7 : Nat) : Int) < (p_1.length : Int))) (idx p_1 ((s_7 : Nat) : Int) fun y_11 => cond (decide (y_11.At = 0) && (decide (y_11.Birth = (0 : UInt32)) && (decide (y_11.Iv = (0 : UInt32)) && (decide (y_11.Tag = (0 : UInt32)) && (decide (y_11.Sum = (0 : UInt32)) && true))))) (some (.inr (.inr ()))) (Option.bind (ptr_Check y_11) fun x_22 => cond (!decide (x_22 = 0)) (some (.inr (.inr ()))) (cond (decide (0 < ((s_7 : Nat) : Int))) (idx p_1 (w64 (((s_7 : Nat) : Int) - 1)) fun y_27 => Option.bind (dead_order y_27 y_11) fun x_36 => cond (decide (0 ≤ x_36)) (some (.inr (.inr ()))) (some (.inl (s_7 + 1)))) (some (.inl (s_7 + 1)))))) (some (.inr (.inl ())))

def dead_Check (p_1 : List Ptr) : Option Int :=
  cond (decide (240 < (p_1.length : Int))) (some 8) (Option.bind (loop (dead_Check_l1 p_1) 0) (fun t_4 => Sum.elim (fun t_4a => some 0) (fun t_4b => some 8) t_4))

def slices_Grow_Ptr (p_1 : Int) : Option (List Ptr) :=
  cond (decide (p_1 < 0)) (none) (Option.bind (cond (decide (0 < (w64 (p_1 - 0)))) (mks (w64 (p_1 - 0)) (Ptr.mk 0 (0 : UInt32) (0 : UInt32) (0 : UInt32) (0 : UInt32)) fun q_9 => slc q_9 0 0 fun m_13 => some m_13) (some ([] : List Ptr))) (fun t_3 => some t_3))

def slices_Concat_Ptr_l2 (p_1 : List (List Ptr)) (s_16 : List Ptr × Nat) : Option ((List Ptr × Nat) ⊕ (List Ptr)) :=
  cond (decide (((s_16.2 : Nat) : Int) < (p_1.length : Int))) (idx p_1 ((s_16.2 : Nat) : Int) fun y_21 => app s_16.1 y_21 fun q_32 => some (.inl (q_32, s_16.2 + 1))) (some (.inr s_16.1))

def slices_Concat_Ptr_l1 (p_1 : List (List Ptr)) (s_6 : Int × Nat) : Option ((Int × Nat) ⊕ Int) :=
  cond (decide (((s_6.2 : Nat) : Int) < (p_1.length : Int))) (idx p_1 ((s_6.2 : Nat) : Int) fun y_10 => cond (decide ((w64 (s_6.1 + (y_10.length : Int))) < 0)) (none) (some (.inl (w64 (s_6.1 + (y_10.length : Int)), s_6.2 + 1)))) (some (.inr s_6.1))

def slices_Concat_Ptr (p_1 : List (List Ptr)) : Option (List Ptr) :=
  Option.bind (loop (slices_Concat_Ptr_l1 p_1) (0, 0)) (fun t_3 => Option.bind (slices_Grow_Ptr t_3) fun x_9 => Option.bind (loop (slices_Concat_Ptr_l2 p_1) (x_9, 0)) (fun t_13 => some t_13))

def slices_SortFunc_Ptr_dead_order (p_1 : List Ptr) : Option (List Ptr) := if p_1.length < 4611686018427387904 then some (sortL (fun x y => (dead_order x y).getD 0) p_1) else none

def slices_Clone_Ptr (p_1 : List Ptr) : Option (List Ptr) := app [] p_1 fun q => some q

def dead_Join_1 (p_1 : Ptr) (p_2 : Ptr) : Option Bool :=
  some (decide (p_1.At = p_2.At))

def slices_CompactFunc_Ptr_l1 (p_1 : List Ptr) (s_7 : Nat) (s_42 : List Ptr × Int × Int) : Option ((List Ptr × Int × Int) ⊕ (List Ptr × Int)) :=
  cond (decide (s_42.2.2 < ((p_1.length : Int) - ((s_7 : Nat) : Int)))) (chk (0 ≤ s_42.2.2 ∧ s_42.2.2 < (p_1.length : Int) - ((s_7 : Nat) : Int)) <| idx s_42.1 (((s_7 : Nat) : Int) + s_42.2.2) fun y_48 => chk (0 ≤ w64 (s_42.2.2 - 1) ∧ w64 (s_42.2.2 - 1) < (p_1.length : Int) - ((s_7 : Nat) : Int)) <| idx s_42.1 (((s_7 : Nat) : Int) + (w64 (s_42.2.2 - 1))) fun y_60 => Option.bind (dead_Join_1 y_48 y_60) fun x_71 => cond (!x_71) (chk (0 ≤ s_42.2.2 ∧ s_42.2.2 < (p_1.length : Int) - ((s_7 : Nat) : Int)) <| idx s_42.1 (((s_7 : Nat) : Int) + s_42.2.2) fun y_76 => chk (0 ≤ s_42.2.1 ∧ s_42.2.1.toNat < s_42.1.length) <| setI s_42.1 s_42.2.1 y_76 fun m_91 => some (.inl (m_91, w64 (s_42.2.1 + 1), w64 (s_42.2.2 + 1)))) (some (.inl (s_42.1, s_42.2.1, w64 (s_42.2.2 + 1))))) (some (.inr (s_42.1, s_42.2.1)))

def slices_CompactFunc_Ptr_l2 (p_1 : List Ptr) (s_7 : Nat) : Option (Nat ⊕ (Unit ⊕ (List Ptr))) :=
  cond (decide (((s_7 : Nat) : Int) < (p_1.length : Int))) (idx p_1 ((s_7 : Nat) : Int) fun y_11 => idx p_1 (w64 (((s_7 : Nat) : Int) - 1)) fun y_22 => Option.bind (dead_Join_1 y_11 y_22) fun x_33 => cond x_33 (chk (0 ≤ ((s_7 : Nat) : Int) ∧ ((s_7 : Nat) : Int) ≤ (p_1.length : Int) ∧ (p_1.length : Int) ≤ p_1.length) <| Option.bind (loop (slices_CompactFunc_Ptr_l1 p_1 s_7) (p_1, ((s_7 : Nat) : Int), 1)) (fun t_39 => chk (0 ≤ t_39.2 ∧ t_39.2 ≤ (t_39.1.length : Int) ∧ (t_39.1.length : Int) ≤ t_39.1.length) <| clrO t_39.1 t_39.2 (t_39.1.length : Int) (Ptr.mk 0 (0 : UInt32) (0 : UInt32) (0 : UInt32) (0 : UInt32)) fun m_49 => slc m_49 0 t_39.2 fun m_54 => some (.inr (.inr m_54)))) (some (.inl (s_7 + 1)))) (some (.inr (.inl ())))

def slices_CompactFunc_Ptr (p_1 : List Ptr) : Option (List Ptr) :=
  cond (decide ((p_1.length : Int) < 2)) (some p_1) (Option.bind (loop (slices_CompactFunc_Ptr_l2 p_1) 1) (fun t_4 => Sum.elim (fun t_4a => some p_1) (fun t_4b => some t_4b) t_4))

def dead_Join (p_1 : List Ptr) (p_3 : List Ptr) : Option (List Ptr × Int) :=
  Option.bind (dead_Check p_1) fun x_5 => cond (!decide (x_5 = 0)) (some (([] : List Ptr), 8)) (Option.bind (dead_Check p_3) fun x_9 => cond (!decide (x_9 = 0)) (some (([] : List Ptr), 8)) (Option.bind (slices_Concat_Ptr ([p_1, p_3])) fun x_15 => Option.bind (slices_SortFunc_Ptr_dead_order x_15) fun x_19 => Option.bind (slices_Clone_Ptr x_19) fun x_24 => Option.bind (slices_CompactFunc_Ptr x_24) fun x_28 => cond (decide ((x_28.length : Int) < (x_19.length : Int))) (some (([] : List Ptr), 2)) (cond (decide (240 < (x_19.length : Int))) (some (([] : List Ptr), 9)) (some (x_19, 0)))))

def dead_Add (p_1 : List Ptr) (p_3 : Ptr) : Option (List Ptr × Int) :=
  Option.bind (dead_Check ([p_3])) fun x_7 => cond (!decide (x_7 = 0)) (some (([] : List Ptr), 8)) (Option.bind (dead_Join p_1 ([p_3])) fun x_13 => some (x_13.1, x_13.2))

def law16_alive : Option Bool :=
  Option.bind (law16_at 20 (1 : UInt32)) fun x_1 => Option.bind (law16_at 30 (1 : UInt32)) fun x_4 => Option.bind (law16_at 25 (1 : UInt32)) fun x_8 => Option.bind (dead_Add ([x_1, x_4]) x_8) fun x_12 => Option.bind (cond (decide (x_12.2 = 0)) (cond (decide ((x_12.1.length : Int) = 3)) (idx x_12.1 0 fun y_21 => cond (decide (y_21.At = 20)) (idx x_12.1 1 fun y_31 => cond (decide (y_31.At = 25)) (idx x_12.1 2 fun y_41 => some (decide (y_41.At = 30))) (some false)) (some false)) (some false)) (some false)) (fun t_16 => some t_16)

def law16_same_l1 (p_1 : List Ptr) (p_3 : List Ptr) (s_8 : Nat) : Option (Nat ⊕ (Unit ⊕ Unit)) :=
  cond (decide (((s_8 : Nat) : Int) < (p_1.length : Int))) (cond (decide (((s_8 : Nat) : Int) < (p_3.length : Int))) (idx p_1 ((s_8 : Nat) : Int) fun y_13 => idx p_3 ((s_8 : Nat) : Int) fun y_22 => cond (!(decide (y_13.At = y_22.At) && (decide (y_13.Birth = y_22.Birth) && (decide (y_13.Iv = y_22.Iv) && (decide (y_13.Tag = y_22.Tag) && (decide (y_13.Sum = y_22.Sum) && true)))))) (some (.inr (.inr ()))) (some (.inl (s_8 + 1)))) (some (.inr (.inl ())))) (some (.inr (.inl ())))

def law16_same (p_1 : List Ptr) (p_3 : List Ptr) : Option Bool :=
  Option.bind (loop (law16_same_l1 p_1 p_3) 0) (fun t_5 => Sum.elim (fun t_5a => some (decide ((p_1.length : Int) = (p_3.length : Int)))) (fun t_5b => some false) t_5)

def law16_DeadJoins (p_1 : List Ptr) (p_3 : List Ptr) (p_5 : List Ptr) : Option Bool :=
  Option.bind (law16_alive) fun x_7 => cond (decide (1000 < (p_1.length : Int))) (some x_7) (cond (decide (1000 < (p_3.length : Int))) (some x_7) (cond (decide (1000 < (p_5.length : Int))) (some x_7) (Option.bind (dead_Join p_1 p_3) fun x_13 => Option.bind (dead_Join p_3 p_1) fun x_17 => Option.bind (cond (!decide (x_13.2 = x_17.2)) (some (.inr ())) (Option.bind (law16_same x_13.1 x_17.1) fun x_25 => cond (!x_25) (some (.inr ())) (cond (decide (x_13.2 = 0)) (cond (!decide ((x_13.1.length : Int) = (w64 ((p_1.length : Int) + (p_3.length : Int))))) (some (.inr ())) (some (.inl ()))) (some (.inl ()))))) (fun t_21 => Sum.elim (fun t_21a => Option.bind (dead_Join p_1 ([] : List Ptr)) fun x_31 => Option.bind (Option.bind (dead_Check p_1) fun x_38 => cond (decide (x_38 = 0)) (cond (!decide (x_31.2 = 0)) (some (.inr ())) (Option.bind (law16_same x_31.1 p_1) fun x_43 => cond (!x_43) (some (.inr ())) (some (.inl ())))) (some (.inl ()))) (fun t_35 => Sum.elim (fun t_35a => cond (!decide (x_13.2 = 0)) (Option.bind (cond x_7 (some (decide ((x_13.1.length : Int) = 0))) (some false)) (fun t_48 => some t_48)) (Option.bind (dead_Join x_13.1 p_5) fun x_52 => Option.bind (dead_Join p_3 p_5) fun x_56 => cond (!decide (x_52.2 = 0)) (Option.bind (cond x_7 (some (!decide (x_52.2 = 0))) (some false)) (fun t_61 => some t_61)) (cond (!decide (x_56.2 = 0)) (Option.bind (cond x_7 (some (!decide (x_52.2 = 0))) (some false)) (fun t_66 => some t_66)) (Option.bind (dead_Join p_1 x_56.1) fun x_70 => Option.bind (cond x_7 (cond (decide (x_70.2 = 0)) (Option.bind (law16_same x_52.1 x_70.1) fun x_79 => some x_79) (some false)) (some false)) (fun t_74 => some t_74))))) (fun t_35b => some false) t_35)) (fun t_21b => some false) t_21))))

def dead_Split_l1 (p_1 : List Ptr) (p_3 : UInt32) (s_13 : List Ptr × List Ptr × Nat) : Option ((List Ptr × List Ptr × Nat) ⊕ (List Ptr × List Ptr)) :=
  cond (decide (((s_13.2.2 : Nat) : Int) < (p_1.length : Int))) (idx p_1 ((s_13.2.2 : Nat) : Int) fun y_19 => cond (decide (p_3 < y_19.Birth)) (app s_13.2.1 ([y_19]) fun q_31 => some (.inl (s_13.1, q_31, s_13.2.2 + 1))) (app s_13.1 ([y_19]) fun q_41 => some (.inl (q_41, s_13.2.1, s_13.2.2 + 1)))) (some (.inr (s_13.1, s_13.2.1)))

def dead_Split (p_1 : List Ptr) (p_3 : UInt32) : Option (List Ptr × List Ptr × Int) :=
  Option.bind (dead_Check p_1) fun x_6 => cond (!decide (x_6 = 0)) (some (([] : List Ptr), ([] : List Ptr), x_6)) (Option.bind (loop (dead_Split_l1 p_1 p_3) (([] : List Ptr), ([] : List Ptr), 0)) (fun t_10 => some (t_10.1, t_10.2, 0)))

def law16_DeadParts_l3 (p_1 : List Ptr) (p_3 : Ptr) (x_51 : List Ptr × Int) (s_63 : Int × Int × Nat) : Option ((Int × Int × Nat) ⊕ ((Int × Int) ⊕ Unit)) :=
  cond (decide (((s_63.2.2 : Nat) : Int) < (x_51.1.length : Int))) (idx x_51.1 ((s_63.2.2 : Nat) : Int) fun y_67 => cond (decide (y_67.At = p_3.At) && (decide (y_67.Birth = p_3.Birth) && (decide (y_67.Iv = p_3.Iv) && (decide (y_67.Tag = p_3.Tag) && (decide (y_67.Sum = p_3.Sum) && true))))) (some (.inl (s_63.1, w64 (s_63.2.1 + 1), s_63.2.2 + 1))) (cond (decide ((p_1.length : Int) ≤ s_63.1)) (some (.inr (.inr ()))) (idx p_1 s_63.1 fun y_78 => idx x_51.1 ((s_63.2.2 : Nat) : Int) fun y_87 => cond (!(decide (y_78.At = y_87.At) && (decide (y_78.Birth = y_87.Birth) && (decide (y_78.Iv = y_87.Iv) && (decide (y_78.Tag = y_87.Tag) && (decide (y_78.Sum = y_87.Sum) && true)))))) (some (.inr (.inr ()))) (some (.inl (w64 (s_63.1 + 1), s_63.2.1, s_63.2.2 + 1)))))) (some (.inr (.inl (s_63.1, s_63.2.1))))

def law16_DeadParts_l2 (p_4 : UInt32) (x_14 : List Ptr × List Ptr × Int) (s_48 : Nat) : Option (Nat ⊕ (Unit ⊕ Unit)) :=
  cond (decide (((s_48 : Nat) : Int) < (x_14.2.1.length : Int))) (idx x_14.2.1 ((s_48 : Nat) : Int) fun y_52 => cond (decide (y_52.Birth ≤ p_4)) (some (.inr (.inr ()))) (some (.inl (s_48 + 1)))) (some (.inr (.inl ())))

def law16_DeadParts_l1 (p_4 : UInt32) (x_14 : List Ptr × List Ptr × Int) (s_42 : Nat) : Option (Nat ⊕ (Unit ⊕ Unit)) :=
  cond (decide (((s_42 : Nat) : Int) < (x_14.1.length : Int))) (idx x_14.1 ((s_42 : Nat) : Int) fun y_46 => cond (decide (p_4 < y_46.Birth)) (some (.inr (.inr ()))) (some (.inl (s_42 + 1)))) (some (.inr (.inl ())))

def law16_DeadParts (p_1 : List Ptr) (p_3 : Ptr) (p_4 : UInt32) : Option Bool :=
  Option.bind (law16_alive) fun x_6 => cond (decide (1000 < (p_1.length : Int))) (some x_6) (Option.bind (dead_Check p_1) fun x_10 => cond (!decide (x_10 = 0)) (some x_6) (Option.bind (dead_Split p_1 p_4) fun x_14 => Option.bind (dead_Join x_14.2.1 x_14.1) fun x_21 => cond (!decide (x_14.2.2 = 0)) (some false) (cond (!decide (x_21.2 = 0)) (some false) (Option.bind (law16_same x_21.1 p_1) fun x_27 => cond (!x_27) (some false) (Option.bind (dead_Check x_14.1) fun x_31 => cond (!decide (x_31 = 0)) (some false) (Option.bind (dead_Check x_14.2.1) fun x_35 => cond (!decide (x_35 = 0)) (some false) (Option.bind (loop (law16_DeadParts_l1 p_4 x_14) 0) (fun t_39 => Sum.elim (fun t_39a => Option.bind (loop (law16_DeadParts_l2 p_4 x_14) 0) (fun t_45 => Sum.elim (fun t_45a => Option.bind (dead_Add p_1 p_3) fun x_51 => cond (!decide (x_51.2 = 0)) (Option.bind (cond x_6 (some (decide ((x_51.1.length : Int) = 0))) (some false)) (fun t_56 => some t_56)) (Option.bind (loop (law16_DeadParts_l3 p_1 p_3 x_51) (0, 0, 0)) (fun t_60 => Sum.elim (fun t_60a => Option.bind (cond x_6 (cond (decide (t_60a.2 = 1)) (cond (decide (t_60a.1 = (p_1.length : Int))) (Option.bind (dead_Check x_51.1) fun x_72 => some (decide (x_72 = 0))) (some false)) (some false)) (some false)) (fun t_66 => some t_66)) (fun t_60b => some false) t_60))) (fun t_45b => some false) t_45)) (fun t_39b => some false) t_39))))))))

def law16_DeadSyncs_l1 (p_1 : List Ptr) (s_61 : List Ptr × Int) : Option ((List Ptr × Int) ⊕ ((List Ptr) ⊕ Unit)) :=
  cond (decide (0 ≤ s_61.2)) (idx p_1 s_61.2 fun y_67 => Option.bind (dead_Add s_61.1 y_67) fun x_76 => cond (!decide (x_76.2 = 0)) (some (.inr (.inr ()))) (some (.inl (x_76.1, w64 (s_61.2 - 1))))) (some (.inr (.inl s_61.1)))

def law16_DeadSyncs (p_1 : List Ptr) (p_3 : UInt32) (p_4 : UInt32) : Option Bool :=
  Option.bind (law16_alive) fun x_5 => cond (decide (300 < (p_1.length : Int))) (some x_5) (Option.bind (dead_Check p_1) fun x_9 => cond (!decide (x_9 = 0)) (some x_5) (cond (decide (p_4 < p_3)) (some x_5) (Option.bind (dead_Split p_1 p_3) fun x_14 => Option.bind (dead_Split x_14.2.1 p_4) fun x_20 => Option.bind (dead_Split p_1 p_4) fun x_25 => Option.bind (dead_Split x_25.1 p_3) fun x_31 => cond (!decide (x_14.2.2 = 0)) (some false) (cond (!decide (x_20.2.2 = 0)) (some false) (cond (!decide (x_25.2.2 = 0)) (some false) (cond (!decide (x_31.2.2 = 0)) (some false) (Option.bind (law16_same x_14.1 x_31.1) fun x_42 => cond (!x_42) (some false) (Option.bind (law16_same x_20.1 x_31.2.1) fun x_48 => cond (!x_48) (some false) (Option.bind (law16_same x_20.2.1 x_25.2.1) fun x_54 => cond (!x_54) (some false) (Option.bind (loop (law16_DeadSyncs_l1 p_1) (([] : List Ptr), w64 ((p_1.length : Int) - 1))) (fun t_58 => Sum.elim (fun t_58a => Option.bind (cond x_5 (Option.bind (law16_same t_58a p_1) fun x_73 => some x_73) (some false)) (fun t_69 => some t_69)) (fun t_58b => some false) t_58)))))))))))
end Go.Ow
