/- plain functions: what the code computes. -/
import Derived.Test.YtdelcjkjkhcaoabOwPT
import Derived.Test.YtdelcjkjkhcaoabOwPU
import Derived.Test.YtdelcjkjkhcaoabOwPA
import Derived.Test.YtdelcjkjkhcaoabOwPB
import Derived.Test.YtdelcjkjkhcaoabOwPstore
namespace Go.Ow
set_option linter.unusedVariables false
set_option linter.unusedSimpArgs false

def space_Give (p_1 : List UInt8) (p_3 : Int) : Option (List UInt8 × Int) :=
  Option.bind (space_Check p_1) fun x_4 => cond (!decide (x_4 = 0)) (some (([] : List UInt8), 8)) (cond (decide (p_3 < 12)) (some (([] : List UInt8), 2)) (cond (decide (256 ≤ p_3)) (some (([] : List UInt8), 2)) (idx p_1 p_3 fun y_10 => cond (!decide (y_10 = (1 : UInt8))) (some (([] : List UInt8), 6)) (Option.bind (bytes_Clone p_1) fun x_20 => chk (0 ≤ p_3 ∧ p_3.toNat < x_20.length) <| setI x_20 p_3 (2 : UInt8) fun m_28 => some (m_28, 0)))))

def store_Give (p_1 : Store) (p_5 : Ptr) : Option (Store × Int) :=
  Option.bind (store_Check p_1) fun x_9 => cond (!decide (x_9 = 0)) (some (Store.mk (Disk.mk ([] : List (List UInt8)) ([] : List Write)) ([] : List UInt8) (0 : UInt32) (0 : UInt32), 8)) (Option.bind (ptr_Check p_5) fun x_13 => cond (!decide (x_13 = 0)) (some (Store.mk (Disk.mk ([] : List (List UInt8)) ([] : List Write)) ([] : List UInt8) (0 : UInt32) (0 : UInt32), 8)) (cond (decide (p_5.At = 0) && (decide (p_5.Birth = (0 : UInt32)) && (decide (p_5.Iv = (0 : UInt32)) && (decide (p_5.Tag = (0 : UInt32)) && (decide (p_5.Sum = (0 : UInt32)) && true))))) (some (Store.mk (Disk.mk ([] : List (List UInt8)) ([] : List Write)) ([] : List UInt8) (0 : UInt32) (0 : UInt32), 6)) (Option.bind (space_Give p_1.Space p_5.At) fun x_18 => cond (!decide (x_18.2 = 0)) (some (Store.mk (Disk.mk ([] : List (List UInt8)) ([] : List Write)) ([] : List UInt8) (0 : UInt32) (0 : UInt32), x_18.2)) (Option.bind (dev_Twin (Disk.mk p_1.Disk.Blocks p_1.Disk.Waits)) fun x_23 => some (Store.mk (Disk.mk x_23.Blocks x_23.Waits) x_18.1 p_1.Epoch p_1.Count, 0)))))

def bytes_Compare (p_1 : List UInt8) (p_3 : List UInt8) : Option Int :=
  some (cmpB p_1 p_3)

def dev_Same_1 (p_1 : List UInt8) (p_3 : List UInt8) : Option Int :=
  Option.bind (bytes_Compare p_1 p_3) fun x_5 => some x_5

def dev_Same_2 (p_1 : Write) (p_3 : Write) : Option Bool :=
  Option.bind (cond (decide (p_1.At = p_3.At)) (Option.bind (dev_Same_1 p_1.Data p_3.Data) fun x_12 => some (decide (x_12 = 0))) (some false)) (fun t_8 => some t_8)

def slices_EqualFunc_Write_l1 (p_1 : List Write) (p_3 : List Write) (s_10 : Nat) : Option (Nat ⊕ (Unit ⊕ Unit)) :=
  cond (decide (((s_10 : Nat) : Int) < (p_1.length : Int))) (idx p_1 ((s_10 : Nat) : Int) fun y_14 => idx p_3 ((s_10 : Nat) : Int) fun y_26 => Option.bind (dev_Same_2 y_14 y_26) fun x_38 => cond (!x_38) (some (.inr (.inr ()))) (some (.inl (s_10 + 1)))) (some (.inr (.inl ())))

def slices_EqualFunc_Write (p_1 : List Write) (p_3 : List Write) : Option Bool :=
  cond (!decide ((p_1.length : Int) = (p_3.length : Int))) (some false) (Option.bind (loop (slices_EqualFunc_Write_l1 p_1 p_3) 0) (fun t_7 => Sum.elim (fun t_7a => some true) (fun t_7b => some false) t_7))

def slices_CompareFunc_byte_l1 (p_1 : List (List UInt8)) (p_3 : List (List UInt8)) (s_8 : Nat) : Option (Nat ⊕ (Unit ⊕ Int)) :=
  cond (decide (((s_8 : Nat) : Int) < (p_1.length : Int))) (idx p_1 ((s_8 : Nat) : Int) fun y_12 => cond (decide ((p_3.length : Int) ≤ ((s_8 : Nat) : Int))) (some (.inr (.inr 1))) (idx p_3 ((s_8 : Nat) : Int) fun y_24 => Option.bind (dev_Same_1 y_12 y_24) fun x_35 => cond (!decide (x_35 = 0)) (some (.inr (.inr x_35))) (some (.inl (s_8 + 1))))) (some (.inr (.inl ())))

def slices_CompareFunc_byte (p_1 : List (List UInt8)) (p_3 : List (List UInt8)) : Option Int :=
  Option.bind (loop (slices_CompareFunc_byte_l1 p_1 p_3) 0) (fun t_5 => Sum.elim (fun t_5a => cond (decide ((p_1.length : Int) < (p_3.length : Int))) (some (-1)) (some 0)) (fun t_5b => some t_5b) t_5)

def dev_Same (p_1 : Disk) (p_4 : Disk) : Option Bool :=
  Option.bind (slices_EqualFunc_Write p_1.Waits p_4.Waits) fun x_10 => Option.bind (cond x_10 (Option.bind (slices_CompareFunc_byte p_1.Blocks p_4.Blocks) fun x_17 => some (decide (x_17 = 0))) (some false)) (fun t_13 => some t_13)

def law13_StoreGives_l1 (p_1 : Store) (p_5 : Ptr) (x_20 : Store × Int) (s_58 : Nat) : Option (Nat ⊕ (Unit ⊕ Unit)) :=
  cond (decide (((s_58 : Nat) : Int) < 256)) (idx x_20.1.Space ((s_58 : Nat) : Int) fun y_62 => idx p_1.Space ((s_58 : Nat) : Int) fun y_71 => cond (!((!decide (y_62 = y_71)) == (decide (((s_58 : Nat) : Int) = p_5.At)))) (some (.inr (.inr ()))) (some (.inl (s_58 + 1)))) (some (.inr (.inl ())))

def law13_StoreGives (p_1 : Store) (p_5 : Ptr) : Option Bool :=
  Option.bind (law13_alive) fun x_8 => cond (!x_8) (some false) (Option.bind (ref13_Great p_1) fun x_12 => cond x_12 (some x_8) (Option.bind (store_Look p_1 p_5) fun x_16 => Option.bind (store_Give p_1 p_5) fun x_20 => cond (!decide (x_20.2 = 0)) (Option.bind (cond x_8 (some (decide ((x_20.1.Space.length : Int) = 0))) (some false)) (fun t_28 => some t_28)) (Option.bind (store_Look x_20.1 p_5) fun x_34 => Option.bind (store_Give x_20.1 p_5) fun x_38 => cond (!decide (x_16.2 = x_34.2)) (some false) (cond (!decide (x_16.1 = x_34.1)) (some false) (cond (!decide (x_38.2 = 6)) (some false) (Option.bind (dev_Same (Disk.mk p_1.Disk.Blocks p_1.Disk.Waits) (Disk.mk x_20.1.Disk.Blocks x_20.1.Disk.Waits)) fun x_48 => cond (!x_48) (some false) (cond (!decide (p_1.Epoch = x_20.1.Epoch)) (some false) (cond (!decide (p_1.Count = x_20.1.Count)) (some false) (cond (!decide ((x_20.1.Space.length : Int) = 256)) (some false) (Option.bind (loop (law13_StoreGives_l1 p_1 p_5 x_20) 0) (fun t_55 => Sum.elim (fun t_55a => Option.bind (cond x_8 (idx x_20.1.Space p_5.At fun y_65 => some (decide (y_65 = (2 : UInt8)))) (some false)) (fun t_61 => some t_61)) (fun t_55b => some false) t_55)))))))))))
end Go.Ow
