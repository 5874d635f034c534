/-
  What is proved here: what a reading of an argument says, as a datum that lies in the memory at the law's beginning; the lift of a law's walk to its contract.
-/
import Derived.Test.YtdelcjkjkhcaoaaOwT
import Derived.Carry
import Derived.WalkKit
import Derived.ProofKit
import Derived.OpenShut
import Derived.JoinedCond
namespace Go.Ow
open Go.ChangeShapes Go.WideShapes Go.ChangeAt Go.RowKit
set_option linter.unusedVariables false
set_option linter.unusedSimpArgs false

/-- the memory at the beginning -/
def HW (W : World) : Heaplet := fun b o => W.cell? ⟨b, o, none⟩
theorem agrees_HW (W : World) : Agrees (HW W) W := fun _ _ _ h => h

/-- a seat's own 'bulk', by its equations -/
structure Bulk (H : Type) where
  one : DataW H → Nat
  all : List (DataW H) → Nat
  hstr : ∀ l : List UInt8, one (.lit (.string l)) = l.length + 1
  hsl : ∀ a b, one (.slice a b) = all a + all b + 1
  hagg : ∀ a, one (.agg a) = all a + 1
  hnil : all [] = 0
  hcons : ∀ d r, all (d :: r) = one d + all r
  hone : ∀ d, 1 ≤ one d

section
variable {H : Type} {enc : TypeId × Value → H} {P : Program} {W : World} {B : Bulk H}

theorem Bulk.append (l r : List (DataW H)) : B.all (l ++ r) = B.all l + B.all r := by
  induction l with
  | nil => simp [B.hnil]
  | cons x l ih => simp only [List.cons_append, B.hcons, ih]; omega
end
end Go.Ow
