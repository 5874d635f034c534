/-
  What is proved here: the order of pointers computes, and is a strict weak order.
-/
import Derived.Test.YtbdmdhfphnklbaaOwPdead
import Derived.Test.YtbdmdhfphnklbaaOwSo
namespace Go.Ow
set_option linter.unusedVariables false
set_option linter.unusedSimpArgs false
open Go.Sort Go.Proofs
def cmpI (a b : Int) : Int := if a < b then -1 else if b < a then 1 else 0
theorem cmp_Compare_int_eq (a b : Int) : cmp_Compare_int a b = some (cmpI a b) := by
  unfold cmp_Compare_int cmp_isNaN_int cmpI
  by_cases h1 : a < b
  · simp [h1]
  · by_cases h2 : b < a <;> simp [h1, h2]
theorem dead_order_eq (x y : Ptr) : dead_order x y = some (cmpI x.At y.At) := by
  unfold dead_order; rw [cmp_Compare_int_eq]; rfl
theorem dead_order_tot (x y : Ptr) : ∃ r, dead_order x y = some r := ⟨_, dead_order_eq x y⟩
theorem dead_order_lt (x y : Ptr) : ltOf (fun x y => (dead_order x y).getD 0) x y = decide (x.At < y.At) := by
  unfold ltOf
  simp only [dead_order_eq, Option.getD_some, cmpI]
  by_cases h1 : x.At < y.At
  · simp [h1]
  · by_cases h2 : y.At < x.At <;> simp [h1, h2]
theorem dead_order_swo : SWO (ltOf fun x y => (dead_order x y).getD 0) where
  irrefl x := by rw [dead_order_lt]; simp
  trans x y z h1 h2 := by rw [dead_order_lt] at *; simp at *; omega
  ntrans x y z h1 h2 := by rw [dead_order_lt] at *; simp at *; omega
end Go.Ow
