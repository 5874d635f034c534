/-
  What is proved here: the order of labels computes, and is a strict weak order.
-/
import Derived.Test.YtabnbobdjckdmaaOwPlabel
import Derived.Test.YtabnbobdjckdmaaOwSo
namespace Go.Ow
set_option linter.unusedVariables false
set_option linter.unusedSimpArgs false
open Go.Sort Go.Proofs
def cmpU (a b : UInt32) : Int := if a < b then -1 else if b < a then 1 else 0
theorem cmp_Compare_uint32_eq (a b : UInt32) : cmp_Compare_uint32 a b = some (cmpU a b) := by
  unfold cmp_Compare_uint32 cmp_isNaN_uint32 cmpU
  by_cases h1 : a < b
  · simp [h1]
  · by_cases h2 : b < a <;> simp [h1, h2]
theorem label_Find_1_eq (x y : Label) : label_Find_1 x y = some (cmpU y.Gen x.Gen) := by
  unfold label_Find_1; rw [cmp_Compare_uint32_eq]; rfl
theorem label_Find_1_tot (x y : Label) : ∃ r, label_Find_1 x y = some r := ⟨_, label_Find_1_eq x y⟩
theorem label_Find_1_lt (x y : Label) : ltOf (fun x y => (label_Find_1 x y).getD 0) x y = decide (y.Gen < x.Gen) := by
  unfold ltOf
  simp only [label_Find_1_eq, Option.getD_some, cmpU]
  by_cases h1 : y.Gen < x.Gen
  · simp [h1]
  · by_cases h2 : x.Gen < y.Gen <;> simp [h1, h2]
theorem label_Find_1_swo : SWO (ltOf fun x y => (label_Find_1 x y).getD 0) where
  irrefl x := by rw [label_Find_1_lt]; simp
  trans x y z h1 h2 := by rw [label_Find_1_lt] at *; simp [UInt32.lt_iff_toNat_lt] at *; omega
  ntrans x y z h1 h2 := by rw [label_Find_1_lt] at *; simp [UInt32.lt_iff_toNat_lt, UInt32.le_iff_toNat_le] at *; omega
end Go.Ow
