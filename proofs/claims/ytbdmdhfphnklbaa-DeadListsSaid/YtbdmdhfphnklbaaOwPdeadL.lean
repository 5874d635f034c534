/-
  What is proved here: a list is the same as itself; a clone; the sorted list.
-/
import Derived.Test.YtbdmdhfphnklbaaOwPdeadK
namespace Go.Ow
set_option linter.unusedVariables false
set_option linter.unusedSimpArgs false
open Go.Sort Go.Proofs
theorem law16_same_refl (a : List Ptr) (ha : a.length ≤ 1000) : law16_same a a = some true := by
  obtain ⟨t, ht, hR⟩ := loop_rule (body := law16_same_l1 a a) (fun s => s ≤ a.length) (fun s => a.length - s) (fun t => t = .inl ()) (by
    intro s hs
    unfold law16_same_l1
    by_cases hlt : s < a.length
    · left
      rw [show decide (((s : Nat) : Int) < (a.length : Int)) = true from decide_eq_true (by omega), cond_true, cond_true, idx_nat _ hlt, idx_nat _ hlt]
      exact ⟨s + 1, by simp, hlt, by omega⟩
    · right
      rw [show decide (((s : Nat) : Int) < (a.length : Int)) = false from decide_eq_false (by omega), cond_false]
      exact ⟨_, rfl, rfl⟩) (s := 0) (Nat.zero_le _) (Nat.lt_of_le_of_lt (Nat.sub_le _ _) (Nat.lt_of_le_of_lt ha (by decide)))
  unfold law16_same
  rw [ht, hR]
  simp
theorem slices_Clone_eq (a : List Ptr) (ha : a.length ≤ 1000) : slices_Clone_Ptr a = some a := by
  unfold slices_Clone_Ptr
  rw [app_eq (Nat.le_trans (by simpa using ha) (by decide))]
  rfl
/-- sorted by place -/
def sortP (l : List Ptr) : List Ptr := sortL (fun x y => (dead_order x y).getD 0) l
theorem slices_SortFunc_eq (l : List Ptr) (hl : l.length ≤ 1000) : slices_SortFunc_Ptr_dead_order l = some (sortP l) := by
  unfold slices_SortFunc_Ptr_dead_order
  rw [if_pos (Nat.lt_of_le_of_lt hl (by decide))]
  rfl
theorem sortP_length (l : List Ptr) : (sortP l).length = l.length := sortL_length dead_order_swo l
theorem sortP_spec (l : List Ptr) : (sortP l).Perm l ∧ (sortP l).Pairwise (fun p q => p.At ≤ q.At) := by
  have h := pdq_sorts (ltOf fun x y => (dead_order x y).getD 0) dead_order_swo l.toArray 0 l.toArray.size (Lib.bitLen l.toArray.size) true true (Nat.zero_le _) (Nat.le_refl _) (Or.inl rfl)
  have e : (pdq (ltOf fun x y => (dead_order x y).getD 0) l.toArray 0 l.toArray.size (Lib.bitLen l.toArray.size) true true) = (sortP l).toArray := by
    have e : (ltOf fun x y => (dead_order x y).getD 0) = fun x y => decide ((dead_order x y).getD 0 < 0) := rfl
    rw [e]; simp [sortP, sortL]
  rw [e] at h
  have hl := sortP_length l
  obtain ⟨⟨_, _, hp⟩, hs⟩ := h
  refine ⟨?_, ?_⟩
  · have e1 : ((sortP l).toArray.extract 0 l.toArray.size).toList = sortP l := by simp [← hl]
    have e2 : (l.toArray.extract 0 l.toArray.size).toList = l := by simp
    rw [e1, e2] at hp
    exact hp
  · rw [List.pairwise_iff_getElem]
    intro i j hi hj hij
    have := hs i j (Nat.zero_le _) hij (by simpa [← hl] using hj)
    rw [dead_order_lt] at this
    simp only [decide_eq_false_iff_not, Int.not_lt] at this
    have ei : (sortP l).toArray[i]! = (sortP l)[i] := by simp [hi]
    have ej : (sortP l).toArray[j]! = (sortP l)[j] := by simp [hj]
    rw [ei, ej] at this
    exact this
end Go.Ow
