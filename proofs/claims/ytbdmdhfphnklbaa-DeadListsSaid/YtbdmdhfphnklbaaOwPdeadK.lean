/-
  What is proved here: slices.Concat of two lists.
-/
import Derived.Test.YtbdmdhfphnklbaaOwPdeadJ
namespace Go.Ow
set_option linter.unusedVariables false
set_option linter.unusedSimpArgs false
theorem run_step {σ τ : Type} {body : σ → Option (σ ⊕ τ)} {n : Nat} {s s' : σ} (h : body s = some (.inl s')) : run body (n + 1) s = run body n s' := by
  show Option.bind (body s) _ = _
  rw [h]; rfl
theorem run_end {σ τ : Type} {body : σ → Option (σ ⊕ τ)} {n : Nat} {s : σ} {t : τ} (h : body s = some (.inr t)) : run body (n + 1) s = some t := by
  show Option.bind (body s) _ = _
  rw [h]; rfl
theorem three_fuel : 3 ≤ FUEL := by decide
theorem run3 {σ τ : Type} {body : σ → Option (σ ⊕ τ)} {s s1 s2 : σ} {t : τ} (h0 : body s = some (.inl s1)) (h1 : body s1 = some (.inl s2)) (h2 : body s2 = some (.inr t)) : loop body s = some t :=
  loop_of three_fuel ((run_step (n := 2) h0).trans ((run_step (n := 1) h1).trans (run_end (n := 0) h2)))
theorem concat_l1_step (l : List (List Ptr)) (n i : Nat) (y : List Ptr) (hy : l[i]? = some y) (hn : n + y.length < 1000) : slices_Concat_Ptr_l1 l ((n : Int), i) = some (.inl (((n + y.length : Nat) : Int), i + 1)) := by
  unfold slices_Concat_Ptr_l1
  dsimp only
  have hlt := (List.getElem?_eq_some_iff.1 hy).1
  rw [show decide ((i : Int) < (l.length : Int)) = true from decide_eq_true (by omega), cond_true, idx_eq (y := y) ⟨by omega, by simpa using hy⟩]
  rw [w64_of (n := (n : Int) + (y.length : Int)) (by omega) (by omega), show decide ((n : Int) + (y.length : Int) < 0) = false from decide_eq_false (by omega), cond_false, Int.natCast_add]
theorem concat_l1 (a b : List Ptr) (ha : a.length ≤ 240) (hb : b.length ≤ 240) : loop (slices_Concat_Ptr_l1 [a, b]) (0, 0) = some ((a.length : Int) + (b.length : Int)) := by
  refine run3 (s1 := (((0 + a.length : Nat) : Int), 1)) (s2 := (((0 + a.length + b.length : Nat) : Int), 2)) (concat_l1_step [a, b] 0 0 a rfl (by omega)) (concat_l1_step [a, b] (0 + a.length) 1 b rfl (by omega)) ?_
  unfold slices_Concat_Ptr_l1
  dsimp only
  rw [show decide (((2 : Nat) : Int) < ([a, b].length : Int)) = false from decide_eq_false (by simp), cond_false, Nat.zero_add, Int.natCast_add]
theorem concat_l2 (a b : List Ptr) (ha : a.length ≤ 240) (hb : b.length ≤ 240) : loop (slices_Concat_Ptr_l2 [a, b]) ([], 0) = some (a ++ b) := by
  have l1 : a.length ≤ LIM := Nat.le_trans ha (by decide)
  have l2 : a.length + b.length ≤ LIM := Nat.le_trans (Nat.add_le_add ha hb) (by decide)
  refine run3 (s1 := (a, 1)) (s2 := (a ++ b, 2)) ?_ ?_ ?_
  · simp [slices_Concat_Ptr_l2, idx, app, l1]
  · simp [slices_Concat_Ptr_l2, idx, app, l2]
  · simp [slices_Concat_Ptr_l2]
theorem grow_eq (n : Nat) (hn : n ≤ 480) : slices_Grow_Ptr (n : Int) = some [] := by
  unfold slices_Grow_Ptr
  have n2 : ¬ ((n : Int) < 0) := by omega
  have w3 : w64 ((n : Int) - 0) = (n : Int) := by rw [w64_of (by omega) (by omega)]; omega
  simp only [n2, decide_false, cond_false, w3]
  by_cases h0 : (0 : Int) < (n : Int)
  · simp only [h0, decide_true, cond_true]
    rw [mks_eq (Nat.le_trans hn (by decide)), slc_eq (by omega) (by omega) (by omega)]
    simp [cut]
  · simp only [h0, decide_false, cond_false, Option.bind_some]
theorem slices_Concat_two (a b : List Ptr) (ha : a.length ≤ 240) (hb : b.length ≤ 240) : slices_Concat_Ptr [a, b] = some (a ++ b) := by
  have h := grow_eq (a.length + b.length) (by omega)
  have h1 := concat_l1 a b ha hb
  have h2 := concat_l2 a b ha hb
  rw [Int.natCast_add] at h
  unfold slices_Concat_Ptr
  generalize (a.length : Int) + (b.length : Int) = n at h h1
  rw [h1, Option.bind_some, h, Option.bind_some, h2, Option.bind_some]
end Go.Ow
