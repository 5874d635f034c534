/-
  What is proved here: what Join of two dead lists is.
-/
import Derived.Test.YtbdmdhfphnklbaaOwPdeadM
namespace Go.Ow
set_option linter.unusedVariables false
set_option linter.unusedSimpArgs false
theorem pairwise_of_next (l : List Ptr) (h : ∀ i p q, l[i]? = some p → l[i + 1]? = some q → p.At < q.At) : l.Pairwise (fun p q => p.At < q.At) := by
  rw [List.pairwise_iff_getElem]
  have key : ∀ (d i : Nat) (hi : i < l.length) (hj : i + d + 1 < l.length), (l[i]).At < (l[i + d + 1]).At := by
    intro d
    induction d with
    | zero => intro i hi hj; exact h i _ _ (List.getElem?_eq_getElem hi) (List.getElem?_eq_getElem hj)
    | succ d ih =>
      intro i hi hj
      have h1 := ih i hi (by omega)
      have h2 := h (i + d + 1) _ _ (List.getElem?_eq_getElem (by omega)) (List.getElem?_eq_getElem (by omega : i + d + 1 + 1 < l.length))
      have h3 : l[i + (d + 1) + 1] = l[i + d + 1 + 1] := rfl
      rw [h3]; omega
  intro i j hi hj hij
  obtain ⟨d, rfl⟩ : ∃ d, j = i + d + 1 := ⟨j - i - 1, by omega⟩
  exact key d i hi hj
theorem next_of_pairwise {l : List Ptr} (h : l.Pairwise (fun p q => p.At < q.At)) : ¬ Twice l := by
  rintro ⟨i, p, q, h1, h2, h3⟩
  rw [List.pairwise_iff_getElem] at h
  obtain ⟨i1, e1⟩ := List.getElem?_eq_some_iff.1 h1
  obtain ⟨i2, e2⟩ := List.getElem?_eq_some_iff.1 h2
  have := h i (i + 1) i1 i2 (by omega)
  rw [e1, e2] at this; omega
theorem Valid.pairwise {l : List Ptr} (h : Valid l) : l.Pairwise (fun p q => p.At < q.At) :=
  pairwise_of_next l fun i p q h1 h2 => (h.2 (i + 1) q h2).2 p (by omega) (by simpa using h1)
theorem sortP_pairwise {l : List Ptr} (h : ¬ Twice (sortP l)) : (sortP l).Pairwise (fun p q => p.At < q.At) :=
  pairwise_of_next _ fun i p q h1 h2 => by
    have hs := (sortP_spec l).2
    rw [List.pairwise_iff_getElem] at hs
    obtain ⟨i1, e1⟩ := List.getElem?_eq_some_iff.1 h1
    obtain ⟨i2, e2⟩ := List.getElem?_eq_some_iff.1 h2
    have h3 := hs i (i + 1) i1 i2 (by omega)
    rw [e1, e2] at h3
    have h4 : p.At ≠ q.At := fun e => h ⟨i, p, q, h1, h2, e⟩
    omega
theorem join_core {a b c s m : List Ptr} (va : Valid a) (vb : Valid b) (ca : dead_Check a = some 0) (cb : dead_Check b = some 0) (e0 : slices_Concat_Ptr [a, b] = some c) (e1 : slices_SortFunc_Ptr_dead_order c = some s)
    (e2 : slices_Clone_Ptr s = some s) (hm : slices_CompactFunc_Ptr s = some m) (hmt : m.length < s.length ↔ Twice s) (e3 : s.length = c.length) :
    (Valid a ∧ Valid b ∧ Twice s ∧ dead_Join a b = some ([], 2)) ∨ (Valid a ∧ Valid b ∧ ¬ Twice s ∧ 240 < c.length ∧ dead_Join a b = some ([], 9)) ∨ (Valid a ∧ Valid b ∧ ¬ Twice s ∧ c.length ≤ 240 ∧ dead_Join a b = some (s, 0)) := by
  have hj : dead_Join a b = cond (decide ((m.length : Int) < (s.length : Int))) (some (([] : List Ptr), 2)) (cond (decide (240 < (s.length : Int))) (some (([] : List Ptr), 9)) (some (s, 0))) := by
    unfold dead_Join
    rw [ca, Option.bind_some, show decide ((0 : Int) = 0) = true from rfl, Bool.not_true, cond_false, cb, Option.bind_some, show decide ((0 : Int) = 0) = true from rfl, Bool.not_true, cond_false, e0, Option.bind_some, e1, Option.bind_some, e2, Option.bind_some, hm, Option.bind_some]
  by_cases ht : Twice s
  · left
    have := hmt.2 ht
    rw [decide_eq_true (show (m.length : Int) < (s.length : Int) by omega), cond_true] at hj
    exact ⟨va, vb, ht, hj⟩
  · right
    have h1 : ¬ (m.length < s.length) := fun h => ht (hmt.1 h)
    rw [decide_eq_false (show ¬ ((m.length : Int) < (s.length : Int)) by omega), cond_false] at hj
    by_cases h2 : 240 < c.length
    · left
      rw [decide_eq_true (show (240 : Int) < (s.length : Int) by omega), cond_true] at hj
      exact ⟨va, vb, ht, h2, hj⟩
    · right
      rw [decide_eq_false (show ¬ ((240 : Int) < (s.length : Int)) by omega), cond_false] at hj
      exact ⟨va, vb, ht, by omega, hj⟩
/-- what Join of two lists is -/
theorem dead_Join_spec (a b : List Ptr) :
    (¬ (Valid a ∧ Valid b) ∧ dead_Join a b = some ([], 8)) ∨
    (Valid a ∧ Valid b ∧ Twice (sortP (a ++ b)) ∧ dead_Join a b = some ([], 2)) ∨
    (Valid a ∧ Valid b ∧ ¬ Twice (sortP (a ++ b)) ∧ 240 < (a ++ b).length ∧ dead_Join a b = some ([], 9)) ∨
    (Valid a ∧ Valid b ∧ ¬ Twice (sortP (a ++ b)) ∧ (a ++ b).length ≤ 240 ∧ dead_Join a b = some (sortP (a ++ b), 0)) := by
  rcases dead_Check_spec a with ⟨ca, va⟩ | ⟨ca, va⟩
  · rcases dead_Check_spec b with ⟨cb, vb⟩ | ⟨cb, vb⟩
    · right
      have hl : (a ++ b).length ≤ 480 := by have := va.1; have := vb.1; simp; omega
      obtain ⟨m, hm, hmt⟩ := compact_spec (sortP (a ++ b)) (by rw [sortP_length]; omega)
      have e0 := slices_Concat_two a b va.1 vb.1
      have e1 := slices_SortFunc_eq (a ++ b) (by omega)
      have e2 := slices_Clone_eq (sortP (a ++ b)) (by rw [sortP_length]; omega)
      have e3 := sortP_length (a ++ b)
      generalize sortP (a ++ b) = s at hm hmt e1 e2 e3 ⊢
      generalize a ++ b = c at hl e0 e1 e3 ⊢
      refine join_core va vb ca cb e0 e1 e2 hm hmt e3
    · left
      refine ⟨fun h => vb h.2, ?_⟩
      unfold dead_Join; rw [ca, cb]; simp
  · left
    refine ⟨fun h => va h.1, ?_⟩
    unfold dead_Join; rw [ca]; simp
end Go.Ow
