/-
  What is proved here: Join in one line; what it answers may be a dead list.
-/
import Derived.Test.YtbdmdhfphnklbaaOwPdeadO
namespace Go.Ow
set_option linter.unusedVariables false
set_option linter.unusedSimpArgs false
open Classical in
/-- Join, said plainly -/
noncomputable def J (a b : List Ptr) : List Ptr × Int :=
  if Valid a ∧ Valid b then if ND (a ++ b) then if (a ++ b).length ≤ 240 then (sortP (a ++ b), 0) else ([], 9) else ([], 2) else ([], 8)
theorem join_eq (a b : List Ptr) : dead_Join a b = some (J a b) := by
  unfold J
  rcases dead_Join_spec a b with ⟨h, e⟩ | ⟨va, vb, ht, e⟩ | ⟨va, vb, ht, hl, e⟩ | ⟨va, vb, ht, hl, e⟩
  · rw [if_neg h, e]
  · rw [if_pos ⟨va, vb⟩, if_neg ((twice_iff _).1 ht), e]
  · have hn : ND (a ++ b) := by
      by_cases h : ND (a ++ b)
      · exact h
      · exact absurd ((twice_iff _).2 h) ht
    rw [if_pos ⟨va, vb⟩, if_pos hn, if_neg (by omega), e]
  · have hn : ND (a ++ b) := by
      by_cases h : ND (a ++ b)
      · exact h
      · exact absurd ((twice_iff _).2 h) ht
    rw [if_pos ⟨va, vb⟩, if_pos hn, if_pos hl, e]
theorem J_comm (a b : List Ptr) : J a b = J b a := by
  unfold J
  by_cases hv : Valid a ∧ Valid b
  · rw [if_pos hv, if_pos hv.symm]
    by_cases hn : ND (a ++ b)
    · rw [if_pos hn, if_pos ((ND.perm List.perm_append_comm).1 hn)]
      have e : (a ++ b).length = (b ++ a).length := by simp; omega
      rw [e, sortP_unique List.perm_append_comm hn]
    · rw [if_neg hn, if_neg (fun h => hn ((ND.perm List.perm_append_comm).1 h))]
  · rw [if_neg hv, if_neg (fun h => hv h.symm)]
theorem Valid.join {a b : List Ptr} (va : Valid a) (vb : Valid b) (hn : ND (a ++ b)) (hl : (a ++ b).length ≤ 240) : Valid (sortP (a ++ b)) := by
  have hp := sortP_pairwise fun ht => (twice_iff _).1 ht hn
  refine ⟨by rw [sortP_length]; exact hl, fun i p hi => ⟨?_, fun q h0 hq => ?_⟩⟩
  · have hm : p ∈ a ++ b := (sortP_spec (a ++ b)).1.subset (List.mem_of_getElem? hi)
    rcases List.mem_append.1 hm with hm | hm
    · obtain ⟨j, hj⟩ := List.mem_iff_getElem?.1 hm
      exact (va.2 j p hj).1
    · obtain ⟨j, hj⟩ := List.mem_iff_getElem?.1 hm
      exact (vb.2 j p hj).1
  · rw [List.pairwise_iff_getElem] at hp
    obtain ⟨i1, e1⟩ := List.getElem?_eq_some_iff.1 hi
    obtain ⟨i2, e2⟩ := List.getElem?_eq_some_iff.1 hq
    have := hp (i - 1) i i2 i1 (by omega)
    rw [e1, e2] at this
    exact this
end Go.Ow
