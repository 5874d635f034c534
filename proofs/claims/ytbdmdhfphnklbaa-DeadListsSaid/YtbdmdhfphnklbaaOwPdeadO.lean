/-
  What is proved here: a list in order is told by what it holds; whether places come twice does not hang on the order.
-/
import Derived.Test.YtbdmdhfphnklbaaOwPdeadN
namespace Go.Ow
set_option linter.unusedVariables false
set_option linter.unusedSimpArgs false
theorem strict_unique : ∀ {l m : List Ptr}, l.Perm m → l.Pairwise (fun p q => p.At < q.At) → m.Pairwise (fun p q => p.At < q.At) → l = m
  | [], m, h, _, _ => (List.nil_perm.1 h).symm
  | x :: l, [], h, _, _ => by have := h.length_eq; simp at this
  | x :: l, y :: m, h, h1, h2 => by
    rw [List.pairwise_cons] at h1 h2
    have hx : x = y := by
      have hxm : x ∈ y :: m := h.subset (by simp)
      have hyl : y ∈ x :: l := h.symm.subset (by simp)
      rcases List.mem_cons.1 hxm with e | hxm
      · exact e
      · rcases List.mem_cons.1 hyl with e | hyl
        · exact e.symm
        · have a1 := h1.1 y hyl
          have a2 := h2.1 x hxm
          omega
    subst hx
    rw [strict_unique (List.perm_cons _ |>.1 h) h1.2 h2.2]
def ND (l : List Ptr) : Prop := (l.map (·.At)).Nodup
theorem ND.perm {l m : List Ptr} (h : l.Perm m) : ND l ↔ ND m := (h.map _).nodup_iff
theorem ND.of_pairwise {l : List Ptr} (h : l.Pairwise (fun p q => p.At < q.At)) : ND l := by
  unfold ND
  rw [List.Nodup, List.pairwise_map]
  exact h.imp fun h => by omega
theorem twice_iff (l : List Ptr) : Twice (sortP l) ↔ ¬ ND l := by
  rw [← ND.perm (sortP_spec l).1]
  constructor
  · rintro ⟨i, p, q, h1, h2, h3⟩ hn
    unfold ND at hn
    rw [List.Nodup, List.pairwise_map, List.pairwise_iff_getElem] at hn
    obtain ⟨i1, e1⟩ := List.getElem?_eq_some_iff.1 h1
    obtain ⟨i2, e2⟩ := List.getElem?_eq_some_iff.1 h2
    have := hn i (i + 1) i1 i2 (by omega)
    rw [e1, e2] at this
    exact this h3
  · intro h
    by_cases ht : Twice (sortP l)
    · exact ht
    · exact absurd (ND.of_pairwise (sortP_pairwise ht)) h
theorem sortP_unique {l m : List Ptr} (h : l.Perm m) (hn : ND l) : sortP l = sortP m :=
  strict_unique ((sortP_spec l).1.trans (h.trans (sortP_spec m).1.symm)) (sortP_pairwise fun ht => (twice_iff l).1 ht hn) (sortP_pairwise fun ht => (twice_iff m).1 ht ((ND.perm h).1 hn))
theorem sortP_self {l : List Ptr} (h : l.Pairwise (fun p q => p.At < q.At)) : sortP l = l :=
  strict_unique (sortP_spec l).1 (sortP_pairwise fun ht => (twice_iff l).1 ht (ND.of_pairwise h)) h
end Go.Ow
