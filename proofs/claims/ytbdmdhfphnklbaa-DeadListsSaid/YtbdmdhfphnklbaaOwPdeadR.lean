/-
  What is proved here: the example stands.
-/
import Derived.Test.YtbdmdhfphnklbaaOwPdeadQ
namespace Go.Ow
set_option linter.unusedVariables false
set_option linter.unusedSimpArgs false
theorem check_valid {l : List Ptr} (h : Valid l) : dead_Check l = some 0 := by
  rcases dead_Check_spec l with ⟨e, _⟩ | ⟨_, hn⟩
  · exact e
  · exact absurd h hn
theorem valid_of {l : List Ptr} (h0 : l.length ≤ 240) (h1 : ∀ p ∈ l, okP p = true) (h2 : l.Pairwise (fun p q => p.At < q.At)) : Valid l := by
  refine ⟨h0, fun i p hi => ⟨h1 p (List.mem_of_getElem? hi), fun q h hq => ?_⟩⟩
  rw [List.pairwise_iff_getElem] at h2
  obtain ⟨i1, e1⟩ := List.getElem?_eq_some_iff.1 hi
  obtain ⟨i2, e2⟩ := List.getElem?_eq_some_iff.1 hq
  have := h2 (i - 1) i i2 i1 (by omega)
  rw [e1, e2] at this
  exact this
theorem alive_eq : law16_alive = some true := by
  have v1 : Valid [Ptr.mk 20 1 0 0 0, Ptr.mk 30 1 0 0 0] := valid_of (by decide) (by decide) (by decide)
  have v2 : Valid [Ptr.mk 25 1 0 0 0] := valid_of (by decide) (by decide) (by decide)
  have hp : ([Ptr.mk 20 1 0 0 0, Ptr.mk 30 1 0 0 0] ++ [Ptr.mk 25 1 0 0 0]).Perm [Ptr.mk 20 1 0 0 0, Ptr.mk 25 1 0 0 0, Ptr.mk 30 1 0 0 0] := List.Perm.cons _ (List.Perm.swap _ _ _)
  have hs : [Ptr.mk 20 1 0 0 0, Ptr.mk 25 1 0 0 0, Ptr.mk 30 1 0 0 0].Pairwise (fun p q => p.At < q.At) := by decide
  have hn : ND ([Ptr.mk 20 1 0 0 0, Ptr.mk 30 1 0 0 0] ++ [Ptr.mk 25 1 0 0 0]) := (ND.perm hp).2 (ND.of_pairwise hs)
  have hj : J [Ptr.mk 20 1 0 0 0, Ptr.mk 30 1 0 0 0] [Ptr.mk 25 1 0 0 0] = ([Ptr.mk 20 1 0 0 0, Ptr.mk 25 1 0 0 0, Ptr.mk 30 1 0 0 0], 0) := by
    unfold J
    rw [if_pos ⟨v1, v2⟩, if_pos hn, if_pos (by decide), sortP_unique hp hn, sortP_self hs]
  unfold law16_alive law16_at
  simp only [Option.bind_some]
  have ha : dead_Add [Ptr.mk 20 1 0 0 0, Ptr.mk 30 1 0 0 0] (Ptr.mk 25 1 0 0 0) = some ([Ptr.mk 20 1 0 0 0, Ptr.mk 25 1 0 0 0, Ptr.mk 30 1 0 0 0], 0) := by
    unfold dead_Add
    rw [check_valid v2, Option.bind_some, join_eq, hj]
    rfl
  rw [ha]
  rfl
end Go.Ow
