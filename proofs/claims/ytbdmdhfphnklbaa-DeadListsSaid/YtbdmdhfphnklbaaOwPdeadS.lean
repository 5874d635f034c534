/-
  What is proved here: DeadJoins is true of all lists.
-/
import Derived.Test.YtbdmdhfphnklbaaOwPdeadR
namespace Go.Ow
set_option linter.unusedVariables false
set_option linter.unusedSimpArgs false
theorem J_cases (a b : List Ptr) : ((J a b).2 ≠ 0 ∧ (J a b).1 = []) ∨ (Valid a ∧ Valid b ∧ ND (a ++ b) ∧ (a ++ b).length ≤ 240 ∧ J a b = (sortP (a ++ b), 0)) := by
  unfold J
  by_cases hv : Valid a ∧ Valid b
  · rw [if_pos hv]
    by_cases hn : ND (a ++ b)
    · rw [if_pos hn]
      by_cases hl : (a ++ b).length ≤ 240
      · rw [if_pos hl]; exact .inr ⟨hv.1, hv.2, hn, hl, rfl⟩
      · rw [if_neg hl]; exact .inl ⟨by decide, rfl⟩
    · rw [if_neg hn]; exact .inl ⟨by decide, rfl⟩
  · rw [if_neg hv]; exact .inl ⟨by decide, rfl⟩
theorem J_ok {a b : List Ptr} (va : Valid a) (vb : Valid b) (hn : ND (a ++ b)) (hl : (a ++ b).length ≤ 240) : J a b = (sortP (a ++ b), 0) := by
  unfold J; rw [if_pos ⟨va, vb⟩, if_pos hn, if_pos hl]
theorem J_len (a b : List Ptr) : (J a b).1.length ≤ 1000 := by
  rcases J_cases a b with ⟨_, h⟩ | ⟨_, _, _, hl, h⟩
  · rw [h]; simp
  · rw [h]; show (sortP (a ++ b)).length ≤ 1000; rw [sortP_length]; omega
theorem valid_nil : Valid [] := valid_of (by decide) (by simp) .nil
theorem check_not {l : List Ptr} (h : ¬ Valid l) : dead_Check l = some 8 := by
  rcases dead_Check_spec l with ⟨_, e⟩ | ⟨e, _⟩
  · exact absurd e h
  · exact e
theorem J_three {a b c : List Ptr} (h1 : (J a b).2 = 0) (h2 : (J (J a b).1 c).2 = 0) : (J b c).2 = 0 ∧ J a (J b c).1 = J (J a b).1 c := by
  rcases J_cases a b with ⟨h, _⟩ | ⟨va, vb, n1, l1, e1⟩
  · exact absurd h1 h
  rw [e1] at h2 ⊢
  rcases J_cases (sortP (a ++ b)) c with ⟨h, _⟩ | ⟨vx, vc, n2, l2, e2⟩
  · exact absurd h2 h
  have p1 := (sortP_spec (a ++ b)).1
  have n3 : ND (a ++ (b ++ c)) := by
    rw [← List.append_assoc]; exact (ND.perm (p1.append_right c)).1 n2
  have l3 : (a ++ (b ++ c)).length ≤ 240 := by
    have := sortP_length (a ++ b); simp only [List.length_append] at *; omega
  have n4 : ND (b ++ c) := by
    unfold ND at n3 ⊢; rw [List.map_append] at n3; exact (List.nodup_append.1 n3).2.1
  have l4 : (b ++ c).length ≤ 240 := by simp only [List.length_append] at *; omega
  have e3 := J_ok vb vc n4 l4
  have vz := Valid.join vb vc n4 l4
  rw [e3]
  refine ⟨rfl, ?_⟩
  have p2 := (sortP_spec (b ++ c)).1
  have n5 : ND (a ++ sortP (b ++ c)) := (ND.perm (p2.symm.append_left a)).1 n3
  have l5 : (a ++ sortP (b ++ c)).length ≤ 240 := by
    have := sortP_length (b ++ c); simp only [List.length_append] at *; omega
  show J a (sortP (b ++ c)) = J (sortP (a ++ b)) c
  rw [J_ok va vz n5 l5, e2]
  have hp : (a ++ sortP (b ++ c)).Perm (sortP (a ++ b) ++ c) := (p2.append_left a).trans (by rw [← List.append_assoc]; exact p1.symm.append_right c)
  rw [sortP_unique hp n5]
theorem law_DeadJoins (a b c : List Ptr) : law16_DeadJoins a b c = some true := by
  unfold law16_DeadJoins
  rw [alive_eq, Option.bind_some]
  cases decide ((1000 : Int) < (a.length : Int)) with
  | true => rfl
  | false =>
  cases decide ((1000 : Int) < (b.length : Int)) with
  | true => rfl
  | false =>
  cases decide ((1000 : Int) < (c.length : Int)) with
  | true => rfl
  | false =>
  simp only [cond_false, join_eq, Option.bind_some, J_comm b a, law16_same_refl _ (J_len a b), decide_true, Bool.not_true]
  have hw : (J a b).2 = 0 → decide (((J a b).1.length : Int) = w64 ((a.length : Int) + (b.length : Int))) = true := fun h => by
    rcases J_cases a b with ⟨h', _⟩ | ⟨va, vb, _, hl, e⟩
    · exact absurd h h'
    · rw [e]
      show decide (((sortP (a ++ b)).length : Int) = _) = true
      have h1 := va.1
      have h2 := vb.1
      rw [sortP_length, w64_of (by omega) (by omega)]
      exact decide_eq_true (by simp)
  have hb : (bif decide ((J a b).2 = 0) then bif !decide (((J a b).1.length : Int) = w64 ((a.length : Int) + (b.length : Int))) then some (Sum.inr ()) else some (Sum.inl ()) else some (Sum.inl ()) : Option (Unit ⊕ Unit)) = some (.inl ()) := by
    by_cases h : (J a b).2 = 0
    · rw [hw h, decide_eq_true h]; rfl
    · rw [decide_eq_false h]; rfl
  rw [hb, Option.bind_some]
  dsimp only [Sum.elim_inl]
  have hc : (Option.bind (dead_Check a) fun x_38 => bif decide (x_38 = 0) then bif !decide ((J a []).2 = 0) then some (Sum.inr ()) else Option.bind (law16_same (J a []).1 a) fun x_43 => bif !x_43 then some (Sum.inr ()) else some (Sum.inl ()) else some (Sum.inl ()) : Option (Unit ⊕ Unit)) = some (.inl ()) := by
    by_cases hv : Valid a
    · have e : J a [] = (a, 0) := by
        have hp := hv.pairwise
        rw [J_ok hv valid_nil (by rw [List.append_nil]; exact ND.of_pairwise hp) (by rw [List.append_nil]; exact hv.1), List.append_nil, sortP_self hp]
      rw [check_valid hv, Option.bind_some, e, law16_same_refl a (by have := hv.1; omega)]
      rfl
    · rw [check_not hv]; rfl
  rw [hc, Option.bind_some]
  dsimp only [Sum.elim_inl]
  by_cases h1 : (J a b).2 = 0
  · rw [decide_eq_true h1]
    by_cases h2 : (J (J a b).1 c).2 = 0
    · obtain ⟨h3, h4⟩ := J_three h1 h2
      rw [decide_eq_true h2, decide_eq_true h3, h4, decide_eq_true h2, law16_same_refl _ (J_len _ _)]
      rfl
    · rw [decide_eq_false h2]; rfl
  · rcases J_cases a b with ⟨_, h2⟩ | ⟨_, _, _, _, e⟩
    · rw [decide_eq_false h1, h2]; rfl
    · rw [e] at h1; exact absurd rfl h1
end Go.Ow
