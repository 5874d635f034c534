/-
  What is proved here: a list that is split after two syncs is parted in three the same; added pointers are the joined list (DeadSyncs).
-/
import Derived.Test.YtbdmdhfphnklbaaOwPdeadT
namespace Go.Ow
set_option linter.unusedVariables false
set_option linter.unusedSimpArgs false

theorem old_old {a b : UInt32} (h : a ≤ b) (l : List Ptr) : oldP a (oldP b l) = oldP a l := by
  unfold oldP
  rw [List.filter_filter]
  refine List.filter_congr fun p _ => ?_
  by_cases h1 : a < p.Birth
  · simp [h1]
  · have h2 : ¬ b < p.Birth := by
      rw [UInt32.not_lt] at h1 ⊢; exact UInt32.le_trans h1 h
    simp [h1, h2]
theorem young_young {a b : UInt32} (h : a ≤ b) (l : List Ptr) : youngP b (youngP a l) = youngP b l := by
  unfold youngP
  rw [List.filter_filter]
  refine List.filter_congr fun p _ => ?_
  by_cases h1 : b < p.Birth
  · have h2 : a < p.Birth := UInt32.lt_of_le_of_lt h h1
    simp [h1, h2]
  · simp [h1]
theorem old_young (a b : UInt32) (l : List Ptr) : oldP b (youngP a l) = youngP a (oldP b l) := by
  unfold youngP oldP
  rw [List.filter_filter, List.filter_filter]
  exact List.filter_congr fun p _ => Bool.and_comm _ _

theorem syncs_l1 (l : List Ptr) (h : Valid l) : loop (law16_DeadSyncs_l1 l) (([] : List Ptr), ((l.length : Int) - 1)) = some (.inl l) := by
  obtain ⟨t, ht, hR⟩ := loop_rule (body := law16_DeadSyncs_l1 l) (fun s => -1 ≤ s.2 ∧ s.2 < l.length ∧ s.1 = l.drop (s.2 + 1).toNat) (fun s => (s.2 + 1).toNat) (fun t => t = .inl l) (by
    rintro ⟨all, i⟩ ⟨h1, h2, h3⟩
    dsimp only at h1 h2 h3
    subst h3
    have hb := h.1
    unfold law16_DeadSyncs_l1
    dsimp only
    by_cases hi : 0 ≤ i
    · left
      obtain ⟨k, rfl⟩ : ∃ k : Nat, i = k := ⟨i.toNat, by omega⟩
      have hk : k < l.length := by omega
      rw [decide_eq_true hi, cond_true, idx_nat _ hk, dead_Add_eq]
      have hok : okP l[k] = true := (h.2 k _ (List.getElem?_eq_getElem hk)).1
      rw [if_pos hok, Option.bind_some]
      have e1 : ((k : Int) + 1).toNat = k + 1 := by omega
      rw [e1]
      have hd : (l.drop (k + 1) ++ [l[k]]).Perm (l.drop k) := by
        rw [List.drop_eq_getElem_cons hk]; exact List.perm_append_comm
      have vk : Valid (l.drop k) := h.sub (List.drop_sublist k l)
      have vk1 : Valid (l.drop (k + 1)) := h.sub (List.drop_sublist _ l)
      have hnd := (ND.perm hd).2 (ND.of_pairwise vk.pairwise)
      have eJ : J (l.drop (k + 1)) [l[k]] = (l.drop k, 0) := by
        rw [J_ok vk1 (valid_one.2 hok) hnd (by rw [hd.length_eq]; exact vk.1), sortP_unique hd hnd, sortP_self vk.pairwise]
      rw [eJ]
      refine ⟨_, rfl, ⟨?_, ?_, ?_⟩, ?_⟩ <;> dsimp only <;> rw [w64_of (by omega) (by omega)]
      · omega
      · omega
      · rw [show ((k : Int) - 1 + 1).toNat = k by omega]
      · omega
    · right
      rw [decide_eq_false hi, cond_false]
      refine ⟨_, rfl, ?_⟩
      rw [show (i + 1).toNat = 0 by omega, List.drop_zero]) (s := ([], (l.length : Int) - 1)) ⟨by dsimp only; omega, by dsimp only; omega, by
        dsimp only; rw [show ((l.length : Int) - 1 + 1).toNat = l.length by omega, List.drop_length]⟩ (by
        have := h.1
        show ((l.length : Int) - 1 + 1).toNat < FUEL
        exact Nat.lt_of_le_of_lt (show _ ≤ 1000 by omega) (by decide))
  rw [ht, hR]

theorem law_DeadSyncs (l : List Ptr) (a b : UInt32) : law16_DeadSyncs l a b = some true := by
  unfold law16_DeadSyncs
  rw [alive_eq, Option.bind_some]
  by_cases hl : 300 < l.length
  · rw [decide_eq_true (show (300 : Int) < (l.length : Int) by omega)]; rfl
  rw [decide_eq_false (show ¬ (300 : Int) < (l.length : Int) by omega), cond_false]
  by_cases hv : Valid l
  · rw [check_valid hv, Option.bind_some, decide_eq_true rfl, Bool.not_true, cond_false]
    by_cases hab : b < a
    · rw [decide_eq_true hab]; rfl
    rw [decide_eq_false hab, cond_false]
    have hle : a ≤ b := UInt32.not_lt.1 hab
    have r := fun m (hm : Valid m) => law16_same_refl m (by have := hm.1; omega)
    rw [dead_Split_eq a hv, Option.bind_some, dead_Split_eq b (hv.young a), Option.bind_some, dead_Split_eq b hv, Option.bind_some, dead_Split_eq a (hv.old b), Option.bind_some]
    dsimp only
    rw [old_old hle, young_young hle, old_young, r _ (hv.old a), Option.bind_some, r _ ((hv.old b).young a), Option.bind_some, r _ (hv.young b), Option.bind_some]
    simp only [decide_true, Bool.not_true, cond_false]
    have hb := hv.1
    rw [w64_of (by omega) (by omega), syncs_l1 l hv, Option.bind_some, Sum.elim_inl, r _ hv]
    rfl
  · rw [check_not hv]; rfl
end Go.Ow
