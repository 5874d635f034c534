/-
  What is proved here: Split parts a list by birth; what was split is joined as it was; what was added is there, once (DeadParts).
-/
import Derived.Test.YtbdmdhfphnklbaaOwPdeadS
namespace Go.Ow
set_option linter.unusedVariables false
set_option linter.unusedSimpArgs false

theorem Valid.sub {l m : List Ptr} (h : Valid l) (s : m.Sublist l) : Valid m :=
  valid_of (Nat.le_trans s.length_le h.1) (fun p hp => by
    obtain ⟨j, hj⟩ := List.mem_iff_getElem?.1 (s.subset hp)
    exact (h.2 j p hj).1) (h.pairwise.sublist s)

theorem take_next {α : Type} {l : List α} {s : Nat} (h : s < l.length) : l.take (s + 1) = l.take s ++ [l[s]] := by
  rw [List.take_add_one, List.getElem?_eq_getElem h]; rfl

def oldP (a : UInt32) (l : List Ptr) : List Ptr := l.filter fun p => !decide (a < p.Birth)
def youngP (a : UInt32) (l : List Ptr) : List Ptr := l.filter fun p => decide (a < p.Birth)
theorem oldP_len (a : UInt32) (l : List Ptr) : (oldP a l).length ≤ l.length := List.length_filter_le _ _
theorem youngP_len (a : UInt32) (l : List Ptr) : (youngP a l).length ≤ l.length := List.length_filter_le _ _

theorem dead_Split_loop (l : List Ptr) (a : UInt32) (hl : l.length ≤ 1000) : loop (dead_Split_l1 l a) (([] : List Ptr), ([] : List Ptr), 0) = some (oldP a l, youngP a l) := by
  obtain ⟨t, ht, hR⟩ := loop_rule (body := dead_Split_l1 l a) (fun s => s.2.2 ≤ l.length ∧ s.1 = oldP a (l.take s.2.2) ∧ s.2.1 = youngP a (l.take s.2.2)) (fun s => l.length - s.2.2)
    (fun t => t = (oldP a l, youngP a l)) (by
      rintro ⟨o, y, i⟩ ⟨h1, h2, h3⟩
      dsimp only at h1 h2 h3
      subst h2; subst h3
      unfold dead_Split_l1
      dsimp only
      by_cases hlt : i < l.length
      · left
        rw [decide_eq_true (show ((i : Nat) : Int) < (l.length : Int) by omega), cond_true, idx_nat _ hlt]
        have q1 := oldP_len a (l.take i)
        have q2 := youngP_len a (l.take i)
        have q3 : (l.take i).length ≤ l.length := by rw [List.length_take]; omega
        have q4 : LIM = 1099511627776 := rfl
        cases hb : decide (a < (l[i]).Birth) with
        | true =>
          rw [cond_true, app_eq (by simp only [List.length_cons, List.length_nil]; omega)]
          refine ⟨_, rfl, ⟨hlt, ?_, ?_⟩, by dsimp only; omega⟩
          · show _ = oldP a (l.take (i + 1))
            rw [take_next hlt]; unfold oldP; rw [List.filter_append]; simp [hb]
          · show _ = youngP a (l.take (i + 1))
            rw [take_next hlt]; unfold youngP; rw [List.filter_append]; simp [hb]
        | false =>
          rw [cond_false, app_eq (by simp only [List.length_cons, List.length_nil]; omega)]
          refine ⟨_, rfl, ⟨hlt, ?_, ?_⟩, by dsimp only; omega⟩
          · show _ = oldP a (l.take (i + 1))
            rw [take_next hlt]; unfold oldP; rw [List.filter_append]; simp [hb]
          · show _ = youngP a (l.take (i + 1))
            rw [take_next hlt]; unfold youngP; rw [List.filter_append]; simp [hb]
      · right
        rw [decide_eq_false (show ¬ ((i : Nat) : Int) < (l.length : Int) by omega), cond_false]
        have : l.take i = l := List.take_of_length_le (by omega)
        exact ⟨_, rfl, by rw [this]⟩) (s := ([], [], 0)) ⟨Nat.zero_le _, rfl, rfl⟩ (Nat.lt_of_le_of_lt (Nat.sub_le _ _) (Nat.lt_of_le_of_lt hl (by decide)))
  rw [ht, hR]

theorem dead_Split_eq {l : List Ptr} (a : UInt32) (h : Valid l) : dead_Split l a = some (oldP a l, youngP a l, 0) := by
  unfold dead_Split
  rw [check_valid h, Option.bind_some, decide_eq_true rfl, Bool.not_true, cond_false, dead_Split_loop l a (by have := h.1; omega)]
  rfl
theorem dead_Split_not {l : List Ptr} (a : UInt32) (h : ¬ Valid l) : dead_Split l a = some ([], [], 8) := by
  unfold dead_Split
  rw [check_not h]; rfl

theorem parts_perm (a : UInt32) (l : List Ptr) : (youngP a l ++ oldP a l).Perm l := by
  unfold youngP oldP
  exact List.filter_append_perm (fun p => decide (a < p.Birth)) l

theorem Valid.old {l : List Ptr} (a : UInt32) (h : Valid l) : Valid (oldP a l) := h.sub List.filter_sublist
theorem Valid.young {l : List Ptr} (a : UInt32) (h : Valid l) : Valid (youngP a l) := h.sub List.filter_sublist

theorem join_parts {l : List Ptr} (a : UInt32) (h : Valid l) : J (youngP a l) (oldP a l) = (l, 0) := by
  have hp := parts_perm a l
  rw [J_ok (h.young a) (h.old a) ((ND.perm hp).2 (ND.of_pairwise h.pairwise)) (by rw [hp.length_eq]; exact h.1), sortP_unique hp ((ND.perm hp).2 (ND.of_pairwise h.pairwise)), sortP_self h.pairwise]

/-- Add, said plainly -/
theorem valid_one {p : Ptr} : Valid [p] ↔ okP p = true := by
  constructor
  · intro h; exact (h.2 0 p rfl).1
  · intro h; exact valid_of (by simp) (by simpa using h) (by simp)
theorem dead_Add_eq (l : List Ptr) (p : Ptr) : dead_Add l p = if okP p then some (J l [p]) else some ([], 8) := by
  unfold dead_Add
  cases h : okP p with
  | true => rw [check_valid (valid_one.2 h), Option.bind_some, decide_eq_true rfl, Bool.not_true, cond_false, join_eq]; rfl
  | false => rw [check_not (fun hv => by rw [valid_one.1 hv] at h; cases h)]; rfl

/-- what is added stands at one place -/
theorem insert_split {l m : List Ptr} {p : Ptr} (hm : m.Perm (l ++ [p])) (s : m.Pairwise (fun p q => p.At < q.At)) (hl : l.Pairwise (fun p q => p.At < q.At)) :
    ∃ l1 l2, m = l1 ++ p :: l2 ∧ l = l1 ++ l2 ∧ p ∉ l := by
  have hp : p ∈ m := hm.symm.subset (by simp)
  obtain ⟨l1, l2, rfl⟩ := List.append_of_mem hp
  have h1 : (p :: (l1 ++ l2)).Perm (p :: l) := (List.perm_middle.symm.trans hm).trans List.perm_append_comm
  have h2 : (l1 ++ l2).Perm l := h1.cons_inv
  have h3 : (l1 ++ l2).Sublist (l1 ++ p :: l2) := List.Sublist.append_left (List.sublist_cons_self p l2) l1
  have h4 : l = l1 ++ l2 := (strict_unique h2 (s.sublist h3) hl).symm
  refine ⟨l1, l2, rfl, h4, fun hin => ?_⟩
  have h5 : (p :: (l1 ++ l2)).Pairwise (fun p q => p.At ≠ q.At) := by
    have : (l1 ++ p :: l2).Pairwise (fun p q => p.At ≠ q.At) := s.imp fun h => by omega
    exact List.perm_middle.pairwise this (fun h => Ne.symm h)
  rw [h4] at hin
  exact (List.pairwise_cons.1 h5).1 p hin rfl

def eqP (p q : Ptr) : Bool := decide (p.At = q.At) && (decide (p.Birth = q.Birth) && (decide (p.Iv = q.Iv) && (decide (p.Tag = q.Tag) && (decide (p.Sum = q.Sum) && true))))
theorem eqP_iff (p q : Ptr) : eqP p q = true ↔ p = q := by
  cases p; cases q; unfold eqP; simp
theorem eqP_self (p : Ptr) : eqP p p = true := (eqP_iff p p).2 rfl
theorem eqP_ne {p q : Ptr} (h : p ≠ q) : eqP p q = false := by
  cases e : eqP p q with
  | false => rfl
  | true => exact absurd ((eqP_iff p q).1 e) h

theorem parts_l3 (l1 l2 : List Ptr) (p : Ptr) (x : List Ptr × Int) (hx : x.1 = l1 ++ p :: l2) (hn : p ∉ l1 ++ l2) (hl : (l1 ++ l2).length ≤ 1000) :
    loop (law16_DeadParts_l3 (l1 ++ l2) p x) (0, 0, 0) = some (.inl (((l1 ++ l2).length : Int), 1)) := by
  obtain ⟨m, e⟩ := x
  dsimp only at hx
  subst hx
  have hL : (l1 ++ p :: l2).length = (l1 ++ l2).length + 1 := by simp; omega
  obtain ⟨t, ht, hR⟩ := loop_rule (body := law16_DeadParts_l3 (l1 ++ l2) p (l1 ++ p :: l2, e)) (fun s => s.2.2 ≤ (l1 ++ l2).length + 1 ∧ s.1 = ((if s.2.2 ≤ l1.length then s.2.2 else s.2.2 - 1 : Nat) : Int) ∧ s.2.1 = if s.2.2 ≤ l1.length then 0 else 1) (fun s => (l1 ++ l2).length + 1 - s.2.2)
    (fun t => t = .inl (((l1 ++ l2).length : Int), 1)) (by
      rintro ⟨a, f, i⟩ ⟨h1, h2, h3⟩
      dsimp only at h1 h2 h3
      have hl2 : (l1 ++ l2).length = l1.length + l2.length := List.length_append
      unfold law16_DeadParts_l3
      dsimp only
      rw [hL]
      by_cases hlt : i < (l1 ++ l2).length + 1
      · left
        rw [decide_eq_true (show ((i : Nat) : Int) < (((l1 ++ l2).length + 1 : Nat) : Int) by omega), cond_true, idx_nat _ (show i < (l1 ++ p :: l2).length by omega)]
        show ∃ s', (bif eqP _ p then _ else _) = _ ∧ _
        by_cases hi : i = l1.length
        · subst hi
          have e1 : (l1 ++ p :: l2)[l1.length] = p := by simp
          rw [e1, eqP_self, cond_true]
          rw [if_pos (Nat.le_refl _)] at h2 h3
          refine ⟨_, rfl, ⟨by dsimp only; omega, ?_, ?_⟩, by dsimp only; omega⟩
          · dsimp only; rw [if_neg (by omega), h2]; omega
          · dsimp only; rw [if_neg (by omega), h3]; rfl
        · have e2 : (l1 ++ p :: l2)[i]'(by omega) = (l1 ++ l2)[if i ≤ l1.length then i else i - 1]'(by split <;> omega) := by
            by_cases hc : i ≤ l1.length
            · simp only [if_pos hc]
              rw [List.getElem_append_left (by omega), List.getElem_append_left (by omega)]
            · simp only [if_neg hc]
              rw [List.getElem_append_right (by omega), List.getElem_append_right (by omega)]
              simp only [show i - l1.length = (i - 1 - l1.length) + 1 by omega, List.getElem_cons_succ]
          have hk : (if i ≤ l1.length then i else i - 1) < (l1 ++ l2).length := by split <;> omega
          have e3 : (l1 ++ p :: l2)[i]'(by omega) ≠ p := by
            rw [e2]; intro h; exact hn (h ▸ List.getElem_mem _)
          obtain ⟨k, hkk⟩ : ∃ k, k = (if i ≤ l1.length then i else i - 1) := ⟨_, rfl⟩
          have e2' : (l1 ++ p :: l2)[i]'(by omega) = (l1 ++ l2)[k]'(by rw [hkk]; exact hk) := by simp only [hkk]; exact e2
          rw [← hkk] at h2 hk
          subst h2
          rw [eqP_ne e3, cond_false, decide_eq_false (by omega), cond_false]
          rw [idx_nat _ hk, idx_nat _ (show i < (l1 ++ p :: l2).length by omega)]
          show ∃ s', (bif !eqP _ _ then _ else _) = _ ∧ _
          rw [e2', eqP_self, Bool.not_true, cond_false]
          refine ⟨_, rfl, ⟨by dsimp only; omega, ?_, ?_⟩, by dsimp only; omega⟩
          · dsimp only
            rw [w64_of (by omega) (by omega)]
            by_cases hc : i ≤ l1.length
            · rw [if_pos hc] at hkk; rw [if_pos (by omega)]; omega
            · rw [if_neg hc] at hkk; rw [if_neg (by omega)]; omega
          · dsimp only
            rw [h3]
            by_cases hc : i ≤ l1.length
            · rw [if_pos hc, if_pos (by omega)]
            · rw [if_neg hc, if_neg (by omega)]
      · right
        rw [decide_eq_false (show ¬ ((i : Nat) : Int) < (((l1 ++ l2).length + 1 : Nat) : Int) by omega), cond_false]
        refine ⟨_, rfl, ?_⟩
        rw [if_neg (by omega)] at h2 h3
        rw [h2, h3]
        have : i - 1 = (l1 ++ l2).length := by omega
        rw [this]) (s := (0, 0, 0)) ⟨Nat.zero_le _, by simp, by simp⟩ (Nat.lt_of_le_of_lt (Nat.sub_le _ _) (Nat.lt_of_le_of_lt (show _ ≤ 1001 by omega) (by decide)))
  rw [ht, hR]

theorem parts_l1 (a : UInt32) (x : List Ptr × List Ptr × Int) (h : ∀ p ∈ x.1, decide (a < p.Birth) = false) (hl : x.1.length ≤ 1000) : loop (law16_DeadParts_l1 a x) 0 = some (.inl ()) := by
  obtain ⟨t, ht, hR⟩ := loop_rule (body := law16_DeadParts_l1 a x) (fun s => s ≤ x.1.length) (fun s => x.1.length - s) (fun t => t = .inl ()) (by
    intro i h1
    unfold law16_DeadParts_l1
    by_cases hlt : i < x.1.length
    · left
      rw [decide_eq_true (show ((i : Nat) : Int) < (x.1.length : Int) by omega), cond_true, idx_nat _ hlt, h _ (List.getElem_mem hlt), cond_false]
      exact ⟨_, rfl, hlt, by omega⟩
    · right
      rw [decide_eq_false (show ¬ ((i : Nat) : Int) < (x.1.length : Int) by omega), cond_false]
      exact ⟨_, rfl, rfl⟩) (s := 0) (Nat.zero_le _) (Nat.lt_of_le_of_lt (Nat.sub_le _ _) (Nat.lt_of_le_of_lt hl (by decide)))
  rw [ht, hR]
theorem parts_l2 (a : UInt32) (x : List Ptr × List Ptr × Int) (h : ∀ p ∈ x.2.1, decide (p.Birth ≤ a) = false) (hl : x.2.1.length ≤ 1000) : loop (law16_DeadParts_l2 a x) 0 = some (.inl ()) := by
  obtain ⟨t, ht, hR⟩ := loop_rule (body := law16_DeadParts_l2 a x) (fun s => s ≤ x.2.1.length) (fun s => x.2.1.length - s) (fun t => t = .inl ()) (by
    intro i h1
    unfold law16_DeadParts_l2
    by_cases hlt : i < x.2.1.length
    · left
      rw [decide_eq_true (show ((i : Nat) : Int) < (x.2.1.length : Int) by omega), cond_true, idx_nat _ hlt, h _ (List.getElem_mem hlt), cond_false]
      exact ⟨_, rfl, hlt, by omega⟩
    · right
      rw [decide_eq_false (show ¬ ((i : Nat) : Int) < (x.2.1.length : Int) by omega), cond_false]
      exact ⟨_, rfl, rfl⟩) (s := 0) (Nat.zero_le _) (Nat.lt_of_le_of_lt (Nat.sub_le _ _) (Nat.lt_of_le_of_lt hl (by decide)))
  rw [ht, hR]

theorem law_DeadParts (l : List Ptr) (p : Ptr) (a : UInt32) : law16_DeadParts l p a = some true := by
  unfold law16_DeadParts
  rw [alive_eq, Option.bind_some]
  by_cases hl : 1000 < l.length
  · rw [decide_eq_true (show (1000 : Int) < (l.length : Int) by omega)]; rfl
  rw [decide_eq_false (show ¬ (1000 : Int) < (l.length : Int) by omega), cond_false]
  by_cases hv : Valid l
  · have hs := dead_Split_eq a hv
    have hy := hv.young a
    have ho := hv.old a
    have hj := join_parts a hv
    have m1 : ∀ q ∈ oldP a l, decide (a < q.Birth) = false := fun q hq => by
      have := (List.mem_filter.1 hq).2; simpa using this
    have m2 : ∀ q ∈ youngP a l, decide (q.Birth ≤ a) = false := fun q hq => by
      have := (List.mem_filter.1 hq).2; simpa using this
    have k1 : (oldP a l).length ≤ 1000 := by have := ho.1; omega
    have k2 : (youngP a l).length ≤ 1000 := by have := hy.1; omega
    generalize oldP a l = o at *
    generalize youngP a l = y at *
    rw [check_valid hv, Option.bind_some, decide_eq_true rfl, Bool.not_true, cond_false, hs, Option.bind_some, join_eq, hj, Option.bind_some]
    simp only [decide_true, Bool.not_true, cond_false]
    rw [law16_same_refl l (by omega), Option.bind_some, Bool.not_true, cond_false, check_valid ho, Option.bind_some]
    simp only [decide_true, Bool.not_true, cond_false]
    rw [check_valid hy, Option.bind_some]
    simp only [decide_true, Bool.not_true, cond_false]
    rw [parts_l1 a (o, y, 0) m1 k1, Option.bind_some, Sum.elim_inl, parts_l2 a (o, y, 0) m2 k2, Option.bind_some, Sum.elim_inl, dead_Add_eq]
    cases hp : okP p with
    | false => rfl
    | true =>
      rw [if_pos rfl, Option.bind_some]
      rcases J_cases l [p] with ⟨h1, h2⟩ | ⟨_, vp, nd, hlen, e⟩
      · rw [decide_eq_false h1, h2]; rfl
      · have hpw := sortP_pairwise (l := l ++ [p]) fun ht => (twice_iff _).1 ht nd
        have hval := Valid.join hv vp nd hlen
        obtain ⟨l1, l2, em, el, hni⟩ := insert_split (sortP_spec (l ++ [p])).1 hpw hv.pairwise
        rw [e]
        generalize sortP (l ++ [p]) = m at *
        subst el
        rw [parts_l3 l1 l2 p (m, 0) em hni (by omega)]
        simp only [decide_true, Bool.not_true, cond_false, cond_true, Option.bind_some, Sum.elim_inl]
        rw [check_valid hval]
        rfl
  · rw [check_not hv]; rfl
end Go.Ow
