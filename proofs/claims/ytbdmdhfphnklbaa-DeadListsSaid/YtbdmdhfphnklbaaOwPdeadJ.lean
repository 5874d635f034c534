/-
  What is proved here: dead lists are checked and joined as is said: plain lists alone.
-/
import Derived.Test.YtbdmdhfphnklbaaOwPdeadq
namespace Go.Ow
open Go.Sort Go.Proofs
set_option linter.unusedVariables false
set_option linter.unusedSimpArgs false

/-- one that may be in a dead list -/
def okP (p : Ptr) : Bool := decide (12 ≤ p.At) && decide (p.At < 256) && decide ((1 : UInt32) ≤ p.Birth) && decide (p.Birth ≤ (16777215 : UInt32))
def Valid (l : List Ptr) : Prop := l.length ≤ 240 ∧ (∀ i p, l[i]? = some p → okP p = true ∧ ∀ q, 0 < i → l[i - 1]? = some q → q.At < p.At)

theorem ptr_Check_eq (p : Ptr) (h : (decide (p.At = 0) && (decide (p.Birth = (0 : UInt32)) && (decide (p.Iv = (0 : UInt32)) && (decide (p.Tag = (0 : UInt32)) && (decide (p.Sum = (0 : UInt32)) && true))))) = false) :
    ptr_Check p = some (if okP p then 0 else 8) := by
  unfold ptr_Check okP
  rw [h]
  simp only [cond_false]
  by_cases h1 : p.At < 12
  · have : ¬ (12 ≤ p.At) := by omega
    simp [h1, this]
  · by_cases h2 : 256 ≤ p.At
    · have : ¬ (p.At < 256) := by omega
      simp [h1, h2, this]
    · by_cases h3 : p.Birth < 1
      · have : ¬ ((1 : UInt32) ≤ p.Birth) := by rw [UInt32.not_le]; exact h3
        simp [h1, h2, h3, this]
      · have h3' : (1 : UInt32) ≤ p.Birth := by rw [← UInt32.not_lt]; exact h3
        by_cases h4 : (16777215 : UInt32) < p.Birth
        · have : ¬ (p.Birth ≤ (16777215 : UInt32)) := by rw [UInt32.not_le]; exact h4
          simp [h1, h2, h3, h4, this]
        · have h4' : p.Birth ≤ (16777215 : UInt32) := by rw [← UInt32.not_lt]; exact h4
          have h5 : 12 ≤ p.At := by omega
          have h6 : p.At < 256 := by omega
          simp [h1, h2, h3, h4, h5, h6, h3', h4']
theorem okP_zero (p : Ptr) (h : (decide (p.At = 0) && (decide (p.Birth = (0 : UInt32)) && (decide (p.Iv = (0 : UInt32)) && (decide (p.Tag = (0 : UInt32)) && (decide (p.Sum = (0 : UInt32)) && true))))) = true) : okP p = false := by
  simp only [Bool.and_eq_true, decide_eq_true_eq] at h
  unfold okP
  simp [h.1]

theorem dead_Check_spec (l : List Ptr) : (dead_Check l = some 0 ∧ Valid l) ∨ (dead_Check l = some 8 ∧ ¬ Valid l) := by
  unfold dead_Check
  by_cases hl : 240 < l.length
  · right
    have : (240 : Int) < l.length := by omega
    simp only [this, decide_true, cond_true]
    exact ⟨trivial, fun h => by have := h.1; omega⟩
  · have hl' : ¬ ((240 : Int) < l.length) := by omega
    simp only [hl', decide_false, cond_false]
    obtain ⟨t, ht, hR⟩ := loop_rule (body := dead_Check_l1 l) (fun s => s ≤ l.length ∧ ∀ i p, i < s → l[i]? = some p → okP p = true ∧ ∀ q, 0 < i → l[i - 1]? = some q → q.At < p.At) (fun s => l.length - s)
      (fun t => match t with | .inl _ => Valid l | .inr _ => ¬ Valid l) (by
        rintro s ⟨hs, hI⟩
        unfold dead_Check_l1
        by_cases hlt : s < l.length
        · have h1 : ((s : Nat) : Int) < (l.length : Int) := by omega
          simp only [h1, decide_true, cond_true]
          rw [idx_nat _ hlt]
          have hp : l[s]? = some l[s] := List.getElem?_eq_getElem hlt
          generalize hy : l[s] = y at hp
          have bad : okP y = false → ¬ Valid l := fun h hv => by
            have := (hv.2 s y hp).1; rw [h] at this; cases this
          cases hz : (decide (y.At = 0) && (decide (y.Birth = (0 : UInt32)) && (decide (y.Iv = (0 : UInt32)) && (decide (y.Tag = (0 : UInt32)) && (decide (y.Sum = (0 : UInt32)) && true))))) with
          | true => exact .inr ⟨_, rfl, bad (okP_zero y hz)⟩
          | false =>
            simp only [cond_false]
            rw [ptr_Check_eq y hz]
            cases ho : okP y with
            | false => exact .inr ⟨.inr (), by simp, bad ho⟩
            | true =>
              simp only [Option.bind_some, if_true, decide_true, Bool.not_true, cond_false]
              by_cases h0 : 0 < s
              · have h0' : (0 : Int) < ((s : Nat) : Int) := by omega
                have hw : w64 (((s : Nat) : Int) - 1) = ((s - 1 : Nat) : Int) := by rw [w64_of (by omega) (by omega)]; omega
                simp only [h0', decide_true, cond_true]
                rw [hw, idx_nat _ (by omega : s - 1 < l.length), dead_order_eq]
                have hq : l[s - 1]? = some l[s - 1] := List.getElem?_eq_getElem (by omega)
                generalize l[s - 1] = q at hq
                simp only [Option.bind_some]
                by_cases hc : q.At < y.At
                · left
                  have : ¬ (0 ≤ cmpI q.At y.At) := by simp [cmpI, hc]
                  simp only [this, decide_false, cond_false]
                  refine ⟨_, rfl, ⟨hlt, fun i p hi hip => ?_⟩, by omega⟩
                  by_cases his : i < s
                  · exact hI i p his hip
                  · obtain rfl : i = s := by omega
                    rw [hp] at hip; cases hip
                    exact ⟨ho, fun q' _ hq' => by rw [hq] at hq'; cases hq'; exact hc⟩
                · right
                  have : 0 ≤ cmpI q.At y.At := by unfold cmpI; split <;> (try split) <;> simp_all
                  simp only [this, decide_true, cond_true]
                  exact ⟨_, rfl, fun hv => hc ((hv.2 s y hp).2 q h0 hq)⟩
              · left
                have h0' : ¬ ((0 : Int) < ((s : Nat) : Int)) := by omega
                simp only [h0', decide_false, cond_false]
                refine ⟨_, rfl, ⟨hlt, fun i p hi hip => ?_⟩, by omega⟩
                obtain rfl : i = s := by omega
                rw [hp] at hip; cases hip
                exact ⟨ho, fun q hi0 => absurd hi0 h0⟩
        · right
          have h1 : ¬ (((s : Nat) : Int) < (l.length : Int)) := by omega
          simp only [h1, decide_false, cond_false]
          exact ⟨_, rfl, ⟨by omega, fun i p hip => hI i p (by have := (List.getElem?_eq_some_iff.1 hip).1; omega) hip⟩⟩)
      (s := 0) ⟨Nat.zero_le _, fun i p h => absurd h (by omega)⟩ (by unfold FUEL; omega)
    rw [ht]
    cases t with
    | inl u => exact .inl ⟨rfl, hR⟩
    | inr u => exact .inr ⟨rfl, hR⟩

end Go.Ow
