/-
  What is proved here: pointers and labels as bytes, and back: in plain words.
-/
import Derived.Test.YtdelcjkjkhcaoaaOwPstoreC
namespace Go.Ow
set_option linter.unusedVariables false
set_option linter.unusedSimpArgs false

theorem run_st {σ τ : Type} {body : σ → Option (σ ⊕ τ)} {n : Nat} {s s' : σ} (h : body s = some (.inl s')) : run body (n + 1) s = run body n s' := by
  show Option.bind (body s) _ = _; rw [h]; rfl
theorem run_en {σ τ : Type} {body : σ → Option (σ ⊕ τ)} {n : Nat} {s : σ} {t : τ} (h : body s = some (.inr t)) : run body (n + 1) s = some t := by
  show Option.bind (body s) _ = _; rw [h]; rfl
def isNone (p : Ptr) : Prop := p.At = 0 ∧ p.Birth = 0 ∧ p.Iv = 0 ∧ p.Tag = 0 ∧ p.Sum = 0
instance (p : Ptr) : Decidable (isNone p) := by unfold isNone; infer_instance
/-- a pointer that is one -/
def okR (p : Ptr) : Prop := 12 ≤ p.At ∧ p.At < 256 ∧ (1 : UInt32) ≤ p.Birth ∧ p.Birth ≤ 16777215
instance (p : Ptr) : Decidable (okR p) := by unfold okR; infer_instance
theorem none_dec (p : Ptr) : (decide (p.At = 0) && (decide (p.Birth = (0 : UInt32)) && (decide (p.Iv = (0 : UInt32)) && (decide (p.Tag = (0 : UInt32)) && (decide (p.Sum = (0 : UInt32)) && true))))) = decide (isNone p) := by
  rw [Bool.eq_iff_iff]
  simp only [Bool.and_eq_true, decide_eq_true_eq, and_true]
  exact Iff.rfl
theorem ptr_Check_eq' (p : Ptr) : ptr_Check p = some (if isNone p ∨ okR p then 0 else 8) := by
  unfold ptr_Check
  rw [none_dec]
  by_cases h0 : isNone p
  · rw [decide_eq_true h0, if_pos (.inl h0)]; rfl
  rw [decide_eq_false h0]
  by_cases h : okR p
  · rw [if_pos (.inr h)]
    obtain ⟨h1, h2, h3, h4⟩ := h
    rw [decide_eq_false (show ¬ p.At < 12 by omega), decide_eq_false (show ¬ 256 ≤ p.At by omega), decide_eq_false (show ¬ p.Birth < 1 from UInt32.not_lt.2 h3), decide_eq_false (show ¬ (16777215 : UInt32) < p.Birth from UInt32.not_lt.2 h4)]
    rfl
  · rw [if_neg (fun e => e.elim h0 h)]
    by_cases h1 : p.At < 12
    · rw [decide_eq_true h1]; rfl
    by_cases h2 : 256 ≤ p.At
    · rw [decide_eq_false h1, decide_eq_true h2]; rfl
    by_cases h3 : p.Birth < 1
    · rw [decide_eq_false h1, decide_eq_false h2, decide_eq_true h3]; rfl
    by_cases h4 : (16777215 : UInt32) < p.Birth
    · rw [decide_eq_false h1, decide_eq_false h2, decide_eq_false h3, decide_eq_true h4]; rfl
    exact absurd ⟨by omega, by omega, UInt32.not_lt.1 h3, UInt32.not_lt.1 h4⟩ h


end Go.Ow
