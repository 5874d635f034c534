/- What is said here: maps from numbers, in plain words: written, laid into a row. -/
import Derived.Test.YtdelcjkjkhcaoaaOwPA
namespace Go.Ow
set_option linter.unusedVariables false
set_option linter.unusedSimpArgs false

def putM {α : Type} : List (Int × α) → Int → α → List (Int × α)
  | [], k, y => [(k, y)]
  | p :: r, k, y => if p.1 = k then (k, y) :: r else p :: putM r k y

def layM {α β : Type} (f : α → β) (L : List β) (M : List (Int × α)) : List β := M.foldl (fun L p => L.set p.1.toNat (f p.2)) L
def layR {α β γ : Type} (f : α → β) (L : List β) (M : List (Int × α)) (k : List β → Option γ) : Option γ := if ∀ p ∈ M, 0 ≤ p.1 ∧ p.1.toNat < L.length then k (layM f L M) else none
theorem layR_some {α β γ : Type} {f : α → β} {L : List β} {M : List (Int × α)} {k : List β → Option γ} {r : γ} (h : layR f L M k = some r) :
    ∃ m, m = layM f L M ∧ (∀ p ∈ M, 0 ≤ p.1 ∧ p.1.toNat < L.length) ∧ k m = some r := by
  unfold layR at h
  split at h
  · rename_i c; exact ⟨_, rfl, c, h⟩
  · cases h


/-- the greater of two bytes -/
def maxB (a b : UInt8) : UInt8 := if a < b then b else a

/-- how many of the bytes are this one -/
def cntB (m : List UInt8) (c : UInt8) : Nat := m.foldl (fun n x => if x == c then n + 1 else n) 0
end Go.Ow
