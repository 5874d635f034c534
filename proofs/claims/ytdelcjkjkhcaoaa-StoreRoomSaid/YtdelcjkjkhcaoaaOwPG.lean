/-
  What is proved here: loops over the elements of a list, told by recursion over the list: plain lists alone.
-/
import Derived.Test.YtdelcjkjkhcaoaaOwP
namespace Go.Ow
set_option linter.unusedVariables false
set_option linter.unusedSimpArgs false
variable {α σ ρ τ : Type}

/-- how a loop that goes on behind the element ends -/
def goesOn (st : ρ → σ) : ρ ⊕ τ → Option (σ ⊕ τ)
  | .inl r => some (.inl (st r))
  | .inr t => some (.inr t)
def ends (fin : ρ → τ) : ρ ⊕ τ → Option τ
  | .inl r => some (fin r)
  | .inr t => some t
/-- a loop over the elements of a list: what is carried is told by a recursion over the list -/
theorem loop_each (l : List α) (st : Nat → ρ → σ) {body : σ → Option (σ ⊕ τ)} (f : α → ρ → Option (ρ ⊕ τ)) (fin : ρ → τ) (I : Nat → ρ → Prop)
    (step : ∀ i (h : i < l.length) r, I i r → body (st i r) = Option.bind (f l[i] r) (goesOn (st (i + 1)))) (inv : ∀ i (h : i < l.length) r r', I i r → f l[i] r = some (.inl r') → I (i + 1) r')
    (stop : ∀ r, I l.length r → body (st l.length r) = some (.inr (fin r))) (hl : l.length < FUEL) {r0 : ρ} (h0 : I 0 r0) :
    loop body (st 0 r0) = Option.bind (forL f l r0) (ends fin) := by
  have key : ∀ (k i : Nat) (r : ρ) (n : Nat), i + k = l.length → k < n → I i r → run body n (st i r) = Option.bind (forL f (l.drop i) r) (ends fin) := by
    intro k
    induction k with
    | zero =>
      intro i r n hi hn hI
      obtain rfl : i = l.length := by omega
      obtain ⟨n, rfl⟩ : ∃ m, n = m + 1 := ⟨n - 1, by omega⟩
      show Option.bind (body (st l.length r)) _ = _
      rw [stop r hI, List.drop_length]; rfl
    | succ k ih =>
      intro i r n hi hn hI
      have hlt : i < l.length := by omega
      obtain ⟨n, rfl⟩ : ∃ m, n = m + 1 := ⟨n - 1, by omega⟩
      show Option.bind (body (st i r)) _ = _
      rw [step i hlt r hI, List.drop_eq_getElem_cons hlt]
      show _ = Option.bind (Option.bind (f l[i] r) _) _
      cases hf : f l[i] r with
      | none => rfl
      | some o =>
        cases o with
        | inl r' => exact ih (i + 1) r' n (by omega) (by omega) (inv i hlt r r' hI hf)
        | inr t => rfl
  have := key l.length 0 r0 FUEL (by omega) hl h0
  simpa [loop] using this
/-- the same, where nothing is known of what is carried -/
theorem loop_each' (l : List α) (st : Nat → ρ → σ) {body : σ → Option (σ ⊕ τ)} (f : α → ρ → Option (ρ ⊕ τ)) (fin : ρ → τ)
    (step : ∀ i (h : i < l.length) r, body (st i r) = Option.bind (f l[i] r) (goesOn (st (i + 1)))) (stop : ∀ r, body (st l.length r) = some (.inr (fin r))) (hl : l.length < FUEL) (r0 : ρ) :
    loop body (st 0 r0) = Option.bind (forL f l r0) (ends fin) :=
  loop_each l st f fin (fun _ _ => True) (fun i h r _ => step i h r) (fun _ _ _ _ _ _ => trivial) (fun r _ => stop r) hl trivial
theorem forL_map (g : ρ → α → ρ) : ∀ (l : List α) (r : ρ), forL (fun y r => some (.inl (g r y) : ρ ⊕ τ)) l r = some (.inl (l.foldl g r))
  | [], r => rfl
  | y :: l, r => by rw [forL_cons (s' := g r y) rfl, forL_map g l]; rfl
theorem lt_fuel {n m : Nat} (h : n ≤ m) (hm : Nat.blt m FUEL = true) : n < FUEL := Nat.lt_of_le_of_lt h (by simpa using hm)
theorem cI {n m : Nat} {β : Type} {a b : β} : (bif decide ((n : Int) < (m : Int)) then a else b) = if n < m then a else b := by
  by_cases h : n < m
  · rw [if_pos h, decide_eq_true (by omega)]; rfl
  · rw [if_neg h, decide_eq_false (by omega)]; rfl
end Go.Ow
