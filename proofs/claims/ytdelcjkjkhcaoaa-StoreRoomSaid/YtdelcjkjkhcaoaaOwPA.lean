/-
  Arrays of a few elements, as plain structures.
-/
import Derived.Test.YtdelcjkjkhcaoaaOwPT
namespace Go.Ow
set_option linter.unusedVariables false
set_option linter.unusedSimpArgs false
variable {α β : Type}
structure A2 (α : Type) where
  e0 : α
  e1 : α
instance [Inhabited α] : Inhabited (A2 α) := ⟨⟨default, default⟩⟩
def A2.l (x : A2 α) : List α := [x.e0, x.e1]
theorem A2.len (x : A2 α) : x.l.length = 2 := rfl
def A2.of (d : α) (l : List α) : A2 α := ⟨l.getD 0 d, l.getD 1 d⟩
theorem A2.of_l (d : α) : ∀ (l : List α), l.length = 2 → (A2.of d l).l = l
  | [e0, e1], _ => rfl
def A2.setI (x : A2 α) (i : Int) (y : α) (k : A2 α → Option β) : Option β := if 0 ≤ i ∧ i.toNat < 2 then k (A2.of y (x.l.set i.toNat y)) else none
theorem A2.setI_some {x : A2 α} {i : Int} {y : α} {k : A2 α → Option β} {r : β} (h : A2.setI x i y k = some r) : ∃ m, m.l = x.l.set i.toNat y ∧ (0 ≤ i ∧ i.toNat < 2) ∧ k m = some r := by
  unfold A2.setI at h
  split at h
  · exact ⟨_, A2.of_l y _ (by rw [List.length_set]; rfl), by assumption, h⟩
  · cases h
structure A3 (α : Type) where
  e0 : α
  e1 : α
  e2 : α
instance [Inhabited α] : Inhabited (A3 α) := ⟨⟨default, default, default⟩⟩
def A3.l (x : A3 α) : List α := [x.e0, x.e1, x.e2]
theorem A3.len (x : A3 α) : x.l.length = 3 := rfl
def A3.of (d : α) (l : List α) : A3 α := ⟨l.getD 0 d, l.getD 1 d, l.getD 2 d⟩
theorem A3.of_l (d : α) : ∀ (l : List α), l.length = 3 → (A3.of d l).l = l
  | [e0, e1, e2], _ => rfl
def A3.setI (x : A3 α) (i : Int) (y : α) (k : A3 α → Option β) : Option β := if 0 ≤ i ∧ i.toNat < 3 then k (A3.of y (x.l.set i.toNat y)) else none
theorem A3.setI_some {x : A3 α} {i : Int} {y : α} {k : A3 α → Option β} {r : β} (h : A3.setI x i y k = some r) : ∃ m, m.l = x.l.set i.toNat y ∧ (0 ≤ i ∧ i.toNat < 3) ∧ k m = some r := by
  unfold A3.setI at h
  split at h
  · exact ⟨_, A3.of_l y _ (by rw [List.length_set]; rfl), by assumption, h⟩
  · cases h
structure A4 (α : Type) where
  e0 : α
  e1 : α
  e2 : α
  e3 : α
instance [Inhabited α] : Inhabited (A4 α) := ⟨⟨default, default, default, default⟩⟩
def A4.l (x : A4 α) : List α := [x.e0, x.e1, x.e2, x.e3]
theorem A4.len (x : A4 α) : x.l.length = 4 := rfl
def A4.of (d : α) (l : List α) : A4 α := ⟨l.getD 0 d, l.getD 1 d, l.getD 2 d, l.getD 3 d⟩
theorem A4.of_l (d : α) : ∀ (l : List α), l.length = 4 → (A4.of d l).l = l
  | [e0, e1, e2, e3], _ => rfl
def A4.setI (x : A4 α) (i : Int) (y : α) (k : A4 α → Option β) : Option β := if 0 ≤ i ∧ i.toNat < 4 then k (A4.of y (x.l.set i.toNat y)) else none
theorem A4.setI_some {x : A4 α} {i : Int} {y : α} {k : A4 α → Option β} {r : β} (h : A4.setI x i y k = some r) : ∃ m, m.l = x.l.set i.toNat y ∧ (0 ≤ i ∧ i.toNat < 4) ∧ k m = some r := by
  unfold A4.setI at h
  split at h
  · exact ⟨_, A4.of_l y _ (by rw [List.length_set]; rfl), by assumption, h⟩
  · cases h
structure A5 (α : Type) where
  e0 : α
  e1 : α
  e2 : α
  e3 : α
  e4 : α
instance [Inhabited α] : Inhabited (A5 α) := ⟨⟨default, default, default, default, default⟩⟩
def A5.l (x : A5 α) : List α := [x.e0, x.e1, x.e2, x.e3, x.e4]
theorem A5.len (x : A5 α) : x.l.length = 5 := rfl
def A5.of (d : α) (l : List α) : A5 α := ⟨l.getD 0 d, l.getD 1 d, l.getD 2 d, l.getD 3 d, l.getD 4 d⟩
theorem A5.of_l (d : α) : ∀ (l : List α), l.length = 5 → (A5.of d l).l = l
  | [e0, e1, e2, e3, e4], _ => rfl
def A5.setI (x : A5 α) (i : Int) (y : α) (k : A5 α → Option β) : Option β := if 0 ≤ i ∧ i.toNat < 5 then k (A5.of y (x.l.set i.toNat y)) else none
theorem A5.setI_some {x : A5 α} {i : Int} {y : α} {k : A5 α → Option β} {r : β} (h : A5.setI x i y k = some r) : ∃ m, m.l = x.l.set i.toNat y ∧ (0 ≤ i ∧ i.toNat < 5) ∧ k m = some r := by
  unfold A5.setI at h
  split at h
  · exact ⟨_, A5.of_l y _ (by rw [List.length_set]; rfl), by assumption, h⟩
  · cases h
structure A7 (α : Type) where
  e0 : α
  e1 : α
  e2 : α
  e3 : α
  e4 : α
  e5 : α
  e6 : α
instance [Inhabited α] : Inhabited (A7 α) := ⟨⟨default, default, default, default, default, default, default⟩⟩
def A7.l (x : A7 α) : List α := [x.e0, x.e1, x.e2, x.e3, x.e4, x.e5, x.e6]
theorem A7.len (x : A7 α) : x.l.length = 7 := rfl
def A7.of (d : α) (l : List α) : A7 α := ⟨l.getD 0 d, l.getD 1 d, l.getD 2 d, l.getD 3 d, l.getD 4 d, l.getD 5 d, l.getD 6 d⟩
theorem A7.of_l (d : α) : ∀ (l : List α), l.length = 7 → (A7.of d l).l = l
  | [e0, e1, e2, e3, e4, e5, e6], _ => rfl
def A7.setI (x : A7 α) (i : Int) (y : α) (k : A7 α → Option β) : Option β := if 0 ≤ i ∧ i.toNat < 7 then k (A7.of y (x.l.set i.toNat y)) else none
theorem A7.setI_some {x : A7 α} {i : Int} {y : α} {k : A7 α → Option β} {r : β} (h : A7.setI x i y k = some r) : ∃ m, m.l = x.l.set i.toNat y ∧ (0 ≤ i ∧ i.toNat < 7) ∧ k m = some r := by
  unfold A7.setI at h
  split at h
  · exact ⟨_, A7.of_l y _ (by rw [List.length_set]; rfl), by assumption, h⟩
  · cases h

/-! ### A list in pieces -/
def chunks (n : Nat) : Nat → List α → List (List α)
  | 0, _ => []
  | f + 1, r => match r with
    | [] => []
    | y :: r' => (y :: r').take n :: chunks n f ((y :: r').drop n)
theorem chunks_nil (n f : Nat) : chunks n f ([] : List α) = [] := by cases f <;> rfl
theorem chunks_step {n f : Nat} {r : List α} (h : r ≠ []) : chunks n (f + 1) r = r.take n :: chunks n f (r.drop n) := by
  cases r with
  | nil => exact absurd rfl h
  | cons y r' => rfl
/-! ### What was never touched -/
structure WriteO where
  At : Int
  Data : Option (List UInt8)
instance : Inhabited WriteO := ⟨⟨default, default⟩⟩
def WriteO.w (y : WriteO) : Write := ⟨y.At, y.Data.getD []⟩
/-! ### copy -/
def cpy (l : List α) (a : Nat) (m : List α) : List α := l.take a ++ m ++ l.drop (a + m.length)
def cpyO (l : List α) (lo hi : Int) (m : List α) (k : List α → Option β) : Option β := if 0 ≤ lo ∧ lo ≤ hi ∧ hi ≤ l.length then k (cpy l lo.toNat (m.take (hi.toNat - lo.toNat))) else none
theorem cpyO_some {l : List α} {lo hi : Int} {m : List α} {k : List α → Option β} {r : β} (h : cpyO l lo hi m k = some r) : ∃ q, q = cpy l lo.toNat (m.take (hi.toNat - lo.toNat)) ∧ (0 ≤ lo ∧ lo ≤ hi ∧ hi ≤ l.length) ∧ k q = some r := by
  unfold cpyO at h
  split at h
  · exact ⟨_, rfl, by assumption, h⟩
  · cases h
end Go.Ow
