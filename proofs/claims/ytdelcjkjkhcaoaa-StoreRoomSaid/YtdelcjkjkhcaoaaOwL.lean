/-
  What is proved here: elements of own rows: their addresses, and storing into them; over OwK.
-/
import Derived.Test.YtdelcjkjkhcaoaaOwK
namespace Go.Ow
open Go.RowKit
set_option linter.unusedVariables false
set_option linter.unusedSimpArgs false

theorem Flat.set {α : Type} {H : Heaplet} {R : Rep α} {size : Nat} {cs : List Value} {y : α} (hc : cs.length = size) (hR : R H cs y) : ∀ {l : List α} {cells : List Value} {k : Nat}, Flat H R size cells l → k < l.length →
    Flat H R size (cells.take (k * size) ++ cs ++ cells.drop (k * size + size)) (l.set k y)
  | [], _, _, _, hk => by simp at hk
  | a :: r, cells, 0, h, _ => by
    obtain ⟨c0, more, rfl, h1, h2, h3⟩ := h
    refine ⟨cs, more, ?_, hc, hR, h3⟩
    simp [← h1]
  | a :: r, cells, k + 1, h, hk => by
    obtain ⟨c0, more, rfl, h1, h2, h3⟩ := h
    refine ⟨c0, more.take (k * size) ++ cs ++ more.drop (k * size + size), ?_, h1, h2, Flat.set hc hR h3 (by simpa using hk)⟩
    have e1 : (c0 ++ more).take ((k + 1) * size) = c0 ++ more.take (k * size) := by
      rw [List.take_append, List.take_of_length_le (by rw [h1, Nat.add_mul]; omega), h1]; congr 2; rw [Nat.add_mul]; omega
    have e2 : (c0 ++ more).drop ((k + 1) * size + size) = more.drop (k * size + size) := by
      rw [List.drop_append, List.drop_eq_nil_of_le (by rw [h1, Nat.add_mul]; omega), h1, List.nil_append]; congr 1; rw [Nat.add_mul]; omega
    rw [e1, e2]; simp

section ops
variable {x : Cx} {ops : Array Oper} {Q : Exit → Act → World → Prop} {l : Slots} {own : List Own} {H : Heaplet} {rest : List Oper} {d : Nat} {ty : TypeId} {pos : String} {aft : Array Edge}

end ops
end Go.Ow
