/-
  What is proved here: elements of own rows: their addresses, and storing into them; over OwK.
-/
import Derived.Test.YtdelcjkjkhcaoaaOwK
namespace Go.Ow
open Go.RowKit
set_option linter.unusedVariables false
set_option linter.unusedSimpArgs false

theorem Flat.set {α : Type} {H : Heaplet} {R : Rep α} {size : Nat} {cs : List Value} {y : α} (hc : cs.length = size) (hR : R H cs y) : ∀ {l : List α} {cells : List Value} {k : Nat}, Flat H R size cells l → k < l.length →
    Flat H R size (cells.take (k * size) ++ cs ++ cells.drop (k * size + size)) (l.set k y)
  | [], _, _, _, hk => by simp at hk
  | a :: r, cells, 0, h, _ => by
    obtain ⟨c0, more, rfl, h1, h2, h3⟩ := h
    refine ⟨cs, more, ?_, hc, hR, h3⟩
    simp [← h1]
  | a :: r, cells, k + 1, h, hk => by
    obtain ⟨c0, more, rfl, h1, h2, h3⟩ := h
    refine ⟨c0, more.take (k * size) ++ cs ++ more.drop (k * size + size), ?_, h1, h2, Flat.set hc hR h3 (by simpa using hk)⟩
    have e1 : (c0 ++ more).take ((k + 1) * size) = c0 ++ more.take (k * size) := by
      rw [List.take_append, List.take_of_length_le (by rw [h1, Nat.add_mul]; omega), h1]; congr 2; rw [Nat.add_mul]; omega
    have e2 : (c0 ++ more).drop ((k + 1) * size + size) = more.drop (k * size + size) := by
      rw [List.drop_append, List.drop_eq_nil_of_le (by rw [h1, Nat.add_mul]; omega), h1, List.nil_append]; congr 1; rw [Nat.add_mul]; omega
    rw [e1, e2]; simp

def ElemPtr (v : Value) (k size : Nat) (pv : Value) : Prop := ∃ g n cap, v = .slice (some ⟨g, 0, none⟩) n cap ∧ pv = .pointer (some ⟨g, 0 + k * size, none⟩)

section ops
variable {x : Cx} {ops : Array Oper} {Q : Exit → Act → World → Prop} {l : Slots} {own : List Own} {H : Heaplet} {rest : List Oper} {d : Nat} {ty : TypeId} {pos : String} {aft : Array Edge}

theorem JL.ixR {α : Type} {R : Rep α} {p q : Operand} {T e E : TypeId} {g : Bool} {n B : Nat} {v : Value} {m : List α} {K : Own} {kk : IntKind} {i : Int} {k : Nat} (hu : x.P.underlying T = some (.slice e)) (hs : shapeOf x.P e = some (g, n))
    (h1 : evo l p = some v) (hS : RowOf H R B E n v m K) (h2 : evo l q = some (.int kk i)) (hi : i = (k : Int)) (hk : k < m.length) (hd : Nat.blt d x.n = true)
    (h : ∀ pv, ElemPtr v k n pv → JL x ops Q rest ((d, pv) :: l) own H) :
    JL x ops Q (⟨some d, .indexAddr T p q, ty, pos, aft, none⟩ :: rest) l own H := by
  obtain ⟨cells, ⟨h0, h3⟩, hf, ho⟩ := hS
  rcases h3 with ⟨rfl, h3, rfl⟩ | ⟨b, cap, cur, rfl, rfl, e3, e4, e5, e6, e7⟩
  · omega
  · subst hi
    exact JL.val hd rfl (fun ρ w _ _ _ _ hρ hm => by simp only [execOp, hρ _ _ h1, hρ _ _ h2]; exact run_v (run_indexAt hu hs hk w)) (h _ ⟨b, _, cap, rfl, rfl⟩)
theorem JL.stR {α : Type} {R : Rep α} (i : Nat) {p q : Operand} {T E : TypeId} {g : Bool} {size B k : Nat} {v u pv : Value} {m : List α} {K : Own} {y : α} (hs : shapeOf x.P T = some (g, size)) (hi : own[i]? = some K) (hS : RowOf H R B E size v m K)
    (h1 : evo l p = some pv) (hE : ElemPtr v k size pv) (h2 : evo l q = some u) (hu : u.cells.size = size) (hR : R H u.cells.toList y) (hR1 : R.One) (hk : k < m.length)
    (h : ∀ K', RowOf H R B E size v (m.set k y) K' → JL x ops Q rest l (own.set i K') H) : JL x ops Q (⟨none, .store T p q, ty, pos, aft, none⟩ :: rest) l own H := by
  obtain ⟨cells, ⟨h0, h3⟩, hf, ho⟩ := hS
  rcases h3 with ⟨rfl, h3, rfl⟩ | ⟨b, cap, cur, rfl, rfl, e3, e4, e5, e6, e7⟩
  · omega
  · obtain ⟨g', n', cap', ev, rfl⟩ := hE
    simp only [Value.slice.injEq, Option.some.injEq, Addr.mk.injEq] at ev
    obtain ⟨⟨rfl, -, -⟩, rfl, rfl⟩ := ev
    have hone := hR1 _ _ _ hR
    have hks : k * size + size ≤ m.length * size := by rw [← Nat.succ_mul]; exact Nat.mul_le_mul_right _ hk
    have hms : m.length * size ≤ cap * size := Nat.mul_le_mul_right _ e4
    refine JL.store i hs h1 h2 hi hu (List.all_eq_true.2 hone) (by omega) (h _ ?_)
    have hul : u.cells.toList.length = size := by simpa using hu
    have hcl : cap * size ≤ cur.toList.length := by simpa using e6
    have hf' := Flat.set (y := y) hul hR hf hk
    refine ⟨_, ⟨by rw [hf'.length], .inr ⟨b, cap, _, by rw [List.length_set], rfl, e3, by rw [List.length_set]; exact e4, e5, ?_, ?_⟩⟩, hf', ?_⟩
    · simp only [List.size_toArray, List.length_append, List.length_take, List.length_drop, hul]; omega
    · rw [List.length_set, ← e7, Nat.zero_add]
      simp only []
      rw [List.take_append, List.take_append, List.take_take, List.take_take, Nat.min_eq_right (by omega), Nat.min_eq_left (by omega)]
      rw [List.take_of_length_le (l := u.cells.toList) (by simp only [List.length_take, hul]; omega)]
      congr 1
      rw [List.take_drop]
      congr 2
      simp only [List.length_append, List.length_take, hul]; omega
    · intro w hw
      rcases List.mem_append.1 hw with hw | hw
      · rcases List.mem_append.1 hw with hw | hw
        · exact ho w (List.mem_of_mem_take hw)
        · exact hone w hw
      · exact ho w (List.mem_of_mem_drop hw)
end ops
end Go.Ow
