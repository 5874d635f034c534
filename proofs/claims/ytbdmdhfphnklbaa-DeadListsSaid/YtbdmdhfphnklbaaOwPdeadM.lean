/-
  What is proved here: slices.CompactFunc is shorter just where two neighbours have one place.
-/
import Derived.Test.YtbdmdhfphnklbaaOwPdeadL
namespace Go.Ow
set_option linter.unusedVariables false
set_option linter.unusedSimpArgs false
theorem nth_of {α : Type} {l : List α} {i : Int} (h0 : 0 ≤ i) (h1 : i < l.length) : ∃ y, Nth l i y := ⟨l[i.toNat]'(by omega), h0, List.getElem?_eq_getElem _⟩
theorem compact_l1 (l : List Ptr) (k : Nat) (hk : 1 ≤ k) (hkl : k < l.length) (hl : l.length ≤ 1000) :
    ∃ t, loop (slices_CompactFunc_Ptr_l1 l k) (l, (k : Int), 1) = some t ∧ (t.1.length = l.length ∧ 0 ≤ t.2 ∧ t.2 < l.length) := by
  refine loop_rule (fun (s : List Ptr × Int × Int) => s.1.length = l.length ∧ 0 ≤ s.2.1 ∧ s.2.1 ≤ (k : Int) + s.2.2 - 1 ∧ 1 ≤ s.2.2 ∧ s.2.2 ≤ (l.length : Int) - k) (fun s => ((l.length : Int) - k - s.2.2).toNat) (fun (t : List Ptr × Int) => t.1.length = l.length ∧ 0 ≤ t.2 ∧ t.2 < l.length) ?_ (s := (l, (k : Int), 1)) ⟨rfl, by show (0 : Int) ≤ k; omega, by show (k : Int) ≤ k + 1 - 1; omega, by show (1 : Int) ≤ 1; omega, by show (1 : Int) ≤ l.length - k; omega⟩ ?_
  · rintro ⟨l', i, j⟩ ⟨h1, h2, h3, h4, h5⟩
    dsimp only at h1 h2 h3 h4 h5
    unfold slices_CompactFunc_Ptr_l1
    dsimp only
    by_cases hj : j < (l.length : Int) - (k : Int)
    · left
      obtain ⟨y, hy⟩ := nth_of (l := l') (i := (k : Int) + j) (by omega) (by omega)
      obtain ⟨z, hz⟩ := nth_of (l := l') (i := (k : Int) + (j - 1)) (by omega) (by omega)
      rw [show decide (j < (l.length : Int) - (k : Int)) = true from decide_eq_true hj, cond_true, chk_eq ⟨by omega, hj⟩, idx_eq hy, w64_of (n := j - 1) (by omega) (by omega), chk_eq ⟨by omega, by omega⟩, idx_eq hz]
      unfold dead_Join_1
      rw [Option.bind_some]
      cases decide (y.At = z.At) with
      | true => exact ⟨_, rfl, ⟨h1, h2, by dsimp only; rw [w64_of (by omega) (by omega)]; omega, by dsimp only; rw [w64_of (by omega) (by omega)]; omega, by dsimp only; rw [w64_of (by omega) (by omega)]; omega⟩, by dsimp only; rw [w64_of (n := j + 1) (by omega) (by omega)]; omega⟩
      | false =>
        rw [Bool.not_false, cond_true, chk_eq ⟨by omega, hj⟩, idx_eq hy, chk_eq ⟨by omega, by omega⟩, setI_eq (by omega) (by omega)]
        exact ⟨_, rfl, ⟨by simpa using h1, by dsimp only; rw [w64_of (by omega) (by omega)]; omega, by dsimp only; rw [w64_of (n := i + 1) (by omega) (by omega), w64_of (n := j + 1) (by omega) (by omega)]; omega, by dsimp only; rw [w64_of (by omega) (by omega)]; omega, by dsimp only; rw [w64_of (by omega) (by omega)]; omega⟩, by dsimp only; rw [w64_of (n := j + 1) (by omega) (by omega)]; omega⟩
    · right
      rw [show decide (j < (l.length : Int) - (k : Int)) = false from decide_eq_false hj, cond_false]
      exact ⟨_, rfl, h1, h2, by dsimp only; omega⟩
  · show ((l.length : Int) - k - 1).toNat < FUEL
    exact Nat.lt_of_le_of_lt (m := 1000) (by omega) (by decide)

/-- two neighbours of one place -/
def Twice (l : List Ptr) : Prop := ∃ i p q, l[i]? = some p ∧ l[i + 1]? = some q ∧ p.At = q.At
theorem compact_spec (l : List Ptr) (hl : l.length ≤ 1000) : ∃ m, slices_CompactFunc_Ptr l = some m ∧ (m.length < l.length ↔ Twice l) := by
  unfold slices_CompactFunc_Ptr
  by_cases h2 : l.length < 2
  · rw [show decide ((l.length : Int) < 2) = true from decide_eq_true (by omega), cond_true]
    refine ⟨_, rfl, fun h => absurd h (Nat.lt_irrefl _), fun ⟨i, p, q, h1, h3, _⟩ => ?_⟩
    have := (List.getElem?_eq_some_iff.1 h3).1
    omega
  · rw [show decide ((l.length : Int) < 2) = false from decide_eq_false (by omega), cond_false]
    obtain ⟨t, ht, hR⟩ := loop_rule (body := slices_CompactFunc_Ptr_l2 l) (fun s => 1 ≤ s ∧ s ≤ l.length ∧ ∀ i p q, i + 1 < s → l[i]? = some p → l[i + 1]? = some q → p.At ≠ q.At) (fun s => l.length - s)
      (fun t => match t with | .inl _ => ¬ Twice l | .inr m => m.length < l.length ∧ Twice l) (by
        rintro s ⟨hs1, hs, hI⟩
        unfold slices_CompactFunc_Ptr_l2
        by_cases hlt : s < l.length
        · have hw : w64 (((s : Nat) : Int) - 1) = ((s - 1 : Nat) : Int) := by rw [w64_of (by omega) (by omega)]; omega
          rw [show decide (((s : Nat) : Int) < (l.length : Int)) = true from decide_eq_true (by omega), cond_true, idx_nat _ hlt, hw, idx_nat _ (by omega : s - 1 < l.length)]
          have hp : l[s]? = some l[s] := List.getElem?_eq_getElem hlt
          have hq : l[s - 1]? = some l[s - 1] := List.getElem?_eq_getElem (by omega)
          generalize l[s] = y at hp
          generalize l[s - 1] = z at hq
          unfold dead_Join_1
          rw [Option.bind_some]
          by_cases hc : y.At = z.At
          · right
            rw [show decide (y.At = z.At) = true from decide_eq_true hc, cond_true, chk_eq ⟨by omega, by omega, by omega⟩]
            obtain ⟨t, ht, t1, t2, t3⟩ := compact_l1 l s hs1 hlt hl
            rw [ht, Option.bind_some, chk_eq ⟨t2, by omega, by omega⟩]
            unfold clrO
            dsimp only
            have hlen : (clr t.1 t.2.toNat (t.2.toNat + (((t.1.length : Int)).toNat - t.2.toNat)) (Ptr.mk 0 (0 : UInt32) (0 : UInt32) (0 : UInt32) (0 : UInt32))).length = t.1.length := by
              unfold clr; simp; omega
            rw [slc_eq (by omega) t2 (by rw [hlen]; omega)]
            refine ⟨_, rfl, ?_, s - 1, z, y, hq, by rw [show s - 1 + 1 = s by omega]; exact hp, hc.symm⟩
            have := cut_length (l := clr t.1 t.2.toNat (t.2.toNat + (((t.1.length : Int)).toNat - t.2.toNat)) (Ptr.mk 0 (0 : UInt32) (0 : UInt32) (0 : UInt32) (0 : UInt32))) (a := 0) (b := t.2) (by omega) t2 (by rw [hlen]; omega)
            omega
          · left
            rw [show decide (y.At = z.At) = false from decide_eq_false hc, cond_false]
            refine ⟨_, rfl, ⟨by omega, hlt, fun i p q hi hpi hqi => ?_⟩, by omega⟩
            by_cases his : i + 1 < s
            · exact hI i p q his hpi hqi
            · obtain rfl : s = i + 1 := by omega
              rw [hp] at hqi; cases hqi
              rw [show i + 1 - 1 = i by omega] at hq
              rw [hq] at hpi; cases hpi
              exact fun e => hc e.symm
        · right
          rw [show decide (((s : Nat) : Int) < (l.length : Int)) = false from decide_eq_false (by omega), cond_false]
          refine ⟨_, rfl, fun ⟨i, p, q, h1, h3, h4⟩ => ?_⟩
          have := (List.getElem?_eq_some_iff.1 h3).1
          exact hI i p q (by omega) h1 h3 h4) (s := 1) ⟨by omega, by omega, fun i p q h => absurd h (by omega)⟩ (Nat.lt_of_le_of_lt (Nat.sub_le _ _) (Nat.lt_of_le_of_lt hl (by decide)))
    rw [ht]
    cases t with
    | inl u => exact ⟨l, rfl, fun h => absurd h (Nat.lt_irrefl _), fun h => absurd h hR⟩
    | inr m => exact ⟨m, rfl, fun _ => hR.2, fun _ => hR.1⟩
end Go.Ow
