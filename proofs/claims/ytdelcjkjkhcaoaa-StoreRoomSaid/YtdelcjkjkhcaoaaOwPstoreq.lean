/- that new memory's bytes do not matter to bytes.Repeat. -/
import Derived.Test.YtdelcjkjkhcaoaaOwPstore
namespace Go.Ow
set_option linter.unusedVariables false
set_option linter.unusedSimpArgs false

theorem take_cpy {α : Type} {l m : List α} {a : Nat} (h : a ≤ l.length) : (cpy l a m).take (a + m.length) = l.take a ++ m := by
  unfold cpy
  rw [List.take_left' (by rw [List.length_append, List.length_take]; omega)]
theorem len_cpy {α : Type} {l m : List α} {a : Nat} (h : a + m.length ≤ l.length) : (cpy l a m).length = l.length := by
  unfold cpy; rw [List.length_append, List.length_append, List.length_take, List.length_drop]; omega
theorem run_go {σ τ : Type} {body : σ → Option (σ ⊕ τ)} {n : Nat} {s s' : σ} (h : body s = some (.inl s')) : run body (n + 1) s = run body n s' := by
  show Option.bind (body s) _ = _
  rw [h]; rfl
theorem rep_loop {x : UInt64 × UInt64} {t : Int} {n : Nat} (hn : n ≤ LIM) (hN : w64 (x.2.toNat : Int) = (n : Int)) (f : Nat) : ∀ (A B : List UInt8) (k : Int) (r : List UInt8),
    A.length = n → B.length = n → 0 ≤ k → k ≤ (n : Int) → A.take k.toNat = B.take k.toNat → run (bytes_Repeat_l1 x t) f (A, k) = some r → run (bytes_Repeat_l1 x t) f (B, k) = some r := by
  induction f with
  | zero => intro A B k r _ _ _ _ _ h; cases h
  | succ f ih =>
    intro A B k r hA hB h0 hk he h
    obtain ⟨o, ho, hd⟩ := run_some h
    rw [bytes_Repeat_l1.eq_1] at ho
    dsimp only at ho
    rw [hN] at ho
    by_cases hc : k < (n : Int)
    · rw [decide_eq_true hc, cond_true] at ho
      obtain ⟨h1, ho⟩ := chk_some ho
      obtain ⟨h2, ho⟩ := chk_some ho
      obtain ⟨A', hA', h3, ho⟩ := cpyO_some ho
      have hcA : cut A (0 : Int) (min k t) = A.take (min k t).toNat := by simp [cut]
      have hcB : cut B (0 : Int) (min k t) = B.take (min k t).toNat := by simp [cut]
      have hcc : B.take (min k t).toNat = A.take (min k t).toNat := by
        have e1 : (A.take k.toNat).take (min k t).toNat = (B.take k.toNat).take (min k t).toNat := by rw [he]
        rw [List.take_take, List.take_take, Nat.min_eq_left (by omega)] at e1
        exact e1.symm
      have hml : (A.take (min k t).toNat).length = (min k t).toNat := by rw [List.length_take]; omega
      rw [hcA, hml] at ho
      rw [hcA] at hA'
      obtain ⟨m, hm⟩ : ∃ m, m = (A.take (min k t).toNat).take ((A.length : Int).toNat - k.toNat) := ⟨_, rfl⟩
      rw [← hm] at hA'
      have hmlen : (m.length : Int) = min ((min k t).toNat : Int) ((A.length : Int) - k) := by rw [hm, List.length_take, hml]; omega
      rw [← hmlen] at ho
      have hw : w64 (k + (m.length : Int)) = k + (m.length : Int) := w64_of (by omega) (by have : LIM = 1099511627776 := rfl; omega)
      rw [hw] at ho
      have hrun := run_next hd ho
      obtain ⟨B', hB'⟩ : ∃ B', B' = cpy B k.toNat m := ⟨_, rfl⟩
      have hbody : bytes_Repeat_l1 x t (B, k) = some (.inl (B', k + (m.length : Int))) := by
        rw [bytes_Repeat_l1.eq_1]
        dsimp only
        rw [hN, decide_eq_true hc, cond_true, hcB, hcc, hml]
        unfold chk cpyO
        rw [if_pos (by omega), if_pos (by omega), if_pos (by omega)]
        rw [show (A.take (min k t).toNat).take ((B.length : Int).toNat - k.toNat) = m by rw [hm, hA, hB], ← hB', hB, ← hA, ← hmlen, hw]
      rw [run_go hbody]
      have hkl : k.toNat + m.length ≤ n := by omega
      refine ih A' B' _ r (by rw [hA', len_cpy (by omega), hA]) (by rw [hB', len_cpy (by omega), hB]) (by omega) (by omega) ?_ hrun
      rw [show (k + (m.length : Int)).toNat = k.toNat + m.length by omega, hA', hB', take_cpy (by omega), take_cpy (by omega), he]
    · rw [decide_eq_false hc, cond_false] at ho
      have hr := run_done hd ho
      have : A = B := by
        rw [List.take_of_length_le (by omega), List.take_of_length_le (by omega)] at he; exact he
      rw [← this]; exact h
theorem bytes_Repeat_any {x_7 : UInt64 × UInt64} {t_14 : Int} {p_1 : List UInt8} {r : List UInt8} {nz0 nz : List UInt8} {n : Nat}
    (hm : nz0 = List.replicate (w64 (x_7.2.toNat : Int)).toNat (0 : UInt8)) (hnn : w64 (x_7.2.toNat : Int) = (n : Int)) (hL : nz.length = n)
    (hx : (slc nz0 0 (w64 (x_7.2.toNat : Int)) fun m_29 => cpyO m_29 0 (m_29.length : Int) p_1 fun m_32 => Option.bind (loop (bytes_Repeat_l1 x_7 t_14) (m_32, min (p_1.length : Int) ((m_29.length : Int) - 0))) (fun t_36 => some t_36)) = some r) (hlim : n ≤ LIM) :
    (slc nz 0 (w64 (x_7.2.toNat : Int)) fun m_29 => cpyO m_29 0 (m_29.length : Int) p_1 fun m_32 => Option.bind (loop (bytes_Repeat_l1 x_7 t_14) (m_32, min (p_1.length : Int) ((m_29.length : Int) - 0))) (fun t_36 => some t_36)) = some r := by
  have hl0 : nz0.length = n := by rw [hm, hnn, List.length_replicate]; omega
  have hcut : ∀ l : List UInt8, l.length = n → cut l 0 (n : Int) = l := fun l hl => by simp [cut, List.take_of_length_le (Nat.le_of_eq hl)]
  rw [hnn] at hx ⊢
  unfold slc at hx ⊢
  rw [if_pos (by omega), hcut _ hl0] at hx
  rw [if_pos (by omega), hcut _ hL]
  dsimp only at hx ⊢
  unfold cpyO at hx ⊢
  rw [if_pos (by omega)] at hx
  rw [if_pos (by omega)]
  rw [hl0] at hx; rw [hL]
  obtain ⟨m, hmm⟩ : ∃ m, m = p_1.take ((n : Int).toNat - (0 : Int).toNat) := ⟨_, rfl⟩
  rw [← hmm] at hx ⊢
  have hml : min (p_1.length : Int) ((n : Int) - 0) = (m.length : Int) := by rw [hmm, List.length_take]; omega
  rw [hml] at hx ⊢
  obtain ⟨t, ht, h⟩ := Option.bind_eq_some_iff.1 hx
  have hmn : m.length ≤ n := by omega
  have := rep_loop hlim hnn FUEL (cpy nz0 (0 : Int).toNat m) (cpy nz (0 : Int).toNat m) (m.length : Int) t
    (by rw [len_cpy (by simp only [Int.toNat_zero]; omega), hl0]) (by rw [len_cpy (by simp only [Int.toNat_zero]; omega), hL]) (by omega) (by omega)
    (by
      have e1 := take_cpy (l := nz0) (m := m) (a := (0 : Int).toNat) (by simp)
      have e2 := take_cpy (l := nz) (m := m) (a := (0 : Int).toNat) (by simp)
      simp only [Int.toNat_zero, Nat.zero_add, List.take_zero, List.nil_append] at e1 e2
      rw [Int.toNat_natCast]; simp only [Int.toNat_zero]; rw [e1, e2]) ht
  show Option.bind (loop (bytes_Repeat_l1 x_7 t_14) (cpy nz (0 : Int).toNat m, (m.length : Int))) (fun t_36 => some t_36) = some r
  rw [show loop (bytes_Repeat_l1 x_7 t_14) (cpy nz (0 : Int).toNat m, (m.length : Int)) = some t from this]
  exact h
end Go.Ow
