/-
  What is proved here: pointers and labels as bytes, and back: in plain words.
-/
import Derived.Test.YtabnbobdjckdmaaOwPlabelC
namespace Go.Ow
set_option linter.unusedVariables false
set_option linter.unusedSimpArgs false

theorem run_st {σ τ : Type} {body : σ → Option (σ ⊕ τ)} {n : Nat} {s s' : σ} (h : body s = some (.inl s')) : run body (n + 1) s = run body n s' := by
  show Option.bind (body s) _ = _; rw [h]; rfl
theorem run_en {σ τ : Type} {body : σ → Option (σ ⊕ τ)} {n : Nat} {s : σ} {t : τ} (h : body s = some (.inr t)) : run body (n + 1) s = some t := by
  show Option.bind (body s) _ = _; rw [h]; rfl
theorem six_fuel : 6 ≤ FUEL := by decide
theorem run5 {σ τ : Type} {body : σ → Option (σ ⊕ τ)} {s0 s1 s2 s3 s4 s5 : σ} {t : τ} (h0 : body s0 = some (.inl s1)) (h1 : body s1 = some (.inl s2)) (h2 : body s2 = some (.inl s3)) (h3 : body s3 = some (.inl s4)) (h4 : body s4 = some (.inl s5)) (h5 : body s5 = some (.inr t)) :
    loop body s0 = some t := loop_of six_fuel (by rw [run_st h0, run_st h1, run_st h2, run_st h3, run_st h4, run_en h5])

def isNone (p : Ptr) : Prop := p.At = 0 ∧ p.Birth = 0 ∧ p.Iv = 0 ∧ p.Tag = 0 ∧ p.Sum = 0
instance (p : Ptr) : Decidable (isNone p) := by unfold isNone; infer_instance
/-- a pointer that is one -/
def okR (p : Ptr) : Prop := 12 ≤ p.At ∧ p.At < 256 ∧ (1 : UInt32) ≤ p.Birth ∧ p.Birth ≤ 16777215
instance (p : Ptr) : Decidable (okR p) := by unfold okR; infer_instance
theorem none_dec (p : Ptr) : (decide (p.At = 0) && (decide (p.Birth = (0 : UInt32)) && (decide (p.Iv = (0 : UInt32)) && (decide (p.Tag = (0 : UInt32)) && (decide (p.Sum = (0 : UInt32)) && true))))) = decide (isNone p) := by
  rw [Bool.eq_iff_iff]
  simp only [Bool.and_eq_true, decide_eq_true_eq, and_true]
  exact Iff.rfl
theorem ptr_Check_eq' (p : Ptr) : ptr_Check p = some (if isNone p ∨ okR p then 0 else 8) := by
  unfold ptr_Check
  rw [none_dec]
  by_cases h0 : isNone p
  · rw [decide_eq_true h0, if_pos (.inl h0)]; rfl
  rw [decide_eq_false h0]
  by_cases h : okR p
  · rw [if_pos (.inr h)]
    obtain ⟨h1, h2, h3, h4⟩ := h
    rw [decide_eq_false (show ¬ p.At < 12 by omega), decide_eq_false (show ¬ 256 ≤ p.At by omega), decide_eq_false (show ¬ p.Birth < 1 from UInt32.not_lt.2 h3), decide_eq_false (show ¬ (16777215 : UInt32) < p.Birth from UInt32.not_lt.2 h4)]
    rfl
  · rw [if_neg (fun e => e.elim h0 h)]
    by_cases h1 : p.At < 12
    · rw [decide_eq_true h1]; rfl
    by_cases h2 : 256 ≤ p.At
    · rw [decide_eq_false h1, decide_eq_true h2]; rfl
    by_cases h3 : p.Birth < 1
    · rw [decide_eq_false h1, decide_eq_false h2, decide_eq_true h3]; rfl
    by_cases h4 : (16777215 : UInt32) < p.Birth
    · rw [decide_eq_false h1, decide_eq_false h2, decide_eq_false h3, decide_eq_true h4]; rfl
    exact absurd ⟨by omega, by omega, UInt32.not_lt.1 h3, UInt32.not_lt.1 h4⟩ h

def ptrB (p : Ptr) : List UInt8 := leB p.At.toNat 1 ++ leB p.Birth.toNat 3 ++ leB p.Iv.toNat 4 ++ leB p.Tag.toNat 4 ++ leB p.Sum.toNat 4
theorem ptrB_length (p : Ptr) : (ptrB p).length = 16 := by simp only [ptrB, List.length_append, leB_length]
theorem write_step (p : Ptr) (i n k : Nat) (r : List UInt8) (hs : (A5.mk (1 : Int) 3 4 4 4).l[i]? = some (k : Int)) (hn : (A5.mk p.At (p.Birth.toNat : Int) (p.Iv.toNat : Int) (p.Tag.toNat : Int) (p.Sum.toNat : Int)).l[i]? = some (n : Int))
    (hi : i < 5) (hr : r.length ≤ 100) (h1 : 1 ≤ k) (h4 : k ≤ 4) (hlt : n < 256 ^ k) : ptr_Write_l1 p (A5.mk 1 3 4 4 4) (r, i) = some (.inl (r ++ leB n k, i + 1)) := by
  unfold ptr_Write_l1
  dsimp only
  rw [decide_eq_true (show (i : Int) < 5 by omega)]
  simp only [cond_true]
  rw [idx_eq (y := (k : Int)) ⟨by omega, hs⟩, idx_eq (y := (n : Int)) ⟨by omega, hn⟩, code_Put_eq h1 h4 hlt]
  simp only [Option.bind_some]
  rw [app_eq (by simp only [leB_length, LIM]; omega)]
theorem ptr_Write_eq {p : Ptr} (h : okR p) : ptr_Write p = some (ptrB p, 0) := by
  obtain ⟨h1, h2, h3, h4⟩ := h
  have hb : p.Birth.toNat < 256 ^ 3 := by
    have := UInt32.le_iff_toNat_le.1 h4
    have e : (16777215 : UInt32).toNat = 16777215 := rfl
    rw [e] at this
    have e3 : (256 : Nat) ^ 3 = 16777216 := by decide
    omega
  have e4 : (256 : Nat) ^ 4 = 4294967296 := by decide
  have hloop : loop (ptr_Write_l1 p (A5.mk 1 3 4 4 4)) (([] : List UInt8), 0) = some (ptrB p) :=
    run5 (write_step p 0 p.At.toNat 1 [] rfl (by show some p.At = some _; rw [Int.toNat_of_nonneg (by omega)]) (by omega) (by simp) (by omega) (by omega) (by omega))
      (write_step p 1 p.Birth.toNat 3 _ rfl rfl (by omega) (by simp [leB_length]) (by omega) (by omega) hb)
      (write_step p 2 p.Iv.toNat 4 _ rfl rfl (by omega) (by simp [leB_length]) (by omega) (by omega) (by have := u32_lt p.Iv; omega))
      (write_step p 3 p.Tag.toNat 4 _ rfl rfl (by omega) (by simp [leB_length]) (by omega) (by omega) (by have := u32_lt p.Tag; omega))
      (write_step p 4 p.Sum.toNat 4 _ rfl rfl (by omega) (by simp [leB_length]) (by omega) (by omega) (by have := u32_lt p.Sum; omega))
      (by unfold ptr_Write_l1; rfl)
  unfold ptr_Write
  rw [ptr_Check_eq', if_pos (.inr ⟨h1, h2, h3, h4⟩)]
  simp only [Option.bind_some, decide_true, Bool.not_true, cond_false, ptr_sizes]
  rw [hloop]
  rfl

def at5 (b : List UInt8) : Ptr := ⟨(numB ((b.drop 0).take 1) : Int), u32i (numB ((b.drop 1).take 3) : Int), u32i (numB ((b.drop 4).take 4) : Int), u32i (numB ((b.drop 8).take 4) : Int), u32i (numB ((b.drop 12).take 4) : Int)⟩
theorem ptr_Read_eq {b : List UInt8} (h : b.length = 16) : ptr_Read b = some (if isNone (at5 b) ∨ okR (at5 b) then (at5 b, 0) else (⟨0, 0, 0, 0, 0⟩, 8)) := by
  have g : ∀ (a k : Nat), 1 ≤ k → k ≤ 4 → a + k ≤ 16 → code_Get b (a : Int) (k : Int) = some ((numB ((b.drop a).take k) : Int), 0) := fun a k h1 h4 h5 => code_Get_eq h1 h4 (by omega) (by omega)
  have hloop : loop (ptr_Read_l1 b (A5.mk 1 3 4 4 4)) (0, 0, 0, 0, 0, 0, 0) = some ((numB ((b.drop 0).take 1) : Int), (numB ((b.drop 1).take 3) : Int), (numB ((b.drop 4).take 4) : Int), (numB ((b.drop 8).take 4) : Int), (numB ((b.drop 12).take 4) : Int)) := by
    have g0 := g 0 1 (by omega) (by omega) (by omega)
    have g1 := g 1 3 (by omega) (by omega) (by omega)
    have g2 := g 4 4 (by omega) (by omega) (by omega)
    have g3 := g 8 4 (by omega) (by omega) (by omega)
    have g4 := g 12 4 (by omega) (by omega) (by omega)
    generalize (numB ((b.drop 0).take 1) : Int) = n0 at g0 ⊢
    generalize (numB ((b.drop 1).take 3) : Int) = n1 at g1 ⊢
    generalize (numB ((b.drop 4).take 4) : Int) = n2 at g2 ⊢
    generalize (numB ((b.drop 8).take 4) : Int) = n3 at g3 ⊢
    generalize (numB ((b.drop 12).take 4) : Int) = n4 at g4 ⊢
    refine run5 (s1 := (n0, 0, 0, 0, 0, 1, 1)) (s2 := (n0, n1, 0, 0, 0, 4, 2)) (s3 := (n0, n1, n2, 0, 0, 8, 3)) (s4 := (n0, n1, n2, n3, 0, 12, 4)) (s5 := (n0, n1, n2, n3, n4, 16, 5)) ?_ ?_ ?_ ?_ ?_ ?_
    · unfold ptr_Read_l1
      show Option.bind (code_Get b 0 1) _ = _
      rw [show code_Get b 0 1 = some (n0, 0) from g0]; rfl
    · unfold ptr_Read_l1
      show Option.bind (code_Get b 1 3) _ = _
      rw [show code_Get b 1 3 = some (n1, 0) from g1]; rfl
    · unfold ptr_Read_l1
      show Option.bind (code_Get b 4 4) _ = _
      rw [show code_Get b 4 4 = some (n2, 0) from g2]; rfl
    · unfold ptr_Read_l1
      show Option.bind (code_Get b 8 4) _ = _
      rw [show code_Get b 8 4 = some (n3, 0) from g3]; rfl
    · unfold ptr_Read_l1
      show Option.bind (code_Get b 12 4) _ = _
      rw [show code_Get b 12 4 = some (n4, 0) from g4]; rfl
    · unfold ptr_Read_l1; rfl
  unfold ptr_Read
  rw [decide_eq_true (show (b.length : Int) = 16 by omega)]
  simp only [Bool.not_true, cond_false, ptr_sizes, Option.bind_some]
  rw [hloop]
  simp only [Option.bind_some]
  rw [show (Ptr.mk (numB ((b.drop 0).take 1) : Int) (u32i (numB ((b.drop 1).take 3) : Int)) (u32i (numB ((b.drop 4).take 4) : Int)) (u32i (numB ((b.drop 8).take 4) : Int)) (u32i (numB ((b.drop 12).take 4) : Int))) = at5 b from rfl, ptr_Check_eq']
  by_cases c : isNone (at5 b) ∨ okR (at5 b)
  · rw [if_pos c, if_pos c]; rfl
  · rw [if_neg c, if_neg c]; rfl
theorem drop_app {α : Type} (a b : List α) {n : Nat} (h : a.length = n) : (a ++ b).drop n = b := by subst h; exact List.drop_left
theorem take_app {α : Type} (a b : List α) {n : Nat} (h : a.length = n) : (a ++ b).take n = a := by subst h; exact List.take_left
theorem u32i_num {a : UInt32} {k : Nat} (h : a.toNat < 256 ^ k) : u32i (numB (leB a.toNat k) : Int) = a := by
  rw [numB_leB h]
  unfold u32i
  apply UInt32.toNat_inj.1
  rw [UInt32.toNat_ofNat']
  have := u32_lt a
  omega
theorem at5_ptrB {p : Ptr} (h : okR p) : at5 (ptrB p) = p := by
  obtain ⟨h1, h2, h3, h4⟩ := h
  have hb : p.Birth.toNat < 256 ^ 3 := by
    have := UInt32.le_iff_toNat_le.1 h4
    have e : (16777215 : UInt32).toNat = 16777215 := rfl
    rw [e] at this
    have e3 : (256 : Nat) ^ 3 = 16777216 := by decide
    omega
  have e4 : (256 : Nat) ^ 4 = 4294967296 := by decide
  have q0 : ptrB p = leB p.At.toNat 1 ++ (leB p.Birth.toNat 3 ++ (leB p.Iv.toNat 4 ++ (leB p.Tag.toNat 4 ++ leB p.Sum.toNat 4))) := by simp only [ptrB, List.append_assoc]
  have q1 : (ptrB p).drop 1 = leB p.Birth.toNat 3 ++ (leB p.Iv.toNat 4 ++ (leB p.Tag.toNat 4 ++ leB p.Sum.toNat 4)) := by rw [q0]; exact drop_app _ _ (leB_length _ _)
  have q2 : (ptrB p).drop 4 = leB p.Iv.toNat 4 ++ (leB p.Tag.toNat 4 ++ leB p.Sum.toNat 4) := by rw [show 4 = 1 + 3 from rfl, ← List.drop_drop, q1]; exact drop_app _ _ (leB_length _ _)
  have q3 : (ptrB p).drop 8 = leB p.Tag.toNat 4 ++ leB p.Sum.toNat 4 := by rw [show 8 = 4 + 4 from rfl, ← List.drop_drop, q2]; exact drop_app _ _ (leB_length _ _)
  have q4 : (ptrB p).drop 12 = leB p.Sum.toNat 4 := by rw [show 12 = 8 + 4 from rfl, ← List.drop_drop, q3]; exact drop_app _ _ (leB_length _ _)
  unfold at5
  rw [List.drop_zero, q1, q2, q3, q4, take_app _ _ (leB_length _ 3), take_app _ _ (leB_length _ 4), take_app _ _ (leB_length _ 4), List.take_of_length_le (l := leB p.Sum.toNat 4) (by rw [leB_length]; omega), q0, take_app _ _ (leB_length _ 1)]
  rw [u32i_num hb, u32i_num (by have := u32_lt p.Iv; omega), u32i_num (by have := u32_lt p.Tag; omega), u32i_num (by have := u32_lt p.Sum; omega), numB_leB (by omega), Int.toNat_of_nonneg (by omega)]
end Go.Ow
